/- The pure statement of FnRoundSums: at every argument the law answers true. No condition. -/
import Derived.Test.YtcableidjknlfaaMFnRoundSumsx1
import Derived.Test.YtcableidjknlfaaLib1
import Derived.Test.YtcableidjknlfaaLib2
set_option linter.unusedVariables false
set_option linter.unusedSimpArgs false
namespace Go.Proofs.Ytcableidjknlfaa.Pure
open Go.RowKit Go.Proofs.Ytcableidjknlfaa.MFnRoundSums Go.Proofs.YtcableidjknlfaaW.PrintWords Go.Proofs.YtcableidjknlfaaW.PrintLast Go.Proofs.YtcableidjknlfaaW.PrintMore Go.Proofs.YtcableidjknlfaaLib

/-! laws_big -/
theorem laws_big_eq (l : List Int) : laws_big.f l = some (decide ((l.length : Int) > 1048576)) := rfl

/-! spec_l1Byte -/
theorem spec_l1Byte_ok {l : List Int} {i : Int} (s : Int) (h : Cur l i) : ∃ r, spec_l1Byte.f l i s = some r ∧ 0 ≤ r.1 ∧ r.1 ≤ 255 ∧ Cur l r.2.1 := by
  obtain ⟨h0, h1, h2, h3⟩ := h
  unfold spec_l1Byte.f
  by_cases hc : i < (l.length : Int)
  · rw [if_pos hc, if_pos h2]
    refine ⟨_, rfl, (and255' _).1, (and255' _).2, h0, h1, ?_⟩
    simp only [w64 (n := i + 1) (by omega) (by omega)]
    omega
  · rw [if_neg hc]
    exact ⟨_, rfl, (and255' _).1, (and255' _).2, h0, h1, h2, h3⟩

/-! spec_l1Below -/
theorem spec_l1Below_ok {l : List Int} {i : Int} (s : Int) (h : Cur l i) (n : Int) : ∃ r, spec_l1Below.f l i s n = some r ∧ 0 ≤ r.1 ∧ (0 < n → r.1 < n) ∧ (n ≤ 0 → r.1 = 0) ∧ Cur l r.2.1 := by
  unfold spec_l1Below.f
  by_cases h0 : n ≤ 0
  · rw [if_pos h0]
    exact ⟨_, rfl, Int.le_refl _, fun h => by omega, fun _ => rfl, h⟩
  · rw [if_neg h0]
    have mods : ∀ x : Int, 0 ≤ x → 0 ≤ Int.tmod x n ∧ (0 < n → Int.tmod x n < n) := fun x hx => by
      rw [tmod_pos hx]
      exact ⟨Int.emod_nonneg _ (by omega), fun h => Int.emod_lt_of_pos _ h⟩
    by_cases h1 : n ≤ 256
    · rw [if_pos h1]
      obtain ⟨r, hr, ha, hb, hc⟩ := spec_l1Byte_ok s h
      rw [hr, Option.bind_some, if_neg (by omega)]
      exact ⟨_, rfl, (mods _ ha).1, (mods _ ha).2, fun h => absurd h h0, hc⟩
    · rw [if_neg h1]
      obtain ⟨r, hr, ha, hb, hc⟩ := spec_l1Byte_ok s h
      rw [hr, Option.bind_some]
      obtain ⟨r2, hr2, ha2, hb2, hc2⟩ := spec_l1Byte_ok r.2.2 hc
      rw [hr2, Option.bind_some]
      obtain ⟨r3, hr3, ha3, hb3, hc3⟩ := spec_l1Byte_ok r2.2.2 hc2
      rw [hr3, Option.bind_some]
      obtain ⟨r4, hr4, ha4, hb4, hc4⟩ := spec_l1Byte_ok r3.2.2 hc3
      rw [hr4, Option.bind_some, if_neg (by omega)]
      have e : wrap64 ((wrap64 ((wrap64 ((wrap64 (r.1 * 16777216)) + (wrap64 (r2.1 * 65536)))) + (wrap64 (r3.1 * 256)))) + r4.1) = r.1 * 16777216 + r2.1 * 65536 + r3.1 * 256 + r4.1 := by
        rw [w64 (n := r.1 * 16777216) (by omega) (by omega), w64 (n := r2.1 * 65536) (by omega) (by omega), w64 (n := r3.1 * 256) (by omega) (by omega), w64 (n := r.1 * 16777216 + r2.1 * 65536) (by omega) (by omega), w64 (n := r.1 * 16777216 + r2.1 * 65536 + r3.1 * 256) (by omega) (by omega), w64 (by omega) (by omega)]
      rw [e]
      exact ⟨_, rfl, (mods _ (by omega)).1, (mods _ (by omega)).2, fun h => absurd h h0, hc4⟩

/-! spec_l1PickInt -/
theorem spec_l1PickInt_ok {l : List Int} {i : Int} (s : Int) (h : Cur l i) (xs : List Int) (hx : 0 < xs.length) : ∃ r, spec_l1PickInt.f l i s xs = some r ∧ r.1 ∈ xs ∧ Cur l r.2.1 := by
  unfold spec_l1PickInt.f
  obtain ⟨r, hr, h0, h1, _, hc⟩ := spec_l1Below_ok s h (xs.length : Int)
  have h2 := h1 (by omega)
  rw [hr, Option.bind_some, if_pos h0, if_pos h2]
  refine ⟨_, rfl, ?_, hc⟩
  obtain ⟨m, hm⟩ : ∃ m : Nat, r.1 = (m : Int) := ⟨r.1.toNat, by omega⟩
  simp only [hm]
  rw [rd_nat xs m (by omega)]
  exact List.getElem_mem _

/-! spec_l1New -/
theorem spec_l1New_l0 (l : List Int) (hs : l.length ≤ 1048576) : ∀ (d i : Nat) (h : Int), i + d = 4000 → ∃ r, Ev (fun k => spec_l1New.l0 k l h (i : Int)) (l, 0, r)
  | 0, i, h, hi => by
    refine ⟨h, ?_⟩
    refine Ev.step (fun _ => spec_l1New.l0.eq_2 ..) ?_
    by_cases hc : (i : Int) < (l.length : Int)
    · exact ev_ifp hc (ev_ifn (by omega) (ev_some rfl))
    · exact ev_ifn hc (ev_some rfl)
  | d + 1, i, h, hi => by
    by_cases hc : (i : Int) < (l.length : Int)
    · obtain ⟨r, hr⟩ := spec_l1New_l0 l hs d (i + 1) (bits .and .i64 (wrap64 ((wrap64 ((wrap64 (h * 131)) + (wrap64 (rd l i)))) + 7)) 1073741823) (by omega)
      refine ⟨r, ?_⟩
      refine Ev.step (fun _ => spec_l1New.l0.eq_2 ..) ?_
      refine ev_ifp hc (ev_ifp (by omega) (ev_ifp (by omega) ?_))
      rw [wnext i (by omega)]
      exact hr
    · refine ⟨h, ?_⟩
      refine Ev.step (fun _ => spec_l1New.l0.eq_2 ..) ?_
      exact ev_ifn hc (ev_some rfl)
theorem spec_l1New_ok (l : List Int) (hl : Bs l) (hs : l.length ≤ 1048576) : EvP (fun k => spec_l1New.f k l) (fun r => r.1 = l ∧ Cur l r.2.1) := by
  obtain ⟨r, hr⟩ := spec_l1New_l0 l hs 4000 0 (wrap64 (20478 + (l.length : Int))) (by omega)
  exact ⟨_, hr, rfl, hl, hs, Int.le_refl 0, by simp only; omega⟩

/-! spec_DrawRound -/
theorem spec_DrawRound_ok (l : List Int) (hl : Bs l) (hs : l.length ≤ 1048576) : EvP (fun k => spec_DrawRound.f k l) I64 := by
  unfold spec_DrawRound.f
  refine EvP.bind (spec_l1New_ok l hl hs) (fun c hc => ?_)
  obtain ⟨h1, hc⟩ := hc
  rw [h1]
  refine EvP.call (spec_l1PickInt_ok _ hc _ (by decide)) (fun r hr => EvP.some ?_)
  have hm := hr.1
  simp only [List.mem_cons, List.mem_nil_iff, or_false] at hm
  unfold I64
  omega

/-! spec_l1Once -/
theorem spec_l1Once_ok {l : List Int} {i : Int} (s : Int) (h : Cur l i) (n : Int) : ∃ r, spec_l1Once.f l i s n = some r ∧ Cur l r.2.1 := by
  unfold spec_l1Once.f
  obtain ⟨r, hr, _, _, _, hc⟩ := spec_l1Below_ok s h n
  rw [hr]
  exact ⟨_, rfl, hc⟩

/-! spec_l1DrawWord -/
theorem spec_l1DrawWord_ok {l : List Int} {i : Int} (s : Int) (h : Cur l i) : ∃ r, spec_l1DrawWord.f l i s = some r ∧ (-2147483648 ≤ r.1 ∧ r.1 ≤ 2147483647) ∧ Cur l r.2.1 := by
  unfold spec_l1DrawWord.f
  obtain ⟨r, hr, hm, hc⟩ := spec_l1PickInt_ok s h [0, 1, (-1), 5, 7, 100, 2147483647, (-2147483648)] (by decide)
  rw [hr]
  refine ⟨_, rfl, ?_, hc⟩
  simp only [List.mem_cons, List.mem_nil_iff, or_false] at hm
  simp only
  omega

/-! spec_DrawPutWord -/
theorem spec_DrawPutWord_ok (l : List Int) (hl : Bs l) (hs : l.length ≤ 1048576) : EvP (fun k => spec_DrawPutWord.f k l) I64 := by
  unfold spec_DrawPutWord.f
  refine EvP.bind (spec_l1New_ok l hl hs) (fun c hc => ?_)
  obtain ⟨h1, hc⟩ := hc
  rw [h1]
  refine EvP.call (spec_l1Once_ok _ hc _) (fun o ho => EvP.ite (fun _ => ?_) (fun _ => ?_))
  · refine EvP.call (spec_l1PickInt_ok _ ho _ (by decide)) (fun r hr => EvP.some ?_)
    have hm := hr.1
    simp only [List.mem_cons, List.mem_nil_iff, or_false] at hm
    unfold I64
    omega
  · refine EvP.call (spec_l1DrawWord_ok _ ho) (fun r hr => EvP.some ?_)
    unfold I64
    omega

/-! impl_Round -/
theorem impl_Round_eq (n : Int) : impl_Round.f n = some (round n) := by
  unfold impl_Round.f
  rw [w64 (by rw [w32]; omega) (by rw [w32]; omega), w32]; rfl

/-! spec_Round -/
theorem spec_Round_eq (n : Int) : spec_Round.f n = some (round n) := by
  unfold spec_Round.f round
  have h := bits_and_mask n 32 (by decide)
  simp only [Int.reducePow, Int.reduceSub] at h
  rw [h]
  by_cases hc : n % 4294967296 > 2147483647
  · rw [if_pos hc, w64 (by omega) (by omega)]; congr 1; omega
  · rw [if_neg hc]; congr 1; omega

theorem round_wrap (n : Int) : round (wrap64 n) = round n := by unfold round wrap64; omega
theorem round_mod (n : Int) : round n % 4294967296 = n % 4294967296 := by unfold round; omega
theorem round_of_mod {m n : Int} (h : m % 4294967296 = n % 4294967296) : round m = round n := by unfold round; omega
theorem round_mul (a b : Int) : round (round a * round b) = round (a * b) :=
  round_of_mod (by rw [Int.mul_emod, round_mod, round_mod, ← Int.mul_emod])
theorem FnRoundSums (l : List Int) (h : l.length ≤ maxLen ∧ ∀ x ∈ l, (Lit.int .u8 x).wf = true) : ∃ k, laws_FnRoundSums.f k l = some true := by
  obtain ⟨hs, hb⟩ := h
  have hB := bs_of hb
  refine EvP.rounds (q := true) ?_
  unfold laws_FnRoundSums.f
  refine EvP.eq (laws_big_eq l) ?_
  refine EvP.ite (fun _ => EvP.some rfl) (fun h => ?_)
  have hl : l.length ≤ 1048576 := by simp at h; omega
  refine EvP.bind (spec_DrawRound_ok l hB hl) (fun a ha => EvP.bind (spec_DrawPutWord_ok l hB hl) (fun b hb => ?_))
  simp only [impl_Round_eq, spec_Round_eq, Option.bind_some]
  refine EvP.ifp trivial ?_
  refine EvP.step (fun _ => laws_FnRoundSums.j0.eq_2 ..) ?_
  have r1 : round (wrap64 (round a + round b)) = round (wrap64 (a + b)) := by
    rw [round_wrap, round_wrap]; unfold round; omega
  have r2 : round (wrap64 (round a - round b)) = round (wrap64 (a - b)) := by
    rw [round_wrap, round_wrap]; unfold round; omega
  have r3 : round (wrap64 (round a * round b)) = round (wrap64 (a * b)) := by
    rw [round_wrap, round_wrap]; exact round_mul a b
  refine EvP.ifn (by simp) ?_
  simp only [impl_Round_eq, Option.bind_some, r1, r2, r3, if_true, beq_self_eq_true]
  exact EvP.some rfl

end Go.Proofs.Ytcableidjknlfaa.Pure
