/- The pure statement of FnWords: at every argument the law answers true. No condition. -/
import Derived.Test.YtcableidjknlfaaMFnWordsx3
import Derived.Test.YtcableidjknlfaaLib1
import Derived.Test.YtcableidjknlfaaLib2
set_option linter.unusedVariables false
set_option linter.unusedSimpArgs false
namespace Go.Proofs.Ytcableidjknlfaa.Pure
open Go.RowKit Go.Proofs.Ytcableidjknlfaa.MFnWords Go.Proofs.YtcableidjknlfaaW.PrintWords Go.Proofs.YtcableidjknlfaaW.PrintLast Go.Proofs.YtcableidjknlfaaW.PrintMore Go.Proofs.YtcableidjknlfaaLib

/-! spec_l1In -/
theorem spec_l1In_eq (a b c : Int) : spec_l1In.f a b c = some (decide (b ≤ a ∧ a ≤ c)) := by
  unfold spec_l1In.f
  by_cases h : a ≥ b
  · rw [if_pos h]; congr 1; simp; omega
  · rw [if_neg h]; congr 1; simp; omega

/-! spec_l1Word -/
theorem spec_l1Word_eq (n : Int) : spec_l1Word.f n = some (decide (-2147483648 ≤ n ∧ n ≤ 2147483647)) := by
  unfold spec_l1Word.f
  rw [spec_l1In_eq]; rfl

/-! spec_PutWord -/
theorem spec_PutWord_eq (n : Int) : spec_PutWord.f n = some (putWord n) := by
  unfold spec_PutWord.f putWord
  rw [spec_l1Word_eq]
  by_cases h : -2147483648 ≤ n ∧ n ≤ 2147483647
  · simp [h, four]
  · rw [if_neg h]; simp [h]

/-! impl_within -/
theorem impl_within_eq (a b c : Int) : impl_within.f a b c = some (decide (b ≤ a ∧ a ≤ c)) := by
  unfold impl_within.f
  by_cases h : a ≥ b
  · rw [if_pos h]; congr 1; simp; omega
  · rw [if_neg h]; congr 1; simp; omega

/-! impl_isWord -/
theorem impl_isWord_eq (n : Int) : impl_isWord.f n = some (decide (-2147483648 ≤ n ∧ n ≤ 2147483647)) := by
  unfold impl_isWord.f
  rw [impl_within_eq]; rfl

/-! impl_putFour -/
theorem and255 (n : Int) : bits .and .i64 n 255 = n % 256 := by
  have h := bits_and_mask n 8 (by decide)
  simpa using h
theorem impl_putFour_eq (n : Int) : impl_putFour.f n = some (four n) := by
  unfold impl_putFour.f four
  simp only [and255]
  congr 2
  · omega
  · congr 1
    · omega
    · congr 1
      · omega
      · congr 1; omega

/-! impl_PutWord -/
theorem impl_PutWord_eq (n : Int) : impl_PutWord.f n = some (putWord n) := by
  unfold impl_PutWord.f putWord
  rw [impl_isWord_eq]
  by_cases h : -2147483648 ≤ n ∧ n ≤ 2147483647
  · simp [h, impl_putFour_eq]
  · rw [if_neg h]; simp [h]

/-! laws_big -/
theorem laws_big_eq (l : List Int) : laws_big.f l = some (decide ((l.length : Int) > 1048576)) := rfl

/-! spec_l1Byte -/
theorem spec_l1Byte_ok {l : List Int} {i : Int} (s : Int) (h : Cur l i) : ∃ r, spec_l1Byte.f l i s = some r ∧ 0 ≤ r.1 ∧ r.1 ≤ 255 ∧ Cur l r.2.1 := by
  obtain ⟨h0, h1, h2, h3⟩ := h
  unfold spec_l1Byte.f
  by_cases hc : i < (l.length : Int)
  · rw [if_pos hc, if_pos h2]
    refine ⟨_, rfl, (and255' _).1, (and255' _).2, h0, h1, ?_⟩
    simp only [w64 (n := i + 1) (by omega) (by omega)]
    omega
  · rw [if_neg hc]
    exact ⟨_, rfl, (and255' _).1, (and255' _).2, h0, h1, h2, h3⟩

/-! spec_l1Below -/
theorem spec_l1Below_ok {l : List Int} {i : Int} (s : Int) (h : Cur l i) (n : Int) : ∃ r, spec_l1Below.f l i s n = some r ∧ 0 ≤ r.1 ∧ (0 < n → r.1 < n) ∧ (n ≤ 0 → r.1 = 0) ∧ Cur l r.2.1 := by
  unfold spec_l1Below.f
  by_cases h0 : n ≤ 0
  · rw [if_pos h0]
    exact ⟨_, rfl, Int.le_refl _, fun h => by omega, fun _ => rfl, h⟩
  · rw [if_neg h0]
    have mods : ∀ x : Int, 0 ≤ x → 0 ≤ Int.tmod x n ∧ (0 < n → Int.tmod x n < n) := fun x hx => by
      rw [tmod_pos hx]
      exact ⟨Int.emod_nonneg _ (by omega), fun h => Int.emod_lt_of_pos _ h⟩
    by_cases h1 : n ≤ 256
    · rw [if_pos h1]
      obtain ⟨r, hr, ha, hb, hc⟩ := spec_l1Byte_ok s h
      rw [hr, Option.bind_some, if_neg (by omega)]
      exact ⟨_, rfl, (mods _ ha).1, (mods _ ha).2, fun h => absurd h h0, hc⟩
    · rw [if_neg h1]
      obtain ⟨r, hr, ha, hb, hc⟩ := spec_l1Byte_ok s h
      rw [hr, Option.bind_some]
      obtain ⟨r2, hr2, ha2, hb2, hc2⟩ := spec_l1Byte_ok r.2.2 hc
      rw [hr2, Option.bind_some]
      obtain ⟨r3, hr3, ha3, hb3, hc3⟩ := spec_l1Byte_ok r2.2.2 hc2
      rw [hr3, Option.bind_some]
      obtain ⟨r4, hr4, ha4, hb4, hc4⟩ := spec_l1Byte_ok r3.2.2 hc3
      rw [hr4, Option.bind_some, if_neg (by omega)]
      have e : wrap64 ((wrap64 ((wrap64 ((wrap64 (r.1 * 16777216)) + (wrap64 (r2.1 * 65536)))) + (wrap64 (r3.1 * 256)))) + r4.1) = r.1 * 16777216 + r2.1 * 65536 + r3.1 * 256 + r4.1 := by
        rw [w64 (n := r.1 * 16777216) (by omega) (by omega), w64 (n := r2.1 * 65536) (by omega) (by omega), w64 (n := r3.1 * 256) (by omega) (by omega), w64 (n := r.1 * 16777216 + r2.1 * 65536) (by omega) (by omega), w64 (n := r.1 * 16777216 + r2.1 * 65536 + r3.1 * 256) (by omega) (by omega), w64 (by omega) (by omega)]
      rw [e]
      exact ⟨_, rfl, (mods _ (by omega)).1, (mods _ (by omega)).2, fun h => absurd h h0, hc4⟩

/-! spec_l1PickInt -/
theorem spec_l1PickInt_ok {l : List Int} {i : Int} (s : Int) (h : Cur l i) (xs : List Int) (hx : 0 < xs.length) : ∃ r, spec_l1PickInt.f l i s xs = some r ∧ r.1 ∈ xs ∧ Cur l r.2.1 := by
  unfold spec_l1PickInt.f
  obtain ⟨r, hr, h0, h1, _, hc⟩ := spec_l1Below_ok s h (xs.length : Int)
  have h2 := h1 (by omega)
  rw [hr, Option.bind_some, if_pos h0, if_pos h2]
  refine ⟨_, rfl, ?_, hc⟩
  obtain ⟨m, hm⟩ : ∃ m : Nat, r.1 = (m : Int) := ⟨r.1.toNat, by omega⟩
  simp only [hm]
  rw [rd_nat xs m (by omega)]
  exact List.getElem_mem _

/-! spec_l1New -/
theorem spec_l1New_l0 (l : List Int) (hs : l.length ≤ 1048576) : ∀ (d i : Nat) (h : Int), i + d = 4000 → ∃ r, Ev (fun k => spec_l1New.l0 k l h (i : Int)) (l, 0, r)
  | 0, i, h, hi => by
    refine ⟨h, ?_⟩
    refine Ev.step (fun _ => spec_l1New.l0.eq_2 ..) ?_
    by_cases hc : (i : Int) < (l.length : Int)
    · exact ev_ifp hc (ev_ifn (by omega) (ev_some rfl))
    · exact ev_ifn hc (ev_some rfl)
  | d + 1, i, h, hi => by
    by_cases hc : (i : Int) < (l.length : Int)
    · obtain ⟨r, hr⟩ := spec_l1New_l0 l hs d (i + 1) (bits .and .i64 (wrap64 ((wrap64 ((wrap64 (h * 131)) + (wrap64 (rd l i)))) + 7)) 1073741823) (by omega)
      refine ⟨r, ?_⟩
      refine Ev.step (fun _ => spec_l1New.l0.eq_2 ..) ?_
      refine ev_ifp hc (ev_ifp (by omega) (ev_ifp (by omega) ?_))
      rw [wnext i (by omega)]
      exact hr
    · refine ⟨h, ?_⟩
      refine Ev.step (fun _ => spec_l1New.l0.eq_2 ..) ?_
      exact ev_ifn hc (ev_some rfl)
theorem spec_l1New_ok (l : List Int) (hl : Bs l) (hs : l.length ≤ 1048576) : EvP (fun k => spec_l1New.f k l) (fun r => r.1 = l ∧ Cur l r.2.1) := by
  obtain ⟨r, hr⟩ := spec_l1New_l0 l hs 4000 0 (wrap64 (20478 + (l.length : Int))) (by omega)
  exact ⟨_, hr, rfl, hl, hs, Int.le_refl 0, by simp only; omega⟩

/-! spec_DrawRound -/
theorem spec_DrawRound_ok (l : List Int) (hl : Bs l) (hs : l.length ≤ 1048576) : EvP (fun k => spec_DrawRound.f k l) I64 := by
  unfold spec_DrawRound.f
  refine EvP.bind (spec_l1New_ok l hl hs) (fun c hc => ?_)
  obtain ⟨h1, hc⟩ := hc
  rw [h1]
  refine EvP.call (spec_l1PickInt_ok _ hc _ (by decide)) (fun r hr => EvP.some ?_)
  have hm := hr.1
  simp only [List.mem_cons, List.mem_nil_iff, or_false] at hm
  unfold I64
  omega

/-! spec_l1Once -/
theorem spec_l1Once_ok {l : List Int} {i : Int} (s : Int) (h : Cur l i) (n : Int) : ∃ r, spec_l1Once.f l i s n = some r ∧ Cur l r.2.1 := by
  unfold spec_l1Once.f
  obtain ⟨r, hr, _, _, _, hc⟩ := spec_l1Below_ok s h n
  rw [hr]
  exact ⟨_, rfl, hc⟩

/-! spec_l1DrawWord -/
theorem spec_l1DrawWord_ok {l : List Int} {i : Int} (s : Int) (h : Cur l i) : ∃ r, spec_l1DrawWord.f l i s = some r ∧ (-2147483648 ≤ r.1 ∧ r.1 ≤ 2147483647) ∧ Cur l r.2.1 := by
  unfold spec_l1DrawWord.f
  obtain ⟨r, hr, hm, hc⟩ := spec_l1PickInt_ok s h [0, 1, (-1), 5, 7, 100, 2147483647, (-2147483648)] (by decide)
  rw [hr]
  refine ⟨_, rfl, ?_, hc⟩
  simp only [List.mem_cons, List.mem_nil_iff, or_false] at hm
  simp only
  omega

/-! spec_DrawPutWord -/
theorem spec_DrawPutWord_ok (l : List Int) (hl : Bs l) (hs : l.length ≤ 1048576) : EvP (fun k => spec_DrawPutWord.f k l) I64 := by
  unfold spec_DrawPutWord.f
  refine EvP.bind (spec_l1New_ok l hl hs) (fun c hc => ?_)
  obtain ⟨h1, hc⟩ := hc
  rw [h1]
  refine EvP.call (spec_l1Once_ok _ hc _) (fun o ho => EvP.ite (fun _ => ?_) (fun _ => ?_))
  · refine EvP.call (spec_l1PickInt_ok _ ho _ (by decide)) (fun r hr => EvP.some ?_)
    have hm := hr.1
    simp only [List.mem_cons, List.mem_nil_iff, or_false] at hm
    unfold I64
    omega
  · refine EvP.call (spec_l1DrawWord_ok _ ho) (fun r hr => EvP.some ?_)
    unfold I64
    omega

/-! impl_Round -/
theorem impl_Round_eq (n : Int) : impl_Round.f n = some (round n) := by
  unfold impl_Round.f
  rw [w64 (by rw [w32]; omega) (by rw [w32]; omega), w32]; rfl

/-! spec_Round -/
theorem spec_Round_eq (n : Int) : spec_Round.f n = some (round n) := by
  unfold spec_Round.f round
  have h := bits_and_mask n 32 (by decide)
  simp only [Int.reducePow, Int.reduceSub] at h
  rw [h]
  by_cases hc : n % 4294967296 > 2147483647
  · rw [if_pos hc, w64 (by omega) (by omega)]; congr 1; omega
  · rw [if_neg hc]; congr 1; omega

/-! impl_GetWord -/
theorem impl_GetWord_eq (l : List Int) (i : Int) (hl : Bs l) (hs : l.length ≤ 140737488355328) : impl_GetWord.f l i = some (getWord l i) := by
  unfold impl_GetWord.f getWord
  by_cases h0 : i < 0
  · rw [if_pos h0, if_neg (by omega)]
  · rw [if_neg h0]
    by_cases h2 : (l.length : Int) < 4
    · rw [if_pos h2, if_neg (by omega)]
    rw [if_neg h2, w64 (n := (l.length : Int) - 4) (by omega) (by omega)]
    by_cases h1 : i > (l.length : Int) - 4
    · rw [if_pos h1, if_neg (by omega)]
    · rw [if_neg h1, if_pos (by omega), w64 (n := i + 1) (by omega) (by omega), w64 (n := i + 2) (by omega) (by omega), w64 (n := i + 3) (by omega) (by omega), w64 (n := i + 4) (by omega) (by omega)]
      rw [if_pos (by omega), if_pos (by omega), if_pos (by omega), if_pos (by omega), if_pos (by omega), if_pos (by omega), if_pos (by omega), if_pos (by omega)]
      rw [le4 _ _ _ _ (rd_bs hl _) (rd_bs hl _) (rd_bs hl _) (rd_bs hl _), impl_Round_eq]
      rfl

/-! spec_PutNum -/
theorem spec_PutNum_l0 : ∀ (f : Nat) (x : Int) (acc : List Int), 0 ≤ x → x < 128 ^ (f + 1) → x ≤ 16777215 → acc.length + f < 1000 → Ev (fun k => spec_PutNum.l0 k x acc) (acc ++ digs f x)
  | 0, x, acc, h0, h1, h2, h3 => by
    simp at h1
    refine Ev.step (fun _ => spec_PutNum.l0.eq_2 ..) ?_
    refine ev_ifn (by omega) (ev_ifp (by omega) (ev_some ?_))
    rw [digs, Int.emod_eq_of_lt h0 (by omega)]
  | f + 1, x, acc, h0, h1, h2, h3 => by
    refine Ev.step (fun _ => spec_PutNum.l0.eq_2 ..) ?_
    by_cases hc : x > 127
    · refine ev_ifp hc (ev_ifp (by omega) ?_)
      rw [digs, if_pos hc]
      have h4 : x / 128 < 128 ^ (f + 1) := Int.ediv_lt_of_lt_mul (by decide) (by rw [← Int.pow_succ]; exact h1)
      rw [tdiv_pos h0, tmod_pos h0, w64 (n := x / 128) (by omega) (by omega), w64 (n := x % 128 + 128) (by omega) (by omega), Int.emod_eq_of_lt (a := x % 128 + 128) (by omega) (by omega)]
      have := spec_PutNum_l0 f (x / 128) (acc ++ [x % 128 + 128]) (by omega) h4 (by omega) (by rw [List.length_append]; simp; omega)
      simpa using this
    · refine ev_ifn hc (ev_ifp (by omega) (ev_some ?_))
      rw [digs, if_neg hc, Int.emod_eq_of_lt h0 (by omega)]
theorem spec_PutNum_ev (n : Int) : Ev (fun k => spec_PutNum.f k n) (putNum n) := by
  unfold spec_PutNum.f putNum
  refine ev_call rfl (ev_call (spec_l1In_eq n 0 16777215) ?_)
  by_cases h : 0 ≤ n ∧ n ≤ 16777215
  · rw [if_pos h]
    refine ev_ifp (by simpa using h) ?_
    exact spec_PutNum_l0 3 n [] h.1 (by have : (128 : Int) ^ (3 + 1) = 268435456 := by decide
                                        omega) h.2 (by simp)
  · rw [if_neg h]
    exact ev_ifn (by simpa using h) (ev_some rfl)

/-! spec_l1DrawNums -/
theorem spec_l1DrawNums_l0 (l : List Int) : ∀ (d i : Nat) (acc : List Int) (x s : Int), i + d = 5 → Bs acc → acc.length ≤ 4 * i → Cur l x → EvP (fun k => spec_l1DrawNums.l0 k acc (i : Int) l x s) (fun r => Bs r.1 ∧ r.1.length ≤ 22 ∧ Cur l r.2.1) := by
  intro d
  induction d with
  | zero =>
    intro i acc x s hi hb hl hc
    refine EvP.step (fun _ => spec_l1DrawNums.l0.eq_2 ..) ?_
    refine EvP.call (spec_l1Below_ok s hc 5) (fun r hr => EvP.ifn (by have := hr.2.1 (by decide); omega) ?_)
    refine EvP.call (spec_l1Once_ok _ hr.2.2.2 _) (fun o ho => EvP.ite (fun _ => ?_) (fun _ => EvP.some ⟨hb, by simp only; omega, ho⟩))
    refine EvP.call (spec_l1PickInt_ok _ ho _ (by decide)) (fun p hp => EvP.call (spec_l1Below_ok _ hp.2 _) (fun q hq => EvP.eq rfl ?_))
    refine EvP.ifp (by simp; omega) (EvP.some ⟨hb.append (Bs.cons (by omega) (by omega) (Bs.cons (by omega) (by omega) Bs.nil)), by simp; omega, hq.2.2.2⟩)
  | succ d ih =>
    intro i acc x s hi hb hl hc
    refine EvP.step (fun _ => spec_l1DrawNums.l0.eq_2 ..) ?_
    refine EvP.call (spec_l1Below_ok s hc 5) (fun r hr => EvP.ite (fun _ => ?_) (fun _ => ?_))
    · refine EvP.call (spec_l1PickInt_ok _ hr.2.2.2 _ (by decide)) (fun p hp => EvP.ev_ (spec_PutNum_ev _) ?_)
      have hpl := putNum_len p.1
      refine EvP.ifp (by omega) ?_
      simp only [wnext i (by omega)]
      exact ih (i + 1) _ _ _ (by omega) (hb.append (putNum_bs _)) (by rw [List.length_append]; omega) hp.2
    · refine EvP.call (spec_l1Once_ok _ hr.2.2.2 _) (fun o ho => EvP.ite (fun _ => ?_) (fun _ => EvP.some ⟨hb, by simp only; omega, ho⟩))
      refine EvP.call (spec_l1PickInt_ok _ ho _ (by decide)) (fun p hp => EvP.call (spec_l1Below_ok _ hp.2 _) (fun q hq => EvP.eq rfl ?_))
      refine EvP.ifp (by simp; omega) (EvP.some ⟨hb.append (Bs.cons (by omega) (by omega) (Bs.cons (by omega) (by omega) Bs.nil)), by simp; omega, hq.2.2.2⟩)
theorem spec_l1DrawNums_ok {l : List Int} {x : Int} (s : Int) (hc : Cur l x) : EvP (fun k => spec_l1DrawNums.f k l x s) (fun r => Bs r.1 ∧ r.1.length ≤ 22 ∧ Cur l r.2.1) :=
  spec_l1DrawNums_l0 l 5 0 [] x s rfl Bs.nil (by simp) hc

/-! spec_DrawGetWord -/
theorem putWord_len (n : Int) : (putWord n).length ≤ 4 := by unfold putWord four; split <;> simp
theorem spec_DrawGetWord_ok (l : List Int) (hl : Bs l) (hs : l.length ≤ 1048576) : EvP (fun k => spec_DrawGetWord.f k l) (fun r => Bs r.1 ∧ r.1.length ≤ 26) := by
  unfold spec_DrawGetWord.f
  refine EvP.bind (spec_l1New_ok l hl hs) (fun c hc => ?_)
  obtain ⟨h1, hc⟩ := hc
  rw [h1]
  refine EvP.call (spec_l1DrawWord_ok _ hc) (fun w hw => EvP.eq (spec_PutWord_eq _) ?_)
  have hpl := putWord_len w.1
  refine EvP.bind (spec_l1DrawNums_ok _ hw.2) (fun b hb => ?_)
  refine EvP.ifp (by omega) (EvP.eq rfl ?_)
  exact EvP.call (spec_l1PickInt_ok _ hb.2.2 _ (by simp)) (fun p hp => EvP.some ⟨(putWord_bs _).append hb.1, by simp only [List.length_append]; omega⟩)

/-! spec_GetWord -/
theorem spec_GetWord_eq (l : List Int) (i : Int) (hl : Bs l) (hs : l.length ≤ 140737488355328) : spec_GetWord.f l i = some (getWord l i) := by
  unfold spec_GetWord.f getWord
  by_cases h0 : i < 0
  · rw [if_pos h0, if_neg (by omega)]
  · rw [if_neg h0, w64 (n := (l.length : Int) - 4) (by omega) (by omega)]
    by_cases h1 : i > (l.length : Int) - 4
    · rw [if_pos h1, if_neg (by omega)]
    · rw [if_neg h1, if_pos (by omega), w64 (n := i + 1) (by omega) (by omega), w64 (n := i + 2) (by omega) (by omega), w64 (n := i + 3) (by omega) (by omega), w64 (n := i + 4) (by omega) (by omega)]
      rw [if_pos (by omega), if_pos (by omega), if_pos (by omega), if_pos (by omega), if_pos (by omega), if_pos (by omega), if_pos (by omega), if_pos (by omega)]
      rw [le4 _ _ _ _ (rd_bs hl _) (rd_bs hl _) (rd_bs hl _) (rd_bs hl _), spec_Round_eq]
      rfl

theorem word_back {x : Int} (h0 : -2147483648 ≤ x) (h1 : x ≤ 2147483647) : getWord (four x) 0 = (x, 4, true) := by
  have e : round (x % 256 + x / 256 % 256 * 256 + x / 65536 % 256 * 65536 + x / 16777216 % 256 * 16777216) = x := by unfold round; omega
  simp [getWord, four, rd, e]
theorem FnWords (l : List Int) (h : l.length ≤ maxLen ∧ ∀ x ∈ l, (Lit.int .u8 x).wf = true) : ∃ k, laws_FnWords.f k l = some true := by
  obtain ⟨hs, hb⟩ := h
  have hB := bs_of hb
  refine EvP.rounds (q := true) ?_
  unfold laws_FnWords.f
  refine EvP.eq (laws_big_eq l) ?_
  refine EvP.ite (fun _ => EvP.some rfl) (fun h => ?_)
  have hl : l.length ≤ 1048576 := by simp at h; omega
  refine EvP.bind (spec_DrawPutWord_ok l hB hl) (fun x hx => EvP.eq (impl_PutWord_eq x) (EvP.eq (spec_PutWord_eq x) (EvP.ifp rfl (EvP.eq (impl_GetWord_eq _ _ (putWord_bs x) (by have := putWord_len x; omega)) ?_))))
  have hj : EvP (fun k => laws_FnWords.j0 k l x (putWord x) false) (fun r => r = true) := by
    refine EvP.step (fun _ => laws_FnWords.j0.eq_2 ..) ?_
    refine EvP.ifn (by simp) (EvP.bind (spec_DrawGetWord_ok l hB hl) (fun g hg => ?_))
    refine EvP.eq (impl_GetWord_eq _ _ hg.1 (by omega)) (EvP.eq (spec_GetWord_eq _ _ hg.1 (by omega)) (EvP.bind (spec_DrawRound_ok l hB hl) (fun n hn => EvP.eq (impl_Round_eq n) ?_)))
    have hr := round_range n
    have hrr : round (round n) = round n := round_word hr.1 hr.2
    refine EvP.ifp (by simp) (EvP.ifp rfl (EvP.ifp rfl (EvP.eq (spec_Round_eq n) (EvP.ifp rfl (EvP.eq (impl_Round_eq _) (EvP.ifp hrr (EvP.eq (impl_PutWord_eq _) ?_)))))))
    refine EvP.ifp (by unfold putWord; rw [if_pos hr]; rfl) (EvP.eq (impl_Round_eq x) (EvP.some ?_))
    unfold I64 at hx
    by_cases hw : -2147483648 ≤ x ∧ x ≤ 2147483647
    · have : round x = x := round_word hw.1 hw.2
      simp [putWord, hw, four, this]
    · have : round x ≠ x := fun e => hw (by have := round_range x; omega)
      simp [putWord, hw, this]
  by_cases hw : -2147483648 ≤ x ∧ x ≤ 2147483647
  · have e : putWord x = four x := by unfold putWord; rw [if_pos hw]
    refine EvP.ifp (by rw [e]; simp [four]) ?_
    have hb2 : getWord (putWord x) 0 = (x, 4, true) := by rw [e]; exact word_back hw.1 hw.2
    rw [hb2]
    exact EvP.ifp rfl (EvP.ifp rfl hj)
  · have e : putWord x = [] := by unfold putWord; rw [if_neg hw]
    exact EvP.ifn (by rw [e]; simp) hj

end Go.Proofs.Ytcableidjknlfaa.Pure
