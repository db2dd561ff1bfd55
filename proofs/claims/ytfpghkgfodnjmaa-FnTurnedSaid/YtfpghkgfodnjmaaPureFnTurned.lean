/- The pure statement of FnTurned: at every argument the law answers true. No condition. -/
import Derived.Test.YtfpghkgfodnjmaaMFnTurnedx4
import Derived.Test.YtfpghkgfodnjmaaLib1
import Derived.Test.YtfpghkgfodnjmaaLib2
import Derived.Test.YtfpghkgfodnjmaaLib4
set_option linter.unusedVariables false
set_option linter.unusedSimpArgs false
namespace Go.Proofs.Ytfpghkgfodnjmaa.Pure
open Go.RowKit Go.Proofs.Ytfpghkgfodnjmaa.MFnTurned Go.Proofs.YtfpghkgfodnjmaaW.PrintWords Go.Proofs.YtfpghkgfodnjmaaW.PrintLast Go.Proofs.YtfpghkgfodnjmaaW.PrintMore Go.Proofs.YtfpghkgfodnjmaaLib

/-! laws_big -/
theorem laws_big_eq (l : List Int) : laws_big.f l = some (decide ((l.length : Int) > 1048576)) := rfl

/-! impl_Check -/
theorem impl_Check_l0 (x : List Int) (hx : Bs x) (hl : x.length ≤ 140737488355328) : ∀ (rest pre : List Int) (a b : Int), x = pre ++ rest → 0 ≤ a → a < 65521 → 0 ≤ b → b < 65521 → Ev (fun k => impl_Check.l0 k a b x (x.length : Int) (pre.length : Int)) (chk rest a b) := by
  intro rest
  induction rest with
  | nil =>
    intro pre a b he ha ha' hb hb'
    have hn : x.length = pre.length := by rw [he]; simp
    refine Ev.step (fun _ => impl_Check.l0.eq_2 ..) ?_
    refine ev_ifn (by omega) (ev_some ?_)
    rw [w64 (n := b * 65536) (by omega) (by omega), w64 (by omega) (by omega)]; rfl
  | cons c rest ih =>
    intro pre a b he ha ha' hb hb'
    have hn : x.length = pre.length + (rest.length + 1) := by rw [he]; simp
    have hc := hx c (by rw [he]; simp)
    refine Ev.step (fun _ => impl_Check.l0.eq_2 ..) ?_
    refine ev_ifp (by omega) (ev_ifp (by omega) (ev_ifp (by omega) ?_))
    have hr : rd x (pre.length : Int) = c := by rw [he]; exact rd_mid _ _ _
    simp only [hr, w64 (n := c) (by omega) (by omega), w64 (n := a + c) (by omega) (by omega), tmod_pos (n := a + c) (m := 65521) (by omega)]
    rw [w64 (n := b + (a + c) % 65521) (by omega) (by omega), tmod_pos (n := b + (a + c) % 65521) (m := 65521) (by omega)]
    simp only [wnext pre.length (by omega)]
    have := ih (pre ++ [c]) ((a + c) % 65521) ((b + (a + c) % 65521) % 65521) (by rw [he]; simp) (by omega) (by omega) (by omega) (by omega)
    simpa [chk] using this
theorem impl_Check_ev (x : List Int) (hx : Bs x) (hl : x.length ≤ 140737488355328) : Ev (fun k => impl_Check.f k x) (chk x 1 0) :=
  impl_Check_l0 x hx hl x [] 1 0 rfl (by decide) (by decide) (by decide) (by decide)

/-! impl_join -/
theorem impl_join_l0 (ls : List (List Int)) (hn : ls.length ≤ 1000) : ∀ (rest pre : List (List Int)) (acc : List Int), ls = pre ++ rest → acc.length + rest.flatten.length < 140737488355328 → Ev (fun k => impl_join.l0 k acc ls (ls.length : Int) (pre.length : Int)) (acc ++ rest.flatten)
  | [], pre, acc, he, h0 => by
    refine Ev.step (fun _ => impl_join.l0.eq_2 ..) ?_
    exact ev_ifn (by rw [he]; simp) (ev_some (by simp))
  | x :: rest, pre, acc, he, h0 => by
    have hl : ls.length = pre.length + (rest.length + 1) := by rw [he]; simp
    rw [List.flatten_cons, List.length_append] at h0
    have hr : rd_L1 ls (pre.length : Int) = x := by
      unfold rd_L1; rw [he]; simp
    refine Ev.step (fun _ => impl_join.l0.eq_2 ..) ?_
    rw [hr]
    refine ev_ifp (by omega) (ev_ifp (by omega) (ev_ifp (by omega) (ev_ifp (by omega) ?_)))
    have e2 : ((pre.length : Int)) + 1 = ((pre ++ [x]).length : Int) := by simp
    rw [w64 (n := (pre.length : Int) + 1) (by omega) (by omega), e2]
    refine ev_to (impl_join_l0 ls hn rest (pre ++ [x]) (acc ++ x) (by rw [he]; simp) (by rw [List.length_append]; omega)) ?_
    simp
theorem impl_join_ev (ls : List (List Int)) (hn : ls.length ≤ 1000) (h : ls.flatten.length < 140737488355328) : Ev (fun k => impl_join.f k ls) ls.flatten :=
  impl_join_l0 ls hn ls [] [] rfl (by simpa using h)

/-! impl_putFour -/
theorem and255 (n : Int) : bits .and .i64 n 255 = n % 256 := by
  have h := bits_and_mask n 8 (by decide)
  simpa using h
theorem impl_putFour_eq (n : Int) : impl_putFour.f n = some (four n) := by
  unfold impl_putFour.f four
  simp only [and255]
  congr 2
  · omega
  · congr 1
    · omega
    · congr 1
      · omega
      · congr 1; omega

/-! impl_Seal -/
theorem impl_Seal_ev (x : List Int) (hx : Bs x) (hl : x.length ≤ 100000000) : Ev (fun k => impl_Seal.f k x) (x ++ four (chk x 1 0)) := by
  unfold impl_Seal.f
  refine Ev.bind (impl_Check_ev x hx (by omega)) (ev_call (impl_putFour_eq _) (Ev.bind (impl_join_ev _ (by simp) (by simp [four]; omega)) (ev_some (by simp))))

/-! spec_l1In -/
theorem spec_l1In_eq (a b c : Int) : spec_l1In.f a b c = some (decide (b ≤ a ∧ a ≤ c)) := by
  unfold spec_l1In.f
  by_cases h : a ≥ b
  · rw [if_pos h]; congr 1; simp; omega
  · rw [if_neg h]; congr 1; simp; omega

/-! spec_PutNum -/
theorem spec_PutNum_l0 : ∀ (f : Nat) (x : Int) (acc : List Int), 0 ≤ x → x < 128 ^ (f + 1) → x ≤ 16777215 → acc.length + f < 1000 → Ev (fun k => spec_PutNum.l0 k x acc) (acc ++ digs f x)
  | 0, x, acc, h0, h1, h2, h3 => by
    simp at h1
    refine Ev.step (fun _ => spec_PutNum.l0.eq_2 ..) ?_
    refine ev_ifn (by omega) (ev_ifp (by omega) (ev_some ?_))
    rw [digs, Int.emod_eq_of_lt h0 (by omega)]
  | f + 1, x, acc, h0, h1, h2, h3 => by
    refine Ev.step (fun _ => spec_PutNum.l0.eq_2 ..) ?_
    by_cases hc : x > 127
    · refine ev_ifp hc (ev_ifp (by omega) ?_)
      rw [digs, if_pos hc]
      have h4 : x / 128 < 128 ^ (f + 1) := Int.ediv_lt_of_lt_mul (by decide) (by rw [← Int.pow_succ]; exact h1)
      rw [tdiv_pos h0, tmod_pos h0, w64 (n := x / 128) (by omega) (by omega), w64 (n := x % 128 + 128) (by omega) (by omega), Int.emod_eq_of_lt (a := x % 128 + 128) (by omega) (by omega)]
      have := spec_PutNum_l0 f (x / 128) (acc ++ [x % 128 + 128]) (by omega) h4 (by omega) (by rw [List.length_append]; simp; omega)
      simpa using this
    · refine ev_ifn hc (ev_ifp (by omega) (ev_some ?_))
      rw [digs, if_neg hc, Int.emod_eq_of_lt h0 (by omega)]
theorem spec_PutNum_ev (n : Int) : Ev (fun k => spec_PutNum.f k n) (putNum n) := by
  unfold spec_PutNum.f putNum
  refine ev_call rfl (ev_call (spec_l1In_eq n 0 16777215) ?_)
  by_cases h : 0 ≤ n ∧ n ≤ 16777215
  · rw [if_pos h]
    refine ev_ifp (by simpa using h) ?_
    exact spec_PutNum_l0 3 n [] h.1 (by have : (128 : Int) ^ (3 + 1) = 268435456 := by decide
                                        omega) h.2 (by simp)
  · rw [if_neg h]
    exact ev_ifn (by simpa using h) (ev_some rfl)

/-! spec_l1Byte -/
theorem spec_l1Byte_ok {l : List Int} {i : Int} (s : Int) (h : Cur l i) : ∃ r, spec_l1Byte.f l i s = some r ∧ 0 ≤ r.1 ∧ r.1 ≤ 255 ∧ Cur l r.2.1 := by
  obtain ⟨h0, h1, h2, h3⟩ := h
  unfold spec_l1Byte.f
  by_cases hc : i < (l.length : Int)
  · rw [if_pos hc, if_pos h2]
    refine ⟨_, rfl, (and255' _).1, (and255' _).2, h0, h1, ?_⟩
    simp only [w64 (n := i + 1) (by omega) (by omega)]
    omega
  · rw [if_neg hc]
    exact ⟨_, rfl, (and255' _).1, (and255' _).2, h0, h1, h2, h3⟩

/-! spec_l1Below -/
theorem spec_l1Below_ok {l : List Int} {i : Int} (s : Int) (h : Cur l i) (n : Int) : ∃ r, spec_l1Below.f l i s n = some r ∧ 0 ≤ r.1 ∧ (0 < n → r.1 < n) ∧ (n ≤ 0 → r.1 = 0) ∧ Cur l r.2.1 := by
  unfold spec_l1Below.f
  by_cases h0 : n ≤ 0
  · rw [if_pos h0]
    exact ⟨_, rfl, Int.le_refl _, fun h => by omega, fun _ => rfl, h⟩
  · rw [if_neg h0]
    have mods : ∀ x : Int, 0 ≤ x → 0 ≤ Int.tmod x n ∧ (0 < n → Int.tmod x n < n) := fun x hx => by
      rw [tmod_pos hx]
      exact ⟨Int.emod_nonneg _ (by omega), fun h => Int.emod_lt_of_pos _ h⟩
    by_cases h1 : n ≤ 256
    · rw [if_pos h1]
      obtain ⟨r, hr, ha, hb, hc⟩ := spec_l1Byte_ok s h
      rw [hr, Option.bind_some, if_neg (by omega)]
      exact ⟨_, rfl, (mods _ ha).1, (mods _ ha).2, fun h => absurd h h0, hc⟩
    · rw [if_neg h1]
      obtain ⟨r, hr, ha, hb, hc⟩ := spec_l1Byte_ok s h
      rw [hr, Option.bind_some]
      obtain ⟨r2, hr2, ha2, hb2, hc2⟩ := spec_l1Byte_ok r.2.2 hc
      rw [hr2, Option.bind_some]
      obtain ⟨r3, hr3, ha3, hb3, hc3⟩ := spec_l1Byte_ok r2.2.2 hc2
      rw [hr3, Option.bind_some]
      obtain ⟨r4, hr4, ha4, hb4, hc4⟩ := spec_l1Byte_ok r3.2.2 hc3
      rw [hr4, Option.bind_some, if_neg (by omega)]
      have e : wrap64 ((wrap64 ((wrap64 ((wrap64 (r.1 * 16777216)) + (wrap64 (r2.1 * 65536)))) + (wrap64 (r3.1 * 256)))) + r4.1) = r.1 * 16777216 + r2.1 * 65536 + r3.1 * 256 + r4.1 := by
        rw [w64 (n := r.1 * 16777216) (by omega) (by omega), w64 (n := r2.1 * 65536) (by omega) (by omega), w64 (n := r3.1 * 256) (by omega) (by omega), w64 (n := r.1 * 16777216 + r2.1 * 65536) (by omega) (by omega), w64 (n := r.1 * 16777216 + r2.1 * 65536 + r3.1 * 256) (by omega) (by omega), w64 (by omega) (by omega)]
      rw [e]
      exact ⟨_, rfl, (mods _ (by omega)).1, (mods _ (by omega)).2, fun h => absurd h h0, hc4⟩

/-! spec_l1PickInt -/
theorem spec_l1PickInt_ok {l : List Int} {i : Int} (s : Int) (h : Cur l i) (xs : List Int) (hx : 0 < xs.length) : ∃ r, spec_l1PickInt.f l i s xs = some r ∧ r.1 ∈ xs ∧ Cur l r.2.1 := by
  unfold spec_l1PickInt.f
  obtain ⟨r, hr, h0, h1, _, hc⟩ := spec_l1Below_ok s h (xs.length : Int)
  have h2 := h1 (by omega)
  rw [hr, Option.bind_some, if_pos h0, if_pos h2]
  refine ⟨_, rfl, ?_, hc⟩
  obtain ⟨m, hm⟩ : ∃ m : Nat, r.1 = (m : Int) := ⟨r.1.toNat, by omega⟩
  simp only [hm]
  rw [rd_nat xs m (by omega)]
  exact List.getElem_mem _

/-! spec_l1Once -/
theorem spec_l1Once_ok {l : List Int} {i : Int} (s : Int) (h : Cur l i) (n : Int) : ∃ r, spec_l1Once.f l i s n = some r ∧ Cur l r.2.1 := by
  unfold spec_l1Once.f
  obtain ⟨r, hr, _, _, _, hc⟩ := spec_l1Below_ok s h n
  rw [hr]
  exact ⟨_, rfl, hc⟩

/-! spec_l1DrawNums -/
theorem spec_l1DrawNums_l0 (l : List Int) : ∀ (d i : Nat) (acc : List Int) (x s : Int), i + d = 5 → Bs acc → acc.length ≤ 4 * i → Cur l x → EvP (fun k => spec_l1DrawNums.l0 k acc (i : Int) l x s) (fun r => Bs r.1 ∧ r.1.length ≤ 22 ∧ Cur l r.2.1) := by
  intro d
  induction d with
  | zero =>
    intro i acc x s hi hb hl hc
    refine EvP.step (fun _ => spec_l1DrawNums.l0.eq_2 ..) ?_
    refine EvP.call (spec_l1Below_ok s hc 5) (fun r hr => EvP.ifn (by have := hr.2.1 (by decide); omega) ?_)
    refine EvP.call (spec_l1Once_ok _ hr.2.2.2 _) (fun o ho => EvP.ite (fun _ => ?_) (fun _ => EvP.some ⟨hb, by simp only; omega, ho⟩))
    refine EvP.call (spec_l1PickInt_ok _ ho _ (by decide)) (fun p hp => EvP.call (spec_l1Below_ok _ hp.2 _) (fun q hq => EvP.eq rfl ?_))
    refine EvP.ifp (by simp; omega) (EvP.some ⟨hb.append (Bs.cons (by omega) (by omega) (Bs.cons (by omega) (by omega) Bs.nil)), by simp; omega, hq.2.2.2⟩)
  | succ d ih =>
    intro i acc x s hi hb hl hc
    refine EvP.step (fun _ => spec_l1DrawNums.l0.eq_2 ..) ?_
    refine EvP.call (spec_l1Below_ok s hc 5) (fun r hr => EvP.ite (fun _ => ?_) (fun _ => ?_))
    · refine EvP.call (spec_l1PickInt_ok _ hr.2.2.2 _ (by decide)) (fun p hp => EvP.ev_ (spec_PutNum_ev _) ?_)
      have hpl := putNum_len p.1
      refine EvP.ifp (by omega) ?_
      simp only [wnext i (by omega)]
      exact ih (i + 1) _ _ _ (by omega) (hb.append (putNum_bs _)) (by rw [List.length_append]; omega) hp.2
    · refine EvP.call (spec_l1Once_ok _ hr.2.2.2 _) (fun o ho => EvP.ite (fun _ => ?_) (fun _ => EvP.some ⟨hb, by simp only; omega, ho⟩))
      refine EvP.call (spec_l1PickInt_ok _ ho _ (by decide)) (fun p hp => EvP.call (spec_l1Below_ok _ hp.2 _) (fun q hq => EvP.eq rfl ?_))
      refine EvP.ifp (by simp; omega) (EvP.some ⟨hb.append (Bs.cons (by omega) (by omega) (Bs.cons (by omega) (by omega) Bs.nil)), by simp; omega, hq.2.2.2⟩)
theorem spec_l1DrawNums_ok {l : List Int} {x : Int} (s : Int) (hc : Cur l x) : EvP (fun k => spec_l1DrawNums.f k l x s) (fun r => Bs r.1 ∧ r.1.length ≤ 22 ∧ Cur l r.2.1) :=
  spec_l1DrawNums_l0 l 5 0 [] x s rfl Bs.nil (by simp) hc

/-! spec_l2DrawBytes -/
theorem spec_l2DrawBytes_l0 (l : List Int) (x s : Int) (hc : Cur l x) : ∀ (d : Nat) (acc : List Int), 300 ≤ acc.length + d → acc.length ≤ 300 → Bs acc → EvP (fun k => spec_l2DrawBytes.l0 k acc l x s) (fun r => Bs r.1 ∧ r.1.length ≤ 300 ∧ Cur l r.2.1)
  | 0, acc, h0, h1, hb => by
    refine EvP.step (fun _ => spec_l2DrawBytes.l0_eq ..) ?_
    exact EvP.ifn (by omega) (EvP.some ⟨hb, h1, hc⟩)
  | d + 1, acc, h0, h1, hb => by
    refine EvP.step (fun _ => spec_l2DrawBytes.l0_eq ..) ?_
    refine EvP.ite (fun h => EvP.ifp (by omega) ?_) (fun _ => EvP.some ⟨hb, h1, hc⟩)
    exact spec_l2DrawBytes_l0 l x s hc d _ (by rw [List.length_append]; simp; omega) (by rw [List.length_append]; simp; omega) (hb.append (Bs.cons (by decide) (by decide) Bs.nil))
theorem spec_l2DrawBytes_ok {l : List Int} {x : Int} (s : Int) (hc : Cur l x) : EvP (fun k => spec_l2DrawBytes.f k l x s) (fun r => Bs r.1 ∧ r.1.length ≤ 300 ∧ Cur l r.2.1) := by
  unfold spec_l2DrawBytes.f
  refine EvP.bind (spec_l1DrawNums_ok s hc) (fun b hb => EvP.call (spec_l1Once_ok _ hb.2.2 _) (fun o ho => EvP.ite (fun _ => ?_) (fun _ => EvP.some ⟨hb.1, by have := hb.2.1; simp only; omega, ho⟩)))
  exact spec_l2DrawBytes_l0 l _ _ ho 300 _ (by omega) (by omega) hb.1

/-! spec_l1New -/
theorem spec_l1New_l0 (l : List Int) (hs : l.length ≤ 1048576) : ∀ (d i : Nat) (h : Int), i + d = 4000 → ∃ r, Ev (fun k => spec_l1New.l0 k l h (i : Int)) (l, 0, r)
  | 0, i, h, hi => by
    refine ⟨h, ?_⟩
    refine Ev.step (fun _ => spec_l1New.l0.eq_2 ..) ?_
    by_cases hc : (i : Int) < (l.length : Int)
    · exact ev_ifp hc (ev_ifn (by omega) (ev_some rfl))
    · exact ev_ifn hc (ev_some rfl)
  | d + 1, i, h, hi => by
    by_cases hc : (i : Int) < (l.length : Int)
    · obtain ⟨r, hr⟩ := spec_l1New_l0 l hs d (i + 1) (bits .and .i64 (wrap64 ((wrap64 ((wrap64 (h * 131)) + (wrap64 (rd l i)))) + 7)) 1073741823) (by omega)
      refine ⟨r, ?_⟩
      refine Ev.step (fun _ => spec_l1New.l0.eq_2 ..) ?_
      refine ev_ifp hc (ev_ifp (by omega) (ev_ifp (by omega) ?_))
      rw [wnext i (by omega)]
      exact hr
    · refine ⟨h, ?_⟩
      refine Ev.step (fun _ => spec_l1New.l0.eq_2 ..) ?_
      exact ev_ifn hc (ev_some rfl)
theorem spec_l1New_ok (l : List Int) (hl : Bs l) (hs : l.length ≤ 1048576) : EvP (fun k => spec_l1New.f k l) (fun r => r.1 = l ∧ Cur l r.2.1) := by
  obtain ⟨r, hr⟩ := spec_l1New_l0 l hs 4000 0 (wrap64 (20478 + (l.length : Int))) (by omega)
  exact ⟨_, hr, rfl, hl, hs, Int.le_refl 0, by simp only; omega⟩

/-! spec_DrawSeal -/
theorem spec_DrawSeal_ok (l : List Int) (hl : Bs l) (hs : l.length ≤ 1048576) : EvP (fun k => spec_DrawSeal.f k l) (fun r => Bs r ∧ r.length ≤ 300) := by
  unfold spec_DrawSeal.f
  refine EvP.bind (spec_l1New_ok l hl hs) (fun c hc => ?_)
  obtain ⟨h1, hc⟩ := hc
  rw [h1]
  exact EvP.bind (spec_l2DrawBytes_ok _ hc) (fun b hb => EvP.some ⟨hb.1, hb.2.1⟩)

/-! spec_Check -/
theorem spec_Check_l0 (x : List Int) (hx : Bs x) (hl : x.length ≤ 140737488355328) : ∀ (rest pre : List Int) (a b : Int), x = pre ++ rest → 0 ≤ a → a < 65521 → 0 ≤ b → b < 65521 → Ev (fun k => spec_Check.l0 k x a b (pre.length : Int)) (chk rest a b) := by
  intro rest
  induction rest with
  | nil =>
    intro pre a b he ha ha' hb hb'
    have hn : x.length = pre.length := by rw [he]; simp
    refine Ev.step (fun _ => spec_Check.l0.eq_2 ..) ?_
    refine ev_ifn (by omega) (ev_some ?_)
    rw [w64 (n := b * 65536) (by omega) (by omega), w64 (by omega) (by omega)]; rfl
  | cons c rest ih =>
    intro pre a b he ha ha' hb hb'
    have hn : x.length = pre.length + (rest.length + 1) := by rw [he]; simp
    have hc := hx c (by rw [he]; simp)
    refine Ev.step (fun _ => spec_Check.l0.eq_2 ..) ?_
    refine ev_ifp (by omega) (ev_ifp (by omega) ?_)
    have hr : rd x (pre.length : Int) = c := by rw [he]; exact rd_mid _ _ _
    simp only [hr, w64 (n := c) (by omega) (by omega), w64 (n := a + c) (by omega) (by omega), tmod_pos (n := a + c) (m := 65521) (by omega)]
    rw [w64 (n := b + (a + c) % 65521) (by omega) (by omega), tmod_pos (n := b + (a + c) % 65521) (m := 65521) (by omega)]
    simp only [wnext pre.length (by omega)]
    have := ih (pre ++ [c]) ((a + c) % 65521) ((b + (a + c) % 65521) % 65521) (by rw [he]; simp) (by omega) (by omega) (by omega) (by omega)
    simpa [chk] using this
theorem spec_Check_ev (x : List Int) (hx : Bs x) (hl : x.length ≤ 140737488355328) : Ev (fun k => spec_Check.f k x) (chk x 1 0) :=
  spec_Check_l0 x hx hl x [] 1 0 rfl (by decide) (by decide) (by decide) (by decide)

/-! spec_l2Sum -/
theorem spec_l2Sum_ev (x : List Int) (hx : Bs x) (hl : x.length ≤ 140737488355328) : Ev (fun k => spec_l2Sum.f k x) (four (chk x 1 0)) := by
  unfold spec_l2Sum.f
  exact Ev.bind (spec_Check_ev x hx hl) (ev_some rfl)

/-! spec_Seal -/
theorem spec_Seal_ev (x : List Int) (hx : Bs x) (hl : x.length ≤ 100000000) : Ev (fun k => spec_Seal.f k x) (x ++ four (chk x 1 0)) := by
  unfold spec_Seal.f
  refine ev_call rfl (ev_ifp (by simp; omega) (ev_call rfl (Ev.bind (spec_l2Sum_ev x hx (by omega)) (ev_ifp (by simp [four]; omega) (ev_some (by simp))))))

/-! laws_at -/
theorem laws_at_ok (l : List Int) (hl : Bs l) (hs : l.length ≤ 1048576) (i : Int) (h0 : 0 ≤ i) (h1 : i ≤ 1000000) : ∃ r, laws_at.f l i = some r ∧ 0 ≤ r ∧ r ≤ 255 := by
  unfold laws_at.f
  have hb := rd_bs hl i
  by_cases h : i < (l.length : Int)
  · rw [if_pos h, if_pos h0, w64 (n := rd l i) (by omega) (by omega)]
    exact ⟨_, rfl, hb.1, hb.2⟩
  · rw [if_neg h, w64 (n := i * 7) (by omega) (by omega), w64 (n := i * 7 + (l.length : Int)) (by omega) (by omega), tmod_pos (by omega)]
    exact ⟨_, rfl, by omega, by omega⟩

/-! impl_Turn -/
theorem impl_Turn_ev (x : List Int) (b : Int) (hl : x.length ≤ 100000000) (hb : I64 b) : Ev (fun k => impl_Turn.f k x b) (turn x b) := by
  unfold impl_Turn.f
  unfold I64 at hb
  refine Ev.bind (impl_join_ev [x] (by simp) (by simp; omega)) ?_
  simp only [List.flatten_cons, List.flatten_nil, List.append_nil]
  by_cases h0 : b ≥ 0
  · rw [tdiv_pos h0, tmod_pos h0, w64 (n := b / 8) (by omega) (by omega)]
    refine ev_ifp h0 ?_
    by_cases h1 : b / 8 < (x.length : Int)
    · refine ev_ifp h1 (ev_ifp (by omega) (ev_ifp h1 (ev_ifp (by omega) (ev_some ?_))))
      unfold turn
      rw [if_pos ⟨h0, h1⟩]
    · refine ev_ifn h1 (ev_some ?_)
      unfold turn
      rw [if_neg (fun h => h1 h.2)]
  · refine ev_ifn h0 (ev_some ?_)
    unfold turn
    rw [if_neg (fun h => h0 h.1)]

/-! bytes_Equal -/
theorem bytes_Equal_eq (a b : List Int) (ha : Bs a) (hb : Bs b) : bytes_Equal.f a b = some (decide (a = b)) := by
  unfold bytes_Equal.f
  congr 1
  by_cases h : a = b
  · subst h; simp
  · have : ¬ (strOfNums a).toList = (strOfNums b).toList := fun k => h ((str_inj ha hb).1 k)
    simp [h, this]

/-! impl_Open -/
theorem impl_Open_ev (x : List Int) (hx : Bs x) (hl : x.length ≤ 100000000) : Ev (fun k => impl_Open.f k x) (openB x) := by
  unfold impl_Open.f openB
  rw [w64 (n := (x.length : Int) - 4) (by omega) (by omega)]
  by_cases h : (x.length : Int) - 4 < 0
  · rw [if_pos (by omega)]
    exact ev_ifp h (ev_some rfl)
  · have e : ((x.length : Int) - 4).toNat = x.length - 4 := by omega
    rw [if_neg (by omega), e]
    refine ev_ifn h (ev_ifp (by omega) (ev_ifp (by omega) (Ev.bind (impl_Check_ev _ (hx.take _) (by rw [List.length_take]; omega)) (ev_call (impl_putFour_eq _) (ev_call (bytes_Equal_eq _ _ (four_bs _) (hx.drop _)) ?_)))))
    by_cases hc : four (chk (x.take (x.length - 4)) 1 0) = x.drop (x.length - 4)
    · rw [if_pos hc]
      refine ev_ifp (by simpa using hc) (Ev.bind (impl_join_ev _ (by simp) (by simp; omega)) (ev_some (by simp)))
    · rw [if_neg hc]
      exact ev_ifn (by simpa using hc) (ev_some rfl)

-- uses: Lib1 Lib2 Lib4
theorem FnTurned (l : List Int) (h : l.length ≤ maxLen ∧ ∀ x ∈ l, (Lit.int .u8 x).wf = true) : ∃ k, laws_FnTurned.f k l = some true := by
  obtain ⟨hs, hb⟩ := h
  have hB := bs_of hb
  refine EvP.rounds (q := true) ?_
  unfold laws_FnTurned.f
  refine EvP.eq (laws_big_eq l) ?_
  refine EvP.ite (fun _ => EvP.some rfl) (fun h => ?_)
  have hl : l.length ≤ 1048576 := by simp at h; omega
  have hd := spec_DrawSeal_ok l hB hl
  obtain ⟨x, hx, hxB, hxl⟩ := hd
  refine EvP.ev_ hx (EvP.ev_ (impl_Seal_ev x hxB (by omega)) (EvP.ev_ hx (EvP.ev_ (spec_Seal_ev x hxB (by omega)) (EvP.ifp rfl ?_))))
  have hlen : (x ++ four (chk x 1 0)).length = x.length + 4 := sealB_length x
  have hsB : Bs (x ++ four (chk x 1 0)) := sealB_bs hxB
  have key : ∀ (d i : Nat), i + d = 40 → EvP (fun k => laws_FnTurned.l0 k l (x ++ four (chk x 1 0)) (i : Int)) (fun r => r = true) := by
    intro d
    induction d with
    | zero =>
      intro i hi
      refine EvP.step (fun _ => laws_FnTurned.l0.eq_2 ..) ?_
      exact EvP.ifn (by omega) (EvP.some rfl)
    | succ d ih =>
      intro i hi
      refine EvP.step (fun _ => laws_FnTurned.l0.eq_2 ..) ?_
      obtain ⟨a, ha, ha0, ha1⟩ := laws_at_ok l hB hl i (by omega) (by omega)
      obtain ⟨b, hb2, hb0, hb1⟩ := laws_at_ok l hB hl ((i : Int) + 1) (by omega) (by omega)
      rw [w64 (n := (i : Int) + 1) (by omega) (by omega)]
      refine EvP.ifp (by omega) (EvP.eq ha (EvP.eq hb2 ?_))
      rw [w64 (n := 8 * ((x ++ four (chk x 1 0)).length : Int)) (by omega) (by omega), w64 (n := a * 256) (by omega) (by omega), w64 (n := a * 256 + b) (by omega) (by omega), tmod_pos (by omega)]
      refine EvP.ifn (by omega) ?_
      have m0 : 0 ≤ (a * 256 + b) % (8 * ((x ++ four (chk x 1 0)).length : Int)) := Int.emod_nonneg _ (by omega)
      have m1 : (a * 256 + b) % (8 * ((x ++ four (chk x 1 0)).length : Int)) < 8 * ((x ++ four (chk x 1 0)).length : Int) := Int.emod_lt_of_pos _ (by omega)
      generalize (a * 256 + b) % (8 * ((x ++ four (chk x 1 0)).length : Int)) = bit at m0 m1 ⊢
      obtain ⟨j, v, hj, ht, _, v0, v1, _⟩ := turn_form hsB m0 m1
      have htB : Bs (turn (x ++ four (chk x 1 0)) bit) := by rw [ht]; exact hsB.set j v0 v1
      have htl := turn_length (x ++ four (chk x 1 0)) bit
      refine EvP.ev_ (impl_Turn_ev _ bit (by omega) (by unfold I64; omega)) (EvP.ev_ (impl_Open_ev _ htB (by omega)) ?_)
      have ho : openB (turn (x ++ four (chk x 1 0)) bit) = ([], false) := open_turned hxB m0 m1
      rw [ho]
      refine EvP.ifn (by simp) (EvP.ifp (by rw [htl]) ?_)
      exact ih (i + 1) (by omega)
  exact key 40 0 rfl

end Go.Proofs.Ytfpghkgfodnjmaa.Pure
