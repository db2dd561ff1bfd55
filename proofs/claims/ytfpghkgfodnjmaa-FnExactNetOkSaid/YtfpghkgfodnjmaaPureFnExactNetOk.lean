/- The pure statement of FnExactNetOk: at every argument the law answers true. No condition. -/
import Derived.Test.YtfpghkgfodnjmaaMFnExactNetOkx3
import Derived.Test.YtfpghkgfodnjmaaLib1
import Derived.Test.YtfpghkgfodnjmaaLib2
set_option linter.unusedVariables false
set_option linter.unusedSimpArgs false
namespace Go.Proofs.Ytfpghkgfodnjmaa.Pure
open Go.RowKit Go.Proofs.Ytfpghkgfodnjmaa.MFnExactNetOk Go.Proofs.YtfpghkgfodnjmaaW.PrintWords Go.Proofs.YtfpghkgfodnjmaaW.PrintLast Go.Proofs.YtfpghkgfodnjmaaW.PrintMore Go.Proofs.YtfpghkgfodnjmaaLib

/-! laws_szByteS -/
theorem laws_szByteS_ok (x : List Int) (left : Int) (h0 : 0 ≤ left) (h1 : left ≤ 1048576) (hx : x.length ≤ 9223372036854775807) : ∃ z, laws_szByteS.f x left = some z ∧ z ≤ left ∧ (0 ≤ z → z = left - x.length) := by
  unfold laws_szByteS.f
  rw [w64 (n := left - (x.length : Int)) (by omega) (by omega)]
  by_cases h : left - (x.length : Int) < 0
  · rw [if_pos h]; exact ⟨_, rfl, by omega, fun h => absurd h (by decide)⟩
  · rw [if_neg h]; exact ⟨_, rfl, by omega, fun _ => rfl⟩

/-! laws_szPacketS -/
/-- A net's size lets in packets of bounded bytes alone. -/
theorem laws_szPacketS_l0 (l : List S90) (hl : l.length ≤ 1048576) (hb : ∀ x ∈ l, x.f2.length ≤ 9223372036854775807) : ∀ (d i : Nat) (left : Int), i + d = l.length → 0 ≤ left → left ≤ 1048576 →
    EvP (fun k => laws_szPacketS.l0 k l left (i : Int)) (fun z => z ≤ 1048576 ∧ (0 ≤ z → ∀ (j : Nat) (hj : j < l.length), i ≤ j → l[j].f2.length ≤ 1048576)) := by
  intro d
  induction d with
  | zero =>
    intro i left hi h0 h1
    refine EvP.step (fun _ => laws_szPacketS.l0.eq_2 ..) ?_
    exact EvP.ifn (by omega) (EvP.some ⟨h1, fun _ j hj hij => by omega⟩)
  | succ d ih =>
    intro i left hi h0 h1
    refine EvP.step (fun _ => laws_szPacketS.l0.eq_2 ..) ?_
    have hil : i < l.length := by omega
    have e : rd_T90 l (i : Int) = l[i] := by simp [rd_T90, List.getD, hil]
    rw [e]
    obtain ⟨z, hz, hz1, hz2⟩ := laws_szByteS_ok l[i].f2 left h0 h1 (hb _ (List.getElem_mem _))
    refine EvP.ifp (by omega) (EvP.ifp (by omega) ?_)
    have hp : ∃ z, laws_szPacket.f l[i].f0 l[i].f1 l[i].f2 l[i].f3 left = some z ∧ z ≤ left ∧ (0 ≤ z → z = left - l[i].f2.length) := by
      unfold laws_szPacket.f
      rw [hz, Option.bind_some]
      by_cases h : z < 0
      · rw [if_pos h]; exact ⟨_, rfl, by omega, fun h => absurd h (by decide)⟩
      · rw [if_neg h]; exact ⟨_, rfl, hz1, hz2⟩
    obtain ⟨y, hy, hy1, hy2⟩ := hp
    refine EvP.eq hy (EvP.ite (fun _ => EvP.some ⟨by decide, fun h => absurd h (by decide)⟩) (fun hn => ?_))
    rw [wnext i (by omega)]
    refine (ih (i + 1) y (by omega) (by omega) (by omega)).imp (fun r hr => ⟨hr.1, fun h j hj hij => ?_⟩)
    by_cases hji : j = i
    · subst hji
      have := hy2 (by omega)
      omega
    · exact hr.2 h j hj (by omega)
theorem laws_szPacketS_ok (l : List S90) (hl : l.length ≤ 9223372036854775807) (hb : ∀ x ∈ l, x.f2.length ≤ 9223372036854775807) :
    EvP (fun k => laws_szPacketS.f k l 1048576) (fun z => z ≤ 1048576 ∧ (0 ≤ z → l.length ≤ 1048576 ∧ ∀ x ∈ l, x.f2.length ≤ 1048576)) := by
  unfold laws_szPacketS.f
  rw [w64 (n := (1048576 : Int) - (l.length : Int)) (by omega) (by omega)]
  refine EvP.ite (fun _ => EvP.some ⟨by decide, fun h => absurd h (by decide)⟩) (fun h => ?_)
  refine (laws_szPacketS_l0 l (by omega) hb l.length 0 _ (by omega) (by omega) (by omega)).imp (fun r hr => ⟨hr.1, fun h0 => ⟨by omega, fun x hx => ?_⟩⟩)
  obtain ⟨j, hj, rfl⟩ := List.getElem_of_mem hx
  exact hr.2 h0 j hj (by omega)

/-! laws_szNet -/
theorem laws_szNet_ok (s : Int) (l : List S90) (hl : l.length ≤ 9223372036854775807) (hb : ∀ x ∈ l, x.f2.length ≤ 9223372036854775807) :
    EvP (fun k => laws_szNet.f k s l 1048576) (fun z => 0 ≤ z → l.length ≤ 1048576 ∧ ∀ x ∈ l, x.f2.length ≤ 1048576) := by
  unfold laws_szNet.f
  refine EvP.bind (laws_szPacketS_ok l hl hb) (fun z hz => EvP.ite (fun _ => EvP.some (fun h => absurd h (by decide))) (fun _ => EvP.some hz.2))

/-! spec_l4Packet -/
def packetOk (p : S68) (size : Int) : Bool := decide ((0 ≤ p.f0 ∧ p.f0 < size) ∧ (0 ≤ p.f1 ∧ p.f1 < size) ∧ (p.f2.length : Int) ≤ 4000)
def netOk (size : Int) (l : List S68) : Bool := (List.range l.length).all (fun i => packetOk (rd_T68 l (i : Int)) size) && (decide (1 ≤ size ∧ size ≤ 4) && decide ((l.length : Int) ≤ 60))
theorem spec_l4Packet_eq (p : S68) (size : Int) : spec_l4Packet.f p.f0 p.f1 p.f2 p.f3 size = some (packetOk p size) := by
  unfold spec_l4Packet.f packetOk
  by_cases h1 : p.f0 ≥ 0
  · rw [if_pos h1]
    by_cases h2 : p.f0 < size
    · rw [if_pos h2]
      by_cases h3 : p.f1 ≥ 0
      · rw [if_pos h3]
        by_cases h4 : p.f1 < size
        · rw [if_pos h4]; congr 1; rw [decide_eq_decide]; omega
        · rw [if_neg h4]; congr 1; simp; omega
      · rw [if_neg h3]; congr 1; simp; omega
    · rw [if_neg h2]; congr 1; simp; omega
  · rw [if_neg h1]; congr 1; simp; omega

/-! spec_l1In -/
theorem spec_l1In_eq (a b c : Int) : spec_l1In.f a b c = some (decide (b ≤ a ∧ a ≤ c)) := by
  unfold spec_l1In.f
  by_cases h : a ≥ b
  · rw [if_pos h]; congr 1; simp; omega
  · rw [if_neg h]; congr 1; simp; omega

/-! spec_NetOk -/
theorem spec_NetOk_ev (size : Int) (l : List S68) (hl : l.length ≤ 140737488355328) : Ev (fun k => spec_NetOk.f k size l) (netOk size l) := by
  refine all_ev (F := fun k i => spec_NetOk.l0 k i size l) (fun i hi hg r hr => ?_) (fun i hi hg => ?_) ?_
  · refine Ev.step (fun _ => spec_NetOk.l0.eq_2 ..) ?_
    rw [wnext i (by omega)]
    exact ev_ifp (by omega) (ev_ifp (by omega) (ev_call (spec_l4Packet_eq ..) (ev_ifp hg hr)))
  · refine Ev.step (fun _ => spec_NetOk.l0.eq_2 ..) ?_
    exact ev_ifp (by omega) (ev_ifp (by omega) (ev_call (spec_l4Packet_eq ..) (ev_ifn (by rw [hg]; simp) (ev_some rfl))))
  · refine Ev.step (fun _ => spec_NetOk.l0.eq_2 ..) ?_
    refine ev_ifn (by omega) (ev_call (spec_l1In_eq ..) ?_)
    by_cases h : 1 ≤ size ∧ size ≤ 4
    · exact ev_ifp (by simpa using h) (ev_some (by simp [h]))
    · exact ev_ifn (by simpa using h) (ev_some (by simp only [decide_eq_false h, Bool.false_and]))

/-! laws_toByteS -/
theorem laws_toByteS_l0 (x : List Int) (hx : x.length ≤ 140737488355328) : ∀ (d : Nat) (acc : List Int) (i : Nat), i + d = x.length → acc.length = x.length → acc.take i = x.take i → Ev (fun k => laws_toByteS.l0 k x acc (i : Int)) x := by
  intro d
  induction d with
  | zero =>
    intro acc i hi hl ht
    refine Ev.step (fun _ => laws_toByteS.l0.eq_2 ..) ?_
    refine ev_ifn (by omega) (ev_some ?_)
    have h1 : acc.take i = acc := List.take_of_length_le (by omega)
    have h2 : x.take i = x := List.take_of_length_le (by omega)
    rw [h1, h2] at ht
    exact ht
  | succ d ih =>
    intro acc i hi hl ht
    refine Ev.step (fun _ => laws_toByteS.l0.eq_2 ..) ?_
    refine ev_ifp (by omega) (ev_ifp (by omega) (ev_ifp (by omega) ?_))
    simp only [wnext i (by omega)]
    refine ih _ (i + 1) (by omega) (by rw [List.length_set]; exact hl) ?_
    rw [rd_nat x i (by omega), Int.toNat_natCast]
    apply List.ext_getElem?
    intro j
    rw [List.getElem?_take, List.getElem?_take]
    by_cases hj : j < i + 1
    · rw [if_pos hj, if_pos hj]
      by_cases hji : j = i
      · subst hji
        rw [List.getElem?_set_self (by omega), List.getElem?_eq_getElem (by omega)]
      · rw [List.getElem?_set_ne (by omega)]
        have := congrArg (fun l => l[j]?) ht
        simp only [List.getElem?_take] at this
        rwa [if_pos (by omega), if_pos (by omega)] at this
    · rw [if_neg hj, if_neg hj]
theorem laws_toByteS_ev (x : List Int) (hx : x.length ≤ 140737488355328) : Ev (fun k => laws_toByteS.f k x) x := by
  unfold laws_toByteS.f
  refine ev_ifp (by omega) (ev_ifp (by omega) ?_)
  exact laws_toByteS_l0 x hx x.length _ 0 (by omega) (by simp) (by simp)

/-! laws_toPacketS -/
def toPacket (x : S90) : S68 := ⟨x.f0, x.f1, x.f2, x.f3⟩
theorem laws_toPacketS_ev (x : List S90) (hx : x.length ≤ 10000000) (hb : ∀ y ∈ x, y.f2.length ≤ 10000000) : Ev (fun k => laws_toPacketS.f k x) (x.map toPacket) := by
  unfold laws_toPacketS.f
  refine ev_ifp (by omega) (ev_ifp (by omega) ?_)
  refine copy_ev (F := fun k acc i => laws_toPacketS.l0 k x acc i) (fun i hi acc hl r hr => ?_) (fun acc hl => ?_) _ (by simp)
  · refine Ev.step (fun _ => laws_toPacketS.l0.eq_2 ..) ?_
    have e : rd_T90 x (i : Int) = x[i] := by simp [rd_T90, List.getD, hi]
    rw [e]
    have hp : Ev (fun k => laws_toPacket.f k x[i].f0 x[i].f1 x[i].f2 x[i].f3) (x[i].f0, x[i].f1, x[i].f2, x[i].f3) := by
      unfold laws_toPacket.f
      exact Ev.bind (laws_toByteS_ev _ (by have := hb x[i] (List.getElem_mem _); omega)) (ev_some rfl)
    refine ev_ifp (by omega) (ev_ifp (by omega) (Ev.bind hp (ev_ifp (by omega) ?_)))
    rw [wnext i (by omega)]
    simpa [toPacket] using hr
  · refine Ev.step (fun _ => laws_toPacketS.l0.eq_2 ..) ?_
    exact ev_ifn (by omega) (ev_some rfl)

/-! laws_toNet -/
theorem laws_toNet_ev (s : Int) (x : List S90) (hx : x.length ≤ 10000000) (hb : ∀ y ∈ x, y.f2.length ≤ 10000000) : Ev (fun k => laws_toNet.f k s x) (s, x.map toPacket) := by
  unfold laws_toNet.f
  exact Ev.bind (laws_toPacketS_ev x hx hb) (ev_some rfl)

/-! impl_within -/
theorem impl_within_eq (a b c : Int) : impl_within.f a b c = some (decide (b ≤ a ∧ a ≤ c)) := by
  unfold impl_within.f
  by_cases h : a ≥ b
  · rw [if_pos h]; congr 1; simp; omega
  · rw [if_neg h]; congr 1; simp; omega

/-! impl_NetOk -/
theorem impl_NetOk_ev (size : Int) (l : List S68) (hl : l.length ≤ 140737488355328) (hs : I64 size) : Ev (fun k => impl_NetOk.f k size l) (netOk size l) := by
  unfold I64 at hs
  refine ev_to (all_ev (F := fun k i => impl_NetOk.l0 k l (l.length : Int) i size l) (n := l.length) (good := fun i => decide ((0 ≤ (rd_T68 l (i : Int)).f0 ∧ (rd_T68 l (i : Int)).f0 ≤ wrap64 (size - 1)) ∧ (0 ≤ (rd_T68 l (i : Int)).f1 ∧ (rd_T68 l (i : Int)).f1 ≤ wrap64 (size - 1)) ∧ ((rd_T68 l (i : Int)).f2.length : Int) ≤ 4000))
    (fin := decide (1 ≤ size ∧ size ≤ 4) && decide ((l.length : Int) ≤ 60)) (fun i hi hg r hr => ?_) (fun i hi hg => ?_) ?_) ?_
  · simp only [decide_eq_true_eq] at hg
    obtain ⟨g0, g1, g2⟩ := hg
    refine Ev.step (fun _ => impl_NetOk.l0.eq_2 ..) ?_
    rw [wnext i (by omega)]
    exact ev_ifp (by omega) (ev_ifp (by omega) (ev_ifp (by omega) (ev_call (impl_within_eq ..) (ev_ifp (by simpa using g0) (ev_call (impl_within_eq ..) (ev_ifp (by simpa using g1) (ev_ifn (by omega) hr)))))))
  · simp only [decide_eq_false_iff_not] at hg
    refine Ev.step (fun _ => impl_NetOk.l0.eq_2 ..) ?_
    refine ev_ifp (by omega) (ev_ifp (by omega) (ev_ifp (by omega) (ev_call (impl_within_eq ..) (ev_if (fun g0 => ?_) (fun _ => ev_some rfl)))))
    refine ev_call (impl_within_eq ..) (ev_if (fun g1 => ev_ifp ?_ (ev_some rfl)) (fun _ => ev_some rfl))
    simp only [decide_eq_true_eq] at g0 g1
    by_cases g2 : ((rd_T68 l (i : Int)).f2.length : Int) ≤ 4000
    · exact absurd ⟨g0, g1, g2⟩ hg
    · omega
  · refine Ev.step (fun _ => impl_NetOk.l0.eq_2 ..) ?_
    refine ev_ifn (by omega) (ev_call (impl_within_eq ..) ?_)
    by_cases h : 1 ≤ size ∧ size ≤ 4
    · exact ev_ifp (by simpa using h) (ev_some (by simp [h]))
    · exact ev_ifn (by simpa using h) (ev_some (by simp only [decide_eq_false h, Bool.false_and]))
  · unfold netOk
    by_cases h : 1 ≤ size ∧ size ≤ 4
    · rw [w64 (n := size - 1) (by omega) (by omega)]
      congr 1
      apply List.all_congr rfl
      intro i
      unfold packetOk
      apply decide_eq_decide.2
      omega
    · simp only [decide_eq_false h, Bool.false_and, Bool.and_false]

/-! laws_eqByteS -/
theorem laws_eqByteS_l0 (x : List Int) (hx : x.length ≤ 140737488355328) : ∀ (d i : Nat), i + d = x.length → Ev (fun k => laws_eqByteS.l0 k x x (i : Int)) true := by
  intro d
  induction d with
  | zero =>
    intro i hi
    refine Ev.step (fun _ => laws_eqByteS.l0.eq_2 ..) ?_
    exact ev_ifn (by omega) (ev_some rfl)
  | succ d ih =>
    intro i hi
    refine Ev.step (fun _ => laws_eqByteS.l0.eq_2 ..) ?_
    refine ev_ifp (by omega) (ev_ifp (by omega) (ev_ifp (by omega) (ev_ifp rfl ?_)))
    simp only [wnext i (by omega)]
    exact ih (i + 1) (by omega)
theorem laws_eqByteS_ev (x : List Int) (hx : x.length ≤ 140737488355328) : Ev (fun k => laws_eqByteS.f k x x) true := by
  unfold laws_eqByteS.f
  exact ev_ifp rfl (laws_eqByteS_l0 x hx x.length 0 (by omega))

/-! laws_eqPacketS -/
theorem laws_eqPacketS_ev (x : List S68) (hx : x.length ≤ 10000000) (hb : ∀ y ∈ x, y.f2.length ≤ 10000000) : Ev (fun k => laws_eqPacketS.f k x x) true := by
  unfold laws_eqPacketS.f
  refine ev_ifp rfl ?_
  refine ev_to (all_ev (F := fun k i => laws_eqPacketS.l0 k x x i) (n := x.length) (good := fun _ => true) (fin := true) (fun i hi hg r hr => ?_) (fun i hi hg => by cases hg) ?_) (by simp)
  · refine Ev.step (fun _ => laws_eqPacketS.l0.eq_2 ..) ?_
    have e : rd_T68 x (i : Int) = x[i] := by simp [rd_T68, List.getD, hi]
    have hp : Ev (fun k => laws_eqPacket.f k x[i].f0 x[i].f1 x[i].f2 x[i].f3 x[i].f0 x[i].f1 x[i].f2 x[i].f3) true := by
      unfold laws_eqPacket.f
      exact ev_ifp rfl (ev_ifp rfl (Ev.bind (laws_eqByteS_ev _ (by have := hb x[i] (List.getElem_mem _); omega)) (ev_ifp rfl (ev_ifn (by simp) (ev_some rfl)))))
    rw [e]
    refine ev_ifp (by omega) (ev_ifp (by omega) (ev_ifp (by omega) (Ev.bind hp (ev_ifp rfl ?_))))
    rw [wnext i (by omega)]
    exact hr
  · refine Ev.step (fun _ => laws_eqPacketS.l0.eq_2 ..) ?_
    exact ev_ifn (by omega) (ev_some rfl)

/-! laws_eqNet -/
theorem laws_eqNet_ev (s : Int) (x : List S68) (hx : x.length ≤ 10000000) (hb : ∀ y ∈ x, y.f2.length ≤ 10000000) : Ev (fun k => laws_eqNet.f k s x s x) true := by
  unfold laws_eqNet.f
  exact ev_ifp rfl (Ev.bind (laws_eqPacketS_ev x hx hb) (ev_ifp rfl (ev_some rfl)))

theorem FnExactNetOk (s : Int) (l : List S90) (hs : (Lit.int .i64 s).wf = true)
    (h : l.length ≤ maxLen ∧ ∀ x ∈ l, (Lit.int .i64 x.f0).wf = true ∧ (Lit.int .i64 x.f1).wf = true ∧ (x.f2.length ≤ maxLen ∧ ∀ y ∈ x.f2, (Lit.int .u8 y).wf = true) ∧ True) : ∃ k, laws_FnExactNetOk.f k s l = some true := by
  obtain ⟨hl, hb⟩ := h
  unfold maxLen at hl
  refine EvP.rounds (q := true) ?_
  unfold laws_FnExactNetOk.f
  refine EvP.bind (laws_szNet_ok s l (by omega) (fun x hx => by have := (hb x hx).2.2.1.1; unfold maxLen at this; omega)) (fun z hz => EvP.ite (fun _ => EvP.some rfl) (fun hn => ?_))
  obtain ⟨h1, h2⟩ := hz (by omega)
  have t := laws_toNet_ev s l (by omega) (fun y hy => by have := h2 y hy; omega)
  have hm : (l.map toPacket).length ≤ 10000000 := by rw [List.length_map]; omega
  have hmb : ∀ y ∈ l.map toPacket, y.f2.length ≤ 10000000 := fun y hy => by
    obtain ⟨x, hx, rfl⟩ := List.mem_map.1 hy
    have := h2 x hx
    show x.f2.length ≤ 10000000
    omega
  refine EvP.ev_ t (EvP.ev_ (spec_NetOk_ev s (l.map toPacket) (by omega)) (EvP.ev_ t (EvP.ev_ (impl_NetOk_ev s (l.map toPacket) (by omega) (i64_of hs)) (EvP.ifn (by simp) (EvP.ev_ t (EvP.ev_ (laws_eqNet_ev s _ hm hmb) (EvP.ifp rfl (EvP.some rfl))))))))

end Go.Proofs.Ytfpghkgfodnjmaa.Pure
