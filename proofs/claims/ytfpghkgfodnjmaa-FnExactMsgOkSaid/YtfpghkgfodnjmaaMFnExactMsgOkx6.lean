-- Written by a program of this session (wip/mprint.py) out of the translation's own print; Lean checks it.
import Derived.Test.YtfpghkgfodnjmaaMFnExactMsgOkx0
import Derived.Test.YtfpghkgfodnjmaaMFnExactMsgOkx5
namespace Go.Proofs.Ytfpghkgfodnjmaa.MFnExactMsgOk
open Go.RowKit Go.Proofs.YtfpghkgfodnjmaaW.PrintWords Go.Proofs.YtfpghkgfodnjmaaW.PrintLast Go.Proofs.YtfpghkgfodnjmaaW.PrintMore Go.Proofs.YtfpghkgfodnjmaaLib
attribute [local go_sem] max2_int min2_int max_two min_two max_three min_three max_four min_four   -- for this text's walks alone
set_option linter.unusedVariables false
set_option linter.unusedSimpArgs false

/-! ### impl_cellsOk: function 125 -/
mutual
def impl_cellsOk.l0 : Nat → List (S158) → List (S158) → Int → Int → Option (Bool)
 | 0, _, _, _, _ => none
 | k + 1, x0, x5, x6, x7 => if x7 < x6 then (if 0 ≤ x7 then (if x7 < (x5.length : Int) then ((impl_within.f ((rd_T158 x5 x7).f0) 0 7).bind fun t176 => (if t176 = true then ((impl_ValOk.f ((rd_T158 x5 x7).f1.f0) ((rd_T158 x5 x7).f1.f1)).bind fun t177 => (if t177 = true then (if x7 > 0 then (if 0 ≤ (wrap64 (x7 - 1)) then (if (wrap64 (x7 - 1)) < (x0.length : Int) then (impl_cellsOk.j1 k x0 x5 x6 x7 (decide (((rd_T158 x0 (wrap64 (x7 - 1))).f0) ≥ ((rd_T158 x5 x7).f0)))) else (none)) else (none)) else (impl_cellsOk.j1 k x0 x5 x6 x7 false)) else (impl_cellsOk.j1 k x0 x5 x6 x7 true))) else (impl_cellsOk.j1 k x0 x5 x6 x7 true))) else (none)) else (none)) else (some (decide ((x0.length : Int) ≤ 8)))
def impl_cellsOk.j1 : Nat → List (S158) → List (S158) → Int → Int → Bool → Option (Bool)
 | 0, _, _, _, _, _ => none
 | k + 1, x0, x5, x6, x7, x36 => if x36 = true then (some false) else (impl_cellsOk.l0 k x0 x5 x6 (wrap64 (x7 + 1)))
end
def impl_cellsOk.f (k : Nat) (l0 : List (S158)) : Option (Bool) := impl_cellsOk.l0 k l0 l0 (l0.length : Int) 0
def impl_cellsOk.T4 : Bool × List (List Nat × List Nat) := (true, [([], []), ([0], [0]), ([1], [1]), ([2], [2]), ([3, 2], [3]), ([4], [4]), ([5, 4], [4, 5]), ([6, 4, 4], [4, 6]), ([7, 4], [4, 7]), ([4, 8], [4, 8]), ([9, 7], [9]), ([10], [10]), ([11, 10], [10, 11]), ([12, 10, 10], [10, 12]), ([13], [13]), ([13], [13]), ([15, 13], [13, 15]), ([14, 16, 13], [13, 14, 16]), ([17, 13], [13, 17]), ([18, 13], [13, 18]), ([13], [13]), ([20, 13], [13, 20]), ([19, 21, 13], [13, 19, 21]), ([13, 22, 10], [10, 13, 22]), ([10, 23], [10, 23])])
def impl_cellsOk.B4 : List Nat := [0, 1, 3, 7, 15, 31, 63, 127, 255, 511, 1023, 2047, 4095, 8191, 16383, 16383, 49151, 131071, 262143, 524287, 16383, 1064959, 4194303, 8388607, 16777215]
theorem impl_cellsOk.tab4 : rtab .any (opsOf Try.f125 4) = impl_cellsOk.T4 := by kernel_rfl
theorem impl_cellsOk.bits4 : waitsOk impl_cellsOk.T4.2 impl_cellsOk.B4 = true := by kernel_rfl
set_option maxHeartbeats 8000000 in
set_option maxRecDepth 100000 in
theorem impl_cellsOk.calls (k : Nat) (A0 : Option Addr) (c0 : Nat) (l0 : List (S158)) (r : Bool) (w : World) (hr0 : Kd.C k158 w A0 l0.length l0) (hc0 : l0.length ≤ c0) (h : impl_cellsOk.f k l0 = some r) :
  Calls Try.prog 125 #[.slice A0 l0.length c0] w fun e w' => e = .returned (.bool r) ∧ Below w.heap.size w w' := by
 have hu158 := Try.underlying158
 have hu156 := Try.underlying156
 have HR0 := Aside0.mk hr0
 have HC0 := Aside0.mk hc0
 clear hr0 hc0
 have HB := Aside0.mk (Below.refl w.heap.size w)
 have H : (impl_cellsOk.l0 k l0 l0 (l0.length : Int) 0) = some r := h
 clear h
 have H' := Aside0.mk H
 clear H
 go_enter Try.func125, Try.ntmps125
 go_wp2
 (try simp only [Act.put, sa_, sz_, ss_])
 go_loopg [7] k (fun kq v7 w' => ∃ (x7_1 : Int), v7 = .int .i64 x7_1 ∧ Aside0 (impl_cellsOk.l0 kq l0 l0 (l0.length : Int) x7_1 = some r) ∧ Aside0 (kq ≤ k) ∧ Aside0 (Below w.heap.size w w'))
 case atStart => exact ⟨(0), (by first | rfl | (simp; done) | (simp [*]; done)), H', ⟨Nat.le_refl _⟩, ⟨by repeat (first | (with_reducible first | exact HB.out | apply below_alloc | apply pw_below_drewN | apply below_drew1) | exact HB.out)⟩⟩
 case round =>
  clear H'
  try clear c1
  obtain ⟨x7_1, rfl, HA, HK1, HB⟩ := hrel
  cases gk with
  | zero => exact absurd (HA.out.symm.trans (by rw [impl_cellsOk.l0])) (fun h_ => by cases h_)
  | succ k1 =>
   have H := HA.out
   clear HA
   simp only [impl_cellsOk.l0] at H
   by_cases c2 : x7_1 < (l0.length : Int)
   case neg =>
    rw [if_neg c2] at H
    have c2b0 : decide (x7_1 < (l0.length : Int)) = false := decide_eq_false c2
    clear c2
    obtain rfl := Option.some.inj H
    go_wp2
    go_ret
    exact ⟨by first | rfl | (simp [errW_none, errW_some] <;> rfl) | (simp [*, errW_none, errW_some] <;> rfl), by repeat (first | (with_reducible first | exact HB.out | apply below_alloc | apply pw_below_drewN | apply below_drew1) | exact HB.out)⟩
   rw [if_pos c2] at H
   have c2b0 : decide (x7_1 < (l0.length : Int)) = true := decide_eq_true c2
   clear c2
   by_cases c3 : 0 ≤ x7_1
   case neg => rw [if_neg c3] at H; exact absurd H (by simp)
   rw [if_pos c3] at H
   have c3b0 : decide (0 ≤ x7_1) = true := decide_eq_true c3
   clear c3
   by_cases c4 : x7_1 < (l0.length : Int)
   case neg => rw [if_neg c4] at H; exact absurd H (by simp)
   rw [if_pos c4] at H
   have c4b0 : decide (x7_1 < (l0.length : Int)) = true := decide_eq_true c4
   clear c4
   have HC5 := Aside0.mk H
   clear H
   have p174 : 0 ≤ (x7_1 : Int) := of_decide_eq_true (by first | (with_reducible assumption) | assumption)
   have q174 : x7_1 < (l0.length : Int) := of_decide_eq_true (by first | (with_reducible assumption) | assumption)
   obtain ⟨ad174, e174, hx174_0, hx174_1, hx174_2⟩ := at_T158 HR0.out x7_1 p174 q174
   cases e174
   replace hx174_0 := (HB.out.cell (World.block_lt_of_cell? w _ hx174_0)).trans hx174_0
   replace hx174_1 := (HB.out.cell (World.block_lt_of_cell? w _ hx174_1)).trans hx174_1
   replace hx174_2 := (HB.out.cell (World.block_lt_of_cell? w _ hx174_2)).trans hx174_2
   replace p174 := eq_true p174
   replace q174 := eq_true q174
   go_upto_region 4 with (first | ((with_reducible refine gate_dst (N := 4) rfl ?_); refine box_event ?hg (N := 4) ?hd (cs := #[.int .i64 0, .bool false, .int .i64 0]) (t := 158) ?hr ?_; (case hd => rfl); (case hg => rfl); (case hr => first | (go_simp; done) | (go_simp; rfl)); intro gb175 hg w6 hbox hb; have n0_ := Aside0.mk (below_step (by repeat (first | (with_reducible first | exact HB.out | apply below_alloc | apply pw_below_drewN | apply below_drew1) | exact HB.out)) hb); have n1_ := Aside0.mk (hbox); have n2_ := Aside0.mk ((by rw [hg]; exact (below_size (by repeat (first | (with_reducible first | exact HB.out | apply below_alloc | apply pw_below_drewN | apply below_drew1) | exact HB.out))) : w.heap.size ≤ gb175)); have n3_ := Aside0.mk ((by rw [hg]; exact (below_size (by repeat (first | (with_reducible first | exact HB.out | apply below_alloc | apply pw_below_drewN | apply below_drew1) | exact HB.out))) : w.heap.size ≤ gb175)); clear HB; have HB := n0_; have BK175 := n1_; have GW175 := n2_; have GE175 := n3_; clear n0_ n1_ n2_ n3_; clear hb hbox hg; have hcz7_0 : w6.cell? ⟨gb175, 0, none⟩ = some (.int .i64 0) := (blk_cell BK175.out 0).trans rfl; have hcz7_1 : w6.cell? ⟨gb175, 1, none⟩ = some (.bool false) := (blk_cell BK175.out 1).trans rfl; have hcz7_2 : w6.cell? ⟨gb175, 2, none⟩ = some (.int .i64 0) := (blk_cell BK175.out 2).trans rfl; have hfz7_0 := blk_frozen BK175.out 0; have hfz7_1 := blk_frozen BK175.out 1; have hfz7_2 := blk_frozen BK175.out 2))
   (try simp only [Act.put, sa_, sz_, ss_])
   go_cut [36] (fun v36 wc => ∃ (kq : Nat) (x36_4 : Bool), v36 = .bool x36_4 ∧ Aside0 (impl_cellsOk.j1 kq l0 l0 (l0.length : Int) x7_1 x36_4 = some r) ∧ Aside0 (kq ≤ k1) ∧ Aside0 (wc.heap[gb175]? = some (.cells #[.int .i64 ((rd_T158 l0 x7_1).f0), .bool ((rd_T158 l0 x7_1).f1.f0), .int .i64 ((rd_T158 l0 x7_1).f1.f1)] 158 (0, 0))) ∧ Aside0 (Below w.heap.size w wc))
   case first =>
    have H := HC5.out
    clear HC5
    replace H := Option.bind_eq_some_iff.mp H
    obtain ⟨t176, A80, H⟩ := H
    replace H : (if t176 = true then ((impl_ValOk.f ((rd_T158 l0 x7_1).f1.f0) ((rd_T158 l0 x7_1).f1.f1)).bind fun t177 => (if t177 = true then (if x7_1 > 0 then (if 0 ≤ (wrap64 (x7_1 - 1)) then (if (wrap64 (x7_1 - 1)) < (l0.length : Int) then (impl_cellsOk.j1 k1 l0 l0 (l0.length : Int) x7_1 (decide (((rd_T158 l0 (wrap64 (x7_1 - 1))).f0) ≥ ((rd_T158 l0 x7_1).f0)))) else (none)) else (none)) else (impl_cellsOk.j1 k1 l0 l0 (l0.length : Int) x7_1 false)) else (impl_cellsOk.j1 k1 l0 l0 (l0.length : Int) x7_1 true))) else (impl_cellsOk.j1 k1 l0 l0 (l0.length : Int) x7_1 true)) = some r := H
    have A8 := Aside0.mk A80
    clear A80
    by_cases c9 : t176 = true
    ·subst c9
     have H1 : ((impl_ValOk.f ((rd_T158 l0 x7_1).f1.f0) ((rd_T158 l0 x7_1).f1.f1)).bind fun t177 => (if t177 = true then (if x7_1 > 0 then (if 0 ≤ (wrap64 (x7_1 - 1)) then (if (wrap64 (x7_1 - 1)) < (l0.length : Int) then (impl_cellsOk.j1 k1 l0 l0 (l0.length : Int) x7_1 (decide (((rd_T158 l0 (wrap64 (x7_1 - 1))).f0) ≥ ((rd_T158 l0 x7_1).f0)))) else (none)) else (none)) else (impl_cellsOk.j1 k1 l0 l0 (l0.length : Int) x7_1 false)) else (impl_cellsOk.j1 k1 l0 l0 (l0.length : Int) x7_1 true))) = some r := by rw [if_pos rfl] at H; exact H
     clear H
     have H := H1
     clear H1
     replace H := Option.bind_eq_some_iff.mp H
     obtain ⟨t177, A100, H⟩ := H
     replace H : (if t177 = true then (if x7_1 > 0 then (if 0 ≤ (wrap64 (x7_1 - 1)) then (if (wrap64 (x7_1 - 1)) < (l0.length : Int) then (impl_cellsOk.j1 k1 l0 l0 (l0.length : Int) x7_1 (decide (((rd_T158 l0 (wrap64 (x7_1 - 1))).f0) ≥ ((rd_T158 l0 x7_1).f0)))) else (none)) else (none)) else (impl_cellsOk.j1 k1 l0 l0 (l0.length : Int) x7_1 false)) else (impl_cellsOk.j1 k1 l0 l0 (l0.length : Int) x7_1 true)) = some r := H
     have A10 := Aside0.mk A100
     clear A100
     by_cases c11 : t177 = true
     ·subst c11
      have H1 : (if x7_1 > 0 then (if 0 ≤ (wrap64 (x7_1 - 1)) then (if (wrap64 (x7_1 - 1)) < (l0.length : Int) then (impl_cellsOk.j1 k1 l0 l0 (l0.length : Int) x7_1 (decide (((rd_T158 l0 (wrap64 (x7_1 - 1))).f0) ≥ ((rd_T158 l0 x7_1).f0)))) else (none)) else (none)) else (impl_cellsOk.j1 k1 l0 l0 (l0.length : Int) x7_1 false)) = some r := by rw [if_pos rfl] at H; exact H
      clear H
      have H := H1
      clear H1
      by_cases c12 : x7_1 > 0
      case neg =>
       rw [if_neg c12] at H
       have c12b0 : decide (0 < x7_1) = false := decide_eq_false c12
       clear c12
       (first | rw [c12b0] | (simp only [i64_w, i32_w]; rw [c12b0]) | skip)
       have H' := Aside0.mk H
       clear H
       try go_wp2
       have n0_ : Aside0 ((((w6.setCell ⟨gb175, 0, none⟩ (.int .i64 ((rd_T158 l0 x7_1).f0))).setCell ⟨gb175, 1, none⟩ (.bool ((rd_T158 l0 x7_1).f1.f0))).setCell ⟨gb175, 2, none⟩ (.int .i64 ((rd_T158 l0 x7_1).f1.f1))).heap[gb175]? = some (.cells #[.int .i64 ((rd_T158 l0 x7_1).f0), .bool ((rd_T158 l0 x7_1).f1.f0), .int .i64 ((rd_T158 l0 x7_1).f1.f1)] 158 (0, 0))) := ⟨by (with_reducible repeat (first | refine blk_drewN ?_ _ | refine blk_drew ?_ | refine blk_alloc ?_ _)); refine blk_put (cs := #[.int .i64 ((rd_T158 l0 x7_1).f0), .bool ((rd_T158 l0 x7_1).f1.f0), .int .i64 0]) ?_ 2 _ rfl; (with_reducible repeat (first | refine blk_drewN ?_ _ | refine blk_drew ?_ | refine blk_alloc ?_ _)); refine blk_put (cs := #[.int .i64 ((rd_T158 l0 x7_1).f0), .bool false, .int .i64 0]) ?_ 1 _ rfl; (with_reducible repeat (first | refine blk_drewN ?_ _ | refine blk_drew ?_ | refine blk_alloc ?_ _)); refine blk_put (cs := #[.int .i64 0, .bool false, .int .i64 0]) ?_ 0 _ rfl; (with_reducible repeat (first | refine blk_drewN ?_ _ | refine blk_drew ?_ | refine blk_alloc ?_ _)); exact BK175.out⟩
       have n1_ : Aside0 (Below w.heap.size w (((w6.setCell ⟨gb175, 0, none⟩ (.int .i64 ((rd_T158 l0 x7_1).f0))).setCell ⟨gb175, 1, none⟩ (.bool ((rd_T158 l0 x7_1).f1.f0))).setCell ⟨gb175, 2, none⟩ (.int .i64 ((rd_T158 l0 x7_1).f1.f1)))) := ⟨by repeat (first | (with_reducible first | exact HB.out | apply below_alloc | apply pw_below_drewN | apply below_drew1 | refine below_set ?_ GE175.out) | exact HB.out)⟩
       (try clear BK175)
       (try clear HB)
       generalize (((w6.setCell ⟨gb175, 0, none⟩ (.int .i64 ((rd_T158 l0 x7_1).f0))).setCell ⟨gb175, 1, none⟩ (.bool ((rd_T158 l0 x7_1).f1.f0))).setCell ⟨gb175, 2, none⟩ (.int .i64 ((rd_T158 l0 x7_1).f1.f1))) = w19 at n0_ n1_ ⊢
       have BK175 := n0_
       have HB := n1_
       clear n0_ n1_
       have n0_ := Aside0.mk (blk_drew BK175.out)
       have n1_ := Aside0.mk (below_drew1 HB.out)
       clear BK175
       clear HB
       have BK175 := n0_
       have HB := n1_
       clear n0_ n1_
       refine start_ (n := 25) (S := fun w' => w'.cell? ⟨gb175, 0, none⟩ = some (.int .i64 ((rd_T158 l0 x7_1).f0)) ∧ w'.cell? ⟨gb175, 1, none⟩ = some (.bool ((rd_T158 l0 x7_1).f1.f0)) ∧ w'.cell? ⟨gb175, 2, none⟩ = some (.int .i64 ((rd_T158 l0 x7_1).f1.f1))) (ds := []) (dn 25 0) (by kernel_rfl) rfl rfl ⟨(blk_cell BK175.out 0).trans rfl, (blk_cell BK175.out 1).trans rfl, (blk_cell BK175.out 2).trans rfl⟩ (fun hHeld => ?_); refine with_tabW impl_cellsOk.tab4 impl_cellsOk.bits4 (fun HT_ HW_ => ?_)
       generalize w19.drew = w20 at BK175 HB hHeld ⊢
       refine pure_ (i := 0) (N := some 12) (v := ?_) (a' := ?_) (dn 25 1) rfl rfl (any_of HT_.out (by kernel_rfl)) (fun _ _ _ h => h) (Or.inl ⟨by rfl, ?_⟩) ?_ ?_
       rotate_left; (intro w'; go_simp; with_reducible rfl); rotate_left; (simp only [Act.put, sa_, sz_, ss_, i64_w, i32_w]; rfl)
       refine take_ (i := 1) (N := some 13) (v := ?_) (a' := ?_) (dn 25 3) rfl rfl (take_ofW HT_.out HW_.out (by kernel_rfl)) (fun _ _ _ h => h) (Or.inl ⟨by rfl, ?_⟩) hHeld ?_ ?_
       rotate_left
       ·rintro w' ⟨s0, s1, s2⟩
        go_simp
        with_reducible rfl
       rotate_left
       ·simp only [Act.put, sa_, sz_, ss_, i64_w, i32_w]
        rfl
       refine one_ (i := 2) (N := some 14) (dn 25 7) rfl rfl (one_of HT_.out (by kernel_rfl)) (by decide) (fun K hK => ?_)
       refine goes_ Try.func92 (by kernel_rfl) rfl #[.int .i64 ((rd_T158 l0 x7_1).f0), .int .i64 0, .int .i64 7] (by rfl) rfl rfl (by (try simp only [List.map_toArray, List.map_cons, List.map_nil]); first | done | rfl | (simp only [List.length_drop, List.length_take]; rfl)) ?_
       with_reducible refine (impl_within.calls ((rd_T158 l0 x7_1).f0) 0 7 true _ A8.out).mono ?_
       rintro e w' ⟨rfl, ⟨nd, rfl⟩⟩
       refine ⟨_, rfl, ?_⟩
       refine hK.out _ _ ⟨(blk_cell BK175.out 0).trans rfl, (blk_cell BK175.out 1).trans rfl, (blk_cell BK175.out 2).trans rfl⟩ (fun hHeld => ?_)
       clear hK K
       refine norm_ (a' := ?_) ?_ ?_
       rotate_left
       ·show Act.put _ (some 14) _ = _
        simp only [Act.put, sa_, sz_, ss_, i64_w, i32_w]
        rfl
       refine pure_ (i := 3) (N := some 15) (v := ?_) (a' := ?_) (dn 25 15) rfl rfl (any_of HT_.out (by kernel_rfl)) (fun _ _ _ h => h) (Or.inl ⟨by rfl, ?_⟩) ?_ ?_
       rotate_left; (intro w'; go_simp; with_reducible rfl); rotate_left; (simp only [Act.put, sa_, sz_, ss_, i64_w, i32_w]; rfl)
       refine pure_ (i := 4) (N := some 16) (v := ?_) (a' := ?_) (dn 25 31) rfl rfl (any_of HT_.out (by kernel_rfl)) (fun _ _ _ h => h) (Or.inl ⟨by rfl, ?_⟩) ?_ ?_
       rotate_left; (intro w'; go_simp; with_reducible rfl); rotate_left; (simp only [Act.put, sa_, sz_, ss_, i64_w, i32_w]; rfl)
       refine pure_ (i := 5) (N := some 17) (v := ?_) (a' := ?_) (dn 25 63) rfl rfl (any_of HT_.out (by kernel_rfl)) (fun _ _ _ h => h) (Or.inl ⟨by rfl, ?_⟩) ?_ ?_
       rotate_left; (intro w'; go_simp; with_reducible rfl); rotate_left; (simp only [Act.put, sa_, sz_, ss_, i64_w, i32_w]; rfl)
       refine take_ (i := 6) (N := some 18) (v := ?_) (a' := ?_) (dn 25 127) rfl rfl (take_ofW HT_.out HW_.out (by kernel_rfl)) (fun _ _ _ h => h) (Or.inl ⟨by rfl, ?_⟩) hHeld ?_ ?_
       rotate_left
       ·rintro w' ⟨s0, s1, s2⟩
        go_simp
        with_reducible rfl
       rotate_left
       ·simp only [Act.put, sa_, sz_, ss_, i64_w, i32_w]
        rfl
       refine one_ (i := 7) (N := some 19) (dn 25 255) rfl rfl (one_of HT_.out (by kernel_rfl)) (by decide) (fun K hK => ?_)
       refine goes_ Try.func148 (by kernel_rfl) rfl #[.agg #[.bool ((rd_T158 l0 x7_1).f1.f0), .int .i64 ((rd_T158 l0 x7_1).f1.f1)]] (by rfl) rfl rfl (by (try simp only [List.map_toArray, List.map_cons, List.map_nil]); first | done | rfl | (simp only [List.length_drop, List.length_take]; rfl)) ?_
       with_reducible refine (impl_ValOk.calls ((rd_T158 l0 x7_1).f1.f0) ((rd_T158 l0 x7_1).f1.f1) true _ A10.out).mono ?_
       rintro e w21 ⟨rfl, hb⟩
       refine ⟨_, rfl, ?_⟩
       have n0_ := Aside0.mk (blk_below (g := gb175) (o := .cells #[.int .i64 ((rd_T158 l0 x7_1).f0), .bool ((rd_T158 l0 x7_1).f1.f0), .int .i64 ((rd_T158 l0 x7_1).f1.f1)] 158 (0, 0)) (by (with_reducible repeat (first | refine blk_drewN ?_ _ | refine blk_drew ?_ | refine blk_alloc ?_ _)); exact BK175.out) hb)
       have n1_ := Aside0.mk (below_step (by repeat (first | (with_reducible first | exact HB.out | apply below_alloc | apply pw_below_drewN | apply below_drew1 | refine below_set ?_ GE175.out) | exact HB.out)) hb)
       clear BK175
       clear HB
       have BK175 := n0_
       have HB := n1_
       clear n0_ n1_
       (try clear hb)
       (try clear hb2)
       (try clear hk)
       (try clear hi)
       refine hK.out _ _ ⟨(blk_cell BK175.out 0).trans rfl, (blk_cell BK175.out 1).trans rfl, (blk_cell BK175.out 2).trans rfl⟩ (fun hHeld => ?_)
       clear hK K
       refine norm_ (a' := ?_) ?_ ?_
       rotate_left
       ·show Act.put _ (some 19) _ = _
        simp only [Act.put, sa_, sz_, ss_, i64_w, i32_w]
        rfl
       refine pure_ (i := 8) (N := some 20) (v := ?_) (a' := ?_) (dn 25 511) rfl rfl (any_of HT_.out (by kernel_rfl)) (fun _ _ _ h => h) (Or.inl ⟨by rfl, ?_⟩) ?_ ?_
       rotate_left; (intro w'; go_simp; with_reducible rfl); rotate_left; (simp only [Act.put, sa_, sz_, ss_, i64_w, i32_w]; rfl)
       refine pure_ (i := 9) (N := some 21) (v := ?_) (a' := ?_) (dn 25 1023) rfl rfl (any_of HT_.out (by kernel_rfl)) (fun _ _ _ h => h) (Or.inl ⟨by rfl, ?_⟩) ?_ ?_
       rotate_left; (intro w'; go_simp; with_reducible rfl); rotate_left; (simp only [Act.put, sa_, sz_, ss_, i64_w, i32_w]; rfl)
       refine pure_ (i := 10) (N := some 22) (v := ?_) (a' := ?_) (dn 25 2047) rfl rfl (any_of HT_.out (by kernel_rfl)) (fun _ _ _ h => h) (Or.inl ⟨by rfl, ?_⟩) ?_ ?_
       rotate_left; (intro w'; go_simp; with_reducible rfl); rotate_left; (simp only [Act.put, sa_, sz_, ss_, i64_w, i32_w]; rfl)
       refine pure_ (i := 11) (N := some 23) (v := ?_) (a' := ?_) (dn 25 4095) rfl rfl (any_of HT_.out (by kernel_rfl)) (fun _ _ _ h => h) (Or.inl ⟨by rfl, ?_⟩) ?_ ?_
       rotate_left; (intro w'; go_simp; with_reducible rfl); rotate_left; (simp only [Act.put, sa_, sz_, ss_, i64_w, i32_w]; rfl)
       refine pure_ (i := 12) (N := some 24) (v := ?_) (a' := ?_) (dn 25 8191) rfl rfl (any_of HT_.out (by kernel_rfl)) (fun _ _ _ h => h) (Or.inl ⟨by rfl, ?_⟩) ?_ ?_
       rotate_left; (intro w'; go_simp; with_reducible rfl); rotate_left; (simp only [Act.put, sa_, sz_, ss_, i64_w, i32_w]; rfl)
       refine pure_ (i := 13) (N := some 25) (v := ?_) (a' := ?_) (dn 25 16383) rfl rfl (any_of HT_.out (by kernel_rfl)) (fun _ _ _ h => h) (Or.inl ⟨by rfl, ?_⟩) ?_ ?_
       rotate_left; (intro w'; go_simp; with_reducible rfl); rotate_left; (simp only [Act.put, sa_, sz_, ss_, i64_w, i32_w]; rfl)
       refine pure_ (i := 14) (N := some 26) (v := undef) (a' := ?_) (dn 25 32767) rfl rfl (any_of HT_.out (by kernel_rfl)) (fun _ _ _ h => h) (Or.inr ⟨by rfl, rfl⟩) ?_ ?_
       rotate_left; (simp only [Act.put, sa_, sz_, ss_, i64_w, i32_w]; rfl)
       refine pure_ (i := 15) (N := some 27) (v := undef) (a' := ?_) (dn 25 65535) rfl rfl (any_of HT_.out (by kernel_rfl)) (fun _ _ _ h => h) (Or.inr ⟨by rfl, rfl⟩) ?_ ?_
       rotate_left; (simp only [Act.put, sa_, sz_, ss_, i64_w, i32_w]; rfl)
       refine pure_ (i := 16) (N := some 28) (v := undef) (a' := ?_) (dn 25 131071) rfl rfl (any_of HT_.out (by kernel_rfl)) (fun _ _ _ h => h) (Or.inr ⟨by rfl, rfl⟩) ?_ ?_
       rotate_left; (simp only [Act.put, sa_, sz_, ss_, i64_w, i32_w]; rfl)
       refine pure_ (i := 17) (N := some 29) (v := undef) (a' := ?_) (dn 25 262143) rfl rfl (any_of HT_.out (by kernel_rfl)) (fun _ _ _ h => h) (Or.inr ⟨by rfl, rfl⟩) ?_ ?_
       rotate_left; (simp only [Act.put, sa_, sz_, ss_, i64_w, i32_w]; rfl)
       refine pure_ (i := 18) (N := some 30) (v := undef) (a' := ?_) (dn 25 524287) rfl rfl (any_of HT_.out (by kernel_rfl)) (fun _ _ _ h => h) (Or.inr ⟨by rfl, rfl⟩) ?_ ?_
       rotate_left; (simp only [Act.put, sa_, sz_, ss_, i64_w, i32_w]; rfl)
       refine pure_ (i := 19) (N := some 31) (v := undef) (a' := ?_) (dn 25 1048575) rfl rfl (any_of HT_.out (by kernel_rfl)) (fun _ _ _ h => h) (Or.inr ⟨by rfl, rfl⟩) ?_ ?_
       rotate_left; (simp only [Act.put, sa_, sz_, ss_, i64_w, i32_w]; rfl)
       refine pure_ (i := 20) (N := some 32) (v := undef) (a' := ?_) (dn 25 2097151) rfl rfl (any_of HT_.out (by kernel_rfl)) (fun _ _ _ h => h) (Or.inr ⟨by rfl, rfl⟩) ?_ ?_
       rotate_left; (simp only [Act.put, sa_, sz_, ss_, i64_w, i32_w]; rfl)
       refine pure_ (i := 21) (N := some 33) (v := undef) (a' := ?_) (dn 25 4194303) rfl rfl (any_of HT_.out (by kernel_rfl)) (fun _ _ _ h => h) (Or.inr ⟨by rfl, rfl⟩) ?_ ?_
       rotate_left; (simp only [Act.put, sa_, sz_, ss_, i64_w, i32_w]; rfl)
       refine pure_ (i := 22) (N := some 34) (v := undef) (a' := ?_) (dn 25 8388607) rfl rfl (any_of HT_.out (by kernel_rfl)) (fun _ _ _ h => h) (Or.inr ⟨by rfl, rfl⟩) ?_ ?_
       rotate_left; (simp only [Act.put, sa_, sz_, ss_, i64_w, i32_w]; rfl)
       refine pure_ (i := 23) (N := some 35) (v := ?_) (a' := ?_) (dn 25 16777215) rfl rfl (any_of HT_.out (by kernel_rfl)) (fun _ _ _ h => h) (Or.inl ⟨by rfl, ?_⟩) ?_ ?_
       rotate_left; (intro w'; go_simp; with_reducible rfl); rotate_left; (simp only [Act.put, sa_, sz_, ss_, i64_w, i32_w]; rfl)
       refine pure_ (i := 24) (N := some 36) (v := ?_) (a' := ?_) (dn 25 33554431) rfl rfl (any_of HT_.out (by kernel_rfl)) (fun _ _ _ h => h) (Or.inl ⟨by rfl, ?_⟩) ?_ ?_
       rotate_left; (intro w'; go_simp; with_reducible rfl); rotate_left; (simp only [Act.put, sa_, sz_, ss_, i64_w, i32_w]; rfl)
       refine done_ (done_of HT_.out (by kernel_rfl)) ?_
       try go_wp2
       go_meet
       case rel => exact ⟨_, (false), (by first | rfl | (simp; done) | (simp [*]; done)), H', ⟨by have := HK1.out; first | omega | exact Nat.le_refl _⟩, ⟨by (with_reducible repeat (first | refine blk_drewN ?_ _ | refine blk_drew ?_ | refine blk_alloc ?_ _)); exact BK175.out⟩, ⟨by repeat (first | (with_reducible first | exact HB.out | apply below_alloc | apply pw_below_drewN | apply below_drew1 | refine below_set ?_ GE175.out) | exact HB.out)⟩⟩
      rw [if_pos c12] at H
      have c12b0 : decide (0 < x7_1) = true := decide_eq_true c12
      clear c12
      (first | rw [c12b0] | (simp only [i64_w, i32_w]; rw [c12b0]) | skip)
      obtain ⟨ji13, hji13⟩ : ∃ j_ : Int, (wrap64 (x7_1 - 1)) = j_ := ⟨_, rfl⟩
      replace H : (if 0 ≤ (ji13) then (if (ji13) < (l0.length : Int) then (impl_cellsOk.j1 k1 l0 l0 (l0.length : Int) x7_1 (decide (((rd_T158 l0 (ji13)).f0) ≥ ((rd_T158 l0 x7_1).f0)))) else (none)) else (none)) = some r := by first | (rw [hji13] at H; exact H) | (simp only [hji13] at H ⊢; exact H)
      (try rw [hji13] at A8)
      (try rw [hji13] at A10)
      have hji13w : (IntKind.i64.wrap (x7_1 - 1)) = ji13 := (i64_w _).trans hji13
      by_cases c14 : 0 ≤ (ji13)
      case neg => rw [if_neg c14] at H; exact absurd H (by simp)
      rw [if_pos c14] at H
      have c14b0 : decide (0 ≤ (ji13)) = true := decide_eq_true c14
      clear c14
      by_cases c15 : (ji13) < (l0.length : Int)
      case neg => rw [if_neg c15] at H; exact absurd H (by simp)
      rw [if_pos c15] at H
      have c15b0 : decide ((ji13) < (l0.length : Int)) = true := decide_eq_true c15
      clear c15
      have H' := Aside0.mk H
      clear H
      try go_wp2
      have n0_ : Aside0 ((((w6.setCell ⟨gb175, 0, none⟩ (.int .i64 ((rd_T158 l0 x7_1).f0))).setCell ⟨gb175, 1, none⟩ (.bool ((rd_T158 l0 x7_1).f1.f0))).setCell ⟨gb175, 2, none⟩ (.int .i64 ((rd_T158 l0 x7_1).f1.f1))).heap[gb175]? = some (.cells #[.int .i64 ((rd_T158 l0 x7_1).f0), .bool ((rd_T158 l0 x7_1).f1.f0), .int .i64 ((rd_T158 l0 x7_1).f1.f1)] 158 (0, 0))) := ⟨by (with_reducible repeat (first | refine blk_drewN ?_ _ | refine blk_drew ?_ | refine blk_alloc ?_ _)); refine blk_put (cs := #[.int .i64 ((rd_T158 l0 x7_1).f0), .bool ((rd_T158 l0 x7_1).f1.f0), .int .i64 0]) ?_ 2 _ rfl; (with_reducible repeat (first | refine blk_drewN ?_ _ | refine blk_drew ?_ | refine blk_alloc ?_ _)); refine blk_put (cs := #[.int .i64 ((rd_T158 l0 x7_1).f0), .bool false, .int .i64 0]) ?_ 1 _ rfl; (with_reducible repeat (first | refine blk_drewN ?_ _ | refine blk_drew ?_ | refine blk_alloc ?_ _)); refine blk_put (cs := #[.int .i64 0, .bool false, .int .i64 0]) ?_ 0 _ rfl; (with_reducible repeat (first | refine blk_drewN ?_ _ | refine blk_drew ?_ | refine blk_alloc ?_ _)); exact BK175.out⟩
      have n1_ : Aside0 (Below w.heap.size w (((w6.setCell ⟨gb175, 0, none⟩ (.int .i64 ((rd_T158 l0 x7_1).f0))).setCell ⟨gb175, 1, none⟩ (.bool ((rd_T158 l0 x7_1).f1.f0))).setCell ⟨gb175, 2, none⟩ (.int .i64 ((rd_T158 l0 x7_1).f1.f1)))) := ⟨by repeat (first | (with_reducible first | exact HB.out | apply below_alloc | apply pw_below_drewN | apply below_drew1 | refine below_set ?_ GE175.out) | exact HB.out)⟩
      (try clear BK175)
      (try clear HB)
      generalize (((w6.setCell ⟨gb175, 0, none⟩ (.int .i64 ((rd_T158 l0 x7_1).f0))).setCell ⟨gb175, 1, none⟩ (.bool ((rd_T158 l0 x7_1).f1.f0))).setCell ⟨gb175, 2, none⟩ (.int .i64 ((rd_T158 l0 x7_1).f1.f1))) = w16 at n0_ n1_ ⊢
      have BK175 := n0_
      have HB := n1_
      clear n0_ n1_
      have n0_ := Aside0.mk (blk_drew BK175.out)
      have n1_ := Aside0.mk (below_drew1 HB.out)
      clear BK175
      clear HB
      have BK175 := n0_
      have HB := n1_
      clear n0_ n1_
      have p178 : 0 ≤ ((ji13) : Int) := of_decide_eq_true (by first | (with_reducible assumption) | assumption)
      have q178 : (ji13) < (l0.length : Int) := of_decide_eq_true (by first | (with_reducible assumption) | assumption)
      obtain ⟨ad178, e178, hx178_0, hx178_1, hx178_2⟩ := at_T158 HR0.out (ji13) p178 q178
      have hw178_2 := hx178_2
      have hw178_1 := hx178_1
      have hw178_0 := hx178_0
      obtain rfl : ad174 = ad178 := (by injection e178)
      replace hx178_0 := (HB.out.cell (World.block_lt_of_cell? w _ hx178_0)).trans hx178_0
      replace hx178_1 := (HB.out.cell (World.block_lt_of_cell? w _ hx178_1)).trans hx178_1
      replace hx178_2 := (HB.out.cell (World.block_lt_of_cell? w _ hx178_2)).trans hx178_2
      replace p178 := eq_true p178
      replace q178 := eq_true q178
      refine start_ (n := 25) (S := fun w' => w'.cell? ⟨gb175, 0, none⟩ = some (.int .i64 ((rd_T158 l0 x7_1).f0)) ∧ w'.cell? ⟨gb175, 1, none⟩ = some (.bool ((rd_T158 l0 x7_1).f1.f0)) ∧ w'.cell? ⟨gb175, 2, none⟩ = some (.int .i64 ((rd_T158 l0 x7_1).f1.f1)) ∧ w'.cell? (ad174.add (((ji13)).toNat * 3)) = some (.int .i64 ((rd_T158 l0 (ji13)).f0)) ∧ w'.cell? ⟨(ad174.add (((ji13)).toNat * 3)).block, (ad174.add (((ji13)).toNat * 3)).off + 1, none⟩ = some (.bool ((rd_T158 l0 (ji13)).f1.f0)) ∧ w'.cell? ⟨(ad174.add (((ji13)).toNat * 3)).block, (ad174.add (((ji13)).toNat * 3)).off + 2, none⟩ = some (.int .i64 ((rd_T158 l0 (ji13)).f1.f1))) (ds := []) (dn 25 0) (by kernel_rfl) rfl rfl ⟨(blk_cell BK175.out 0).trans rfl, (blk_cell BK175.out 1).trans rfl, (blk_cell BK175.out 2).trans rfl, ((HB.out.cell (World.block_lt_of_cell? w _ hw178_0)).trans hw178_0), ((HB.out.cell (World.block_lt_of_cell? w _ hw178_1)).trans hw178_1), ((HB.out.cell (World.block_lt_of_cell? w _ hw178_2)).trans hw178_2)⟩ (fun hHeld => ?_); refine with_tabW impl_cellsOk.tab4 impl_cellsOk.bits4 (fun HT_ HW_ => ?_)
      generalize w16.drew = w17 at BK175 HB hx178_0 hx178_1 hx178_2 hHeld ⊢
      refine pure_ (i := 0) (N := some 12) (v := ?_) (a' := ?_) (dn 25 1) rfl rfl (any_of HT_.out (by kernel_rfl)) (fun _ _ _ h => h) (Or.inl ⟨by rfl, ?_⟩) ?_ ?_
      rotate_left; (intro w'; go_simp; with_reducible rfl); rotate_left; (simp only [Act.put, sa_, sz_, ss_, i64_w, i32_w]; rfl)
      refine take_ (i := 1) (N := some 13) (v := ?_) (a' := ?_) (dn 25 3) rfl rfl (take_ofW HT_.out HW_.out (by kernel_rfl)) (fun _ _ _ h => h) (Or.inl ⟨by rfl, ?_⟩) hHeld ?_ ?_
      rotate_left
      ·rintro w' ⟨s0, s1, s2, s3, s4, s5⟩
       go_simp
       with_reducible rfl
      rotate_left
      ·simp only [Act.put, sa_, sz_, ss_, i64_w, i32_w]
       rfl
      refine one_ (i := 2) (N := some 14) (dn 25 7) rfl rfl (one_of HT_.out (by kernel_rfl)) (by decide) (fun K hK => ?_)
      refine goes_ Try.func92 (by kernel_rfl) rfl #[.int .i64 ((rd_T158 l0 x7_1).f0), .int .i64 0, .int .i64 7] (by rfl) rfl rfl (by (try simp only [List.map_toArray, List.map_cons, List.map_nil]); first | done | rfl | (simp only [List.length_drop, List.length_take]; rfl)) ?_
      with_reducible refine (impl_within.calls ((rd_T158 l0 x7_1).f0) 0 7 true _ A8.out).mono ?_
      rintro e w' ⟨rfl, ⟨nd, rfl⟩⟩
      refine ⟨_, rfl, ?_⟩
      refine hK.out _ _ ⟨(blk_cell BK175.out 0).trans rfl, (blk_cell BK175.out 1).trans rfl, (blk_cell BK175.out 2).trans rfl, ((HB.out.cell (World.block_lt_of_cell? w _ hw178_0)).trans hw178_0), ((HB.out.cell (World.block_lt_of_cell? w _ hw178_1)).trans hw178_1), ((HB.out.cell (World.block_lt_of_cell? w _ hw178_2)).trans hw178_2)⟩ (fun hHeld => ?_)
      clear hK K
      refine norm_ (a' := ?_) ?_ ?_
      rotate_left
      ·show Act.put _ (some 14) _ = _
       simp only [Act.put, sa_, sz_, ss_, i64_w, i32_w]
       rfl
      refine pure_ (i := 3) (N := some 15) (v := ?_) (a' := ?_) (dn 25 15) rfl rfl (any_of HT_.out (by kernel_rfl)) (fun _ _ _ h => h) (Or.inl ⟨by rfl, ?_⟩) ?_ ?_
      rotate_left; (intro w'; go_simp; with_reducible rfl); rotate_left; (simp only [Act.put, sa_, sz_, ss_, i64_w, i32_w]; rfl)
      refine pure_ (i := 4) (N := some 16) (v := ?_) (a' := ?_) (dn 25 31) rfl rfl (any_of HT_.out (by kernel_rfl)) (fun _ _ _ h => h) (Or.inl ⟨by rfl, ?_⟩) ?_ ?_
      rotate_left; (intro w'; go_simp; with_reducible rfl); rotate_left; (simp only [Act.put, sa_, sz_, ss_, i64_w, i32_w]; rfl)
      refine pure_ (i := 5) (N := some 17) (v := ?_) (a' := ?_) (dn 25 63) rfl rfl (any_of HT_.out (by kernel_rfl)) (fun _ _ _ h => h) (Or.inl ⟨by rfl, ?_⟩) ?_ ?_
      rotate_left; (intro w'; go_simp; with_reducible rfl); rotate_left; (simp only [Act.put, sa_, sz_, ss_, i64_w, i32_w]; rfl)
      refine take_ (i := 6) (N := some 18) (v := ?_) (a' := ?_) (dn 25 127) rfl rfl (take_ofW HT_.out HW_.out (by kernel_rfl)) (fun _ _ _ h => h) (Or.inl ⟨by rfl, ?_⟩) hHeld ?_ ?_
      rotate_left
      ·rintro w' ⟨s0, s1, s2, s3, s4, s5⟩
       go_simp
       with_reducible rfl
      rotate_left
      ·simp only [Act.put, sa_, sz_, ss_, i64_w, i32_w]
       rfl
      refine one_ (i := 7) (N := some 19) (dn 25 255) rfl rfl (one_of HT_.out (by kernel_rfl)) (by decide) (fun K hK => ?_)
      refine goes_ Try.func148 (by kernel_rfl) rfl #[.agg #[.bool ((rd_T158 l0 x7_1).f1.f0), .int .i64 ((rd_T158 l0 x7_1).f1.f1)]] (by rfl) rfl rfl (by (try simp only [List.map_toArray, List.map_cons, List.map_nil]); first | done | rfl | (simp only [List.length_drop, List.length_take]; rfl)) ?_
      with_reducible refine (impl_ValOk.calls ((rd_T158 l0 x7_1).f1.f0) ((rd_T158 l0 x7_1).f1.f1) true _ A10.out).mono ?_
      rintro e w18 ⟨rfl, hb⟩
      refine ⟨_, rfl, ?_⟩
      have n0_ := Aside0.mk (blk_below (g := gb175) (o := .cells #[.int .i64 ((rd_T158 l0 x7_1).f0), .bool ((rd_T158 l0 x7_1).f1.f0), .int .i64 ((rd_T158 l0 x7_1).f1.f1)] 158 (0, 0)) (by (with_reducible repeat (first | refine blk_drewN ?_ _ | refine blk_drew ?_ | refine blk_alloc ?_ _)); exact BK175.out) hb)
      have n1_ := Aside0.mk (below_step (by repeat (first | (with_reducible first | exact HB.out | apply below_alloc | apply pw_below_drewN | apply below_drew1 | refine below_set ?_ GE175.out) | exact HB.out)) hb)
      clear BK175
      clear HB
      have BK175 := n0_
      have HB := n1_
      clear n0_ n1_
      (try clear hb)
      (try clear hb2)
      (try clear hk)
      (try clear hi)
      refine hK.out _ _ ⟨(blk_cell BK175.out 0).trans rfl, (blk_cell BK175.out 1).trans rfl, (blk_cell BK175.out 2).trans rfl, ((HB.out.cell (World.block_lt_of_cell? w _ hw178_0)).trans hw178_0), ((HB.out.cell (World.block_lt_of_cell? w _ hw178_1)).trans hw178_1), ((HB.out.cell (World.block_lt_of_cell? w _ hw178_2)).trans hw178_2)⟩ (fun hHeld => ?_)
      clear hK K
      refine norm_ (a' := ?_) ?_ ?_
      rotate_left
      ·show Act.put _ (some 19) _ = _
       simp only [Act.put, sa_, sz_, ss_, i64_w, i32_w]
       rfl
      refine pure_ (i := 8) (N := some 20) (v := ?_) (a' := ?_) (dn 25 511) rfl rfl (any_of HT_.out (by kernel_rfl)) (fun _ _ _ h => h) (Or.inl ⟨by rfl, ?_⟩) ?_ ?_
      rotate_left; (intro w'; go_simp; with_reducible rfl); rotate_left; (simp only [Act.put, sa_, sz_, ss_, i64_w, i32_w]; rfl)
      refine pure_ (i := 9) (N := some 21) (v := ?_) (a' := ?_) (dn 25 1023) rfl rfl (any_of HT_.out (by kernel_rfl)) (fun _ _ _ h => h) (Or.inl ⟨by rfl, ?_⟩) ?_ ?_
      rotate_left; (intro w'; go_simp; with_reducible rfl); rotate_left; (simp only [Act.put, sa_, sz_, ss_, i64_w, i32_w]; rfl)
      refine pure_ (i := 10) (N := some 22) (v := ?_) (a' := ?_) (dn 25 2047) rfl rfl (any_of HT_.out (by kernel_rfl)) (fun _ _ _ h => h) (Or.inl ⟨by rfl, ?_⟩) ?_ ?_
      rotate_left; (intro w'; go_simp; with_reducible rfl); rotate_left; (simp only [Act.put, sa_, sz_, ss_, i64_w, i32_w]; rfl)
      refine pure_ (i := 11) (N := some 23) (v := ?_) (a' := ?_) (dn 25 4095) rfl rfl (any_of HT_.out (by kernel_rfl)) (fun _ _ _ h => h) (Or.inl ⟨by rfl, ?_⟩) ?_ ?_
      rotate_left; (intro w'; go_simp; with_reducible rfl); rotate_left; (simp only [Act.put, sa_, sz_, ss_, i64_w, i32_w]; rfl)
      refine pure_ (i := 12) (N := some 24) (v := ?_) (a' := ?_) (dn 25 8191) rfl rfl (any_of HT_.out (by kernel_rfl)) (fun _ _ _ h => h) (Or.inl ⟨by rfl, ?_⟩) ?_ ?_
      rotate_left; (intro w'; go_simp; with_reducible rfl); rotate_left; (simp only [Act.put, sa_, sz_, ss_, i64_w, i32_w]; rfl)
      refine pure_ (i := 13) (N := some 25) (v := ?_) (a' := ?_) (dn 25 16383) rfl rfl (any_of HT_.out (by kernel_rfl)) (fun _ _ _ h => h) (Or.inl ⟨by rfl, ?_⟩) ?_ ?_
      rotate_left; (intro w'; go_simp; with_reducible rfl); rotate_left; (simp only [Act.put, sa_, sz_, ss_, i64_w, i32_w]; rfl)
      refine pure_ (i := 14) (N := some 26) (v := ?_) (a' := ?_) (dn 25 32767) rfl rfl (any_of HT_.out (by kernel_rfl)) (fun _ _ _ h => h) (Or.inl ⟨by rfl, ?_⟩) ?_ ?_
      rotate_left; (intro w'; go_simp; with_reducible rfl); rotate_left; (simp only [Act.put, sa_, sz_, ss_, i64_w, i32_w]; rfl)
      refine pure_ (i := 15) (N := some 27) (v := ?_) (a' := ?_) (dn 25 65535) rfl rfl (any_of HT_.out (by kernel_rfl)) (fun _ _ _ h => h) (Or.inl ⟨by rfl, ?_⟩) ?_ ?_
      rotate_left; (intro w'; go_simp; with_reducible rfl); rotate_left; (simp only [Act.put, sa_, sz_, ss_, i64_w, i32_w]; rfl)
      refine pure_ (i := 16) (N := some 28) (v := ?_) (a' := ?_) (dn 25 131071) rfl rfl (any_of HT_.out (by kernel_rfl)) (fun _ _ _ h => h) (Or.inl ⟨by rfl, ?_⟩) ?_ ?_
      rotate_left; (intro w'; go_simp; with_reducible rfl); rotate_left; (simp only [Act.put, sa_, sz_, ss_, i64_w, i32_w]; rfl)
      refine pure_ (i := 17) (N := some 29) (v := ?_) (a' := ?_) (dn 25 262143) rfl rfl (any_of HT_.out (by kernel_rfl)) (fun _ _ _ h => h) (Or.inl ⟨by rfl, ?_⟩) ?_ ?_
      rotate_left; (intro w'; go_simp; with_reducible rfl); rotate_left; (simp only [Act.put, sa_, sz_, ss_, i64_w, i32_w]; rfl)
      refine pure_ (i := 18) (N := some 30) (v := ?_) (a' := ?_) (dn 25 524287) rfl rfl (any_of HT_.out (by kernel_rfl)) (fun _ _ _ h => h) (Or.inl ⟨by rfl, ?_⟩) ?_ ?_
      rotate_left; (intro w'; go_simp; with_reducible rfl); rotate_left; (simp only [Act.put, sa_, sz_, ss_, i64_w, i32_w]; rfl)
      refine pure_ (i := 20) (N := some 32) (v := ?_) (a' := ?_) (dn 25 1572863) rfl rfl (any_of HT_.out (by kernel_rfl)) (fun _ _ _ h => h) (Or.inl ⟨by rfl, ?_⟩) ?_ ?_
      rotate_left; (intro w'; go_simp; with_reducible rfl); rotate_left; (simp only [Act.put, sa_, sz_, ss_, i64_w, i32_w]; rfl)
      refine take_ (i := 19) (N := some 31) (v := ?_) (a' := ?_) (dn 25 2097151) rfl rfl (take_ofW HT_.out HW_.out (by kernel_rfl)) (fun _ _ _ h => h) (Or.inl ⟨by rfl, ?_⟩) hHeld ?_ ?_
      rotate_left
      ·rintro w' ⟨s0, s1, s2, s3, s4, s5⟩
       go_simp
       with_reducible rfl
      rotate_left
      ·simp only [Act.put, sa_, sz_, ss_, i64_w, i32_w]
       rfl
      refine take_ (i := 21) (N := some 33) (v := ?_) (a' := ?_) (dn 25 4194303) rfl rfl (take_ofW HT_.out HW_.out (by kernel_rfl)) (fun _ _ _ h => h) (Or.inl ⟨by rfl, ?_⟩) hHeld ?_ ?_
      rotate_left
      ·rintro w' ⟨s0, s1, s2, s3, s4, s5⟩
       go_simp
       with_reducible rfl
      rotate_left
      ·simp only [Act.put, sa_, sz_, ss_, i64_w, i32_w]
       rfl
      refine pure_ (i := 22) (N := some 34) (v := ?_) (a' := ?_) (dn 25 8388607) rfl rfl (any_of HT_.out (by kernel_rfl)) (fun _ _ _ h => h) (Or.inl ⟨by rfl, ?_⟩) ?_ ?_
      rotate_left; (intro w'; go_simp; with_reducible rfl); rotate_left; (simp only [Act.put, sa_, sz_, ss_, i64_w, i32_w]; rfl)
      refine pure_ (i := 23) (N := some 35) (v := ?_) (a' := ?_) (dn 25 16777215) rfl rfl (any_of HT_.out (by kernel_rfl)) (fun _ _ _ h => h) (Or.inl ⟨by rfl, ?_⟩) ?_ ?_
      rotate_left; (intro w'; go_simp; with_reducible rfl); rotate_left; (simp only [Act.put, sa_, sz_, ss_, i64_w, i32_w]; rfl)
      refine pure_ (i := 24) (N := some 36) (v := ?_) (a' := ?_) (dn 25 33554431) rfl rfl (any_of HT_.out (by kernel_rfl)) (fun _ _ _ h => h) (Or.inl ⟨by rfl, ?_⟩) ?_ ?_
      rotate_left; (intro w'; go_simp; with_reducible rfl); rotate_left; (simp only [Act.put, sa_, sz_, ss_, i64_w, i32_w]; rfl)
      refine done_ (done_of HT_.out (by kernel_rfl)) ?_
      try go_wp2
      go_meet
      case rel => exact ⟨_, (decide (((rd_T158 l0 (ji13)).f0) ≥ ((rd_T158 l0 x7_1).f0))), (by first | rfl | (simp; done) | (simp only [← hji13] <;> (first | rfl | simp)) | (simp [*]; done)), H', ⟨by have := HK1.out; first | omega | exact Nat.le_refl _⟩, ⟨by (with_reducible repeat (first | refine blk_drewN ?_ _ | refine blk_drew ?_ | refine blk_alloc ?_ _)); exact BK175.out⟩, ⟨by repeat (first | (with_reducible first | exact HB.out | apply below_alloc | apply pw_below_drewN | apply below_drew1 | refine below_set ?_ GE175.out) | exact HB.out)⟩⟩
     ·replace c11 := Bool.eq_false_iff.mpr c11
      subst c11
      have H1 : (impl_cellsOk.j1 k1 l0 l0 (l0.length : Int) x7_1 true) = some r := by rw [if_neg (show ¬ (false = true) by decide)] at H; exact H
      clear H
      have H := H1
      clear H1
      have H' := Aside0.mk H
      clear H
      try go_wp2
      have n0_ : Aside0 ((((w6.setCell ⟨gb175, 0, none⟩ (.int .i64 ((rd_T158 l0 x7_1).f0))).setCell ⟨gb175, 1, none⟩ (.bool ((rd_T158 l0 x7_1).f1.f0))).setCell ⟨gb175, 2, none⟩ (.int .i64 ((rd_T158 l0 x7_1).f1.f1))).heap[gb175]? = some (.cells #[.int .i64 ((rd_T158 l0 x7_1).f0), .bool ((rd_T158 l0 x7_1).f1.f0), .int .i64 ((rd_T158 l0 x7_1).f1.f1)] 158 (0, 0))) := ⟨by (with_reducible repeat (first | refine blk_drewN ?_ _ | refine blk_drew ?_ | refine blk_alloc ?_ _)); refine blk_put (cs := #[.int .i64 ((rd_T158 l0 x7_1).f0), .bool ((rd_T158 l0 x7_1).f1.f0), .int .i64 0]) ?_ 2 _ rfl; (with_reducible repeat (first | refine blk_drewN ?_ _ | refine blk_drew ?_ | refine blk_alloc ?_ _)); refine blk_put (cs := #[.int .i64 ((rd_T158 l0 x7_1).f0), .bool false, .int .i64 0]) ?_ 1 _ rfl; (with_reducible repeat (first | refine blk_drewN ?_ _ | refine blk_drew ?_ | refine blk_alloc ?_ _)); refine blk_put (cs := #[.int .i64 0, .bool false, .int .i64 0]) ?_ 0 _ rfl; (with_reducible repeat (first | refine blk_drewN ?_ _ | refine blk_drew ?_ | refine blk_alloc ?_ _)); exact BK175.out⟩
      have n1_ : Aside0 (Below w.heap.size w (((w6.setCell ⟨gb175, 0, none⟩ (.int .i64 ((rd_T158 l0 x7_1).f0))).setCell ⟨gb175, 1, none⟩ (.bool ((rd_T158 l0 x7_1).f1.f0))).setCell ⟨gb175, 2, none⟩ (.int .i64 ((rd_T158 l0 x7_1).f1.f1)))) := ⟨by repeat (first | (with_reducible first | exact HB.out | apply below_alloc | apply pw_below_drewN | apply below_drew1 | refine below_set ?_ GE175.out) | exact HB.out)⟩
      (try clear BK175)
      (try clear HB)
      generalize (((w6.setCell ⟨gb175, 0, none⟩ (.int .i64 ((rd_T158 l0 x7_1).f0))).setCell ⟨gb175, 1, none⟩ (.bool ((rd_T158 l0 x7_1).f1.f0))).setCell ⟨gb175, 2, none⟩ (.int .i64 ((rd_T158 l0 x7_1).f1.f1))) = w22 at n0_ n1_ ⊢
      have BK175 := n0_
      have HB := n1_
      clear n0_ n1_
      have n0_ := Aside0.mk (blk_drew BK175.out)
      have n1_ := Aside0.mk (below_drew1 HB.out)
      clear BK175
      clear HB
      have BK175 := n0_
      have HB := n1_
      clear n0_ n1_
      refine start_ (n := 25) (S := fun w' => w'.cell? ⟨gb175, 0, none⟩ = some (.int .i64 ((rd_T158 l0 x7_1).f0)) ∧ w'.cell? ⟨gb175, 1, none⟩ = some (.bool ((rd_T158 l0 x7_1).f1.f0)) ∧ w'.cell? ⟨gb175, 2, none⟩ = some (.int .i64 ((rd_T158 l0 x7_1).f1.f1))) (ds := []) (dn 25 0) (by kernel_rfl) rfl rfl ⟨(blk_cell BK175.out 0).trans rfl, (blk_cell BK175.out 1).trans rfl, (blk_cell BK175.out 2).trans rfl⟩ (fun hHeld => ?_); refine with_tabW impl_cellsOk.tab4 impl_cellsOk.bits4 (fun HT_ HW_ => ?_)
      generalize w22.drew = w23 at BK175 HB hHeld ⊢
      refine pure_ (i := 0) (N := some 12) (v := ?_) (a' := ?_) (dn 25 1) rfl rfl (any_of HT_.out (by kernel_rfl)) (fun _ _ _ h => h) (Or.inl ⟨by rfl, ?_⟩) ?_ ?_
      rotate_left; (intro w'; go_simp; with_reducible rfl); rotate_left; (simp only [Act.put, sa_, sz_, ss_, i64_w, i32_w]; rfl)
      refine take_ (i := 1) (N := some 13) (v := ?_) (a' := ?_) (dn 25 3) rfl rfl (take_ofW HT_.out HW_.out (by kernel_rfl)) (fun _ _ _ h => h) (Or.inl ⟨by rfl, ?_⟩) hHeld ?_ ?_
      rotate_left
      ·rintro w' ⟨s0, s1, s2⟩
       go_simp
       with_reducible rfl
      rotate_left
      ·simp only [Act.put, sa_, sz_, ss_, i64_w, i32_w]
       rfl
      refine one_ (i := 2) (N := some 14) (dn 25 7) rfl rfl (one_of HT_.out (by kernel_rfl)) (by decide) (fun K hK => ?_)
      refine goes_ Try.func92 (by kernel_rfl) rfl #[.int .i64 ((rd_T158 l0 x7_1).f0), .int .i64 0, .int .i64 7] (by rfl) rfl rfl (by (try simp only [List.map_toArray, List.map_cons, List.map_nil]); first | done | rfl | (simp only [List.length_drop, List.length_take]; rfl)) ?_
      with_reducible refine (impl_within.calls ((rd_T158 l0 x7_1).f0) 0 7 true _ A8.out).mono ?_
      rintro e w' ⟨rfl, ⟨nd, rfl⟩⟩
      refine ⟨_, rfl, ?_⟩
      refine hK.out _ _ ⟨(blk_cell BK175.out 0).trans rfl, (blk_cell BK175.out 1).trans rfl, (blk_cell BK175.out 2).trans rfl⟩ (fun hHeld => ?_)
      clear hK K
      refine norm_ (a' := ?_) ?_ ?_
      rotate_left
      ·show Act.put _ (some 14) _ = _
       simp only [Act.put, sa_, sz_, ss_, i64_w, i32_w]
       rfl
      refine pure_ (i := 3) (N := some 15) (v := ?_) (a' := ?_) (dn 25 15) rfl rfl (any_of HT_.out (by kernel_rfl)) (fun _ _ _ h => h) (Or.inl ⟨by rfl, ?_⟩) ?_ ?_
      rotate_left; (intro w'; go_simp; with_reducible rfl); rotate_left; (simp only [Act.put, sa_, sz_, ss_, i64_w, i32_w]; rfl)
      refine pure_ (i := 4) (N := some 16) (v := ?_) (a' := ?_) (dn 25 31) rfl rfl (any_of HT_.out (by kernel_rfl)) (fun _ _ _ h => h) (Or.inl ⟨by rfl, ?_⟩) ?_ ?_
      rotate_left; (intro w'; go_simp; with_reducible rfl); rotate_left; (simp only [Act.put, sa_, sz_, ss_, i64_w, i32_w]; rfl)
      refine pure_ (i := 5) (N := some 17) (v := ?_) (a' := ?_) (dn 25 63) rfl rfl (any_of HT_.out (by kernel_rfl)) (fun _ _ _ h => h) (Or.inl ⟨by rfl, ?_⟩) ?_ ?_
      rotate_left; (intro w'; go_simp; with_reducible rfl); rotate_left; (simp only [Act.put, sa_, sz_, ss_, i64_w, i32_w]; rfl)
      refine take_ (i := 6) (N := some 18) (v := ?_) (a' := ?_) (dn 25 127) rfl rfl (take_ofW HT_.out HW_.out (by kernel_rfl)) (fun _ _ _ h => h) (Or.inl ⟨by rfl, ?_⟩) hHeld ?_ ?_
      rotate_left
      ·rintro w' ⟨s0, s1, s2⟩
       go_simp
       with_reducible rfl
      rotate_left
      ·simp only [Act.put, sa_, sz_, ss_, i64_w, i32_w]
       rfl
      refine one_ (i := 7) (N := some 19) (dn 25 255) rfl rfl (one_of HT_.out (by kernel_rfl)) (by decide) (fun K hK => ?_)
      refine goes_ Try.func148 (by kernel_rfl) rfl #[.agg #[.bool ((rd_T158 l0 x7_1).f1.f0), .int .i64 ((rd_T158 l0 x7_1).f1.f1)]] (by rfl) rfl rfl (by (try simp only [List.map_toArray, List.map_cons, List.map_nil]); first | done | rfl | (simp only [List.length_drop, List.length_take]; rfl)) ?_
      with_reducible refine (impl_ValOk.calls ((rd_T158 l0 x7_1).f1.f0) ((rd_T158 l0 x7_1).f1.f1) false _ A10.out).mono ?_
      rintro e w24 ⟨rfl, hb⟩
      refine ⟨_, rfl, ?_⟩
      have n0_ := Aside0.mk (blk_below (g := gb175) (o := .cells #[.int .i64 ((rd_T158 l0 x7_1).f0), .bool ((rd_T158 l0 x7_1).f1.f0), .int .i64 ((rd_T158 l0 x7_1).f1.f1)] 158 (0, 0)) (by (with_reducible repeat (first | refine blk_drewN ?_ _ | refine blk_drew ?_ | refine blk_alloc ?_ _)); exact BK175.out) hb)
      have n1_ := Aside0.mk (below_step (by repeat (first | (with_reducible first | exact HB.out | apply below_alloc | apply pw_below_drewN | apply below_drew1 | refine below_set ?_ GE175.out) | exact HB.out)) hb)
      clear BK175
      clear HB
      have BK175 := n0_
      have HB := n1_
      clear n0_ n1_
      (try clear hb)
      (try clear hb2)
      (try clear hk)
      (try clear hi)
      refine hK.out _ _ ⟨(blk_cell BK175.out 0).trans rfl, (blk_cell BK175.out 1).trans rfl, (blk_cell BK175.out 2).trans rfl⟩ (fun hHeld => ?_)
      clear hK K
      refine norm_ (a' := ?_) ?_ ?_
      rotate_left
      ·show Act.put _ (some 19) _ = _
       simp only [Act.put, sa_, sz_, ss_, i64_w, i32_w]
       rfl
      refine pure_ (i := 8) (N := some 20) (v := ?_) (a' := ?_) (dn 25 511) rfl rfl (any_of HT_.out (by kernel_rfl)) (fun _ _ _ h => h) (Or.inl ⟨by rfl, ?_⟩) ?_ ?_
      rotate_left; (intro w'; go_simp; with_reducible rfl); rotate_left; (simp only [Act.put, sa_, sz_, ss_, i64_w, i32_w]; rfl)
      refine pure_ (i := 9) (N := some 21) (v := ?_) (a' := ?_) (dn 25 1023) rfl rfl (any_of HT_.out (by kernel_rfl)) (fun _ _ _ h => h) (Or.inl ⟨by rfl, ?_⟩) ?_ ?_
      rotate_left; (intro w'; go_simp; with_reducible rfl); rotate_left; (simp only [Act.put, sa_, sz_, ss_, i64_w, i32_w]; rfl)
      refine pure_ (i := 10) (N := some 22) (v := ?_) (a' := ?_) (dn 25 2047) rfl rfl (any_of HT_.out (by kernel_rfl)) (fun _ _ _ h => h) (Or.inl ⟨by rfl, ?_⟩) ?_ ?_
      rotate_left; (intro w'; go_simp; with_reducible rfl); rotate_left; (simp only [Act.put, sa_, sz_, ss_, i64_w, i32_w]; rfl)
      refine pure_ (i := 11) (N := some 23) (v := undef) (a' := ?_) (dn 25 4095) rfl rfl (any_of HT_.out (by kernel_rfl)) (fun _ _ _ h => h) (Or.inr ⟨by rfl, rfl⟩) ?_ ?_
      rotate_left; (simp only [Act.put, sa_, sz_, ss_, i64_w, i32_w]; rfl)
      refine pure_ (i := 12) (N := some 24) (v := undef) (a' := ?_) (dn 25 8191) rfl rfl (any_of HT_.out (by kernel_rfl)) (fun _ _ _ h => h) (Or.inr ⟨by rfl, rfl⟩) ?_ ?_
      rotate_left; (simp only [Act.put, sa_, sz_, ss_, i64_w, i32_w]; rfl)
      refine pure_ (i := 13) (N := some 25) (v := undef) (a' := ?_) (dn 25 16383) rfl rfl (any_of HT_.out (by kernel_rfl)) (fun _ _ _ h => h) (Or.inr ⟨by rfl, rfl⟩) ?_ ?_
      rotate_left; (simp only [Act.put, sa_, sz_, ss_, i64_w, i32_w]; rfl)
      refine pure_ (i := 14) (N := some 26) (v := undef) (a' := ?_) (dn 25 32767) rfl rfl (any_of HT_.out (by kernel_rfl)) (fun _ _ _ h => h) (Or.inr ⟨by rfl, rfl⟩) ?_ ?_
      rotate_left; (simp only [Act.put, sa_, sz_, ss_, i64_w, i32_w]; rfl)
      refine pure_ (i := 15) (N := some 27) (v := undef) (a' := ?_) (dn 25 65535) rfl rfl (any_of HT_.out (by kernel_rfl)) (fun _ _ _ h => h) (Or.inr ⟨by rfl, rfl⟩) ?_ ?_
      rotate_left; (simp only [Act.put, sa_, sz_, ss_, i64_w, i32_w]; rfl)
      refine pure_ (i := 16) (N := some 28) (v := undef) (a' := ?_) (dn 25 131071) rfl rfl (any_of HT_.out (by kernel_rfl)) (fun _ _ _ h => h) (Or.inr ⟨by rfl, rfl⟩) ?_ ?_
      rotate_left; (simp only [Act.put, sa_, sz_, ss_, i64_w, i32_w]; rfl)
      refine pure_ (i := 17) (N := some 29) (v := undef) (a' := ?_) (dn 25 262143) rfl rfl (any_of HT_.out (by kernel_rfl)) (fun _ _ _ h => h) (Or.inr ⟨by rfl, rfl⟩) ?_ ?_
      rotate_left; (simp only [Act.put, sa_, sz_, ss_, i64_w, i32_w]; rfl)
      refine pure_ (i := 18) (N := some 30) (v := undef) (a' := ?_) (dn 25 524287) rfl rfl (any_of HT_.out (by kernel_rfl)) (fun _ _ _ h => h) (Or.inr ⟨by rfl, rfl⟩) ?_ ?_
      rotate_left; (simp only [Act.put, sa_, sz_, ss_, i64_w, i32_w]; rfl)
      refine pure_ (i := 19) (N := some 31) (v := undef) (a' := ?_) (dn 25 1048575) rfl rfl (any_of HT_.out (by kernel_rfl)) (fun _ _ _ h => h) (Or.inr ⟨by rfl, rfl⟩) ?_ ?_
      rotate_left; (simp only [Act.put, sa_, sz_, ss_, i64_w, i32_w]; rfl)
      refine pure_ (i := 20) (N := some 32) (v := undef) (a' := ?_) (dn 25 2097151) rfl rfl (any_of HT_.out (by kernel_rfl)) (fun _ _ _ h => h) (Or.inr ⟨by rfl, rfl⟩) ?_ ?_
      rotate_left; (simp only [Act.put, sa_, sz_, ss_, i64_w, i32_w]; rfl)
      refine pure_ (i := 21) (N := some 33) (v := undef) (a' := ?_) (dn 25 4194303) rfl rfl (any_of HT_.out (by kernel_rfl)) (fun _ _ _ h => h) (Or.inr ⟨by rfl, rfl⟩) ?_ ?_
      rotate_left; (simp only [Act.put, sa_, sz_, ss_, i64_w, i32_w]; rfl)
      refine pure_ (i := 22) (N := some 34) (v := undef) (a' := ?_) (dn 25 8388607) rfl rfl (any_of HT_.out (by kernel_rfl)) (fun _ _ _ h => h) (Or.inr ⟨by rfl, rfl⟩) ?_ ?_
      rotate_left; (simp only [Act.put, sa_, sz_, ss_, i64_w, i32_w]; rfl)
      refine pure_ (i := 23) (N := some 35) (v := undef) (a' := ?_) (dn 25 16777215) rfl rfl (any_of HT_.out (by kernel_rfl)) (fun _ _ _ h => h) (Or.inr ⟨by rfl, rfl⟩) ?_ ?_
      rotate_left; (simp only [Act.put, sa_, sz_, ss_, i64_w, i32_w]; rfl)
      refine pure_ (i := 24) (N := some 36) (v := ?_) (a' := ?_) (dn 25 33554431) rfl rfl (any_of HT_.out (by kernel_rfl)) (fun _ _ _ h => h) (Or.inl ⟨by rfl, ?_⟩) ?_ ?_
      rotate_left; (intro w'; go_simp; with_reducible rfl); rotate_left; (simp only [Act.put, sa_, sz_, ss_, i64_w, i32_w]; rfl)
      refine done_ (done_of HT_.out (by kernel_rfl)) ?_
      try go_wp2
      go_meet
      case rel => exact ⟨_, (true), (by first | rfl | (simp; done) | (simp [*]; done)), H', ⟨by have := HK1.out; first | omega | exact Nat.le_refl _⟩, ⟨by (with_reducible repeat (first | refine blk_drewN ?_ _ | refine blk_drew ?_ | refine blk_alloc ?_ _)); exact BK175.out⟩, ⟨by repeat (first | (with_reducible first | exact HB.out | apply below_alloc | apply pw_below_drewN | apply below_drew1 | refine below_set ?_ GE175.out) | exact HB.out)⟩⟩
    ·replace c9 := Bool.eq_false_iff.mpr c9
     subst c9
     have H1 : (impl_cellsOk.j1 k1 l0 l0 (l0.length : Int) x7_1 true) = some r := by rw [if_neg (show ¬ (false = true) by decide)] at H; exact H
     clear H
     have H := H1
     clear H1
     have H' := Aside0.mk H
     clear H
     try go_wp2
     have n0_ : Aside0 ((((w6.setCell ⟨gb175, 0, none⟩ (.int .i64 ((rd_T158 l0 x7_1).f0))).setCell ⟨gb175, 1, none⟩ (.bool ((rd_T158 l0 x7_1).f1.f0))).setCell ⟨gb175, 2, none⟩ (.int .i64 ((rd_T158 l0 x7_1).f1.f1))).heap[gb175]? = some (.cells #[.int .i64 ((rd_T158 l0 x7_1).f0), .bool ((rd_T158 l0 x7_1).f1.f0), .int .i64 ((rd_T158 l0 x7_1).f1.f1)] 158 (0, 0))) := ⟨by (with_reducible repeat (first | refine blk_drewN ?_ _ | refine blk_drew ?_ | refine blk_alloc ?_ _)); refine blk_put (cs := #[.int .i64 ((rd_T158 l0 x7_1).f0), .bool ((rd_T158 l0 x7_1).f1.f0), .int .i64 0]) ?_ 2 _ rfl; (with_reducible repeat (first | refine blk_drewN ?_ _ | refine blk_drew ?_ | refine blk_alloc ?_ _)); refine blk_put (cs := #[.int .i64 ((rd_T158 l0 x7_1).f0), .bool false, .int .i64 0]) ?_ 1 _ rfl; (with_reducible repeat (first | refine blk_drewN ?_ _ | refine blk_drew ?_ | refine blk_alloc ?_ _)); refine blk_put (cs := #[.int .i64 0, .bool false, .int .i64 0]) ?_ 0 _ rfl; (with_reducible repeat (first | refine blk_drewN ?_ _ | refine blk_drew ?_ | refine blk_alloc ?_ _)); exact BK175.out⟩
     have n1_ : Aside0 (Below w.heap.size w (((w6.setCell ⟨gb175, 0, none⟩ (.int .i64 ((rd_T158 l0 x7_1).f0))).setCell ⟨gb175, 1, none⟩ (.bool ((rd_T158 l0 x7_1).f1.f0))).setCell ⟨gb175, 2, none⟩ (.int .i64 ((rd_T158 l0 x7_1).f1.f1)))) := ⟨by repeat (first | (with_reducible first | exact HB.out | apply below_alloc | apply pw_below_drewN | apply below_drew1 | refine below_set ?_ GE175.out) | exact HB.out)⟩
     (try clear BK175)
     (try clear HB)
     generalize (((w6.setCell ⟨gb175, 0, none⟩ (.int .i64 ((rd_T158 l0 x7_1).f0))).setCell ⟨gb175, 1, none⟩ (.bool ((rd_T158 l0 x7_1).f1.f0))).setCell ⟨gb175, 2, none⟩ (.int .i64 ((rd_T158 l0 x7_1).f1.f1))) = w25 at n0_ n1_ ⊢
     have BK175 := n0_
     have HB := n1_
     clear n0_ n1_
     have n0_ := Aside0.mk (blk_drew BK175.out)
     have n1_ := Aside0.mk (below_drew1 HB.out)
     clear BK175
     clear HB
     have BK175 := n0_
     have HB := n1_
     clear n0_ n1_
     refine start_ (n := 25) (S := fun w' => w'.cell? ⟨gb175, 0, none⟩ = some (.int .i64 ((rd_T158 l0 x7_1).f0)) ∧ w'.cell? ⟨gb175, 1, none⟩ = some (.bool ((rd_T158 l0 x7_1).f1.f0)) ∧ w'.cell? ⟨gb175, 2, none⟩ = some (.int .i64 ((rd_T158 l0 x7_1).f1.f1))) (ds := []) (dn 25 0) (by kernel_rfl) rfl rfl ⟨(blk_cell BK175.out 0).trans rfl, (blk_cell BK175.out 1).trans rfl, (blk_cell BK175.out 2).trans rfl⟩ (fun hHeld => ?_); refine with_tabW impl_cellsOk.tab4 impl_cellsOk.bits4 (fun HT_ HW_ => ?_)
     generalize w25.drew = w26 at BK175 HB hHeld ⊢
     refine pure_ (i := 0) (N := some 12) (v := ?_) (a' := ?_) (dn 25 1) rfl rfl (any_of HT_.out (by kernel_rfl)) (fun _ _ _ h => h) (Or.inl ⟨by rfl, ?_⟩) ?_ ?_
     rotate_left; (intro w'; go_simp; with_reducible rfl); rotate_left; (simp only [Act.put, sa_, sz_, ss_, i64_w, i32_w]; rfl)
     refine take_ (i := 1) (N := some 13) (v := ?_) (a' := ?_) (dn 25 3) rfl rfl (take_ofW HT_.out HW_.out (by kernel_rfl)) (fun _ _ _ h => h) (Or.inl ⟨by rfl, ?_⟩) hHeld ?_ ?_
     rotate_left
     ·rintro w' ⟨s0, s1, s2⟩
      go_simp
      with_reducible rfl
     rotate_left
     ·simp only [Act.put, sa_, sz_, ss_, i64_w, i32_w]
      rfl
     refine one_ (i := 2) (N := some 14) (dn 25 7) rfl rfl (one_of HT_.out (by kernel_rfl)) (by decide) (fun K hK => ?_)
     refine goes_ Try.func92 (by kernel_rfl) rfl #[.int .i64 ((rd_T158 l0 x7_1).f0), .int .i64 0, .int .i64 7] (by rfl) rfl rfl (by (try simp only [List.map_toArray, List.map_cons, List.map_nil]); first | done | rfl | (simp only [List.length_drop, List.length_take]; rfl)) ?_
     with_reducible refine (impl_within.calls ((rd_T158 l0 x7_1).f0) 0 7 false _ A8.out).mono ?_
     rintro e w' ⟨rfl, ⟨nd, rfl⟩⟩
     refine ⟨_, rfl, ?_⟩
     refine hK.out _ _ ⟨(blk_cell BK175.out 0).trans rfl, (blk_cell BK175.out 1).trans rfl, (blk_cell BK175.out 2).trans rfl⟩ (fun hHeld => ?_)
     clear hK K
     refine norm_ (a' := ?_) ?_ ?_
     rotate_left
     ·show Act.put _ (some 14) _ = _
      simp only [Act.put, sa_, sz_, ss_, i64_w, i32_w]
      rfl
     refine pure_ (i := 3) (N := some 15) (v := ?_) (a' := ?_) (dn 25 15) rfl rfl (any_of HT_.out (by kernel_rfl)) (fun _ _ _ h => h) (Or.inl ⟨by rfl, ?_⟩) ?_ ?_
     rotate_left; (intro w'; go_simp; with_reducible rfl); rotate_left; (simp only [Act.put, sa_, sz_, ss_, i64_w, i32_w]; rfl)
     refine pure_ (i := 4) (N := some 16) (v := ?_) (a' := ?_) (dn 25 31) rfl rfl (any_of HT_.out (by kernel_rfl)) (fun _ _ _ h => h) (Or.inl ⟨by rfl, ?_⟩) ?_ ?_
     rotate_left; (intro w'; go_simp; with_reducible rfl); rotate_left; (simp only [Act.put, sa_, sz_, ss_, i64_w, i32_w]; rfl)
     refine pure_ (i := 5) (N := some 17) (v := undef) (a' := ?_) (dn 25 63) rfl rfl (any_of HT_.out (by kernel_rfl)) (fun _ _ _ h => h) (Or.inr ⟨by rfl, rfl⟩) ?_ ?_
     rotate_left; (simp only [Act.put, sa_, sz_, ss_, i64_w, i32_w]; rfl)
     refine pure_ (i := 6) (N := some 18) (v := undef) (a' := ?_) (dn 25 127) rfl rfl (any_of HT_.out (by kernel_rfl)) (fun _ _ _ h => h) (Or.inr ⟨by rfl, rfl⟩) ?_ ?_
     rotate_left; (simp only [Act.put, sa_, sz_, ss_, i64_w, i32_w]; rfl)
     refine pure_ (i := 7) (N := some 19) (v := undef) (a' := ?_) (dn 25 255) rfl rfl (any_of HT_.out (by kernel_rfl)) (fun _ _ _ h => h) (Or.inr ⟨by rfl, rfl⟩) ?_ ?_
     rotate_left; (simp only [Act.put, sa_, sz_, ss_, i64_w, i32_w]; rfl)
     refine pure_ (i := 8) (N := some 20) (v := undef) (a' := ?_) (dn 25 511) rfl rfl (any_of HT_.out (by kernel_rfl)) (fun _ _ _ h => h) (Or.inr ⟨by rfl, rfl⟩) ?_ ?_
     rotate_left; (simp only [Act.put, sa_, sz_, ss_, i64_w, i32_w]; rfl)
     refine pure_ (i := 9) (N := some 21) (v := ?_) (a' := ?_) (dn 25 1023) rfl rfl (any_of HT_.out (by kernel_rfl)) (fun _ _ _ h => h) (Or.inl ⟨by rfl, ?_⟩) ?_ ?_
     rotate_left; (intro w'; go_simp; with_reducible rfl); rotate_left; (simp only [Act.put, sa_, sz_, ss_, i64_w, i32_w]; rfl)
     refine pure_ (i := 10) (N := some 22) (v := ?_) (a' := ?_) (dn 25 2047) rfl rfl (any_of HT_.out (by kernel_rfl)) (fun _ _ _ h => h) (Or.inl ⟨by rfl, ?_⟩) ?_ ?_
     rotate_left; (intro w'; go_simp; with_reducible rfl); rotate_left; (simp only [Act.put, sa_, sz_, ss_, i64_w, i32_w]; rfl)
     refine pure_ (i := 11) (N := some 23) (v := undef) (a' := ?_) (dn 25 4095) rfl rfl (any_of HT_.out (by kernel_rfl)) (fun _ _ _ h => h) (Or.inr ⟨by rfl, rfl⟩) ?_ ?_
     rotate_left; (simp only [Act.put, sa_, sz_, ss_, i64_w, i32_w]; rfl)
     refine pure_ (i := 12) (N := some 24) (v := undef) (a' := ?_) (dn 25 8191) rfl rfl (any_of HT_.out (by kernel_rfl)) (fun _ _ _ h => h) (Or.inr ⟨by rfl, rfl⟩) ?_ ?_
     rotate_left; (simp only [Act.put, sa_, sz_, ss_, i64_w, i32_w]; rfl)
     refine pure_ (i := 13) (N := some 25) (v := undef) (a' := ?_) (dn 25 16383) rfl rfl (any_of HT_.out (by kernel_rfl)) (fun _ _ _ h => h) (Or.inr ⟨by rfl, rfl⟩) ?_ ?_
     rotate_left; (simp only [Act.put, sa_, sz_, ss_, i64_w, i32_w]; rfl)
     refine pure_ (i := 14) (N := some 26) (v := undef) (a' := ?_) (dn 25 32767) rfl rfl (any_of HT_.out (by kernel_rfl)) (fun _ _ _ h => h) (Or.inr ⟨by rfl, rfl⟩) ?_ ?_
     rotate_left; (simp only [Act.put, sa_, sz_, ss_, i64_w, i32_w]; rfl)
     refine pure_ (i := 15) (N := some 27) (v := undef) (a' := ?_) (dn 25 65535) rfl rfl (any_of HT_.out (by kernel_rfl)) (fun _ _ _ h => h) (Or.inr ⟨by rfl, rfl⟩) ?_ ?_
     rotate_left; (simp only [Act.put, sa_, sz_, ss_, i64_w, i32_w]; rfl)
     refine pure_ (i := 16) (N := some 28) (v := undef) (a' := ?_) (dn 25 131071) rfl rfl (any_of HT_.out (by kernel_rfl)) (fun _ _ _ h => h) (Or.inr ⟨by rfl, rfl⟩) ?_ ?_
     rotate_left; (simp only [Act.put, sa_, sz_, ss_, i64_w, i32_w]; rfl)
     refine pure_ (i := 17) (N := some 29) (v := undef) (a' := ?_) (dn 25 262143) rfl rfl (any_of HT_.out (by kernel_rfl)) (fun _ _ _ h => h) (Or.inr ⟨by rfl, rfl⟩) ?_ ?_
     rotate_left; (simp only [Act.put, sa_, sz_, ss_, i64_w, i32_w]; rfl)
     refine pure_ (i := 18) (N := some 30) (v := undef) (a' := ?_) (dn 25 524287) rfl rfl (any_of HT_.out (by kernel_rfl)) (fun _ _ _ h => h) (Or.inr ⟨by rfl, rfl⟩) ?_ ?_
     rotate_left; (simp only [Act.put, sa_, sz_, ss_, i64_w, i32_w]; rfl)
     refine pure_ (i := 19) (N := some 31) (v := undef) (a' := ?_) (dn 25 1048575) rfl rfl (any_of HT_.out (by kernel_rfl)) (fun _ _ _ h => h) (Or.inr ⟨by rfl, rfl⟩) ?_ ?_
     rotate_left; (simp only [Act.put, sa_, sz_, ss_, i64_w, i32_w]; rfl)
     refine pure_ (i := 20) (N := some 32) (v := undef) (a' := ?_) (dn 25 2097151) rfl rfl (any_of HT_.out (by kernel_rfl)) (fun _ _ _ h => h) (Or.inr ⟨by rfl, rfl⟩) ?_ ?_
     rotate_left; (simp only [Act.put, sa_, sz_, ss_, i64_w, i32_w]; rfl)
     refine pure_ (i := 21) (N := some 33) (v := undef) (a' := ?_) (dn 25 4194303) rfl rfl (any_of HT_.out (by kernel_rfl)) (fun _ _ _ h => h) (Or.inr ⟨by rfl, rfl⟩) ?_ ?_
     rotate_left; (simp only [Act.put, sa_, sz_, ss_, i64_w, i32_w]; rfl)
     refine pure_ (i := 22) (N := some 34) (v := undef) (a' := ?_) (dn 25 8388607) rfl rfl (any_of HT_.out (by kernel_rfl)) (fun _ _ _ h => h) (Or.inr ⟨by rfl, rfl⟩) ?_ ?_
     rotate_left; (simp only [Act.put, sa_, sz_, ss_, i64_w, i32_w]; rfl)
     refine pure_ (i := 23) (N := some 35) (v := undef) (a' := ?_) (dn 25 16777215) rfl rfl (any_of HT_.out (by kernel_rfl)) (fun _ _ _ h => h) (Or.inr ⟨by rfl, rfl⟩) ?_ ?_
     rotate_left; (simp only [Act.put, sa_, sz_, ss_, i64_w, i32_w]; rfl)
     refine pure_ (i := 24) (N := some 36) (v := ?_) (a' := ?_) (dn 25 33554431) rfl rfl (any_of HT_.out (by kernel_rfl)) (fun _ _ _ h => h) (Or.inl ⟨by rfl, ?_⟩) ?_ ?_
     rotate_left; (intro w'; go_simp; with_reducible rfl); rotate_left; (simp only [Act.put, sa_, sz_, ss_, i64_w, i32_w]; rfl)
     refine done_ (done_of HT_.out (by kernel_rfl)) ?_
     try go_wp2
     go_meet
     case rel => exact ⟨_, (true), (by first | rfl | (simp; done) | (simp [*]; done)), H', ⟨by have := HK1.out; first | omega | exact Nat.le_refl _⟩, ⟨by (with_reducible repeat (first | refine blk_drewN ?_ _ | refine blk_drew ?_ | refine blk_alloc ?_ _)); exact BK175.out⟩, ⟨by repeat (first | (with_reducible first | exact HB.out | apply below_alloc | apply pw_below_drewN | apply below_drew1 | refine below_set ?_ GE175.out) | exact HB.out)⟩⟩
   case rest =>
    clear HC5
    try clear c1
    try clear p2
    try clear c9
    try clear c11
    try clear c12
    try clear c12b0
    try clear c14
    try clear c15
    obtain ⟨kq, x36_4, rfl, HA, HJ4, BK175, HB⟩ := hcut
    cases kq with
    | zero => exact absurd (HA.out.symm.trans (by rw [impl_cellsOk.j1])) (fun h_ => by cases h_)
    | succ kj4 =>
     have H := HA.out
     clear HA
     simp only [impl_cellsOk.j1] at H
     by_cases c27 : x36_4 = true
     ·subst c27
      have H1 : (some false) = some r := by rw [if_pos rfl] at H; exact H
      clear H
      have H := H1
      clear H1
      obtain rfl := Option.some.inj H
      go_wp2
      go_ret
      exact ⟨by first | rfl | (simp [errW_none, errW_some] <;> rfl) | (simp [*, errW_none, errW_some] <;> rfl), by repeat (first | (with_reducible first | exact HB.out | apply below_alloc | apply pw_below_drewN | apply below_drew1 | refine below_set ?_ GE175.out) | exact HB.out)⟩
     ·replace c27 := Bool.eq_false_iff.mpr c27
      subst c27
      have H1 : (impl_cellsOk.l0 kj4 l0 l0 (l0.length : Int) (wrap64 (x7_1 + 1))) = some r := by rw [if_neg (show ¬ (false = true) by decide)] at H; exact H
      clear H
      have H := H1
      clear H1
      have H' := Aside0.mk H
      clear H
      go_wp2
      go_roundg kj4
      case measure => have := HK1.out; have := HJ4.out; omega
      case rel => exact ⟨(wrap64 (x7_1 + 1)), (by first | rfl | (simp; done) | (simp [*]; done)), H', ⟨by have := HK1.out; have := HJ4.out; omega⟩, ⟨by repeat (first | (with_reducible first | exact HB.out | apply below_alloc | apply pw_below_drewN | apply below_drew1 | refine below_set ?_ GE175.out) | exact HB.out)⟩⟩

end Go.Proofs.Ytfpghkgfodnjmaa.MFnExactMsgOk
