-- Written by a program of this session (wip/mprint.py) out of the translation's own print; Lean checks it.
import Derived.Test.YtfpghkgfodnjmaaMFnExactMsgOkx0
import Derived.Test.YtfpghkgfodnjmaaMFnExactMsgOkx1
namespace Go.Proofs.Ytfpghkgfodnjmaa.MFnExactMsgOk
open Go.RowKit Go.Proofs.YtfpghkgfodnjmaaW.PrintWords Go.Proofs.YtfpghkgfodnjmaaW.PrintLast Go.Proofs.YtfpghkgfodnjmaaW.PrintMore Go.Proofs.YtfpghkgfodnjmaaLib
attribute [local go_sem] max2_int min2_int max_two min_two max_three min_three max_four min_four   -- for this text's walks alone
set_option linter.unusedVariables false
set_option linter.unusedSimpArgs false

/-! ### spec_NotesOk: function 121 -/
mutual
def spec_NotesOk.l0 : Nat → List (S161) → Int → Option (Bool)
 | 0, _, _ => none
 | k + 1, x0, x3 => if x3 < (x0.length : Int) then (if 0 ≤ x3 then ((spec_l1In.f ((rd_T161 x0 x3).f0) 1 1000000).bind fun t120 => (if t120 = true then ((spec_l1In.f ((rd_T161 x0 x3).f1) 1 16777215).bind fun t122 => (if t122 = true then (if x3 > 0 then (if 0 ≤ (wrap64 (x3 - 1)) then (if (wrap64 (x3 - 1)) < (x0.length : Int) then (spec_NotesOk.j1 k x0 x3 (decide (((rd_T161 x0 (wrap64 (x3 - 1))).f0) ≥ ((rd_T161 x0 x3).f0)))) else (none)) else (none)) else (spec_NotesOk.j1 k x0 x3 false)) else (spec_NotesOk.j1 k x0 x3 true))) else (spec_NotesOk.j1 k x0 x3 true))) else (none)) else (some (decide ((x0.length : Int) ≤ 130)))
def spec_NotesOk.j1 : Nat → List (S161) → Int → Bool → Option (Bool)
 | 0, _, _, _ => none
 | k + 1, x0, x3, x43 => if x43 = true then (some false) else (spec_NotesOk.l0 k x0 (wrap64 (x3 + 1)))
end
def spec_NotesOk.f (k : Nat) (l0 : List (S161)) : Option (Bool) := spec_NotesOk.l0 k l0 0
def spec_NotesOk.T4 : Bool × List (List Nat × List Nat) := (true, [([], []), ([], []), ([0, 1], [0, 1]), ([2], [2]), ([3], [3]), ([4], [4]), ([5], [5]), ([6, 5], [6]), ([7], [7]), ([7], [7]), ([8, 9, 7], [7, 8, 9]), ([10, 7], [7, 10]), ([11, 7], [7, 11]), ([12, 7, 7], [7, 12]), ([13, 7], [7, 13]), ([7, 14], [7, 14]), ([15, 13], [15]), ([16], [16]), ([17, 16], [16, 17]), ([18, 16, 16], [16, 18]), ([19], [19]), ([19], [19]), ([21, 19], [19, 21]), ([20, 22, 19], [19, 20, 22]), ([23, 19], [19, 23]), ([24, 19], [19, 24]), ([19], [19]), ([19], [19]), ([26, 27, 19], [19, 26, 27]), ([28, 19], [19, 28]), ([29, 19], [19, 29]), ([25, 30, 19], [19, 25, 30]), ([19, 31, 16], [16, 19, 31]), ([16, 32], [16, 32])])
def spec_NotesOk.B4 : List Nat := [0, 0, 3, 7, 15, 31, 63, 127, 255, 255, 1023, 2047, 4095, 8191, 16383, 32767, 65535, 131071, 262143, 524287, 1048575, 1048575, 3145727, 8388607, 16777215, 33554431, 1048575, 1048575, 202375167, 470810623, 1007681535, 2147483647, 4294967295, 8589934591]
theorem spec_NotesOk.tab4 : rtab .any (opsOf Try.f121 4) = spec_NotesOk.T4 := by kernel_rfl
theorem spec_NotesOk.bits4 : waitsOk spec_NotesOk.T4.2 spec_NotesOk.B4 = true := by kernel_rfl
set_option maxHeartbeats 8000000 in
set_option maxRecDepth 100000 in
theorem spec_NotesOk.calls (k : Nat) (A0 : Option Addr) (c0 : Nat) (l0 : List (S161)) (r : Bool) (w : World) (hr0 : Kd.C k161 w A0 l0.length l0) (hc0 : l0.length ≤ c0) (h : spec_NotesOk.f k l0 = some r) :
  Calls Try.prog 121 #[.slice A0 l0.length c0] w fun e w' => e = .returned (.bool r) ∧ Below w.heap.size w w' := by
 have HR0 := Aside0.mk hr0
 have HC0 := Aside0.mk hc0
 clear hr0 hc0
 have HB := Aside0.mk (Below.refl w.heap.size w)
 have H : (spec_NotesOk.l0 k l0 0) = some r := h
 clear h
 have H' := Aside0.mk H
 clear H
 go_enter Try.func121, Try.ntmps121
 go_wp2
 (try simp only [Act.put, sa_, sz_, ss_])
 go_loopg [3] k (fun kq v3 w' => ∃ (x3_1 : Int), v3 = .int .i64 x3_1 ∧ Aside0 (spec_NotesOk.l0 kq l0 x3_1 = some r) ∧ Aside0 (kq ≤ k) ∧ Aside0 (Below w.heap.size w w'))
 case atStart => exact ⟨(0), (by first | rfl | (simp; done) | (simp [*]; done)), H', ⟨Nat.le_refl _⟩, ⟨by repeat (first | (with_reducible first | exact HB.out | apply below_alloc | apply pw_below_drewN | apply below_drew1) | exact HB.out)⟩⟩
 case round =>
  clear H'
  try clear c1
  obtain ⟨x3_1, rfl, HA, HK1, HB⟩ := hrel
  cases gk with
  | zero => exact absurd (HA.out.symm.trans (by rw [spec_NotesOk.l0])) (fun h_ => by cases h_)
  | succ k1 =>
   have H := HA.out
   clear HA
   simp only [spec_NotesOk.l0] at H
   by_cases c2 : x3_1 < (l0.length : Int)
   case neg =>
    rw [if_neg c2] at H
    have c2b0 : decide (x3_1 < (l0.length : Int)) = false := decide_eq_false c2
    clear c2
    obtain rfl := Option.some.inj H
    go_wp2
    go_ret
    exact ⟨by first | rfl | (simp [errW_none, errW_some] <;> rfl) | (simp [*, errW_none, errW_some] <;> rfl), by repeat (first | (with_reducible first | exact HB.out | apply below_alloc | apply pw_below_drewN | apply below_drew1) | exact HB.out)⟩
   rw [if_pos c2] at H
   have c2b0 : decide (x3_1 < (l0.length : Int)) = true := decide_eq_true c2
   clear c2
   have HC3 := Aside0.mk H
   clear H
   go_upto_region 4 with (fail)
   go_cut [43] (fun v43 wc => ∃ (kq : Nat) (x43_2 : Bool), v43 = .bool x43_2 ∧ Aside0 (spec_NotesOk.j1 kq l0 x3_1 x43_2 = some r) ∧ Aside0 (kq ≤ k1) ∧ Aside0 (Below w.heap.size w wc))
   case first =>
    have H := HC3.out
    clear HC3
    by_cases c4 : 0 ≤ x3_1
    case neg => rw [if_neg c4] at H; exact absurd H (by simp)
    rw [if_pos c4] at H
    have c4b0 : decide (0 ≤ x3_1) = true := decide_eq_true c4
    clear c4
    (first | rw [c4b0] | (simp only [i64_w, i32_w]; rw [c4b0]) | skip)
    replace H := Option.bind_eq_some_iff.mp H
    obtain ⟨t120, A50, H⟩ := H
    replace H : (if t120 = true then ((spec_l1In.f ((rd_T161 l0 x3_1).f1) 1 16777215).bind fun t122 => (if t122 = true then (if x3_1 > 0 then (if 0 ≤ (wrap64 (x3_1 - 1)) then (if (wrap64 (x3_1 - 1)) < (l0.length : Int) then (spec_NotesOk.j1 k1 l0 x3_1 (decide (((rd_T161 l0 (wrap64 (x3_1 - 1))).f0) ≥ ((rd_T161 l0 x3_1).f0)))) else (none)) else (none)) else (spec_NotesOk.j1 k1 l0 x3_1 false)) else (spec_NotesOk.j1 k1 l0 x3_1 true))) else (spec_NotesOk.j1 k1 l0 x3_1 true)) = some r := H
    have A5 := Aside0.mk A50
    clear A50
    by_cases c6 : t120 = true
    ·subst c6
     have H1 : ((spec_l1In.f ((rd_T161 l0 x3_1).f1) 1 16777215).bind fun t122 => (if t122 = true then (if x3_1 > 0 then (if 0 ≤ (wrap64 (x3_1 - 1)) then (if (wrap64 (x3_1 - 1)) < (l0.length : Int) then (spec_NotesOk.j1 k1 l0 x3_1 (decide (((rd_T161 l0 (wrap64 (x3_1 - 1))).f0) ≥ ((rd_T161 l0 x3_1).f0)))) else (none)) else (none)) else (spec_NotesOk.j1 k1 l0 x3_1 false)) else (spec_NotesOk.j1 k1 l0 x3_1 true))) = some r := by rw [if_pos rfl] at H; exact H
     clear H
     have H := H1
     clear H1
     replace H := Option.bind_eq_some_iff.mp H
     obtain ⟨t122, A70, H⟩ := H
     replace H : (if t122 = true then (if x3_1 > 0 then (if 0 ≤ (wrap64 (x3_1 - 1)) then (if (wrap64 (x3_1 - 1)) < (l0.length : Int) then (spec_NotesOk.j1 k1 l0 x3_1 (decide (((rd_T161 l0 (wrap64 (x3_1 - 1))).f0) ≥ ((rd_T161 l0 x3_1).f0)))) else (none)) else (none)) else (spec_NotesOk.j1 k1 l0 x3_1 false)) else (spec_NotesOk.j1 k1 l0 x3_1 true)) = some r := H
     have A7 := Aside0.mk A70
     clear A70
     by_cases c8 : t122 = true
     ·subst c8
      have H1 : (if x3_1 > 0 then (if 0 ≤ (wrap64 (x3_1 - 1)) then (if (wrap64 (x3_1 - 1)) < (l0.length : Int) then (spec_NotesOk.j1 k1 l0 x3_1 (decide (((rd_T161 l0 (wrap64 (x3_1 - 1))).f0) ≥ ((rd_T161 l0 x3_1).f0)))) else (none)) else (none)) else (spec_NotesOk.j1 k1 l0 x3_1 false)) = some r := by rw [if_pos rfl] at H; exact H
      clear H
      have H := H1
      clear H1
      by_cases c9 : x3_1 > 0
      case neg =>
       rw [if_neg c9] at H
       have c9b0 : decide (0 < x3_1) = false := decide_eq_false c9
       clear c9
       have H' := Aside0.mk H
       clear H
       try go_wp2
       have n0_ := Aside0.mk (below_drew1 HB.out)
       clear HB
       have HB := n0_
       clear n0_
       have p119 : 0 ≤ (x3_1 : Int) := of_decide_eq_true (by first | (with_reducible assumption) | assumption)
       have q119 : x3_1 < (l0.length : Int) := of_decide_eq_true (by first | (with_reducible assumption) | assumption)
       obtain ⟨ad119, e119, hx119_0, hx119_1⟩ := at_T161 HR0.out x3_1 p119 q119
       have hw119_1 := hx119_1
       have hw119_0 := hx119_0
       cases e119
       replace hx119_0 := (HB.out.cell (World.block_lt_of_cell? w _ hx119_0)).trans hx119_0
       replace hx119_1 := (HB.out.cell (World.block_lt_of_cell? w _ hx119_1)).trans hx119_1
       replace p119 := eq_true p119
       replace q119 := eq_true q119
       have p121 : 0 ≤ (x3_1 : Int) := of_decide_eq_true (by first | (with_reducible assumption) | assumption)
       have q121 : x3_1 < (l0.length : Int) := of_decide_eq_true (by first | (with_reducible assumption) | assumption)
       obtain ⟨ad121, e121, hx121_0, hx121_1⟩ := at_T161 HR0.out x3_1 p121 q121
       have hw121_1 := hx121_1
       have hw121_0 := hx121_0
       obtain rfl : ad119 = ad121 := (by injection e121)
       replace hx121_0 := (HB.out.cell (World.block_lt_of_cell? w _ hx121_0)).trans hx121_0
       replace hx121_1 := (HB.out.cell (World.block_lt_of_cell? w _ hx121_1)).trans hx121_1
       replace p121 := eq_true p121
       replace q121 := eq_true q121
       refine start_ (n := 34) (S := fun w' => w'.cell? (ad119.add ((x3_1).toNat * 2)) = some (.int .i64 ((rd_T161 l0 x3_1).f0)) ∧ w'.cell? ⟨(ad119.add ((x3_1).toNat * 2)).block, (ad119.add ((x3_1).toNat * 2)).off + 1, none⟩ = some (.int .i64 ((rd_T161 l0 x3_1).f1)) ∧ w'.cell? (ad119.add ((x3_1).toNat * 2)) = some (.int .i64 ((rd_T161 l0 x3_1).f0)) ∧ w'.cell? ⟨(ad119.add ((x3_1).toNat * 2)).block, (ad119.add ((x3_1).toNat * 2)).off + 1, none⟩ = some (.int .i64 ((rd_T161 l0 x3_1).f1))) (ds := []) (dn 34 0) (by kernel_rfl) rfl rfl ⟨((HB.out.cell (World.block_lt_of_cell? w _ hw119_0)).trans hw119_0), ((HB.out.cell (World.block_lt_of_cell? w _ hw119_1)).trans hw119_1), ((HB.out.cell (World.block_lt_of_cell? w _ hw121_0)).trans hw121_0), ((HB.out.cell (World.block_lt_of_cell? w _ hw121_1)).trans hw121_1)⟩ (fun hHeld => ?_); refine with_tabW spec_NotesOk.tab4 spec_NotesOk.bits4 (fun HT_ HW_ => ?_)
       generalize wr.drew = w14 at HB hx119_0 hx119_1 hx121_0 hx121_1 hHeld ⊢
       refine pure_ (i := 0) (N := some 10) (v := ?_) (a' := ?_) (dn 34 1) rfl rfl (any_of HT_.out (by kernel_rfl)) (fun _ _ _ h => h) (Or.inl ⟨by rfl, ?_⟩) ?_ ?_
       rotate_left; (intro w'; go_simp; with_reducible rfl); rotate_left; (simp only [Act.put, sa_, sz_, ss_, i64_w, i32_w]; rfl)
       refine pure_ (i := 1) (N := some 11) (v := ?_) (a' := ?_) (dn 34 3) rfl rfl (any_of HT_.out (by kernel_rfl)) (fun _ _ _ h => h) (Or.inl ⟨by rfl, ?_⟩) ?_ ?_
       rotate_left; (intro w'; go_simp; with_reducible rfl); rotate_left; (simp only [Act.put, sa_, sz_, ss_, i64_w, i32_w]; rfl)
       refine pure_ (i := 2) (N := some 12) (v := ?_) (a' := ?_) (dn 34 7) rfl rfl (any_of HT_.out (by kernel_rfl)) (fun _ _ _ h => h) (Or.inl ⟨by rfl, ?_⟩) ?_ ?_
       rotate_left; (intro w'; go_simp; with_reducible rfl); rotate_left; (simp only [Act.put, sa_, sz_, ss_, i64_w, i32_w]; rfl)
       refine pure_ (i := 3) (N := some 13) (v := ?_) (a' := ?_) (dn 34 15) rfl rfl (any_of HT_.out (by kernel_rfl)) (fun _ _ _ h => h) (Or.inl ⟨by rfl, ?_⟩) ?_ ?_
       rotate_left; (intro w'; go_simp; with_reducible rfl); rotate_left; (simp only [Act.put, sa_, sz_, ss_, i64_w, i32_w]; rfl)
       refine take_ (i := 4) (N := some 14) (v := ?_) (a' := ?_) (dn 34 31) rfl rfl (take_ofW HT_.out HW_.out (by kernel_rfl)) (fun _ _ _ h => h) (Or.inl ⟨by rfl, ?_⟩) hHeld ?_ ?_
       rotate_left
       ·rintro w' ⟨s0, s1, s2, s3⟩
        go_simp
        with_reducible rfl
       rotate_left
       ·simp only [Act.put, sa_, sz_, ss_, i64_w, i32_w]
        rfl
       refine one_ (i := 5) (N := some 15) (dn 34 63) rfl rfl (one_of HT_.out (by kernel_rfl)) (by decide) (fun K hK => ?_)
       refine goes_ Try.func90 (by kernel_rfl) rfl #[.int .i64 ((rd_T161 l0 x3_1).f0), .int .i64 1, .int .i64 1000000] (by rfl) rfl rfl (by (try simp only [List.map_toArray, List.map_cons, List.map_nil]); first | done | rfl | (simp only [List.length_drop, List.length_take]; rfl)) ?_
       with_reducible refine (spec_l1In.calls ((rd_T161 l0 x3_1).f0) 1 1000000 true _ A5.out).mono ?_
       rintro e w' ⟨rfl, ⟨nd, rfl⟩⟩
       refine ⟨_, rfl, ?_⟩
       refine hK.out _ _ ⟨((HB.out.cell (World.block_lt_of_cell? w _ hw119_0)).trans hw119_0), ((HB.out.cell (World.block_lt_of_cell? w _ hw119_1)).trans hw119_1), ((HB.out.cell (World.block_lt_of_cell? w _ hw121_0)).trans hw121_0), ((HB.out.cell (World.block_lt_of_cell? w _ hw121_1)).trans hw121_1)⟩ (fun hHeld => ?_)
       clear hK K
       refine norm_ (a' := ?_) ?_ ?_
       rotate_left
       ·show Act.put _ (some 15) _ = _
        simp only [Act.put, sa_, sz_, ss_, i64_w, i32_w]
        rfl
       refine pure_ (i := 6) (N := some 16) (v := ?_) (a' := ?_) (dn 34 127) rfl rfl (any_of HT_.out (by kernel_rfl)) (fun _ _ _ h => h) (Or.inl ⟨by rfl, ?_⟩) ?_ ?_
       rotate_left; (intro w'; go_simp; with_reducible rfl); rotate_left; (simp only [Act.put, sa_, sz_, ss_, i64_w, i32_w]; rfl)
       refine pure_ (i := 7) (N := some 17) (v := ?_) (a' := ?_) (dn 34 255) rfl rfl (any_of HT_.out (by kernel_rfl)) (fun _ _ _ h => h) (Or.inl ⟨by rfl, ?_⟩) ?_ ?_
       rotate_left; (intro w'; go_simp; with_reducible rfl); rotate_left; (simp only [Act.put, sa_, sz_, ss_, i64_w, i32_w]; rfl)
       refine pure_ (i := 8) (N := some 18) (v := ?_) (a' := ?_) (dn 34 511) rfl rfl (any_of HT_.out (by kernel_rfl)) (fun _ _ _ h => h) (Or.inl ⟨by rfl, ?_⟩) ?_ ?_
       rotate_left; (intro w'; go_simp; with_reducible rfl); rotate_left; (simp only [Act.put, sa_, sz_, ss_, i64_w, i32_w]; rfl)
       refine pure_ (i := 9) (N := some 19) (v := ?_) (a' := ?_) (dn 34 1023) rfl rfl (any_of HT_.out (by kernel_rfl)) (fun _ _ _ h => h) (Or.inl ⟨by rfl, ?_⟩) ?_ ?_
       rotate_left; (intro w'; go_simp; with_reducible rfl); rotate_left; (simp only [Act.put, sa_, sz_, ss_, i64_w, i32_w]; rfl)
       refine pure_ (i := 10) (N := some 20) (v := ?_) (a' := ?_) (dn 34 2047) rfl rfl (any_of HT_.out (by kernel_rfl)) (fun _ _ _ h => h) (Or.inl ⟨by rfl, ?_⟩) ?_ ?_
       rotate_left; (intro w'; go_simp; with_reducible rfl); rotate_left; (simp only [Act.put, sa_, sz_, ss_, i64_w, i32_w]; rfl)
       refine pure_ (i := 11) (N := some 21) (v := ?_) (a' := ?_) (dn 34 4095) rfl rfl (any_of HT_.out (by kernel_rfl)) (fun _ _ _ h => h) (Or.inl ⟨by rfl, ?_⟩) ?_ ?_
       rotate_left; (intro w'; go_simp; with_reducible rfl); rotate_left; (simp only [Act.put, sa_, sz_, ss_, i64_w, i32_w]; rfl)
       refine take_ (i := 12) (N := some 22) (v := ?_) (a' := ?_) (dn 34 8191) rfl rfl (take_ofW HT_.out HW_.out (by kernel_rfl)) (fun _ _ _ h => h) (Or.inl ⟨by rfl, ?_⟩) hHeld ?_ ?_
       rotate_left
       ·rintro w' ⟨s0, s1, s2, s3⟩
        go_simp
        with_reducible rfl
       rotate_left
       ·simp only [Act.put, sa_, sz_, ss_, i64_w, i32_w]
        rfl
       refine one_ (i := 13) (N := some 23) (dn 34 16383) rfl rfl (one_of HT_.out (by kernel_rfl)) (by decide) (fun K hK => ?_)
       refine goes_ Try.func90 (by kernel_rfl) rfl #[.int .i64 ((rd_T161 l0 x3_1).f1), .int .i64 1, .int .i64 16777215] (by rfl) rfl rfl (by (try simp only [List.map_toArray, List.map_cons, List.map_nil]); first | done | rfl | (simp only [List.length_drop, List.length_take]; rfl)) ?_
       with_reducible refine (spec_l1In.calls ((rd_T161 l0 x3_1).f1) 1 16777215 true _ A7.out).mono ?_
       rintro e w' ⟨rfl, ⟨nd, rfl⟩⟩
       refine ⟨_, rfl, ?_⟩
       refine hK.out _ _ ⟨((HB.out.cell (World.block_lt_of_cell? w _ hw119_0)).trans hw119_0), ((HB.out.cell (World.block_lt_of_cell? w _ hw119_1)).trans hw119_1), ((HB.out.cell (World.block_lt_of_cell? w _ hw121_0)).trans hw121_0), ((HB.out.cell (World.block_lt_of_cell? w _ hw121_1)).trans hw121_1)⟩ (fun hHeld => ?_)
       clear hK K
       refine norm_ (a' := ?_) ?_ ?_
       rotate_left
       ·show Act.put _ (some 23) _ = _
        simp only [Act.put, sa_, sz_, ss_, i64_w, i32_w]
        rfl
       refine pure_ (i := 14) (N := some 24) (v := ?_) (a' := ?_) (dn 34 32767) rfl rfl (any_of HT_.out (by kernel_rfl)) (fun _ _ _ h => h) (Or.inl ⟨by rfl, ?_⟩) ?_ ?_
       rotate_left; (intro w'; go_simp; with_reducible rfl); rotate_left; (simp only [Act.put, sa_, sz_, ss_, i64_w, i32_w]; rfl)
       refine pure_ (i := 15) (N := some 25) (v := ?_) (a' := ?_) (dn 34 65535) rfl rfl (any_of HT_.out (by kernel_rfl)) (fun _ _ _ h => h) (Or.inl ⟨by rfl, ?_⟩) ?_ ?_
       rotate_left; (intro w'; go_simp; with_reducible rfl); rotate_left; (simp only [Act.put, sa_, sz_, ss_, i64_w, i32_w]; rfl)
       refine pure_ (i := 16) (N := some 26) (v := ?_) (a' := ?_) (dn 34 131071) rfl rfl (any_of HT_.out (by kernel_rfl)) (fun _ _ _ h => h) (Or.inl ⟨by rfl, ?_⟩) ?_ ?_
       rotate_left; (intro w'; go_simp; with_reducible rfl); rotate_left; (simp only [Act.put, sa_, sz_, ss_, i64_w, i32_w]; rfl)
       refine pure_ (i := 17) (N := some 27) (v := ?_) (a' := ?_) (dn 34 262143) rfl rfl (any_of HT_.out (by kernel_rfl)) (fun _ _ _ h => h) (Or.inl ⟨by rfl, ?_⟩) ?_ ?_
       rotate_left; (intro w'; go_simp; with_reducible rfl); rotate_left; (simp only [Act.put, sa_, sz_, ss_, i64_w, i32_w]; rfl)
       refine pure_ (i := 18) (N := some 28) (v := ?_) (a' := ?_) (dn 34 524287) rfl rfl (any_of HT_.out (by kernel_rfl)) (fun _ _ _ h => h) (Or.inl ⟨by rfl, ?_⟩) ?_ ?_
       rotate_left; (intro w'; go_simp; with_reducible rfl); rotate_left; (simp only [Act.put, sa_, sz_, ss_, i64_w, i32_w]; rfl)
       refine pure_ (i := 19) (N := some 29) (v := ?_) (a' := ?_) (dn 34 1048575) rfl rfl (any_of HT_.out (by kernel_rfl)) (fun _ _ _ h => h) (Or.inl ⟨by rfl, ?_⟩) ?_ ?_
       rotate_left; (intro w'; go_simp; with_reducible rfl); rotate_left; (simp only [Act.put, sa_, sz_, ss_, i64_w, i32_w]; rfl)
       refine pure_ (i := 20) (N := some 30) (v := undef) (a' := ?_) (dn 34 2097151) rfl rfl (any_of HT_.out (by kernel_rfl)) (fun _ _ _ h => h) (Or.inr ⟨by rfl, rfl⟩) ?_ ?_
       rotate_left; (simp only [Act.put, sa_, sz_, ss_, i64_w, i32_w]; rfl)
       refine pure_ (i := 21) (N := some 31) (v := undef) (a' := ?_) (dn 34 4194303) rfl rfl (any_of HT_.out (by kernel_rfl)) (fun _ _ _ h => h) (Or.inr ⟨by rfl, rfl⟩) ?_ ?_
       rotate_left; (simp only [Act.put, sa_, sz_, ss_, i64_w, i32_w]; rfl)
       refine pure_ (i := 22) (N := some 32) (v := undef) (a' := ?_) (dn 34 8388607) rfl rfl (any_of HT_.out (by kernel_rfl)) (fun _ _ _ h => h) (Or.inr ⟨by rfl, rfl⟩) ?_ ?_
       rotate_left; (simp only [Act.put, sa_, sz_, ss_, i64_w, i32_w]; rfl)
       refine pure_ (i := 23) (N := some 33) (v := undef) (a' := ?_) (dn 34 16777215) rfl rfl (any_of HT_.out (by kernel_rfl)) (fun _ _ _ h => h) (Or.inr ⟨by rfl, rfl⟩) ?_ ?_
       rotate_left; (simp only [Act.put, sa_, sz_, ss_, i64_w, i32_w]; rfl)
       refine pure_ (i := 24) (N := some 34) (v := undef) (a' := ?_) (dn 34 33554431) rfl rfl (any_of HT_.out (by kernel_rfl)) (fun _ _ _ h => h) (Or.inr ⟨by rfl, rfl⟩) ?_ ?_
       rotate_left; (simp only [Act.put, sa_, sz_, ss_, i64_w, i32_w]; rfl)
       refine pure_ (i := 25) (N := some 35) (v := undef) (a' := ?_) (dn 34 67108863) rfl rfl (any_of HT_.out (by kernel_rfl)) (fun _ _ _ h => h) (Or.inr ⟨by rfl, rfl⟩) ?_ ?_
       rotate_left; (simp only [Act.put, sa_, sz_, ss_, i64_w, i32_w]; rfl)
       refine pure_ (i := 26) (N := some 36) (v := undef) (a' := ?_) (dn 34 134217727) rfl rfl (any_of HT_.out (by kernel_rfl)) (fun _ _ _ h => h) (Or.inr ⟨by rfl, rfl⟩) ?_ ?_
       rotate_left; (simp only [Act.put, sa_, sz_, ss_, i64_w, i32_w]; rfl)
       refine pure_ (i := 27) (N := some 37) (v := undef) (a' := ?_) (dn 34 268435455) rfl rfl (any_of HT_.out (by kernel_rfl)) (fun _ _ _ h => h) (Or.inr ⟨by rfl, rfl⟩) ?_ ?_
       rotate_left; (simp only [Act.put, sa_, sz_, ss_, i64_w, i32_w]; rfl)
       refine pure_ (i := 28) (N := some 38) (v := undef) (a' := ?_) (dn 34 536870911) rfl rfl (any_of HT_.out (by kernel_rfl)) (fun _ _ _ h => h) (Or.inr ⟨by rfl, rfl⟩) ?_ ?_
       rotate_left; (simp only [Act.put, sa_, sz_, ss_, i64_w, i32_w]; rfl)
       refine pure_ (i := 29) (N := some 39) (v := undef) (a' := ?_) (dn 34 1073741823) rfl rfl (any_of HT_.out (by kernel_rfl)) (fun _ _ _ h => h) (Or.inr ⟨by rfl, rfl⟩) ?_ ?_
       rotate_left; (simp only [Act.put, sa_, sz_, ss_, i64_w, i32_w]; rfl)
       refine pure_ (i := 30) (N := some 40) (v := undef) (a' := ?_) (dn 34 2147483647) rfl rfl (any_of HT_.out (by kernel_rfl)) (fun _ _ _ h => h) (Or.inr ⟨by rfl, rfl⟩) ?_ ?_
       rotate_left; (simp only [Act.put, sa_, sz_, ss_, i64_w, i32_w]; rfl)
       refine pure_ (i := 31) (N := some 41) (v := undef) (a' := ?_) (dn 34 4294967295) rfl rfl (any_of HT_.out (by kernel_rfl)) (fun _ _ _ h => h) (Or.inr ⟨by rfl, rfl⟩) ?_ ?_
       rotate_left; (simp only [Act.put, sa_, sz_, ss_, i64_w, i32_w]; rfl)
       refine pure_ (i := 32) (N := some 42) (v := ?_) (a' := ?_) (dn 34 8589934591) rfl rfl (any_of HT_.out (by kernel_rfl)) (fun _ _ _ h => h) (Or.inl ⟨by rfl, ?_⟩) ?_ ?_
       rotate_left; (intro w'; go_simp; with_reducible rfl); rotate_left; (simp only [Act.put, sa_, sz_, ss_, i64_w, i32_w]; rfl)
       refine pure_ (i := 33) (N := some 43) (v := ?_) (a' := ?_) (dn 34 17179869183) rfl rfl (any_of HT_.out (by kernel_rfl)) (fun _ _ _ h => h) (Or.inl ⟨by rfl, ?_⟩) ?_ ?_
       rotate_left; (intro w'; go_simp; with_reducible rfl); rotate_left; (simp only [Act.put, sa_, sz_, ss_, i64_w, i32_w]; rfl)
       refine done_ (done_of HT_.out (by kernel_rfl)) ?_
       try go_wp2
       go_meet
       case rel => exact ⟨_, (false), (by first | rfl | (simp; done) | (simp [*]; done)), H', ⟨by have := HK1.out; first | omega | exact Nat.le_refl _⟩, ⟨by repeat (first | (with_reducible first | exact HB.out | apply below_alloc | apply pw_below_drewN | apply below_drew1) | exact HB.out)⟩⟩
      rw [if_pos c9] at H
      have c9b0 : decide (0 < x3_1) = true := decide_eq_true c9
      clear c9
      obtain ⟨ji10, hji10⟩ : ∃ j_ : Int, (wrap64 (x3_1 - 1)) = j_ := ⟨_, rfl⟩
      replace H : (if 0 ≤ (ji10) then (if (ji10) < (l0.length : Int) then (spec_NotesOk.j1 k1 l0 x3_1 (decide (((rd_T161 l0 (ji10)).f0) ≥ ((rd_T161 l0 x3_1).f0)))) else (none)) else (none)) = some r := by first | (rw [hji10] at H; exact H) | (simp only [hji10] at H ⊢; exact H)
      (try rw [hji10] at A5)
      (try rw [hji10] at A7)
      have hji10w : (IntKind.i64.wrap (x3_1 - 1)) = ji10 := (i64_w _).trans hji10
      by_cases c11 : 0 ≤ (ji10)
      case neg => rw [if_neg c11] at H; exact absurd H (by simp)
      rw [if_pos c11] at H
      have c11b0 : decide (0 ≤ (ji10)) = true := decide_eq_true c11
      clear c11
      by_cases c12 : (ji10) < (l0.length : Int)
      case neg => rw [if_neg c12] at H; exact absurd H (by simp)
      rw [if_pos c12] at H
      have c12b0 : decide ((ji10) < (l0.length : Int)) = true := decide_eq_true c12
      clear c12
      have H' := Aside0.mk H
      clear H
      try go_wp2
      have n0_ := Aside0.mk (below_drew1 HB.out)
      clear HB
      have HB := n0_
      clear n0_
      have p119 : 0 ≤ (x3_1 : Int) := of_decide_eq_true (by first | (with_reducible assumption) | assumption)
      have q119 : x3_1 < (l0.length : Int) := of_decide_eq_true (by first | (with_reducible assumption) | assumption)
      obtain ⟨ad119, e119, hx119_0, hx119_1⟩ := at_T161 HR0.out x3_1 p119 q119
      have hw119_1 := hx119_1
      have hw119_0 := hx119_0
      cases e119
      replace hx119_0 := (HB.out.cell (World.block_lt_of_cell? w _ hx119_0)).trans hx119_0
      replace hx119_1 := (HB.out.cell (World.block_lt_of_cell? w _ hx119_1)).trans hx119_1
      replace p119 := eq_true p119
      replace q119 := eq_true q119
      have p121 : 0 ≤ (x3_1 : Int) := of_decide_eq_true (by first | (with_reducible assumption) | assumption)
      have q121 : x3_1 < (l0.length : Int) := of_decide_eq_true (by first | (with_reducible assumption) | assumption)
      obtain ⟨ad121, e121, hx121_0, hx121_1⟩ := at_T161 HR0.out x3_1 p121 q121
      have hw121_1 := hx121_1
      have hw121_0 := hx121_0
      obtain rfl : ad119 = ad121 := (by injection e121)
      replace hx121_0 := (HB.out.cell (World.block_lt_of_cell? w _ hx121_0)).trans hx121_0
      replace hx121_1 := (HB.out.cell (World.block_lt_of_cell? w _ hx121_1)).trans hx121_1
      replace p121 := eq_true p121
      replace q121 := eq_true q121
      have p123 : 0 ≤ ((ji10) : Int) := of_decide_eq_true (by first | (with_reducible assumption) | assumption)
      have q123 : (ji10) < (l0.length : Int) := of_decide_eq_true (by first | (with_reducible assumption) | assumption)
      obtain ⟨ad123, e123, hx123_0, hx123_1⟩ := at_T161 HR0.out (ji10) p123 q123
      have hw123_1 := hx123_1
      have hw123_0 := hx123_0
      obtain rfl : ad119 = ad123 := (by injection e123)
      replace hx123_0 := (HB.out.cell (World.block_lt_of_cell? w _ hx123_0)).trans hx123_0
      replace hx123_1 := (HB.out.cell (World.block_lt_of_cell? w _ hx123_1)).trans hx123_1
      replace p123 := eq_true p123
      replace q123 := eq_true q123
      have p124 : 0 ≤ (x3_1 : Int) := of_decide_eq_true (by first | (with_reducible assumption) | assumption)
      have q124 : x3_1 < (l0.length : Int) := of_decide_eq_true (by first | (with_reducible assumption) | assumption)
      obtain ⟨ad124, e124, hx124_0, hx124_1⟩ := at_T161 HR0.out x3_1 p124 q124
      have hw124_1 := hx124_1
      have hw124_0 := hx124_0
      obtain rfl : ad119 = ad124 := (by injection e124)
      replace hx124_0 := (HB.out.cell (World.block_lt_of_cell? w _ hx124_0)).trans hx124_0
      replace hx124_1 := (HB.out.cell (World.block_lt_of_cell? w _ hx124_1)).trans hx124_1
      replace p124 := eq_true p124
      replace q124 := eq_true q124
      refine start_ (n := 34) (S := fun w' => w'.cell? (ad119.add ((x3_1).toNat * 2)) = some (.int .i64 ((rd_T161 l0 x3_1).f0)) ∧ w'.cell? ⟨(ad119.add ((x3_1).toNat * 2)).block, (ad119.add ((x3_1).toNat * 2)).off + 1, none⟩ = some (.int .i64 ((rd_T161 l0 x3_1).f1)) ∧ w'.cell? (ad119.add ((x3_1).toNat * 2)) = some (.int .i64 ((rd_T161 l0 x3_1).f0)) ∧ w'.cell? ⟨(ad119.add ((x3_1).toNat * 2)).block, (ad119.add ((x3_1).toNat * 2)).off + 1, none⟩ = some (.int .i64 ((rd_T161 l0 x3_1).f1)) ∧ w'.cell? (ad119.add (((ji10)).toNat * 2)) = some (.int .i64 ((rd_T161 l0 (ji10)).f0)) ∧ w'.cell? ⟨(ad119.add (((ji10)).toNat * 2)).block, (ad119.add (((ji10)).toNat * 2)).off + 1, none⟩ = some (.int .i64 ((rd_T161 l0 (ji10)).f1)) ∧ w'.cell? (ad119.add ((x3_1).toNat * 2)) = some (.int .i64 ((rd_T161 l0 x3_1).f0)) ∧ w'.cell? ⟨(ad119.add ((x3_1).toNat * 2)).block, (ad119.add ((x3_1).toNat * 2)).off + 1, none⟩ = some (.int .i64 ((rd_T161 l0 x3_1).f1))) (ds := []) (dn 34 0) (by kernel_rfl) rfl rfl ⟨((HB.out.cell (World.block_lt_of_cell? w _ hw119_0)).trans hw119_0), ((HB.out.cell (World.block_lt_of_cell? w _ hw119_1)).trans hw119_1), ((HB.out.cell (World.block_lt_of_cell? w _ hw121_0)).trans hw121_0), ((HB.out.cell (World.block_lt_of_cell? w _ hw121_1)).trans hw121_1), ((HB.out.cell (World.block_lt_of_cell? w _ hw123_0)).trans hw123_0), ((HB.out.cell (World.block_lt_of_cell? w _ hw123_1)).trans hw123_1), ((HB.out.cell (World.block_lt_of_cell? w _ hw124_0)).trans hw124_0), ((HB.out.cell (World.block_lt_of_cell? w _ hw124_1)).trans hw124_1)⟩ (fun hHeld => ?_); refine with_tabW spec_NotesOk.tab4 spec_NotesOk.bits4 (fun HT_ HW_ => ?_)
      generalize wr.drew = w13 at HB hx119_0 hx119_1 hx121_0 hx121_1 hx123_0 hx123_1 hx124_0 hx124_1 hHeld ⊢
      refine pure_ (i := 0) (N := some 10) (v := ?_) (a' := ?_) (dn 34 1) rfl rfl (any_of HT_.out (by kernel_rfl)) (fun _ _ _ h => h) (Or.inl ⟨by rfl, ?_⟩) ?_ ?_
      rotate_left; (intro w'; go_simp; with_reducible rfl); rotate_left; (simp only [Act.put, sa_, sz_, ss_, i64_w, i32_w]; rfl)
      refine pure_ (i := 1) (N := some 11) (v := ?_) (a' := ?_) (dn 34 3) rfl rfl (any_of HT_.out (by kernel_rfl)) (fun _ _ _ h => h) (Or.inl ⟨by rfl, ?_⟩) ?_ ?_
      rotate_left; (intro w'; go_simp; with_reducible rfl); rotate_left; (simp only [Act.put, sa_, sz_, ss_, i64_w, i32_w]; rfl)
      refine pure_ (i := 2) (N := some 12) (v := ?_) (a' := ?_) (dn 34 7) rfl rfl (any_of HT_.out (by kernel_rfl)) (fun _ _ _ h => h) (Or.inl ⟨by rfl, ?_⟩) ?_ ?_
      rotate_left; (intro w'; go_simp; with_reducible rfl); rotate_left; (simp only [Act.put, sa_, sz_, ss_, i64_w, i32_w]; rfl)
      refine pure_ (i := 3) (N := some 13) (v := ?_) (a' := ?_) (dn 34 15) rfl rfl (any_of HT_.out (by kernel_rfl)) (fun _ _ _ h => h) (Or.inl ⟨by rfl, ?_⟩) ?_ ?_
      rotate_left; (intro w'; go_simp; with_reducible rfl); rotate_left; (simp only [Act.put, sa_, sz_, ss_, i64_w, i32_w]; rfl)
      refine take_ (i := 4) (N := some 14) (v := ?_) (a' := ?_) (dn 34 31) rfl rfl (take_ofW HT_.out HW_.out (by kernel_rfl)) (fun _ _ _ h => h) (Or.inl ⟨by rfl, ?_⟩) hHeld ?_ ?_
      rotate_left
      ·rintro w' ⟨s0, s1, s2, s3, s4, s5, s6, s7⟩
       go_simp
       with_reducible rfl
      rotate_left
      ·simp only [Act.put, sa_, sz_, ss_, i64_w, i32_w]
       rfl
      refine one_ (i := 5) (N := some 15) (dn 34 63) rfl rfl (one_of HT_.out (by kernel_rfl)) (by decide) (fun K hK => ?_)
      refine goes_ Try.func90 (by kernel_rfl) rfl #[.int .i64 ((rd_T161 l0 x3_1).f0), .int .i64 1, .int .i64 1000000] (by rfl) rfl rfl (by (try simp only [List.map_toArray, List.map_cons, List.map_nil]); first | done | rfl | (simp only [List.length_drop, List.length_take]; rfl)) ?_
      with_reducible refine (spec_l1In.calls ((rd_T161 l0 x3_1).f0) 1 1000000 true _ A5.out).mono ?_
      rintro e w' ⟨rfl, ⟨nd, rfl⟩⟩
      refine ⟨_, rfl, ?_⟩
      refine hK.out _ _ ⟨((HB.out.cell (World.block_lt_of_cell? w _ hw119_0)).trans hw119_0), ((HB.out.cell (World.block_lt_of_cell? w _ hw119_1)).trans hw119_1), ((HB.out.cell (World.block_lt_of_cell? w _ hw121_0)).trans hw121_0), ((HB.out.cell (World.block_lt_of_cell? w _ hw121_1)).trans hw121_1), ((HB.out.cell (World.block_lt_of_cell? w _ hw123_0)).trans hw123_0), ((HB.out.cell (World.block_lt_of_cell? w _ hw123_1)).trans hw123_1), ((HB.out.cell (World.block_lt_of_cell? w _ hw124_0)).trans hw124_0), ((HB.out.cell (World.block_lt_of_cell? w _ hw124_1)).trans hw124_1)⟩ (fun hHeld => ?_)
      clear hK K
      refine norm_ (a' := ?_) ?_ ?_
      rotate_left
      ·show Act.put _ (some 15) _ = _
       simp only [Act.put, sa_, sz_, ss_, i64_w, i32_w]
       rfl
      refine pure_ (i := 6) (N := some 16) (v := ?_) (a' := ?_) (dn 34 127) rfl rfl (any_of HT_.out (by kernel_rfl)) (fun _ _ _ h => h) (Or.inl ⟨by rfl, ?_⟩) ?_ ?_
      rotate_left; (intro w'; go_simp; with_reducible rfl); rotate_left; (simp only [Act.put, sa_, sz_, ss_, i64_w, i32_w]; rfl)
      refine pure_ (i := 7) (N := some 17) (v := ?_) (a' := ?_) (dn 34 255) rfl rfl (any_of HT_.out (by kernel_rfl)) (fun _ _ _ h => h) (Or.inl ⟨by rfl, ?_⟩) ?_ ?_
      rotate_left; (intro w'; go_simp; with_reducible rfl); rotate_left; (simp only [Act.put, sa_, sz_, ss_, i64_w, i32_w]; rfl)
      refine pure_ (i := 8) (N := some 18) (v := ?_) (a' := ?_) (dn 34 511) rfl rfl (any_of HT_.out (by kernel_rfl)) (fun _ _ _ h => h) (Or.inl ⟨by rfl, ?_⟩) ?_ ?_
      rotate_left; (intro w'; go_simp; with_reducible rfl); rotate_left; (simp only [Act.put, sa_, sz_, ss_, i64_w, i32_w]; rfl)
      refine pure_ (i := 9) (N := some 19) (v := ?_) (a' := ?_) (dn 34 1023) rfl rfl (any_of HT_.out (by kernel_rfl)) (fun _ _ _ h => h) (Or.inl ⟨by rfl, ?_⟩) ?_ ?_
      rotate_left; (intro w'; go_simp; with_reducible rfl); rotate_left; (simp only [Act.put, sa_, sz_, ss_, i64_w, i32_w]; rfl)
      refine pure_ (i := 10) (N := some 20) (v := ?_) (a' := ?_) (dn 34 2047) rfl rfl (any_of HT_.out (by kernel_rfl)) (fun _ _ _ h => h) (Or.inl ⟨by rfl, ?_⟩) ?_ ?_
      rotate_left; (intro w'; go_simp; with_reducible rfl); rotate_left; (simp only [Act.put, sa_, sz_, ss_, i64_w, i32_w]; rfl)
      refine pure_ (i := 11) (N := some 21) (v := ?_) (a' := ?_) (dn 34 4095) rfl rfl (any_of HT_.out (by kernel_rfl)) (fun _ _ _ h => h) (Or.inl ⟨by rfl, ?_⟩) ?_ ?_
      rotate_left; (intro w'; go_simp; with_reducible rfl); rotate_left; (simp only [Act.put, sa_, sz_, ss_, i64_w, i32_w]; rfl)
      refine take_ (i := 12) (N := some 22) (v := ?_) (a' := ?_) (dn 34 8191) rfl rfl (take_ofW HT_.out HW_.out (by kernel_rfl)) (fun _ _ _ h => h) (Or.inl ⟨by rfl, ?_⟩) hHeld ?_ ?_
      rotate_left
      ·rintro w' ⟨s0, s1, s2, s3, s4, s5, s6, s7⟩
       go_simp
       with_reducible rfl
      rotate_left
      ·simp only [Act.put, sa_, sz_, ss_, i64_w, i32_w]
       rfl
      refine one_ (i := 13) (N := some 23) (dn 34 16383) rfl rfl (one_of HT_.out (by kernel_rfl)) (by decide) (fun K hK => ?_)
      refine goes_ Try.func90 (by kernel_rfl) rfl #[.int .i64 ((rd_T161 l0 x3_1).f1), .int .i64 1, .int .i64 16777215] (by rfl) rfl rfl (by (try simp only [List.map_toArray, List.map_cons, List.map_nil]); first | done | rfl | (simp only [List.length_drop, List.length_take]; rfl)) ?_
      with_reducible refine (spec_l1In.calls ((rd_T161 l0 x3_1).f1) 1 16777215 true _ A7.out).mono ?_
      rintro e w' ⟨rfl, ⟨nd, rfl⟩⟩
      refine ⟨_, rfl, ?_⟩
      refine hK.out _ _ ⟨((HB.out.cell (World.block_lt_of_cell? w _ hw119_0)).trans hw119_0), ((HB.out.cell (World.block_lt_of_cell? w _ hw119_1)).trans hw119_1), ((HB.out.cell (World.block_lt_of_cell? w _ hw121_0)).trans hw121_0), ((HB.out.cell (World.block_lt_of_cell? w _ hw121_1)).trans hw121_1), ((HB.out.cell (World.block_lt_of_cell? w _ hw123_0)).trans hw123_0), ((HB.out.cell (World.block_lt_of_cell? w _ hw123_1)).trans hw123_1), ((HB.out.cell (World.block_lt_of_cell? w _ hw124_0)).trans hw124_0), ((HB.out.cell (World.block_lt_of_cell? w _ hw124_1)).trans hw124_1)⟩ (fun hHeld => ?_)
      clear hK K
      refine norm_ (a' := ?_) ?_ ?_
      rotate_left
      ·show Act.put _ (some 23) _ = _
       simp only [Act.put, sa_, sz_, ss_, i64_w, i32_w]
       rfl
      refine pure_ (i := 14) (N := some 24) (v := ?_) (a' := ?_) (dn 34 32767) rfl rfl (any_of HT_.out (by kernel_rfl)) (fun _ _ _ h => h) (Or.inl ⟨by rfl, ?_⟩) ?_ ?_
      rotate_left; (intro w'; go_simp; with_reducible rfl); rotate_left; (simp only [Act.put, sa_, sz_, ss_, i64_w, i32_w]; rfl)
      refine pure_ (i := 15) (N := some 25) (v := ?_) (a' := ?_) (dn 34 65535) rfl rfl (any_of HT_.out (by kernel_rfl)) (fun _ _ _ h => h) (Or.inl ⟨by rfl, ?_⟩) ?_ ?_
      rotate_left; (intro w'; go_simp; with_reducible rfl); rotate_left; (simp only [Act.put, sa_, sz_, ss_, i64_w, i32_w]; rfl)
      refine pure_ (i := 16) (N := some 26) (v := ?_) (a' := ?_) (dn 34 131071) rfl rfl (any_of HT_.out (by kernel_rfl)) (fun _ _ _ h => h) (Or.inl ⟨by rfl, ?_⟩) ?_ ?_
      rotate_left; (intro w'; go_simp; with_reducible rfl); rotate_left; (simp only [Act.put, sa_, sz_, ss_, i64_w, i32_w]; rfl)
      refine pure_ (i := 17) (N := some 27) (v := ?_) (a' := ?_) (dn 34 262143) rfl rfl (any_of HT_.out (by kernel_rfl)) (fun _ _ _ h => h) (Or.inl ⟨by rfl, ?_⟩) ?_ ?_
      rotate_left; (intro w'; go_simp; with_reducible rfl); rotate_left; (simp only [Act.put, sa_, sz_, ss_, i64_w, i32_w]; rfl)
      refine pure_ (i := 18) (N := some 28) (v := ?_) (a' := ?_) (dn 34 524287) rfl rfl (any_of HT_.out (by kernel_rfl)) (fun _ _ _ h => h) (Or.inl ⟨by rfl, ?_⟩) ?_ ?_
      rotate_left; (intro w'; go_simp; with_reducible rfl); rotate_left; (simp only [Act.put, sa_, sz_, ss_, i64_w, i32_w]; rfl)
      refine pure_ (i := 19) (N := some 29) (v := ?_) (a' := ?_) (dn 34 1048575) rfl rfl (any_of HT_.out (by kernel_rfl)) (fun _ _ _ h => h) (Or.inl ⟨by rfl, ?_⟩) ?_ ?_
      rotate_left; (intro w'; go_simp; with_reducible rfl); rotate_left; (simp only [Act.put, sa_, sz_, ss_, i64_w, i32_w]; rfl)
      refine pure_ (i := 20) (N := some 30) (v := ?_) (a' := ?_) (dn 34 2097151) rfl rfl (any_of HT_.out (by kernel_rfl)) (fun _ _ _ h => h) (Or.inl ⟨by rfl, ?_⟩) ?_ ?_
      rotate_left; (intro w'; go_simp; with_reducible rfl); rotate_left; (simp only [Act.put, sa_, sz_, ss_, i64_w, i32_w]; rfl)
      refine pure_ (i := 21) (N := some 31) (v := ?_) (a' := ?_) (dn 34 4194303) rfl rfl (any_of HT_.out (by kernel_rfl)) (fun _ _ _ h => h) (Or.inl ⟨by rfl, ?_⟩) ?_ ?_
      rotate_left; (intro w'; go_simp; with_reducible rfl); rotate_left; (simp only [Act.put, sa_, sz_, ss_, i64_w, i32_w]; rfl)
      refine pure_ (i := 22) (N := some 32) (v := ?_) (a' := ?_) (dn 34 8388607) rfl rfl (any_of HT_.out (by kernel_rfl)) (fun _ _ _ h => h) (Or.inl ⟨by rfl, ?_⟩) ?_ ?_
      rotate_left; (intro w'; go_simp; with_reducible rfl); rotate_left; (simp only [Act.put, sa_, sz_, ss_, i64_w, i32_w]; rfl)
      refine pure_ (i := 23) (N := some 33) (v := ?_) (a' := ?_) (dn 34 16777215) rfl rfl (any_of HT_.out (by kernel_rfl)) (fun _ _ _ h => h) (Or.inl ⟨by rfl, ?_⟩) ?_ ?_
      rotate_left; (intro w'; go_simp; with_reducible rfl); rotate_left; (simp only [Act.put, sa_, sz_, ss_, i64_w, i32_w]; rfl)
      refine pure_ (i := 24) (N := some 34) (v := ?_) (a' := ?_) (dn 34 33554431) rfl rfl (any_of HT_.out (by kernel_rfl)) (fun _ _ _ h => h) (Or.inl ⟨by rfl, ?_⟩) ?_ ?_
      rotate_left; (intro w'; go_simp; with_reducible rfl); rotate_left; (simp only [Act.put, sa_, sz_, ss_, i64_w, i32_w]; rfl)
      refine pure_ (i := 26) (N := some 36) (v := ?_) (a' := ?_) (dn 34 100663295) rfl rfl (any_of HT_.out (by kernel_rfl)) (fun _ _ _ h => h) (Or.inl ⟨by rfl, ?_⟩) ?_ ?_
      rotate_left; (intro w'; go_simp; with_reducible rfl); rotate_left; (simp only [Act.put, sa_, sz_, ss_, i64_w, i32_w]; rfl)
      refine pure_ (i := 27) (N := some 37) (v := ?_) (a' := ?_) (dn 34 234881023) rfl rfl (any_of HT_.out (by kernel_rfl)) (fun _ _ _ h => h) (Or.inl ⟨by rfl, ?_⟩) ?_ ?_
      rotate_left; (intro w'; go_simp; with_reducible rfl); rotate_left; (simp only [Act.put, sa_, sz_, ss_, i64_w, i32_w]; rfl)
      refine pure_ (i := 28) (N := some 38) (v := ?_) (a' := ?_) (dn 34 503316479) rfl rfl (any_of HT_.out (by kernel_rfl)) (fun _ _ _ h => h) (Or.inl ⟨by rfl, ?_⟩) ?_ ?_
      rotate_left; (intro w'; go_simp; with_reducible rfl); rotate_left; (simp only [Act.put, sa_, sz_, ss_, i64_w, i32_w]; rfl)
      refine pure_ (i := 29) (N := some 39) (v := ?_) (a' := ?_) (dn 34 1040187391) rfl rfl (any_of HT_.out (by kernel_rfl)) (fun _ _ _ h => h) (Or.inl ⟨by rfl, ?_⟩) ?_ ?_
      rotate_left; (intro w'; go_simp; with_reducible rfl); rotate_left; (simp only [Act.put, sa_, sz_, ss_, i64_w, i32_w]; rfl)
      refine take_ (i := 25) (N := some 35) (v := ?_) (a' := ?_) (dn 34 1073741823) rfl rfl (take_ofW HT_.out HW_.out (by kernel_rfl)) (fun _ _ _ h => h) (Or.inl ⟨by rfl, ?_⟩) hHeld ?_ ?_
      rotate_left
      ·rintro w' ⟨s0, s1, s2, s3, s4, s5, s6, s7⟩
       go_simp
       with_reducible rfl
      rotate_left
      ·simp only [Act.put, sa_, sz_, ss_, i64_w, i32_w]
       rfl
      refine take_ (i := 30) (N := some 40) (v := ?_) (a' := ?_) (dn 34 2147483647) rfl rfl (take_ofW HT_.out HW_.out (by kernel_rfl)) (fun _ _ _ h => h) (Or.inl ⟨by rfl, ?_⟩) hHeld ?_ ?_
      rotate_left
      ·rintro w' ⟨s0, s1, s2, s3, s4, s5, s6, s7⟩
       go_simp
       with_reducible rfl
      rotate_left
      ·simp only [Act.put, sa_, sz_, ss_, i64_w, i32_w]
       rfl
      refine pure_ (i := 31) (N := some 41) (v := ?_) (a' := ?_) (dn 34 4294967295) rfl rfl (any_of HT_.out (by kernel_rfl)) (fun _ _ _ h => h) (Or.inl ⟨by rfl, ?_⟩) ?_ ?_
      rotate_left; (intro w'; go_simp; with_reducible rfl); rotate_left; (simp only [Act.put, sa_, sz_, ss_, i64_w, i32_w]; rfl)
      refine pure_ (i := 32) (N := some 42) (v := ?_) (a' := ?_) (dn 34 8589934591) rfl rfl (any_of HT_.out (by kernel_rfl)) (fun _ _ _ h => h) (Or.inl ⟨by rfl, ?_⟩) ?_ ?_
      rotate_left; (intro w'; go_simp; with_reducible rfl); rotate_left; (simp only [Act.put, sa_, sz_, ss_, i64_w, i32_w]; rfl)
      refine pure_ (i := 33) (N := some 43) (v := ?_) (a' := ?_) (dn 34 17179869183) rfl rfl (any_of HT_.out (by kernel_rfl)) (fun _ _ _ h => h) (Or.inl ⟨by rfl, ?_⟩) ?_ ?_
      rotate_left; (intro w'; go_simp; with_reducible rfl); rotate_left; (simp only [Act.put, sa_, sz_, ss_, i64_w, i32_w]; rfl)
      refine done_ (done_of HT_.out (by kernel_rfl)) ?_
      try go_wp2
      go_meet
      case rel => exact ⟨_, (decide (((rd_T161 l0 (ji10)).f0) ≥ ((rd_T161 l0 x3_1).f0))), (by first | rfl | (simp; done) | (simp only [← hji10] <;> (first | rfl | simp)) | (simp [*]; done)), H', ⟨by have := HK1.out; first | omega | exact Nat.le_refl _⟩, ⟨by repeat (first | (with_reducible first | exact HB.out | apply below_alloc | apply pw_below_drewN | apply below_drew1) | exact HB.out)⟩⟩
     ·replace c8 := Bool.eq_false_iff.mpr c8
      subst c8
      have H1 : (spec_NotesOk.j1 k1 l0 x3_1 true) = some r := by rw [if_neg (show ¬ (false = true) by decide)] at H; exact H
      clear H
      have H := H1
      clear H1
      have H' := Aside0.mk H
      clear H
      try go_wp2
      have n0_ := Aside0.mk (below_drew1 HB.out)
      clear HB
      have HB := n0_
      clear n0_
      have p119 : 0 ≤ (x3_1 : Int) := of_decide_eq_true (by first | (with_reducible assumption) | assumption)
      have q119 : x3_1 < (l0.length : Int) := of_decide_eq_true (by first | (with_reducible assumption) | assumption)
      obtain ⟨ad119, e119, hx119_0, hx119_1⟩ := at_T161 HR0.out x3_1 p119 q119
      have hw119_1 := hx119_1
      have hw119_0 := hx119_0
      cases e119
      replace hx119_0 := (HB.out.cell (World.block_lt_of_cell? w _ hx119_0)).trans hx119_0
      replace hx119_1 := (HB.out.cell (World.block_lt_of_cell? w _ hx119_1)).trans hx119_1
      replace p119 := eq_true p119
      replace q119 := eq_true q119
      have p121 : 0 ≤ (x3_1 : Int) := of_decide_eq_true (by first | (with_reducible assumption) | assumption)
      have q121 : x3_1 < (l0.length : Int) := of_decide_eq_true (by first | (with_reducible assumption) | assumption)
      obtain ⟨ad121, e121, hx121_0, hx121_1⟩ := at_T161 HR0.out x3_1 p121 q121
      have hw121_1 := hx121_1
      have hw121_0 := hx121_0
      obtain rfl : ad119 = ad121 := (by injection e121)
      replace hx121_0 := (HB.out.cell (World.block_lt_of_cell? w _ hx121_0)).trans hx121_0
      replace hx121_1 := (HB.out.cell (World.block_lt_of_cell? w _ hx121_1)).trans hx121_1
      replace p121 := eq_true p121
      replace q121 := eq_true q121
      refine start_ (n := 34) (S := fun w' => w'.cell? (ad119.add ((x3_1).toNat * 2)) = some (.int .i64 ((rd_T161 l0 x3_1).f0)) ∧ w'.cell? ⟨(ad119.add ((x3_1).toNat * 2)).block, (ad119.add ((x3_1).toNat * 2)).off + 1, none⟩ = some (.int .i64 ((rd_T161 l0 x3_1).f1)) ∧ w'.cell? (ad119.add ((x3_1).toNat * 2)) = some (.int .i64 ((rd_T161 l0 x3_1).f0)) ∧ w'.cell? ⟨(ad119.add ((x3_1).toNat * 2)).block, (ad119.add ((x3_1).toNat * 2)).off + 1, none⟩ = some (.int .i64 ((rd_T161 l0 x3_1).f1))) (ds := []) (dn 34 0) (by kernel_rfl) rfl rfl ⟨((HB.out.cell (World.block_lt_of_cell? w _ hw119_0)).trans hw119_0), ((HB.out.cell (World.block_lt_of_cell? w _ hw119_1)).trans hw119_1), ((HB.out.cell (World.block_lt_of_cell? w _ hw121_0)).trans hw121_0), ((HB.out.cell (World.block_lt_of_cell? w _ hw121_1)).trans hw121_1)⟩ (fun hHeld => ?_); refine with_tabW spec_NotesOk.tab4 spec_NotesOk.bits4 (fun HT_ HW_ => ?_)
      generalize wr.drew = w15 at HB hx119_0 hx119_1 hx121_0 hx121_1 hHeld ⊢
      refine pure_ (i := 0) (N := some 10) (v := ?_) (a' := ?_) (dn 34 1) rfl rfl (any_of HT_.out (by kernel_rfl)) (fun _ _ _ h => h) (Or.inl ⟨by rfl, ?_⟩) ?_ ?_
      rotate_left; (intro w'; go_simp; with_reducible rfl); rotate_left; (simp only [Act.put, sa_, sz_, ss_, i64_w, i32_w]; rfl)
      refine pure_ (i := 1) (N := some 11) (v := ?_) (a' := ?_) (dn 34 3) rfl rfl (any_of HT_.out (by kernel_rfl)) (fun _ _ _ h => h) (Or.inl ⟨by rfl, ?_⟩) ?_ ?_
      rotate_left; (intro w'; go_simp; with_reducible rfl); rotate_left; (simp only [Act.put, sa_, sz_, ss_, i64_w, i32_w]; rfl)
      refine pure_ (i := 2) (N := some 12) (v := ?_) (a' := ?_) (dn 34 7) rfl rfl (any_of HT_.out (by kernel_rfl)) (fun _ _ _ h => h) (Or.inl ⟨by rfl, ?_⟩) ?_ ?_
      rotate_left; (intro w'; go_simp; with_reducible rfl); rotate_left; (simp only [Act.put, sa_, sz_, ss_, i64_w, i32_w]; rfl)
      refine pure_ (i := 3) (N := some 13) (v := ?_) (a' := ?_) (dn 34 15) rfl rfl (any_of HT_.out (by kernel_rfl)) (fun _ _ _ h => h) (Or.inl ⟨by rfl, ?_⟩) ?_ ?_
      rotate_left; (intro w'; go_simp; with_reducible rfl); rotate_left; (simp only [Act.put, sa_, sz_, ss_, i64_w, i32_w]; rfl)
      refine take_ (i := 4) (N := some 14) (v := ?_) (a' := ?_) (dn 34 31) rfl rfl (take_ofW HT_.out HW_.out (by kernel_rfl)) (fun _ _ _ h => h) (Or.inl ⟨by rfl, ?_⟩) hHeld ?_ ?_
      rotate_left
      ·rintro w' ⟨s0, s1, s2, s3⟩
       go_simp
       with_reducible rfl
      rotate_left
      ·simp only [Act.put, sa_, sz_, ss_, i64_w, i32_w]
       rfl
      refine one_ (i := 5) (N := some 15) (dn 34 63) rfl rfl (one_of HT_.out (by kernel_rfl)) (by decide) (fun K hK => ?_)
      refine goes_ Try.func90 (by kernel_rfl) rfl #[.int .i64 ((rd_T161 l0 x3_1).f0), .int .i64 1, .int .i64 1000000] (by rfl) rfl rfl (by (try simp only [List.map_toArray, List.map_cons, List.map_nil]); first | done | rfl | (simp only [List.length_drop, List.length_take]; rfl)) ?_
      with_reducible refine (spec_l1In.calls ((rd_T161 l0 x3_1).f0) 1 1000000 true _ A5.out).mono ?_
      rintro e w' ⟨rfl, ⟨nd, rfl⟩⟩
      refine ⟨_, rfl, ?_⟩
      refine hK.out _ _ ⟨((HB.out.cell (World.block_lt_of_cell? w _ hw119_0)).trans hw119_0), ((HB.out.cell (World.block_lt_of_cell? w _ hw119_1)).trans hw119_1), ((HB.out.cell (World.block_lt_of_cell? w _ hw121_0)).trans hw121_0), ((HB.out.cell (World.block_lt_of_cell? w _ hw121_1)).trans hw121_1)⟩ (fun hHeld => ?_)
      clear hK K
      refine norm_ (a' := ?_) ?_ ?_
      rotate_left
      ·show Act.put _ (some 15) _ = _
       simp only [Act.put, sa_, sz_, ss_, i64_w, i32_w]
       rfl
      refine pure_ (i := 6) (N := some 16) (v := ?_) (a' := ?_) (dn 34 127) rfl rfl (any_of HT_.out (by kernel_rfl)) (fun _ _ _ h => h) (Or.inl ⟨by rfl, ?_⟩) ?_ ?_
      rotate_left; (intro w'; go_simp; with_reducible rfl); rotate_left; (simp only [Act.put, sa_, sz_, ss_, i64_w, i32_w]; rfl)
      refine pure_ (i := 7) (N := some 17) (v := ?_) (a' := ?_) (dn 34 255) rfl rfl (any_of HT_.out (by kernel_rfl)) (fun _ _ _ h => h) (Or.inl ⟨by rfl, ?_⟩) ?_ ?_
      rotate_left; (intro w'; go_simp; with_reducible rfl); rotate_left; (simp only [Act.put, sa_, sz_, ss_, i64_w, i32_w]; rfl)
      refine pure_ (i := 8) (N := some 18) (v := ?_) (a' := ?_) (dn 34 511) rfl rfl (any_of HT_.out (by kernel_rfl)) (fun _ _ _ h => h) (Or.inl ⟨by rfl, ?_⟩) ?_ ?_
      rotate_left; (intro w'; go_simp; with_reducible rfl); rotate_left; (simp only [Act.put, sa_, sz_, ss_, i64_w, i32_w]; rfl)
      refine pure_ (i := 9) (N := some 19) (v := ?_) (a' := ?_) (dn 34 1023) rfl rfl (any_of HT_.out (by kernel_rfl)) (fun _ _ _ h => h) (Or.inl ⟨by rfl, ?_⟩) ?_ ?_
      rotate_left; (intro w'; go_simp; with_reducible rfl); rotate_left; (simp only [Act.put, sa_, sz_, ss_, i64_w, i32_w]; rfl)
      refine pure_ (i := 10) (N := some 20) (v := ?_) (a' := ?_) (dn 34 2047) rfl rfl (any_of HT_.out (by kernel_rfl)) (fun _ _ _ h => h) (Or.inl ⟨by rfl, ?_⟩) ?_ ?_
      rotate_left; (intro w'; go_simp; with_reducible rfl); rotate_left; (simp only [Act.put, sa_, sz_, ss_, i64_w, i32_w]; rfl)
      refine pure_ (i := 11) (N := some 21) (v := ?_) (a' := ?_) (dn 34 4095) rfl rfl (any_of HT_.out (by kernel_rfl)) (fun _ _ _ h => h) (Or.inl ⟨by rfl, ?_⟩) ?_ ?_
      rotate_left; (intro w'; go_simp; with_reducible rfl); rotate_left; (simp only [Act.put, sa_, sz_, ss_, i64_w, i32_w]; rfl)
      refine take_ (i := 12) (N := some 22) (v := ?_) (a' := ?_) (dn 34 8191) rfl rfl (take_ofW HT_.out HW_.out (by kernel_rfl)) (fun _ _ _ h => h) (Or.inl ⟨by rfl, ?_⟩) hHeld ?_ ?_
      rotate_left
      ·rintro w' ⟨s0, s1, s2, s3⟩
       go_simp
       with_reducible rfl
      rotate_left
      ·simp only [Act.put, sa_, sz_, ss_, i64_w, i32_w]
       rfl
      refine one_ (i := 13) (N := some 23) (dn 34 16383) rfl rfl (one_of HT_.out (by kernel_rfl)) (by decide) (fun K hK => ?_)
      refine goes_ Try.func90 (by kernel_rfl) rfl #[.int .i64 ((rd_T161 l0 x3_1).f1), .int .i64 1, .int .i64 16777215] (by rfl) rfl rfl (by (try simp only [List.map_toArray, List.map_cons, List.map_nil]); first | done | rfl | (simp only [List.length_drop, List.length_take]; rfl)) ?_
      with_reducible refine (spec_l1In.calls ((rd_T161 l0 x3_1).f1) 1 16777215 false _ A7.out).mono ?_
      rintro e w' ⟨rfl, ⟨nd, rfl⟩⟩
      refine ⟨_, rfl, ?_⟩
      refine hK.out _ _ ⟨((HB.out.cell (World.block_lt_of_cell? w _ hw119_0)).trans hw119_0), ((HB.out.cell (World.block_lt_of_cell? w _ hw119_1)).trans hw119_1), ((HB.out.cell (World.block_lt_of_cell? w _ hw121_0)).trans hw121_0), ((HB.out.cell (World.block_lt_of_cell? w _ hw121_1)).trans hw121_1)⟩ (fun hHeld => ?_)
      clear hK K
      refine norm_ (a' := ?_) ?_ ?_
      rotate_left
      ·show Act.put _ (some 23) _ = _
       simp only [Act.put, sa_, sz_, ss_, i64_w, i32_w]
       rfl
      refine pure_ (i := 14) (N := some 24) (v := ?_) (a' := ?_) (dn 34 32767) rfl rfl (any_of HT_.out (by kernel_rfl)) (fun _ _ _ h => h) (Or.inl ⟨by rfl, ?_⟩) ?_ ?_
      rotate_left; (intro w'; go_simp; with_reducible rfl); rotate_left; (simp only [Act.put, sa_, sz_, ss_, i64_w, i32_w]; rfl)
      refine pure_ (i := 15) (N := some 25) (v := ?_) (a' := ?_) (dn 34 65535) rfl rfl (any_of HT_.out (by kernel_rfl)) (fun _ _ _ h => h) (Or.inl ⟨by rfl, ?_⟩) ?_ ?_
      rotate_left; (intro w'; go_simp; with_reducible rfl); rotate_left; (simp only [Act.put, sa_, sz_, ss_, i64_w, i32_w]; rfl)
      refine pure_ (i := 16) (N := some 26) (v := ?_) (a' := ?_) (dn 34 131071) rfl rfl (any_of HT_.out (by kernel_rfl)) (fun _ _ _ h => h) (Or.inl ⟨by rfl, ?_⟩) ?_ ?_
      rotate_left; (intro w'; go_simp; with_reducible rfl); rotate_left; (simp only [Act.put, sa_, sz_, ss_, i64_w, i32_w]; rfl)
      refine pure_ (i := 17) (N := some 27) (v := undef) (a' := ?_) (dn 34 262143) rfl rfl (any_of HT_.out (by kernel_rfl)) (fun _ _ _ h => h) (Or.inr ⟨by rfl, rfl⟩) ?_ ?_
      rotate_left; (simp only [Act.put, sa_, sz_, ss_, i64_w, i32_w]; rfl)
      refine pure_ (i := 18) (N := some 28) (v := undef) (a' := ?_) (dn 34 524287) rfl rfl (any_of HT_.out (by kernel_rfl)) (fun _ _ _ h => h) (Or.inr ⟨by rfl, rfl⟩) ?_ ?_
      rotate_left; (simp only [Act.put, sa_, sz_, ss_, i64_w, i32_w]; rfl)
      refine pure_ (i := 19) (N := some 29) (v := undef) (a' := ?_) (dn 34 1048575) rfl rfl (any_of HT_.out (by kernel_rfl)) (fun _ _ _ h => h) (Or.inr ⟨by rfl, rfl⟩) ?_ ?_
      rotate_left; (simp only [Act.put, sa_, sz_, ss_, i64_w, i32_w]; rfl)
      refine pure_ (i := 20) (N := some 30) (v := undef) (a' := ?_) (dn 34 2097151) rfl rfl (any_of HT_.out (by kernel_rfl)) (fun _ _ _ h => h) (Or.inr ⟨by rfl, rfl⟩) ?_ ?_
      rotate_left; (simp only [Act.put, sa_, sz_, ss_, i64_w, i32_w]; rfl)
      refine pure_ (i := 21) (N := some 31) (v := undef) (a' := ?_) (dn 34 4194303) rfl rfl (any_of HT_.out (by kernel_rfl)) (fun _ _ _ h => h) (Or.inr ⟨by rfl, rfl⟩) ?_ ?_
      rotate_left; (simp only [Act.put, sa_, sz_, ss_, i64_w, i32_w]; rfl)
      refine pure_ (i := 22) (N := some 32) (v := undef) (a' := ?_) (dn 34 8388607) rfl rfl (any_of HT_.out (by kernel_rfl)) (fun _ _ _ h => h) (Or.inr ⟨by rfl, rfl⟩) ?_ ?_
      rotate_left; (simp only [Act.put, sa_, sz_, ss_, i64_w, i32_w]; rfl)
      refine pure_ (i := 23) (N := some 33) (v := undef) (a' := ?_) (dn 34 16777215) rfl rfl (any_of HT_.out (by kernel_rfl)) (fun _ _ _ h => h) (Or.inr ⟨by rfl, rfl⟩) ?_ ?_
      rotate_left; (simp only [Act.put, sa_, sz_, ss_, i64_w, i32_w]; rfl)
      refine pure_ (i := 24) (N := some 34) (v := undef) (a' := ?_) (dn 34 33554431) rfl rfl (any_of HT_.out (by kernel_rfl)) (fun _ _ _ h => h) (Or.inr ⟨by rfl, rfl⟩) ?_ ?_
      rotate_left; (simp only [Act.put, sa_, sz_, ss_, i64_w, i32_w]; rfl)
      refine pure_ (i := 25) (N := some 35) (v := undef) (a' := ?_) (dn 34 67108863) rfl rfl (any_of HT_.out (by kernel_rfl)) (fun _ _ _ h => h) (Or.inr ⟨by rfl, rfl⟩) ?_ ?_
      rotate_left; (simp only [Act.put, sa_, sz_, ss_, i64_w, i32_w]; rfl)
      refine pure_ (i := 26) (N := some 36) (v := undef) (a' := ?_) (dn 34 134217727) rfl rfl (any_of HT_.out (by kernel_rfl)) (fun _ _ _ h => h) (Or.inr ⟨by rfl, rfl⟩) ?_ ?_
      rotate_left; (simp only [Act.put, sa_, sz_, ss_, i64_w, i32_w]; rfl)
      refine pure_ (i := 27) (N := some 37) (v := undef) (a' := ?_) (dn 34 268435455) rfl rfl (any_of HT_.out (by kernel_rfl)) (fun _ _ _ h => h) (Or.inr ⟨by rfl, rfl⟩) ?_ ?_
      rotate_left; (simp only [Act.put, sa_, sz_, ss_, i64_w, i32_w]; rfl)
      refine pure_ (i := 28) (N := some 38) (v := undef) (a' := ?_) (dn 34 536870911) rfl rfl (any_of HT_.out (by kernel_rfl)) (fun _ _ _ h => h) (Or.inr ⟨by rfl, rfl⟩) ?_ ?_
      rotate_left; (simp only [Act.put, sa_, sz_, ss_, i64_w, i32_w]; rfl)
      refine pure_ (i := 29) (N := some 39) (v := undef) (a' := ?_) (dn 34 1073741823) rfl rfl (any_of HT_.out (by kernel_rfl)) (fun _ _ _ h => h) (Or.inr ⟨by rfl, rfl⟩) ?_ ?_
      rotate_left; (simp only [Act.put, sa_, sz_, ss_, i64_w, i32_w]; rfl)
      refine pure_ (i := 30) (N := some 40) (v := undef) (a' := ?_) (dn 34 2147483647) rfl rfl (any_of HT_.out (by kernel_rfl)) (fun _ _ _ h => h) (Or.inr ⟨by rfl, rfl⟩) ?_ ?_
      rotate_left; (simp only [Act.put, sa_, sz_, ss_, i64_w, i32_w]; rfl)
      refine pure_ (i := 31) (N := some 41) (v := undef) (a' := ?_) (dn 34 4294967295) rfl rfl (any_of HT_.out (by kernel_rfl)) (fun _ _ _ h => h) (Or.inr ⟨by rfl, rfl⟩) ?_ ?_
      rotate_left; (simp only [Act.put, sa_, sz_, ss_, i64_w, i32_w]; rfl)
      refine pure_ (i := 32) (N := some 42) (v := undef) (a' := ?_) (dn 34 8589934591) rfl rfl (any_of HT_.out (by kernel_rfl)) (fun _ _ _ h => h) (Or.inr ⟨by rfl, rfl⟩) ?_ ?_
      rotate_left; (simp only [Act.put, sa_, sz_, ss_, i64_w, i32_w]; rfl)
      refine pure_ (i := 33) (N := some 43) (v := ?_) (a' := ?_) (dn 34 17179869183) rfl rfl (any_of HT_.out (by kernel_rfl)) (fun _ _ _ h => h) (Or.inl ⟨by rfl, ?_⟩) ?_ ?_
      rotate_left; (intro w'; go_simp; with_reducible rfl); rotate_left; (simp only [Act.put, sa_, sz_, ss_, i64_w, i32_w]; rfl)
      refine done_ (done_of HT_.out (by kernel_rfl)) ?_
      try go_wp2
      go_meet
      case rel => exact ⟨_, (true), (by first | rfl | (simp; done) | (simp [*]; done)), H', ⟨by have := HK1.out; first | omega | exact Nat.le_refl _⟩, ⟨by repeat (first | (with_reducible first | exact HB.out | apply below_alloc | apply pw_below_drewN | apply below_drew1) | exact HB.out)⟩⟩
    ·replace c6 := Bool.eq_false_iff.mpr c6
     subst c6
     have H1 : (spec_NotesOk.j1 k1 l0 x3_1 true) = some r := by rw [if_neg (show ¬ (false = true) by decide)] at H; exact H
     clear H
     have H := H1
     clear H1
     have H' := Aside0.mk H
     clear H
     try go_wp2
     have n0_ := Aside0.mk (below_drew1 HB.out)
     clear HB
     have HB := n0_
     clear n0_
     have p119 : 0 ≤ (x3_1 : Int) := of_decide_eq_true (by first | (with_reducible assumption) | assumption)
     have q119 : x3_1 < (l0.length : Int) := of_decide_eq_true (by first | (with_reducible assumption) | assumption)
     obtain ⟨ad119, e119, hx119_0, hx119_1⟩ := at_T161 HR0.out x3_1 p119 q119
     have hw119_1 := hx119_1
     have hw119_0 := hx119_0
     cases e119
     replace hx119_0 := (HB.out.cell (World.block_lt_of_cell? w _ hx119_0)).trans hx119_0
     replace hx119_1 := (HB.out.cell (World.block_lt_of_cell? w _ hx119_1)).trans hx119_1
     replace p119 := eq_true p119
     replace q119 := eq_true q119
     refine start_ (n := 34) (S := fun w' => w'.cell? (ad119.add ((x3_1).toNat * 2)) = some (.int .i64 ((rd_T161 l0 x3_1).f0)) ∧ w'.cell? ⟨(ad119.add ((x3_1).toNat * 2)).block, (ad119.add ((x3_1).toNat * 2)).off + 1, none⟩ = some (.int .i64 ((rd_T161 l0 x3_1).f1))) (ds := []) (dn 34 0) (by kernel_rfl) rfl rfl ⟨((HB.out.cell (World.block_lt_of_cell? w _ hw119_0)).trans hw119_0), ((HB.out.cell (World.block_lt_of_cell? w _ hw119_1)).trans hw119_1)⟩ (fun hHeld => ?_); refine with_tabW spec_NotesOk.tab4 spec_NotesOk.bits4 (fun HT_ HW_ => ?_)
     generalize wr.drew = w16 at HB hx119_0 hx119_1 hHeld ⊢
     refine pure_ (i := 0) (N := some 10) (v := ?_) (a' := ?_) (dn 34 1) rfl rfl (any_of HT_.out (by kernel_rfl)) (fun _ _ _ h => h) (Or.inl ⟨by rfl, ?_⟩) ?_ ?_
     rotate_left; (intro w'; go_simp; with_reducible rfl); rotate_left; (simp only [Act.put, sa_, sz_, ss_, i64_w, i32_w]; rfl)
     refine pure_ (i := 1) (N := some 11) (v := ?_) (a' := ?_) (dn 34 3) rfl rfl (any_of HT_.out (by kernel_rfl)) (fun _ _ _ h => h) (Or.inl ⟨by rfl, ?_⟩) ?_ ?_
     rotate_left; (intro w'; go_simp; with_reducible rfl); rotate_left; (simp only [Act.put, sa_, sz_, ss_, i64_w, i32_w]; rfl)
     refine pure_ (i := 2) (N := some 12) (v := ?_) (a' := ?_) (dn 34 7) rfl rfl (any_of HT_.out (by kernel_rfl)) (fun _ _ _ h => h) (Or.inl ⟨by rfl, ?_⟩) ?_ ?_
     rotate_left; (intro w'; go_simp; with_reducible rfl); rotate_left; (simp only [Act.put, sa_, sz_, ss_, i64_w, i32_w]; rfl)
     refine pure_ (i := 3) (N := some 13) (v := ?_) (a' := ?_) (dn 34 15) rfl rfl (any_of HT_.out (by kernel_rfl)) (fun _ _ _ h => h) (Or.inl ⟨by rfl, ?_⟩) ?_ ?_
     rotate_left; (intro w'; go_simp; with_reducible rfl); rotate_left; (simp only [Act.put, sa_, sz_, ss_, i64_w, i32_w]; rfl)
     refine take_ (i := 4) (N := some 14) (v := ?_) (a' := ?_) (dn 34 31) rfl rfl (take_ofW HT_.out HW_.out (by kernel_rfl)) (fun _ _ _ h => h) (Or.inl ⟨by rfl, ?_⟩) hHeld ?_ ?_
     rotate_left
     ·rintro w' ⟨s0, s1⟩
      go_simp
      with_reducible rfl
     rotate_left
     ·simp only [Act.put, sa_, sz_, ss_, i64_w, i32_w]
      rfl
     refine one_ (i := 5) (N := some 15) (dn 34 63) rfl rfl (one_of HT_.out (by kernel_rfl)) (by decide) (fun K hK => ?_)
     refine goes_ Try.func90 (by kernel_rfl) rfl #[.int .i64 ((rd_T161 l0 x3_1).f0), .int .i64 1, .int .i64 1000000] (by rfl) rfl rfl (by (try simp only [List.map_toArray, List.map_cons, List.map_nil]); first | done | rfl | (simp only [List.length_drop, List.length_take]; rfl)) ?_
     with_reducible refine (spec_l1In.calls ((rd_T161 l0 x3_1).f0) 1 1000000 false _ A5.out).mono ?_
     rintro e w' ⟨rfl, ⟨nd, rfl⟩⟩
     refine ⟨_, rfl, ?_⟩
     refine hK.out _ _ ⟨((HB.out.cell (World.block_lt_of_cell? w _ hw119_0)).trans hw119_0), ((HB.out.cell (World.block_lt_of_cell? w _ hw119_1)).trans hw119_1)⟩ (fun hHeld => ?_)
     clear hK K
     refine norm_ (a' := ?_) ?_ ?_
     rotate_left
     ·show Act.put _ (some 15) _ = _
      simp only [Act.put, sa_, sz_, ss_, i64_w, i32_w]
      rfl
     refine pure_ (i := 6) (N := some 16) (v := ?_) (a' := ?_) (dn 34 127) rfl rfl (any_of HT_.out (by kernel_rfl)) (fun _ _ _ h => h) (Or.inl ⟨by rfl, ?_⟩) ?_ ?_
     rotate_left; (intro w'; go_simp; with_reducible rfl); rotate_left; (simp only [Act.put, sa_, sz_, ss_, i64_w, i32_w]; rfl)
     refine pure_ (i := 7) (N := some 17) (v := ?_) (a' := ?_) (dn 34 255) rfl rfl (any_of HT_.out (by kernel_rfl)) (fun _ _ _ h => h) (Or.inl ⟨by rfl, ?_⟩) ?_ ?_
     rotate_left; (intro w'; go_simp; with_reducible rfl); rotate_left; (simp only [Act.put, sa_, sz_, ss_, i64_w, i32_w]; rfl)
     refine pure_ (i := 8) (N := some 18) (v := undef) (a' := ?_) (dn 34 511) rfl rfl (any_of HT_.out (by kernel_rfl)) (fun _ _ _ h => h) (Or.inr ⟨by rfl, rfl⟩) ?_ ?_
     rotate_left; (simp only [Act.put, sa_, sz_, ss_, i64_w, i32_w]; rfl)
     refine pure_ (i := 9) (N := some 19) (v := undef) (a' := ?_) (dn 34 1023) rfl rfl (any_of HT_.out (by kernel_rfl)) (fun _ _ _ h => h) (Or.inr ⟨by rfl, rfl⟩) ?_ ?_
     rotate_left; (simp only [Act.put, sa_, sz_, ss_, i64_w, i32_w]; rfl)
     refine pure_ (i := 10) (N := some 20) (v := undef) (a' := ?_) (dn 34 2047) rfl rfl (any_of HT_.out (by kernel_rfl)) (fun _ _ _ h => h) (Or.inr ⟨by rfl, rfl⟩) ?_ ?_
     rotate_left; (simp only [Act.put, sa_, sz_, ss_, i64_w, i32_w]; rfl)
     refine pure_ (i := 11) (N := some 21) (v := undef) (a' := ?_) (dn 34 4095) rfl rfl (any_of HT_.out (by kernel_rfl)) (fun _ _ _ h => h) (Or.inr ⟨by rfl, rfl⟩) ?_ ?_
     rotate_left; (simp only [Act.put, sa_, sz_, ss_, i64_w, i32_w]; rfl)
     refine pure_ (i := 12) (N := some 22) (v := undef) (a' := ?_) (dn 34 8191) rfl rfl (any_of HT_.out (by kernel_rfl)) (fun _ _ _ h => h) (Or.inr ⟨by rfl, rfl⟩) ?_ ?_
     rotate_left; (simp only [Act.put, sa_, sz_, ss_, i64_w, i32_w]; rfl)
     refine pure_ (i := 13) (N := some 23) (v := undef) (a' := ?_) (dn 34 16383) rfl rfl (any_of HT_.out (by kernel_rfl)) (fun _ _ _ h => h) (Or.inr ⟨by rfl, rfl⟩) ?_ ?_
     rotate_left; (simp only [Act.put, sa_, sz_, ss_, i64_w, i32_w]; rfl)
     refine pure_ (i := 14) (N := some 24) (v := undef) (a' := ?_) (dn 34 32767) rfl rfl (any_of HT_.out (by kernel_rfl)) (fun _ _ _ h => h) (Or.inr ⟨by rfl, rfl⟩) ?_ ?_
     rotate_left; (simp only [Act.put, sa_, sz_, ss_, i64_w, i32_w]; rfl)
     refine pure_ (i := 15) (N := some 25) (v := ?_) (a' := ?_) (dn 34 65535) rfl rfl (any_of HT_.out (by kernel_rfl)) (fun _ _ _ h => h) (Or.inl ⟨by rfl, ?_⟩) ?_ ?_
     rotate_left; (intro w'; go_simp; with_reducible rfl); rotate_left; (simp only [Act.put, sa_, sz_, ss_, i64_w, i32_w]; rfl)
     refine pure_ (i := 16) (N := some 26) (v := ?_) (a' := ?_) (dn 34 131071) rfl rfl (any_of HT_.out (by kernel_rfl)) (fun _ _ _ h => h) (Or.inl ⟨by rfl, ?_⟩) ?_ ?_
     rotate_left; (intro w'; go_simp; with_reducible rfl); rotate_left; (simp only [Act.put, sa_, sz_, ss_, i64_w, i32_w]; rfl)
     refine pure_ (i := 17) (N := some 27) (v := undef) (a' := ?_) (dn 34 262143) rfl rfl (any_of HT_.out (by kernel_rfl)) (fun _ _ _ h => h) (Or.inr ⟨by rfl, rfl⟩) ?_ ?_
     rotate_left; (simp only [Act.put, sa_, sz_, ss_, i64_w, i32_w]; rfl)
     refine pure_ (i := 18) (N := some 28) (v := undef) (a' := ?_) (dn 34 524287) rfl rfl (any_of HT_.out (by kernel_rfl)) (fun _ _ _ h => h) (Or.inr ⟨by rfl, rfl⟩) ?_ ?_
     rotate_left; (simp only [Act.put, sa_, sz_, ss_, i64_w, i32_w]; rfl)
     refine pure_ (i := 19) (N := some 29) (v := undef) (a' := ?_) (dn 34 1048575) rfl rfl (any_of HT_.out (by kernel_rfl)) (fun _ _ _ h => h) (Or.inr ⟨by rfl, rfl⟩) ?_ ?_
     rotate_left; (simp only [Act.put, sa_, sz_, ss_, i64_w, i32_w]; rfl)
     refine pure_ (i := 20) (N := some 30) (v := undef) (a' := ?_) (dn 34 2097151) rfl rfl (any_of HT_.out (by kernel_rfl)) (fun _ _ _ h => h) (Or.inr ⟨by rfl, rfl⟩) ?_ ?_
     rotate_left; (simp only [Act.put, sa_, sz_, ss_, i64_w, i32_w]; rfl)
     refine pure_ (i := 21) (N := some 31) (v := undef) (a' := ?_) (dn 34 4194303) rfl rfl (any_of HT_.out (by kernel_rfl)) (fun _ _ _ h => h) (Or.inr ⟨by rfl, rfl⟩) ?_ ?_
     rotate_left; (simp only [Act.put, sa_, sz_, ss_, i64_w, i32_w]; rfl)
     refine pure_ (i := 22) (N := some 32) (v := undef) (a' := ?_) (dn 34 8388607) rfl rfl (any_of HT_.out (by kernel_rfl)) (fun _ _ _ h => h) (Or.inr ⟨by rfl, rfl⟩) ?_ ?_
     rotate_left; (simp only [Act.put, sa_, sz_, ss_, i64_w, i32_w]; rfl)
     refine pure_ (i := 23) (N := some 33) (v := undef) (a' := ?_) (dn 34 16777215) rfl rfl (any_of HT_.out (by kernel_rfl)) (fun _ _ _ h => h) (Or.inr ⟨by rfl, rfl⟩) ?_ ?_
     rotate_left; (simp only [Act.put, sa_, sz_, ss_, i64_w, i32_w]; rfl)
     refine pure_ (i := 24) (N := some 34) (v := undef) (a' := ?_) (dn 34 33554431) rfl rfl (any_of HT_.out (by kernel_rfl)) (fun _ _ _ h => h) (Or.inr ⟨by rfl, rfl⟩) ?_ ?_
     rotate_left; (simp only [Act.put, sa_, sz_, ss_, i64_w, i32_w]; rfl)
     refine pure_ (i := 25) (N := some 35) (v := undef) (a' := ?_) (dn 34 67108863) rfl rfl (any_of HT_.out (by kernel_rfl)) (fun _ _ _ h => h) (Or.inr ⟨by rfl, rfl⟩) ?_ ?_
     rotate_left; (simp only [Act.put, sa_, sz_, ss_, i64_w, i32_w]; rfl)
     refine pure_ (i := 26) (N := some 36) (v := undef) (a' := ?_) (dn 34 134217727) rfl rfl (any_of HT_.out (by kernel_rfl)) (fun _ _ _ h => h) (Or.inr ⟨by rfl, rfl⟩) ?_ ?_
     rotate_left; (simp only [Act.put, sa_, sz_, ss_, i64_w, i32_w]; rfl)
     refine pure_ (i := 27) (N := some 37) (v := undef) (a' := ?_) (dn 34 268435455) rfl rfl (any_of HT_.out (by kernel_rfl)) (fun _ _ _ h => h) (Or.inr ⟨by rfl, rfl⟩) ?_ ?_
     rotate_left; (simp only [Act.put, sa_, sz_, ss_, i64_w, i32_w]; rfl)
     refine pure_ (i := 28) (N := some 38) (v := undef) (a' := ?_) (dn 34 536870911) rfl rfl (any_of HT_.out (by kernel_rfl)) (fun _ _ _ h => h) (Or.inr ⟨by rfl, rfl⟩) ?_ ?_
     rotate_left; (simp only [Act.put, sa_, sz_, ss_, i64_w, i32_w]; rfl)
     refine pure_ (i := 29) (N := some 39) (v := undef) (a' := ?_) (dn 34 1073741823) rfl rfl (any_of HT_.out (by kernel_rfl)) (fun _ _ _ h => h) (Or.inr ⟨by rfl, rfl⟩) ?_ ?_
     rotate_left; (simp only [Act.put, sa_, sz_, ss_, i64_w, i32_w]; rfl)
     refine pure_ (i := 30) (N := some 40) (v := undef) (a' := ?_) (dn 34 2147483647) rfl rfl (any_of HT_.out (by kernel_rfl)) (fun _ _ _ h => h) (Or.inr ⟨by rfl, rfl⟩) ?_ ?_
     rotate_left; (simp only [Act.put, sa_, sz_, ss_, i64_w, i32_w]; rfl)
     refine pure_ (i := 31) (N := some 41) (v := undef) (a' := ?_) (dn 34 4294967295) rfl rfl (any_of HT_.out (by kernel_rfl)) (fun _ _ _ h => h) (Or.inr ⟨by rfl, rfl⟩) ?_ ?_
     rotate_left; (simp only [Act.put, sa_, sz_, ss_, i64_w, i32_w]; rfl)
     refine pure_ (i := 32) (N := some 42) (v := undef) (a' := ?_) (dn 34 8589934591) rfl rfl (any_of HT_.out (by kernel_rfl)) (fun _ _ _ h => h) (Or.inr ⟨by rfl, rfl⟩) ?_ ?_
     rotate_left; (simp only [Act.put, sa_, sz_, ss_, i64_w, i32_w]; rfl)
     refine pure_ (i := 33) (N := some 43) (v := ?_) (a' := ?_) (dn 34 17179869183) rfl rfl (any_of HT_.out (by kernel_rfl)) (fun _ _ _ h => h) (Or.inl ⟨by rfl, ?_⟩) ?_ ?_
     rotate_left; (intro w'; go_simp; with_reducible rfl); rotate_left; (simp only [Act.put, sa_, sz_, ss_, i64_w, i32_w]; rfl)
     refine done_ (done_of HT_.out (by kernel_rfl)) ?_
     try go_wp2
     go_meet
     case rel => exact ⟨_, (true), (by first | rfl | (simp; done) | (simp [*]; done)), H', ⟨by have := HK1.out; first | omega | exact Nat.le_refl _⟩, ⟨by repeat (first | (with_reducible first | exact HB.out | apply below_alloc | apply pw_below_drewN | apply below_drew1) | exact HB.out)⟩⟩
   case rest =>
    clear HC3
    try clear p1
    try clear q1
    try clear hx1
    try clear p2
    try clear c4
    try clear c6
    try clear c8
    try clear c9
    try clear p11
    try clear q11
    try clear hx11
    try clear p12
    try clear q12
    try clear hx12
    try clear hx119_0
    try clear hx119_1
    try clear hx121_0
    try clear hx121_1
    try clear p119
    try clear p121
    try clear q119
    try clear q121
    obtain ⟨kq, x43_2, rfl, HA, HJ2, HB⟩ := hcut
    cases kq with
    | zero => exact absurd (HA.out.symm.trans (by rw [spec_NotesOk.j1])) (fun h_ => by cases h_)
    | succ kj2 =>
     have H := HA.out
     clear HA
     simp only [spec_NotesOk.j1] at H
     by_cases c17 : x43_2 = true
     ·subst c17
      have H1 : (some false) = some r := by rw [if_pos rfl] at H; exact H
      clear H
      have H := H1
      clear H1
      obtain rfl := Option.some.inj H
      go_wp2
      go_ret
      exact ⟨by first | rfl | (simp [errW_none, errW_some] <;> rfl) | (simp [*, errW_none, errW_some] <;> rfl), by repeat (first | (with_reducible first | exact HB.out | apply below_alloc | apply pw_below_drewN | apply below_drew1) | exact HB.out)⟩
     ·replace c17 := Bool.eq_false_iff.mpr c17
      subst c17
      have H1 : (spec_NotesOk.l0 kj2 l0 (wrap64 (x3_1 + 1))) = some r := by rw [if_neg (show ¬ (false = true) by decide)] at H; exact H
      clear H
      have H := H1
      clear H1
      have H' := Aside0.mk H
      clear H
      go_wp2
      go_roundg kj2
      case measure => have := HK1.out; have := HJ2.out; omega
      case rel => exact ⟨(wrap64 (x3_1 + 1)), (by first | rfl | (simp; done) | (simp [*]; done)), H', ⟨by have := HK1.out; have := HJ2.out; omega⟩, ⟨by repeat (first | (with_reducible first | exact HB.out | apply below_alloc | apply pw_below_drewN | apply below_drew1) | exact HB.out)⟩⟩

end Go.Proofs.Ytfpghkgfodnjmaa.MFnExactMsgOk
