-- Written by a program of this session (wip/mprint.py) out of the translation's own print; Lean checks it.
import Derived.Test.YtfpghkgfodnjmaaMFnExactMsgOkx0
import Derived.Test.YtfpghkgfodnjmaaMFnExactMsgOkx1
import Derived.Test.YtfpghkgfodnjmaaMFnExactMsgOkx2
import Derived.Test.YtfpghkgfodnjmaaMFnExactMsgOkx3
namespace Go.Proofs.Ytfpghkgfodnjmaa.MFnExactMsgOk
open Go.RowKit Go.Proofs.YtfpghkgfodnjmaaW.PrintWords Go.Proofs.YtfpghkgfodnjmaaW.PrintLast Go.Proofs.YtfpghkgfodnjmaaW.PrintMore Go.Proofs.YtfpghkgfodnjmaaLib
attribute [local go_sem] max2_int min2_int max_two min_two max_three min_three max_four min_four   -- for this text's walks alone
set_option linter.unusedVariables false
set_option linter.unusedSimpArgs false

/-! ### spec_MsgOk: function 65 -/
mutual
def spec_MsgOk.j0 : Nat → Int → Bool → Int → Int → Int → Int → Int → List (S158) → List (S161) → Option (Bool)
 | 0, _, _, _, _, _, _, _, _, _ => none
 | k + 1, x3, x31, x126000, x126001, x126002, x126003, x126004, x126005, x126006 => if x31 = true then (some false) else (if (Go.bits .and .i64 x3 1) = 0 then (spec_MsgOk.j1 k x3 (x126002 == 0) x126000 x126001 x126002 x126003 x126004 x126005 x126006) else ((spec_l1In.f x126002 1 1000000).bind fun t131 => (if t131 = true then (spec_MsgOk.j1 k x3 true x126000 x126001 x126002 x126003 x126004 x126005 x126006) else (spec_MsgOk.j1 k x3 false x126000 x126001 x126002 x126003 x126004 x126005 x126006))))
def spec_MsgOk.j1 : Nat → Int → Bool → Int → Int → Int → Int → Int → List (S158) → List (S161) → Option (Bool)
 | 0, _, _, _, _, _, _, _, _, _ => none
 | k + 1, x3, x4, x126000, x126001, x126002, x126003, x126004, x126005, x126006 => if (Go.bits .and .i64 x3 2) = 0 then (spec_MsgOk.j2 k x3 x4 (x126003 == 0) x126000 x126001 x126002 x126003 x126004 x126005 x126006) else ((spec_l1In.f x126003 0 255).bind fun t132 => (if t132 = true then (spec_MsgOk.j2 k x3 x4 true x126000 x126001 x126002 x126003 x126004 x126005 x126006) else (spec_MsgOk.j2 k x3 x4 (x126003 == 0) x126000 x126001 x126002 x126003 x126004 x126005 x126006)))
def spec_MsgOk.j2 : Nat → Int → Bool → Bool → Int → Int → Int → Int → Int → List (S158) → List (S161) → Option (Bool)
 | 0, _, _, _, _, _, _, _, _, _, _ => none
 | k + 1, x3, x4, x5, x126000, x126001, x126002, x126003, x126004, x126005, x126006 => if (Go.bits .and .i64 x3 4) = 0 then (if x4 = true then (if x5 = true then (if x126004 = 0 then (if (Go.bits .and .i64 x3 8) = 0 then (if (x126005.length : Int) = 0 then (if (Go.bits .and .i64 x3 16) = 0 then (some ((x126006.length : Int) == 0)) else (some true)) else (some false)) else (if (Go.bits .and .i64 x3 16) = 0 then (some ((x126006.length : Int) == 0)) else (some true))) else (some false)) else (some false)) else (some false)) else ((spec_l1In.f x126004 0 16777215).bind fun t133 => (if t133 = true then (if x4 = true then (if x5 = true then (if (Go.bits .and .i64 x3 8) = 0 then (if (x126005.length : Int) = 0 then (if (Go.bits .and .i64 x3 16) = 0 then (some ((x126006.length : Int) == 0)) else (some true)) else (some false)) else (if (Go.bits .and .i64 x3 16) = 0 then (some ((x126006.length : Int) == 0)) else (some true))) else (some false)) else (some false)) else (if x4 = true then (if x5 = true then (if x126004 = 0 then (if (Go.bits .and .i64 x3 8) = 0 then (if (x126005.length : Int) = 0 then (if (Go.bits .and .i64 x3 16) = 0 then (some ((x126006.length : Int) == 0)) else (some true)) else (some false)) else (if (Go.bits .and .i64 x3 16) = 0 then (some ((x126006.length : Int) == 0)) else (some true))) else (some false)) else (some false)) else (some false))))
end
def spec_MsgOk.f (k : Nat) (a0_0 : Int) (a0_1 : Int) (a0_2 : Int) (a0_3 : Int) (a0_4 : Int) (l0_5 : List (S158)) (l0_6 : List (S161)) : Option (Bool) := (spec_l3Has.f a0_0).bind fun t126 => ((spec_l1In.f a0_0 1 10).bind fun t127 => (if t127 = true then ((spec_l1In.f a0_1 1 1000000).bind fun t128 => (if t128 = true then ((spec_l3Cells.f k l0_5).bind fun t129 => (if t129 = true then ((spec_NotesOk.f k l0_6).bind fun t130 => (spec_MsgOk.j0 k t126 (!t130) a0_0 a0_1 a0_2 a0_3 a0_4 l0_5 l0_6)) else (spec_MsgOk.j0 k t126 true a0_0 a0_1 a0_2 a0_3 a0_4 l0_5 l0_6))) else (spec_MsgOk.j0 k t126 true a0_0 a0_1 a0_2 a0_3 a0_4 l0_5 l0_6))) else (spec_MsgOk.j0 k t126 true a0_0 a0_1 a0_2 a0_3 a0_4 l0_5 l0_6)))
set_option maxHeartbeats 8000000 in
set_option maxRecDepth 100000 in
theorem spec_MsgOk.calls (k : Nat) (a0_0 : Int) (a0_1 : Int) (a0_2 : Int) (a0_3 : Int) (a0_4 : Int) (A0_5 : Option Addr) (c0_5 : Nat) (l0_5 : List (S158)) (A0_6 : Option Addr) (c0_6 : Nat) (l0_6 : List (S161)) (r : Bool) (w : World) (hr0_5 : Kd.C k158 w A0_5 l0_5.length l0_5) (hc0_5 : l0_5.length ≤ c0_5) (hr0_6 : Kd.C k161 w A0_6 l0_6.length l0_6) (hc0_6 : l0_6.length ≤ c0_6) (h : spec_MsgOk.f k a0_0 a0_1 a0_2 a0_3 a0_4 l0_5 l0_6 = some r) :
  Calls Try.prog 65 #[.agg #[.int .i64 a0_0, .int .i64 a0_1, .int .i64 a0_2, .int .i64 a0_3, .int .i64 a0_4, .slice A0_5 l0_5.length c0_5, .slice A0_6 l0_6.length c0_6]] w fun e w' => e = .returned (.bool r) ∧ Below w.heap.size w w' := by
 have hu82 := Try.underlying82
 have HR0_5 := Aside0.mk hr0_5
 have HC0_5 := Aside0.mk hc0_5
 clear hr0_5 hc0_5
 have HR0_6 := Aside0.mk hr0_6
 have HC0_6 := Aside0.mk hc0_6
 clear hr0_6 hc0_6
 have HB := Aside0.mk (Below.refl w.heap.size w)
 have H : ((spec_l3Has.f a0_0).bind fun t126 => ((spec_l1In.f a0_0 1 10).bind fun t127 => (if t127 = true then ((spec_l1In.f a0_1 1 1000000).bind fun t128 => (if t128 = true then ((spec_l3Cells.f k l0_5).bind fun t129 => (if t129 = true then ((spec_NotesOk.f k l0_6).bind fun t130 => (spec_MsgOk.j0 k t126 (!t130) a0_0 a0_1 a0_2 a0_3 a0_4 l0_5 l0_6)) else (spec_MsgOk.j0 k t126 true a0_0 a0_1 a0_2 a0_3 a0_4 l0_5 l0_6))) else (spec_MsgOk.j0 k t126 true a0_0 a0_1 a0_2 a0_3 a0_4 l0_5 l0_6))) else (spec_MsgOk.j0 k t126 true a0_0 a0_1 a0_2 a0_3 a0_4 l0_5 l0_6)))) = some r := h
 clear h
 replace H := Option.bind_eq_some_iff.mp H
 obtain ⟨t126, A20, H⟩ := H
 replace H : ((spec_l1In.f a0_0 1 10).bind fun t127 => (if t127 = true then ((spec_l1In.f a0_1 1 1000000).bind fun t128 => (if t128 = true then ((spec_l3Cells.f k l0_5).bind fun t129 => (if t129 = true then ((spec_NotesOk.f k l0_6).bind fun t130 => (spec_MsgOk.j0 k t126 (!t130) a0_0 a0_1 a0_2 a0_3 a0_4 l0_5 l0_6)) else (spec_MsgOk.j0 k t126 true a0_0 a0_1 a0_2 a0_3 a0_4 l0_5 l0_6))) else (spec_MsgOk.j0 k t126 true a0_0 a0_1 a0_2 a0_3 a0_4 l0_5 l0_6))) else (spec_MsgOk.j0 k t126 true a0_0 a0_1 a0_2 a0_3 a0_4 l0_5 l0_6))) = some r := H
 have A2 := Aside0.mk A20
 clear A20
 have HC3 := Aside0.mk H
 clear H
 go_enter Try.func65, Try.ntmps65
 go_upto_region 2 with (first | ((with_reducible refine gate_dst (N := 1) rfl ?_); (try (refine gate_guard (by rfl) ?_; dsimp only)); refine box_event ?hg (N := 1) ?hd (cs := #[.int .i64 a0_0, .int .i64 a0_1, .int .i64 a0_2, .int .i64 a0_3, .int .i64 a0_4, .slice A0_5 l0_5.length c0_5, .slice A0_6 l0_6.length c0_6]) (t := 82) ?hr ?_; (case hd => rfl); (case hg => rfl); (case hr => first | (go_simp; done) | (go_simp; rfl)); intro gb125 hg w4 hbox hb; have n0_ := Aside0.mk (below_step (by repeat (first | (with_reducible first | exact HB.out | apply below_alloc | apply pw_below_drewN | apply below_drew1) | exact HB.out)) hb); have n1_ := Aside0.mk (hbox); have n2_ := Aside0.mk ((by rw [hg]; exact (below_size (by repeat (first | (with_reducible first | exact HB.out | apply below_alloc | apply pw_below_drewN | apply below_drew1) | exact HB.out))) : w.heap.size ≤ gb125)); have n3_ := Aside0.mk ((by rw [hg]; exact (below_size (by repeat (first | (with_reducible first | exact HB.out | apply below_alloc | apply pw_below_drewN | apply below_drew1) | exact HB.out))) : w.heap.size ≤ gb125)); clear HB; have HB := n0_; have BK125 := n1_; have GW125 := n2_; have GE125 := n3_; clear n0_ n1_ n2_ n3_; clear hb hbox hg; have hcz5_0 : w4.cell? ⟨gb125, 0, none⟩ = some (.int .i64 a0_0) := (blk_cell BK125.out 0).trans rfl; have hcz5_1 : w4.cell? ⟨gb125, 1, none⟩ = some (.int .i64 a0_1) := (blk_cell BK125.out 1).trans rfl; have hcz5_2 : w4.cell? ⟨gb125, 2, none⟩ = some (.int .i64 a0_2) := (blk_cell BK125.out 2).trans rfl; have hcz5_3 : w4.cell? ⟨gb125, 3, none⟩ = some (.int .i64 a0_3) := (blk_cell BK125.out 3).trans rfl; have hcz5_4 : w4.cell? ⟨gb125, 4, none⟩ = some (.int .i64 a0_4) := (blk_cell BK125.out 4).trans rfl; have hcz5_5 : w4.cell? ⟨gb125, 5, none⟩ = some (.slice A0_5 l0_5.length c0_5) := (blk_cell BK125.out 5).trans rfl; have hcz5_6 : w4.cell? ⟨gb125, 6, none⟩ = some (.slice A0_6 l0_6.length c0_6) := (blk_cell BK125.out 6).trans rfl; have hfz5_0 := blk_frozen BK125.out 0; have hfz5_1 := blk_frozen BK125.out 1; have hfz5_2 := blk_frozen BK125.out 2; have hfz5_3 := blk_frozen BK125.out 3; have hfz5_4 := blk_frozen BK125.out 4; have hfz5_5 := blk_frozen BK125.out 5; have hfz5_6 := blk_frozen BK125.out 6) | ((with_reducible refine gate_callee (f := 119) rfl ?_); refine goesL_ (some 9) rfl rfl Try.func119 (by kernel_rfl) rfl #[.int .i64 a0_0] rfl (by (try simp only [List.map_toArray, List.map_cons, List.map_nil]); first | done | rfl | (simp only [List.length_drop, List.length_take]; rfl)) ?_; (with_reducible refine (spec_l3Has.calls a0_0 t126 _ A2.out).mono ?_); rintro e w6 ⟨rfl, hb⟩; refine ⟨_, rfl, ?_⟩; have n0_ := Aside0.mk (blk_below (g := gb125) (o := .cells #[.int .i64 a0_0, .int .i64 a0_1, .int .i64 a0_2, .int .i64 a0_3, .int .i64 a0_4, .slice A0_5 l0_5.length c0_5, .slice A0_6 l0_6.length c0_6] 82 (0, 0)) (by (with_reducible repeat (first | refine blk_drewN ?_ _ | refine blk_drew ?_ | refine blk_alloc ?_ _)); exact BK125.out) hb); have n1_ := Aside0.mk (below_step (by repeat (first | (with_reducible first | exact HB.out | apply below_alloc | apply pw_below_drewN | apply below_drew1 | refine below_set ?_ GE125.out) | exact HB.out)) hb); clear BK125; clear HB; have BK125 := n0_; have HB := n1_; clear n0_ n1_; (try clear hb); (try clear hb2); (try clear hk); (try clear hi)))
 (try simp only [Act.put, sa_, sz_, ss_])
 go_cut [31] (fun v31 wc => ∃ (kq : Nat) (x31_2 : Bool), v31 = .bool x31_2 ∧ Aside0 (spec_MsgOk.j0 kq t126 x31_2 a0_0 a0_1 a0_2 a0_3 a0_4 l0_5 l0_6 = some r) ∧ Aside0 (kq ≤ k) ∧ Aside0 (wc.heap[gb125]? = some (.cells #[.int .i64 a0_0, .int .i64 a0_1, .int .i64 a0_2, .int .i64 a0_3, .int .i64 a0_4, (.slice A0_5 l0_5.length c0_5), (.slice A0_6 l0_6.length c0_6)] 82 (0, 0))) ∧ Aside0 (Below w.heap.size w wc))
 case first =>
  have H := HC3.out
  clear HC3
  replace H := Option.bind_eq_some_iff.mp H
  obtain ⟨t127, A70, H⟩ := H
  replace H : (if t127 = true then ((spec_l1In.f a0_1 1 1000000).bind fun t128 => (if t128 = true then ((spec_l3Cells.f k l0_5).bind fun t129 => (if t129 = true then ((spec_NotesOk.f k l0_6).bind fun t130 => (spec_MsgOk.j0 k t126 (!t130) a0_0 a0_1 a0_2 a0_3 a0_4 l0_5 l0_6)) else (spec_MsgOk.j0 k t126 true a0_0 a0_1 a0_2 a0_3 a0_4 l0_5 l0_6))) else (spec_MsgOk.j0 k t126 true a0_0 a0_1 a0_2 a0_3 a0_4 l0_5 l0_6))) else (spec_MsgOk.j0 k t126 true a0_0 a0_1 a0_2 a0_3 a0_4 l0_5 l0_6)) = some r := H
  have A7 := Aside0.mk A70
  clear A70
  by_cases c8 : t127 = true
  ·subst c8
   have H1 : ((spec_l1In.f a0_1 1 1000000).bind fun t128 => (if t128 = true then ((spec_l3Cells.f k l0_5).bind fun t129 => (if t129 = true then ((spec_NotesOk.f k l0_6).bind fun t130 => (spec_MsgOk.j0 k t126 (!t130) a0_0 a0_1 a0_2 a0_3 a0_4 l0_5 l0_6)) else (spec_MsgOk.j0 k t126 true a0_0 a0_1 a0_2 a0_3 a0_4 l0_5 l0_6))) else (spec_MsgOk.j0 k t126 true a0_0 a0_1 a0_2 a0_3 a0_4 l0_5 l0_6))) = some r := by rw [if_pos rfl] at H; exact H
   clear H
   have H := H1
   clear H1
   replace H := Option.bind_eq_some_iff.mp H
   obtain ⟨t128, A90, H⟩ := H
   replace H : (if t128 = true then ((spec_l3Cells.f k l0_5).bind fun t129 => (if t129 = true then ((spec_NotesOk.f k l0_6).bind fun t130 => (spec_MsgOk.j0 k t126 (!t130) a0_0 a0_1 a0_2 a0_3 a0_4 l0_5 l0_6)) else (spec_MsgOk.j0 k t126 true a0_0 a0_1 a0_2 a0_3 a0_4 l0_5 l0_6))) else (spec_MsgOk.j0 k t126 true a0_0 a0_1 a0_2 a0_3 a0_4 l0_5 l0_6)) = some r := H
   have A9 := Aside0.mk A90
   clear A90
   by_cases c10 : t128 = true
   ·subst c10
    have H1 : ((spec_l3Cells.f k l0_5).bind fun t129 => (if t129 = true then ((spec_NotesOk.f k l0_6).bind fun t130 => (spec_MsgOk.j0 k t126 (!t130) a0_0 a0_1 a0_2 a0_3 a0_4 l0_5 l0_6)) else (spec_MsgOk.j0 k t126 true a0_0 a0_1 a0_2 a0_3 a0_4 l0_5 l0_6))) = some r := by rw [if_pos rfl] at H; exact H
    clear H
    have H := H1
    clear H1
    replace H := Option.bind_eq_some_iff.mp H
    obtain ⟨t129, A110, H⟩ := H
    replace H : (if t129 = true then ((spec_NotesOk.f k l0_6).bind fun t130 => (spec_MsgOk.j0 k t126 (!t130) a0_0 a0_1 a0_2 a0_3 a0_4 l0_5 l0_6)) else (spec_MsgOk.j0 k t126 true a0_0 a0_1 a0_2 a0_3 a0_4 l0_5 l0_6)) = some r := H
    have A11 := Aside0.mk A110
    clear A110
    by_cases c12 : t129 = true
    ·subst c12
     have H1 : ((spec_NotesOk.f k l0_6).bind fun t130 => (spec_MsgOk.j0 k t126 (!t130) a0_0 a0_1 a0_2 a0_3 a0_4 l0_5 l0_6)) = some r := by rw [if_pos rfl] at H; exact H
     clear H
     have H := H1
     clear H1
     replace H := Option.bind_eq_some_iff.mp H
     obtain ⟨t130, A130, H⟩ := H
     replace H : (spec_MsgOk.j0 k t126 (!t130) a0_0 a0_1 a0_2 a0_3 a0_4 l0_5 l0_6) = some r := H
     have A13 := Aside0.mk A130
     clear A130
     have H' := Aside0.mk H
     clear H
     have hcz14_0 : w6.cell? ⟨gb125, 0, none⟩ = some (.int .i64 a0_0) := (blk_cell BK125.out 0).trans rfl
     have hcz14_1 : w6.cell? ⟨gb125, 1, none⟩ = some (.int .i64 a0_1) := (blk_cell BK125.out 1).trans rfl
     have hcz14_2 : w6.cell? ⟨gb125, 2, none⟩ = some (.int .i64 a0_2) := (blk_cell BK125.out 2).trans rfl
     have hcz14_3 : w6.cell? ⟨gb125, 3, none⟩ = some (.int .i64 a0_3) := (blk_cell BK125.out 3).trans rfl
     have hcz14_4 : w6.cell? ⟨gb125, 4, none⟩ = some (.int .i64 a0_4) := (blk_cell BK125.out 4).trans rfl
     have hcz14_5 : w6.cell? ⟨gb125, 5, none⟩ = some (.slice A0_5 l0_5.length c0_5) := (blk_cell BK125.out 5).trans rfl
     have hcz14_6 : w6.cell? ⟨gb125, 6, none⟩ = some (.slice A0_6 l0_6.length c0_6) := (blk_cell BK125.out 6).trans rfl
     have hfz14_0 := blk_frozen BK125.out 0
     have hfz14_1 := blk_frozen BK125.out 1
     have hfz14_2 := blk_frozen BK125.out 2
     have hfz14_3 := blk_frozen BK125.out 3
     have hfz14_4 := blk_frozen BK125.out 4
     have hfz14_5 := blk_frozen BK125.out 5
     have hfz14_6 := blk_frozen BK125.out 6
     go_wp2_with (first | ((with_reducible refine gate_callee (f := 90) rfl ?_); refine goesL_ (some 12) rfl rfl Try.func90 (by kernel_rfl) rfl #[.int .i64 a0_0, .int .i64 1, .int .i64 10] rfl (by (try simp only [List.map_toArray, List.map_cons, List.map_nil]); first | done | rfl | (simp only [List.length_drop, List.length_take]; rfl)) ?_; (with_reducible refine (spec_l1In.calls a0_0 1 10 true _ A7.out).mono ?_); rintro e w' ⟨rfl, ⟨nd, rfl⟩⟩; refine ⟨_, rfl, ?_⟩) | (go_at_call 90; (with_reducible refine (spec_l1In.calls a0_1 1 1000000 true _ A9.out).mono ?_); rintro e w' ⟨rfl, ⟨nd, rfl⟩⟩) | (go_at_call 120; (with_reducible refine (spec_l3Cells.calls k _ _ l0_5 true _ ?side1 ?side2 A11.out).mono ?_); (case side1 => repeat (first | exact (Kd.C_below HR0_5.out (by repeat (first | (with_reducible first | exact HB.out | apply below_alloc | apply pw_below_drewN | apply below_drew1 | refine below_set ?_ GE125.out) | exact HB.out))) | (with_reducible refine Kd.C_alloc ?_ _) | (with_reducible refine Kd.C_drewN ?_ _) | (with_reducible refine Kd.C_drew ?_))); (case side2 => exact HC0_5.out); rintro e w15 ⟨rfl, hb⟩; have n0_ := Aside0.mk (blk_below (g := gb125) (o := .cells #[.int .i64 a0_0, .int .i64 a0_1, .int .i64 a0_2, .int .i64 a0_3, .int .i64 a0_4, .slice A0_5 l0_5.length c0_5, .slice A0_6 l0_6.length c0_6] 82 (0, 0)) (by (with_reducible repeat (first | refine blk_drewN ?_ _ | refine blk_drew ?_ | refine blk_alloc ?_ _)); exact BK125.out) hb); have n1_ := Aside0.mk (below_step (by repeat (first | (with_reducible first | exact HB.out | apply below_alloc | apply pw_below_drewN | apply below_drew1 | refine below_set ?_ GE125.out) | exact HB.out)) hb); clear BK125; clear HB; have BK125 := n0_; have HB := n1_; clear n0_ n1_; (try clear hb); (try clear hb2); (try clear hk); (try clear hi); have hcz16_0 : w15.cell? ⟨gb125, 0, none⟩ = some (.int .i64 a0_0) := (blk_cell BK125.out 0).trans rfl; have hcz16_1 : w15.cell? ⟨gb125, 1, none⟩ = some (.int .i64 a0_1) := (blk_cell BK125.out 1).trans rfl; have hcz16_2 : w15.cell? ⟨gb125, 2, none⟩ = some (.int .i64 a0_2) := (blk_cell BK125.out 2).trans rfl; have hcz16_3 : w15.cell? ⟨gb125, 3, none⟩ = some (.int .i64 a0_3) := (blk_cell BK125.out 3).trans rfl; have hcz16_4 : w15.cell? ⟨gb125, 4, none⟩ = some (.int .i64 a0_4) := (blk_cell BK125.out 4).trans rfl; have hcz16_5 : w15.cell? ⟨gb125, 5, none⟩ = some (.slice A0_5 l0_5.length c0_5) := (blk_cell BK125.out 5).trans rfl; have hcz16_6 : w15.cell? ⟨gb125, 6, none⟩ = some (.slice A0_6 l0_6.length c0_6) := (blk_cell BK125.out 6).trans rfl; have hfz16_0 := blk_frozen BK125.out 0; have hfz16_1 := blk_frozen BK125.out 1; have hfz16_2 := blk_frozen BK125.out 2; have hfz16_3 := blk_frozen BK125.out 3; have hfz16_4 := blk_frozen BK125.out 4; have hfz16_5 := blk_frozen BK125.out 5; have hfz16_6 := blk_frozen BK125.out 6) | (go_at_call 121; (with_reducible refine (spec_NotesOk.calls k _ _ l0_6 t130 _ ?side1 ?side2 A13.out).mono ?_); (case side1 => repeat (first | exact (Kd.C_below HR0_6.out HB.out) | (with_reducible refine Kd.C_alloc ?_ _) | (with_reducible refine Kd.C_drewN ?_ _) | (with_reducible refine Kd.C_drew ?_))); (case side2 => exact HC0_6.out); rintro e w17 ⟨rfl, hb⟩; have n0_ := Aside0.mk (blk_below (g := gb125) (o := .cells #[.int .i64 a0_0, .int .i64 a0_1, .int .i64 a0_2, .int .i64 a0_3, .int .i64 a0_4, .slice A0_5 l0_5.length c0_5, .slice A0_6 l0_6.length c0_6] 82 (0, 0)) (by (with_reducible repeat (first | refine blk_drewN ?_ _ | refine blk_drew ?_ | refine blk_alloc ?_ _)); exact BK125.out) hb); have n1_ := Aside0.mk (below_step (by repeat (first | (with_reducible first | exact HB.out | apply below_alloc | apply pw_below_drewN | apply below_drew1 | refine below_set ?_ GE125.out) | exact HB.out)) hb); clear BK125; clear HB; have BK125 := n0_; have HB := n1_; clear n0_ n1_; (try clear hb); (try clear hb2); (try clear hk); (try clear hi)))
     go_meet
     case rel => exact ⟨_, (!t130), (by first | rfl | (simp; done) | (simp [*]; done)), H', ⟨by first | omega | exact Nat.le_refl _⟩, ⟨by (with_reducible repeat (first | refine blk_drewN ?_ _ | refine blk_drew ?_ | refine blk_alloc ?_ _)); exact BK125.out⟩, ⟨by repeat (first | (with_reducible first | exact HB.out | apply below_alloc | apply pw_below_drewN | apply below_drew1 | refine below_set ?_ GE125.out) | exact HB.out)⟩⟩
    ·replace c12 := Bool.eq_false_iff.mpr c12
     subst c12
     have H1 : (spec_MsgOk.j0 k t126 true a0_0 a0_1 a0_2 a0_3 a0_4 l0_5 l0_6) = some r := by rw [if_neg (show ¬ (false = true) by decide)] at H; exact H
     clear H
     have H := H1
     clear H1
     have H' := Aside0.mk H
     clear H
     have hcz18_0 : w6.cell? ⟨gb125, 0, none⟩ = some (.int .i64 a0_0) := (blk_cell BK125.out 0).trans rfl
     have hcz18_1 : w6.cell? ⟨gb125, 1, none⟩ = some (.int .i64 a0_1) := (blk_cell BK125.out 1).trans rfl
     have hcz18_2 : w6.cell? ⟨gb125, 2, none⟩ = some (.int .i64 a0_2) := (blk_cell BK125.out 2).trans rfl
     have hcz18_3 : w6.cell? ⟨gb125, 3, none⟩ = some (.int .i64 a0_3) := (blk_cell BK125.out 3).trans rfl
     have hcz18_4 : w6.cell? ⟨gb125, 4, none⟩ = some (.int .i64 a0_4) := (blk_cell BK125.out 4).trans rfl
     have hcz18_5 : w6.cell? ⟨gb125, 5, none⟩ = some (.slice A0_5 l0_5.length c0_5) := (blk_cell BK125.out 5).trans rfl
     have hcz18_6 : w6.cell? ⟨gb125, 6, none⟩ = some (.slice A0_6 l0_6.length c0_6) := (blk_cell BK125.out 6).trans rfl
     have hfz18_0 := blk_frozen BK125.out 0
     have hfz18_1 := blk_frozen BK125.out 1
     have hfz18_2 := blk_frozen BK125.out 2
     have hfz18_3 := blk_frozen BK125.out 3
     have hfz18_4 := blk_frozen BK125.out 4
     have hfz18_5 := blk_frozen BK125.out 5
     have hfz18_6 := blk_frozen BK125.out 6
     go_wp2_with (first | ((with_reducible refine gate_callee (f := 90) rfl ?_); refine goesL_ (some 12) rfl rfl Try.func90 (by kernel_rfl) rfl #[.int .i64 a0_0, .int .i64 1, .int .i64 10] rfl (by (try simp only [List.map_toArray, List.map_cons, List.map_nil]); first | done | rfl | (simp only [List.length_drop, List.length_take]; rfl)) ?_; (with_reducible refine (spec_l1In.calls a0_0 1 10 true _ A7.out).mono ?_); rintro e w' ⟨rfl, ⟨nd, rfl⟩⟩; refine ⟨_, rfl, ?_⟩) | (go_at_call 90; (with_reducible refine (spec_l1In.calls a0_1 1 1000000 true _ A9.out).mono ?_); rintro e w' ⟨rfl, ⟨nd, rfl⟩⟩) | (go_at_call 120; (with_reducible refine (spec_l3Cells.calls k _ _ l0_5 false _ ?side1 ?side2 A11.out).mono ?_); (case side1 => repeat (first | exact (Kd.C_below HR0_5.out (by repeat (first | (with_reducible first | exact HB.out | apply below_alloc | apply pw_below_drewN | apply below_drew1 | refine below_set ?_ GE125.out) | exact HB.out))) | (with_reducible refine Kd.C_alloc ?_ _) | (with_reducible refine Kd.C_drewN ?_ _) | (with_reducible refine Kd.C_drew ?_))); (case side2 => exact HC0_5.out); rintro e w19 ⟨rfl, hb⟩; have n0_ := Aside0.mk (blk_below (g := gb125) (o := .cells #[.int .i64 a0_0, .int .i64 a0_1, .int .i64 a0_2, .int .i64 a0_3, .int .i64 a0_4, .slice A0_5 l0_5.length c0_5, .slice A0_6 l0_6.length c0_6] 82 (0, 0)) (by (with_reducible repeat (first | refine blk_drewN ?_ _ | refine blk_drew ?_ | refine blk_alloc ?_ _)); exact BK125.out) hb); have n1_ := Aside0.mk (below_step (by repeat (first | (with_reducible first | exact HB.out | apply below_alloc | apply pw_below_drewN | apply below_drew1 | refine below_set ?_ GE125.out) | exact HB.out)) hb); clear BK125; clear HB; have BK125 := n0_; have HB := n1_; clear n0_ n1_; (try clear hb); (try clear hb2); (try clear hk); (try clear hi)))
     go_meet
     case rel => exact ⟨_, (true), (by first | rfl | (simp; done) | (simp [*]; done)), H', ⟨by first | omega | exact Nat.le_refl _⟩, ⟨by (with_reducible repeat (first | refine blk_drewN ?_ _ | refine blk_drew ?_ | refine blk_alloc ?_ _)); exact BK125.out⟩, ⟨by repeat (first | (with_reducible first | exact HB.out | apply below_alloc | apply pw_below_drewN | apply below_drew1 | refine below_set ?_ GE125.out) | exact HB.out)⟩⟩
   ·replace c10 := Bool.eq_false_iff.mpr c10
    subst c10
    have H1 : (spec_MsgOk.j0 k t126 true a0_0 a0_1 a0_2 a0_3 a0_4 l0_5 l0_6) = some r := by rw [if_neg (show ¬ (false = true) by decide)] at H; exact H
    clear H
    have H := H1
    clear H1
    have H' := Aside0.mk H
    clear H
    have hcz20_0 : w6.cell? ⟨gb125, 0, none⟩ = some (.int .i64 a0_0) := (blk_cell BK125.out 0).trans rfl
    have hcz20_1 : w6.cell? ⟨gb125, 1, none⟩ = some (.int .i64 a0_1) := (blk_cell BK125.out 1).trans rfl
    have hcz20_2 : w6.cell? ⟨gb125, 2, none⟩ = some (.int .i64 a0_2) := (blk_cell BK125.out 2).trans rfl
    have hcz20_3 : w6.cell? ⟨gb125, 3, none⟩ = some (.int .i64 a0_3) := (blk_cell BK125.out 3).trans rfl
    have hcz20_4 : w6.cell? ⟨gb125, 4, none⟩ = some (.int .i64 a0_4) := (blk_cell BK125.out 4).trans rfl
    have hcz20_5 : w6.cell? ⟨gb125, 5, none⟩ = some (.slice A0_5 l0_5.length c0_5) := (blk_cell BK125.out 5).trans rfl
    have hcz20_6 : w6.cell? ⟨gb125, 6, none⟩ = some (.slice A0_6 l0_6.length c0_6) := (blk_cell BK125.out 6).trans rfl
    have hfz20_0 := blk_frozen BK125.out 0
    have hfz20_1 := blk_frozen BK125.out 1
    have hfz20_2 := blk_frozen BK125.out 2
    have hfz20_3 := blk_frozen BK125.out 3
    have hfz20_4 := blk_frozen BK125.out 4
    have hfz20_5 := blk_frozen BK125.out 5
    have hfz20_6 := blk_frozen BK125.out 6
    go_wp2_with (first | ((with_reducible refine gate_callee (f := 90) rfl ?_); refine goesL_ (some 12) rfl rfl Try.func90 (by kernel_rfl) rfl #[.int .i64 a0_0, .int .i64 1, .int .i64 10] rfl (by (try simp only [List.map_toArray, List.map_cons, List.map_nil]); first | done | rfl | (simp only [List.length_drop, List.length_take]; rfl)) ?_; (with_reducible refine (spec_l1In.calls a0_0 1 10 true _ A7.out).mono ?_); rintro e w' ⟨rfl, ⟨nd, rfl⟩⟩; refine ⟨_, rfl, ?_⟩) | (go_at_call 90; (with_reducible refine (spec_l1In.calls a0_1 1 1000000 false _ A9.out).mono ?_); rintro e w' ⟨rfl, ⟨nd, rfl⟩⟩))
    go_meet
    case rel => exact ⟨_, (true), (by first | rfl | (simp; done) | (simp [*]; done)), H', ⟨by first | omega | exact Nat.le_refl _⟩, ⟨by (with_reducible repeat (first | refine blk_drewN ?_ _ | refine blk_drew ?_ | refine blk_alloc ?_ _)); exact BK125.out⟩, ⟨by repeat (first | (with_reducible first | exact HB.out | apply below_alloc | apply pw_below_drewN | apply below_drew1 | refine below_set ?_ GE125.out) | exact HB.out)⟩⟩
  ·replace c8 := Bool.eq_false_iff.mpr c8
   subst c8
   have H1 : (spec_MsgOk.j0 k t126 true a0_0 a0_1 a0_2 a0_3 a0_4 l0_5 l0_6) = some r := by rw [if_neg (show ¬ (false = true) by decide)] at H; exact H
   clear H
   have H := H1
   clear H1
   have H' := Aside0.mk H
   clear H
   have hcz21_0 : w6.cell? ⟨gb125, 0, none⟩ = some (.int .i64 a0_0) := (blk_cell BK125.out 0).trans rfl
   have hcz21_1 : w6.cell? ⟨gb125, 1, none⟩ = some (.int .i64 a0_1) := (blk_cell BK125.out 1).trans rfl
   have hcz21_2 : w6.cell? ⟨gb125, 2, none⟩ = some (.int .i64 a0_2) := (blk_cell BK125.out 2).trans rfl
   have hcz21_3 : w6.cell? ⟨gb125, 3, none⟩ = some (.int .i64 a0_3) := (blk_cell BK125.out 3).trans rfl
   have hcz21_4 : w6.cell? ⟨gb125, 4, none⟩ = some (.int .i64 a0_4) := (blk_cell BK125.out 4).trans rfl
   have hcz21_5 : w6.cell? ⟨gb125, 5, none⟩ = some (.slice A0_5 l0_5.length c0_5) := (blk_cell BK125.out 5).trans rfl
   have hcz21_6 : w6.cell? ⟨gb125, 6, none⟩ = some (.slice A0_6 l0_6.length c0_6) := (blk_cell BK125.out 6).trans rfl
   have hfz21_0 := blk_frozen BK125.out 0
   have hfz21_1 := blk_frozen BK125.out 1
   have hfz21_2 := blk_frozen BK125.out 2
   have hfz21_3 := blk_frozen BK125.out 3
   have hfz21_4 := blk_frozen BK125.out 4
   have hfz21_5 := blk_frozen BK125.out 5
   have hfz21_6 := blk_frozen BK125.out 6
   go_wp2_with (first | ((with_reducible refine gate_callee (f := 90) rfl ?_); refine goesL_ (some 12) rfl rfl Try.func90 (by kernel_rfl) rfl #[.int .i64 a0_0, .int .i64 1, .int .i64 10] rfl (by (try simp only [List.map_toArray, List.map_cons, List.map_nil]); first | done | rfl | (simp only [List.length_drop, List.length_take]; rfl)) ?_; (with_reducible refine (spec_l1In.calls a0_0 1 10 false _ A7.out).mono ?_); rintro e w' ⟨rfl, ⟨nd, rfl⟩⟩; refine ⟨_, rfl, ?_⟩))
   go_meet
   case rel => exact ⟨_, (true), (by first | rfl | (simp; done) | (simp [*]; done)), H', ⟨by first | omega | exact Nat.le_refl _⟩, ⟨by (with_reducible repeat (first | refine blk_drewN ?_ _ | refine blk_drew ?_ | refine blk_alloc ?_ _)); exact BK125.out⟩, ⟨by repeat (first | (with_reducible first | exact HB.out | apply below_alloc | apply pw_below_drewN | apply below_drew1 | refine below_set ?_ GE125.out) | exact HB.out)⟩⟩
 case rest =>
  clear HC3
  try clear c1
  try clear p2
  try clear c6
  try clear c8
  try clear c9
  try clear c10
  try clear c11
  try clear c12
  try clear hcz14_0
  try clear hcz14_1
  try clear hcz14_2
  try clear hcz14_3
  try clear hcz14_4
  try clear hcz14_5
  try clear hcz14_6
  try clear hcz16_0
  try clear hcz16_1
  try clear hcz16_2
  try clear hcz16_3
  try clear hcz16_4
  try clear hcz16_5
  try clear hcz16_6
  try clear hcz18_0
  try clear hcz18_1
  try clear hcz18_2
  try clear hcz18_3
  try clear hcz18_4
  try clear hcz18_5
  try clear hcz18_6
  try clear hcz20_0
  try clear hcz20_1
  try clear hcz20_2
  try clear hcz20_3
  try clear hcz20_4
  try clear hcz20_5
  try clear hcz20_6
  try clear hcz21_0
  try clear hcz21_1
  try clear hcz21_2
  try clear hcz21_3
  try clear hcz21_4
  try clear hcz21_5
  try clear hcz21_6
  try clear hcz5_0
  try clear hcz5_1
  try clear hcz5_2
  try clear hcz5_3
  try clear hcz5_4
  try clear hcz5_5
  try clear hcz5_6
  try clear hfz14_0
  try clear hfz14_1
  try clear hfz14_2
  try clear hfz14_3
  try clear hfz14_4
  try clear hfz14_5
  try clear hfz14_6
  try clear hfz16_0
  try clear hfz16_1
  try clear hfz16_2
  try clear hfz16_3
  try clear hfz16_4
  try clear hfz16_5
  try clear hfz16_6
  try clear hfz18_0
  try clear hfz18_1
  try clear hfz18_2
  try clear hfz18_3
  try clear hfz18_4
  try clear hfz18_5
  try clear hfz18_6
  try clear hfz20_0
  try clear hfz20_1
  try clear hfz20_2
  try clear hfz20_3
  try clear hfz20_4
  try clear hfz20_5
  try clear hfz20_6
  try clear hfz21_0
  try clear hfz21_1
  try clear hfz21_2
  try clear hfz21_3
  try clear hfz21_4
  try clear hfz21_5
  try clear hfz21_6
  try clear hfz5_0
  try clear hfz5_1
  try clear hfz5_2
  try clear hfz5_3
  try clear hfz5_4
  try clear hfz5_5
  try clear hfz5_6
  obtain ⟨kq, x31_2, rfl, HA, HJ2, BK125, HB⟩ := hcut
  cases kq with
  | zero => exact absurd (HA.out.symm.trans (by rw [spec_MsgOk.j0])) (fun h_ => by cases h_)
  | succ kj2 =>
   have H := HA.out
   clear HA
   simp only [spec_MsgOk.j0] at H
   by_cases c22 : x31_2 = true
   ·subst c22
    have H1 : (some false) = some r := by rw [if_pos rfl] at H; exact H
    clear H
    have H := H1
    clear H1
    obtain rfl := Option.some.inj H
    go_wp2
    go_ret
    exact ⟨by first | rfl | (simp [errW_none, errW_some] <;> rfl) | (simp [*, errW_none, errW_some] <;> rfl), by repeat (first | (with_reducible first | exact HB.out | apply below_alloc | apply pw_below_drewN | apply below_drew1 | refine below_set ?_ GE125.out) | exact HB.out)⟩
   ·replace c22 := Bool.eq_false_iff.mpr c22
    subst c22
    have H1 : (if (Go.bits .and .i64 t126 1) = 0 then (spec_MsgOk.j1 kj2 t126 (a0_2 == 0) a0_0 a0_1 a0_2 a0_3 a0_4 l0_5 l0_6) else ((spec_l1In.f a0_2 1 1000000).bind fun t131 => (if t131 = true then (spec_MsgOk.j1 kj2 t126 true a0_0 a0_1 a0_2 a0_3 a0_4 l0_5 l0_6) else (spec_MsgOk.j1 kj2 t126 false a0_0 a0_1 a0_2 a0_3 a0_4 l0_5 l0_6)))) = some r := by rw [if_neg (show ¬ (false = true) by decide)] at H; exact H
    clear H
    have H := H1
    clear H1
    have HC23 := Aside0.mk H
    clear H
    go_upto_region 4 with (fail)
    go_cut [4] (fun v4 wc => ∃ (kq : Nat) (x4_22 : Bool), v4 = .bool x4_22 ∧ Aside0 (spec_MsgOk.j1 kq t126 x4_22 a0_0 a0_1 a0_2 a0_3 a0_4 l0_5 l0_6 = some r) ∧ Aside0 (kq ≤ kj2) ∧ Aside0 (wc.heap[gb125]? = some (.cells #[.int .i64 a0_0, .int .i64 a0_1, .int .i64 a0_2, .int .i64 a0_3, .int .i64 a0_4, (.slice A0_5 l0_5.length c0_5), (.slice A0_6 l0_6.length c0_6)] 82 (0, 0))) ∧ Aside0 (Below w.heap.size w wc))
    case first =>
     have H := HC23.out
     clear HC23
     by_cases c24 : (Go.bits .and .i64 t126 1) = 0
     case pos =>
      rw [if_pos c24] at H
      have c24b0 : ((Go.bits .and .i64 t126 1) == 0) = true := beq_iff_eq.mpr c24
      have c24b1 : ((Go.bits .and .i64 t126 1) != 0) = false := bne_eq_false_iff_eq.mpr c24
      clear c24
      (first | rw [c24b0] | (simp only [i64_w, i32_w]; rw [c24b0]) | skip)
      have H' := Aside0.mk H
      clear H
      have hcz25_0 : wc.cell? ⟨gb125, 0, none⟩ = some (.int .i64 a0_0) := (blk_cell BK125.out 0).trans rfl
      have hcz25_1 : wc.cell? ⟨gb125, 1, none⟩ = some (.int .i64 a0_1) := (blk_cell BK125.out 1).trans rfl
      have hcz25_2 : wc.cell? ⟨gb125, 2, none⟩ = some (.int .i64 a0_2) := (blk_cell BK125.out 2).trans rfl
      have hcz25_3 : wc.cell? ⟨gb125, 3, none⟩ = some (.int .i64 a0_3) := (blk_cell BK125.out 3).trans rfl
      have hcz25_4 : wc.cell? ⟨gb125, 4, none⟩ = some (.int .i64 a0_4) := (blk_cell BK125.out 4).trans rfl
      have hcz25_5 : wc.cell? ⟨gb125, 5, none⟩ = some (.slice A0_5 l0_5.length c0_5) := (blk_cell BK125.out 5).trans rfl
      have hcz25_6 : wc.cell? ⟨gb125, 6, none⟩ = some (.slice A0_6 l0_6.length c0_6) := (blk_cell BK125.out 6).trans rfl
      have hfz25_0 := blk_frozen BK125.out 0
      have hfz25_1 := blk_frozen BK125.out 1
      have hfz25_2 := blk_frozen BK125.out 2
      have hfz25_3 := blk_frozen BK125.out 3
      have hfz25_4 := blk_frozen BK125.out 4
      have hfz25_5 := blk_frozen BK125.out 5
      have hfz25_6 := blk_frozen BK125.out 6
      go_wp2
      go_meet
      case rel => exact ⟨_, ((a0_2 == 0)), (by first | rfl | (simp; done) | (simp [*]; done)), H', ⟨by have := HJ2.out; first | omega | exact Nat.le_refl _⟩, ⟨by (with_reducible repeat (first | refine blk_drewN ?_ _ | refine blk_drew ?_ | refine blk_alloc ?_ _)); exact BK125.out⟩, ⟨by repeat (first | (with_reducible first | exact HB.out | apply below_alloc | apply pw_below_drewN | apply below_drew1 | refine below_set ?_ GE125.out) | exact HB.out)⟩⟩
     rw [if_neg c24] at H
     have c24b0 : ((Go.bits .and .i64 t126 1) == 0) = false := beq_eq_false_iff_ne.mpr c24
     have c24b1 : ((Go.bits .and .i64 t126 1) != 0) = true := bne_iff_ne.mpr c24
     (first | rw [c24b0] | (simp only [i64_w, i32_w]; rw [c24b0]) | skip)
     replace H := Option.bind_eq_some_iff.mp H
     obtain ⟨t131, A260, H⟩ := H
     replace H : (if t131 = true then (spec_MsgOk.j1 kj2 t126 true a0_0 a0_1 a0_2 a0_3 a0_4 l0_5 l0_6) else (spec_MsgOk.j1 kj2 t126 false a0_0 a0_1 a0_2 a0_3 a0_4 l0_5 l0_6)) = some r := H
     have A26 := Aside0.mk A260
     clear A260
     by_cases c27 : t131 = true
     ·subst c27
      have H1 : (spec_MsgOk.j1 kj2 t126 true a0_0 a0_1 a0_2 a0_3 a0_4 l0_5 l0_6) = some r := by rw [if_pos rfl] at H; exact H
      clear H
      have H := H1
      clear H1
      have H' := Aside0.mk H
      clear H
      have hcz28_0 : wc.cell? ⟨gb125, 0, none⟩ = some (.int .i64 a0_0) := (blk_cell BK125.out 0).trans rfl
      have hcz28_1 : wc.cell? ⟨gb125, 1, none⟩ = some (.int .i64 a0_1) := (blk_cell BK125.out 1).trans rfl
      have hcz28_2 : wc.cell? ⟨gb125, 2, none⟩ = some (.int .i64 a0_2) := (blk_cell BK125.out 2).trans rfl
      have hcz28_3 : wc.cell? ⟨gb125, 3, none⟩ = some (.int .i64 a0_3) := (blk_cell BK125.out 3).trans rfl
      have hcz28_4 : wc.cell? ⟨gb125, 4, none⟩ = some (.int .i64 a0_4) := (blk_cell BK125.out 4).trans rfl
      have hcz28_5 : wc.cell? ⟨gb125, 5, none⟩ = some (.slice A0_5 l0_5.length c0_5) := (blk_cell BK125.out 5).trans rfl
      have hcz28_6 : wc.cell? ⟨gb125, 6, none⟩ = some (.slice A0_6 l0_6.length c0_6) := (blk_cell BK125.out 6).trans rfl
      have hfz28_0 := blk_frozen BK125.out 0
      have hfz28_1 := blk_frozen BK125.out 1
      have hfz28_2 := blk_frozen BK125.out 2
      have hfz28_3 := blk_frozen BK125.out 3
      have hfz28_4 := blk_frozen BK125.out 4
      have hfz28_5 := blk_frozen BK125.out 5
      have hfz28_6 := blk_frozen BK125.out 6
      go_wp2_with (first | (go_at_call 90; (with_reducible refine (spec_l1In.calls a0_2 1 1000000 true _ A26.out).mono ?_); rintro e w' ⟨rfl, ⟨nd, rfl⟩⟩))
      go_meet
      case rel => exact ⟨_, (true), (by first | rfl | (simp; done) | (simp [*]; done)), H', ⟨by have := HJ2.out; first | omega | exact Nat.le_refl _⟩, ⟨by (with_reducible repeat (first | refine blk_drewN ?_ _ | refine blk_drew ?_ | refine blk_alloc ?_ _)); exact BK125.out⟩, ⟨by repeat (first | (with_reducible first | exact HB.out | apply below_alloc | apply pw_below_drewN | apply below_drew1 | refine below_set ?_ GE125.out) | exact HB.out)⟩⟩
     ·replace c27 := Bool.eq_false_iff.mpr c27
      subst c27
      have H1 : (spec_MsgOk.j1 kj2 t126 false a0_0 a0_1 a0_2 a0_3 a0_4 l0_5 l0_6) = some r := by rw [if_neg (show ¬ (false = true) by decide)] at H; exact H
      clear H
      have H := H1
      clear H1
      have H' := Aside0.mk H
      clear H
      have hcz29_0 : wc.cell? ⟨gb125, 0, none⟩ = some (.int .i64 a0_0) := (blk_cell BK125.out 0).trans rfl
      have hcz29_1 : wc.cell? ⟨gb125, 1, none⟩ = some (.int .i64 a0_1) := (blk_cell BK125.out 1).trans rfl
      have hcz29_2 : wc.cell? ⟨gb125, 2, none⟩ = some (.int .i64 a0_2) := (blk_cell BK125.out 2).trans rfl
      have hcz29_3 : wc.cell? ⟨gb125, 3, none⟩ = some (.int .i64 a0_3) := (blk_cell BK125.out 3).trans rfl
      have hcz29_4 : wc.cell? ⟨gb125, 4, none⟩ = some (.int .i64 a0_4) := (blk_cell BK125.out 4).trans rfl
      have hcz29_5 : wc.cell? ⟨gb125, 5, none⟩ = some (.slice A0_5 l0_5.length c0_5) := (blk_cell BK125.out 5).trans rfl
      have hcz29_6 : wc.cell? ⟨gb125, 6, none⟩ = some (.slice A0_6 l0_6.length c0_6) := (blk_cell BK125.out 6).trans rfl
      have hfz29_0 := blk_frozen BK125.out 0
      have hfz29_1 := blk_frozen BK125.out 1
      have hfz29_2 := blk_frozen BK125.out 2
      have hfz29_3 := blk_frozen BK125.out 3
      have hfz29_4 := blk_frozen BK125.out 4
      have hfz29_5 := blk_frozen BK125.out 5
      have hfz29_6 := blk_frozen BK125.out 6
      go_wp2_with (first | (go_at_call 90; (with_reducible refine (spec_l1In.calls a0_2 1 1000000 false _ A26.out).mono ?_); rintro e w' ⟨rfl, ⟨nd, rfl⟩⟩))
      go_meet
      case rel => exact ⟨_, (false), (by first | rfl | (simp; done) | (simp [*]; done)), H', ⟨by have := HJ2.out; first | omega | exact Nat.le_refl _⟩, ⟨by (with_reducible repeat (first | refine blk_drewN ?_ _ | refine blk_drew ?_ | refine blk_alloc ?_ _)); exact BK125.out⟩, ⟨by repeat (first | (with_reducible first | exact HB.out | apply below_alloc | apply pw_below_drewN | apply below_drew1 | refine below_set ?_ GE125.out) | exact HB.out)⟩⟩
    case rest =>
     clear HC23
     try clear c1
     try clear c2
     try clear p2
     try clear c6
     try clear c8
     try clear c9
     try clear c10
     try clear c11
     try clear c12
     try clear c22
     try clear c24
     try clear c24b0
     try clear c24b1
     try clear c27
     try clear hcz14_0
     try clear hcz14_1
     try clear hcz14_2
     try clear hcz14_3
     try clear hcz14_4
     try clear hcz14_5
     try clear hcz14_6
     try clear hcz16_0
     try clear hcz16_1
     try clear hcz16_2
     try clear hcz16_3
     try clear hcz16_4
     try clear hcz16_5
     try clear hcz16_6
     try clear hcz18_0
     try clear hcz18_1
     try clear hcz18_2
     try clear hcz18_3
     try clear hcz18_4
     try clear hcz18_5
     try clear hcz18_6
     try clear hcz20_0
     try clear hcz20_1
     try clear hcz20_2
     try clear hcz20_3
     try clear hcz20_4
     try clear hcz20_5
     try clear hcz20_6
     try clear hcz21_0
     try clear hcz21_1
     try clear hcz21_2
     try clear hcz21_3
     try clear hcz21_4
     try clear hcz21_5
     try clear hcz21_6
     try clear hcz25_0
     try clear hcz25_1
     try clear hcz25_2
     try clear hcz25_3
     try clear hcz25_4
     try clear hcz25_5
     try clear hcz25_6
     try clear hcz28_0
     try clear hcz28_1
     try clear hcz28_2
     try clear hcz28_3
     try clear hcz28_4
     try clear hcz28_5
     try clear hcz28_6
     try clear hcz29_0
     try clear hcz29_1
     try clear hcz29_2
     try clear hcz29_3
     try clear hcz29_4
     try clear hcz29_5
     try clear hcz29_6
     try clear hcz5_0
     try clear hcz5_1
     try clear hcz5_2
     try clear hcz5_3
     try clear hcz5_4
     try clear hcz5_5
     try clear hcz5_6
     try clear hfz14_0
     try clear hfz14_1
     try clear hfz14_2
     try clear hfz14_3
     try clear hfz14_4
     try clear hfz14_5
     try clear hfz14_6
     try clear hfz16_0
     try clear hfz16_1
     try clear hfz16_2
     try clear hfz16_3
     try clear hfz16_4
     try clear hfz16_5
     try clear hfz16_6
     try clear hfz18_0
     try clear hfz18_1
     try clear hfz18_2
     try clear hfz18_3
     try clear hfz18_4
     try clear hfz18_5
     try clear hfz18_6
     try clear hfz20_0
     try clear hfz20_1
     try clear hfz20_2
     try clear hfz20_3
     try clear hfz20_4
     try clear hfz20_5
     try clear hfz20_6
     try clear hfz21_0
     try clear hfz21_1
     try clear hfz21_2
     try clear hfz21_3
     try clear hfz21_4
     try clear hfz21_5
     try clear hfz21_6
     try clear hfz25_0
     try clear hfz25_1
     try clear hfz25_2
     try clear hfz25_3
     try clear hfz25_4
     try clear hfz25_5
     try clear hfz25_6
     try clear hfz28_0
     try clear hfz28_1
     try clear hfz28_2
     try clear hfz28_3
     try clear hfz28_4
     try clear hfz28_5
     try clear hfz28_6
     try clear hfz29_0
     try clear hfz29_1
     try clear hfz29_2
     try clear hfz29_3
     try clear hfz29_4
     try clear hfz29_5
     try clear hfz29_6
     try clear hfz5_0
     try clear hfz5_1
     try clear hfz5_2
     try clear hfz5_3
     try clear hfz5_4
     try clear hfz5_5
     try clear hfz5_6
     try clear p2
     obtain ⟨kq, x4_22, rfl, HA, HJ22, BK125, HB⟩ := hcut
     cases kq with
     | zero => exact absurd (HA.out.symm.trans (by rw [spec_MsgOk.j1])) (fun h_ => by cases h_)
     | succ kj22 =>
      have H := HA.out
      clear HA
      simp only [spec_MsgOk.j1] at H
      have HC30 := Aside0.mk H
      clear H
      go_upto_region 5 with (fail)
      go_cut [5] (fun v5 wc => ∃ (kq : Nat) (x5_29 : Bool), v5 = .bool x5_29 ∧ Aside0 (spec_MsgOk.j2 kq t126 x4_22 x5_29 a0_0 a0_1 a0_2 a0_3 a0_4 l0_5 l0_6 = some r) ∧ Aside0 (kq ≤ kj22) ∧ Aside0 (wc.heap[gb125]? = some (.cells #[.int .i64 a0_0, .int .i64 a0_1, .int .i64 a0_2, .int .i64 a0_3, .int .i64 a0_4, (.slice A0_5 l0_5.length c0_5), (.slice A0_6 l0_6.length c0_6)] 82 (0, 0))) ∧ Aside0 (Below w.heap.size w wc))
      case first =>
       have H := HC30.out
       clear HC30
       by_cases c31 : (Go.bits .and .i64 t126 2) = 0
       case pos =>
        rw [if_pos c31] at H
        have c31b0 : ((Go.bits .and .i64 t126 2) == 0) = true := beq_iff_eq.mpr c31
        have c31b1 : ((Go.bits .and .i64 t126 2) != 0) = false := bne_eq_false_iff_eq.mpr c31
        clear c31
        (first | rw [c31b0] | (simp only [i64_w, i32_w]; rw [c31b0]) | skip)
        have H' := Aside0.mk H
        clear H
        have hcz32_0 : wc.cell? ⟨gb125, 0, none⟩ = some (.int .i64 a0_0) := (blk_cell BK125.out 0).trans rfl
        have hcz32_1 : wc.cell? ⟨gb125, 1, none⟩ = some (.int .i64 a0_1) := (blk_cell BK125.out 1).trans rfl
        have hcz32_2 : wc.cell? ⟨gb125, 2, none⟩ = some (.int .i64 a0_2) := (blk_cell BK125.out 2).trans rfl
        have hcz32_3 : wc.cell? ⟨gb125, 3, none⟩ = some (.int .i64 a0_3) := (blk_cell BK125.out 3).trans rfl
        have hcz32_4 : wc.cell? ⟨gb125, 4, none⟩ = some (.int .i64 a0_4) := (blk_cell BK125.out 4).trans rfl
        have hcz32_5 : wc.cell? ⟨gb125, 5, none⟩ = some (.slice A0_5 l0_5.length c0_5) := (blk_cell BK125.out 5).trans rfl
        have hcz32_6 : wc.cell? ⟨gb125, 6, none⟩ = some (.slice A0_6 l0_6.length c0_6) := (blk_cell BK125.out 6).trans rfl
        have hfz32_0 := blk_frozen BK125.out 0
        have hfz32_1 := blk_frozen BK125.out 1
        have hfz32_2 := blk_frozen BK125.out 2
        have hfz32_3 := blk_frozen BK125.out 3
        have hfz32_4 := blk_frozen BK125.out 4
        have hfz32_5 := blk_frozen BK125.out 5
        have hfz32_6 := blk_frozen BK125.out 6
        go_wp2
        go_meet
        case rel => exact ⟨_, ((a0_3 == 0)), (by first | rfl | (simp; done) | (simp [*]; done)), H', ⟨by have := HJ2.out; have := HJ22.out; first | omega | exact Nat.le_refl _⟩, ⟨by (with_reducible repeat (first | refine blk_drewN ?_ _ | refine blk_drew ?_ | refine blk_alloc ?_ _)); exact BK125.out⟩, ⟨by repeat (first | (with_reducible first | exact HB.out | apply below_alloc | apply pw_below_drewN | apply below_drew1 | refine below_set ?_ GE125.out) | exact HB.out)⟩⟩
       rw [if_neg c31] at H
       have c31b0 : ((Go.bits .and .i64 t126 2) == 0) = false := beq_eq_false_iff_ne.mpr c31
       have c31b1 : ((Go.bits .and .i64 t126 2) != 0) = true := bne_iff_ne.mpr c31
       (first | rw [c31b0] | (simp only [i64_w, i32_w]; rw [c31b0]) | skip)
       replace H := Option.bind_eq_some_iff.mp H
       obtain ⟨t132, A330, H⟩ := H
       replace H : (if t132 = true then (spec_MsgOk.j2 kj22 t126 x4_22 true a0_0 a0_1 a0_2 a0_3 a0_4 l0_5 l0_6) else (spec_MsgOk.j2 kj22 t126 x4_22 (a0_3 == 0) a0_0 a0_1 a0_2 a0_3 a0_4 l0_5 l0_6)) = some r := H
       have A33 := Aside0.mk A330
       clear A330
       by_cases c34 : t132 = true
       ·subst c34
        have H1 : (spec_MsgOk.j2 kj22 t126 x4_22 true a0_0 a0_1 a0_2 a0_3 a0_4 l0_5 l0_6) = some r := by rw [if_pos rfl] at H; exact H
        clear H
        have H := H1
        clear H1
        have H' := Aside0.mk H
        clear H
        have hcz35_0 : wc.cell? ⟨gb125, 0, none⟩ = some (.int .i64 a0_0) := (blk_cell BK125.out 0).trans rfl
        have hcz35_1 : wc.cell? ⟨gb125, 1, none⟩ = some (.int .i64 a0_1) := (blk_cell BK125.out 1).trans rfl
        have hcz35_2 : wc.cell? ⟨gb125, 2, none⟩ = some (.int .i64 a0_2) := (blk_cell BK125.out 2).trans rfl
        have hcz35_3 : wc.cell? ⟨gb125, 3, none⟩ = some (.int .i64 a0_3) := (blk_cell BK125.out 3).trans rfl
        have hcz35_4 : wc.cell? ⟨gb125, 4, none⟩ = some (.int .i64 a0_4) := (blk_cell BK125.out 4).trans rfl
        have hcz35_5 : wc.cell? ⟨gb125, 5, none⟩ = some (.slice A0_5 l0_5.length c0_5) := (blk_cell BK125.out 5).trans rfl
        have hcz35_6 : wc.cell? ⟨gb125, 6, none⟩ = some (.slice A0_6 l0_6.length c0_6) := (blk_cell BK125.out 6).trans rfl
        have hfz35_0 := blk_frozen BK125.out 0
        have hfz35_1 := blk_frozen BK125.out 1
        have hfz35_2 := blk_frozen BK125.out 2
        have hfz35_3 := blk_frozen BK125.out 3
        have hfz35_4 := blk_frozen BK125.out 4
        have hfz35_5 := blk_frozen BK125.out 5
        have hfz35_6 := blk_frozen BK125.out 6
        go_wp2_with (first | (go_at_call 90; (with_reducible refine (spec_l1In.calls a0_3 0 255 true _ A33.out).mono ?_); rintro e w' ⟨rfl, ⟨nd, rfl⟩⟩))
        go_meet
        case rel => exact ⟨_, (true), (by first | rfl | (simp; done) | (simp [*]; done)), H', ⟨by have := HJ2.out; have := HJ22.out; first | omega | exact Nat.le_refl _⟩, ⟨by (with_reducible repeat (first | refine blk_drewN ?_ _ | refine blk_drew ?_ | refine blk_alloc ?_ _)); exact BK125.out⟩, ⟨by repeat (first | (with_reducible first | exact HB.out | apply below_alloc | apply pw_below_drewN | apply below_drew1 | refine below_set ?_ GE125.out) | exact HB.out)⟩⟩
       ·replace c34 := Bool.eq_false_iff.mpr c34
        subst c34
        have H1 : (spec_MsgOk.j2 kj22 t126 x4_22 (a0_3 == 0) a0_0 a0_1 a0_2 a0_3 a0_4 l0_5 l0_6) = some r := by rw [if_neg (show ¬ (false = true) by decide)] at H; exact H
        clear H
        have H := H1
        clear H1
        have H' := Aside0.mk H
        clear H
        have hcz36_0 : wc.cell? ⟨gb125, 0, none⟩ = some (.int .i64 a0_0) := (blk_cell BK125.out 0).trans rfl
        have hcz36_1 : wc.cell? ⟨gb125, 1, none⟩ = some (.int .i64 a0_1) := (blk_cell BK125.out 1).trans rfl
        have hcz36_2 : wc.cell? ⟨gb125, 2, none⟩ = some (.int .i64 a0_2) := (blk_cell BK125.out 2).trans rfl
        have hcz36_3 : wc.cell? ⟨gb125, 3, none⟩ = some (.int .i64 a0_3) := (blk_cell BK125.out 3).trans rfl
        have hcz36_4 : wc.cell? ⟨gb125, 4, none⟩ = some (.int .i64 a0_4) := (blk_cell BK125.out 4).trans rfl
        have hcz36_5 : wc.cell? ⟨gb125, 5, none⟩ = some (.slice A0_5 l0_5.length c0_5) := (blk_cell BK125.out 5).trans rfl
        have hcz36_6 : wc.cell? ⟨gb125, 6, none⟩ = some (.slice A0_6 l0_6.length c0_6) := (blk_cell BK125.out 6).trans rfl
        have hfz36_0 := blk_frozen BK125.out 0
        have hfz36_1 := blk_frozen BK125.out 1
        have hfz36_2 := blk_frozen BK125.out 2
        have hfz36_3 := blk_frozen BK125.out 3
        have hfz36_4 := blk_frozen BK125.out 4
        have hfz36_5 := blk_frozen BK125.out 5
        have hfz36_6 := blk_frozen BK125.out 6
        go_wp2_with (first | (go_at_call 90; (with_reducible refine (spec_l1In.calls a0_3 0 255 false _ A33.out).mono ?_); rintro e w' ⟨rfl, ⟨nd, rfl⟩⟩))
        go_meet
        case rel => exact ⟨_, ((a0_3 == 0)), (by first | rfl | (simp; done) | (simp [*]; done)), H', ⟨by have := HJ2.out; have := HJ22.out; first | omega | exact Nat.le_refl _⟩, ⟨by (with_reducible repeat (first | refine blk_drewN ?_ _ | refine blk_drew ?_ | refine blk_alloc ?_ _)); exact BK125.out⟩, ⟨by repeat (first | (with_reducible first | exact HB.out | apply below_alloc | apply pw_below_drewN | apply below_drew1 | refine below_set ?_ GE125.out) | exact HB.out)⟩⟩
      case rest =>
       clear HC30
       try clear c1
       try clear c2
       try clear p2
       try clear c3
       try clear c6
       try clear c8
       try clear c9
       try clear c10
       try clear c11
       try clear c12
       try clear c22
       try clear c24
       try clear c24b0
       try clear c24b1
       try clear c27
       try clear c31
       try clear c31b0
       try clear c31b1
       try clear c34
       try clear hcz14_0
       try clear hcz14_1
       try clear hcz14_2
       try clear hcz14_3
       try clear hcz14_4
       try clear hcz14_5
       try clear hcz14_6
       try clear hcz16_0
       try clear hcz16_1
       try clear hcz16_2
       try clear hcz16_3
       try clear hcz16_4
       try clear hcz16_5
       try clear hcz16_6
       try clear hcz18_0
       try clear hcz18_1
       try clear hcz18_2
       try clear hcz18_3
       try clear hcz18_4
       try clear hcz18_5
       try clear hcz18_6
       try clear hcz20_0
       try clear hcz20_1
       try clear hcz20_2
       try clear hcz20_3
       try clear hcz20_4
       try clear hcz20_5
       try clear hcz20_6
       try clear hcz21_0
       try clear hcz21_1
       try clear hcz21_2
       try clear hcz21_3
       try clear hcz21_4
       try clear hcz21_5
       try clear hcz21_6
       try clear hcz25_0
       try clear hcz25_1
       try clear hcz25_2
       try clear hcz25_3
       try clear hcz25_4
       try clear hcz25_5
       try clear hcz25_6
       try clear hcz28_0
       try clear hcz28_1
       try clear hcz28_2
       try clear hcz28_3
       try clear hcz28_4
       try clear hcz28_5
       try clear hcz28_6
       try clear hcz29_0
       try clear hcz29_1
       try clear hcz29_2
       try clear hcz29_3
       try clear hcz29_4
       try clear hcz29_5
       try clear hcz29_6
       try clear hcz32_0
       try clear hcz32_1
       try clear hcz32_2
       try clear hcz32_3
       try clear hcz32_4
       try clear hcz32_5
       try clear hcz32_6
       try clear hcz35_0
       try clear hcz35_1
       try clear hcz35_2
       try clear hcz35_3
       try clear hcz35_4
       try clear hcz35_5
       try clear hcz35_6
       try clear hcz36_0
       try clear hcz36_1
       try clear hcz36_2
       try clear hcz36_3
       try clear hcz36_4
       try clear hcz36_5
       try clear hcz36_6
       try clear hcz5_0
       try clear hcz5_1
       try clear hcz5_2
       try clear hcz5_3
       try clear hcz5_4
       try clear hcz5_5
       try clear hcz5_6
       try clear hfz14_0
       try clear hfz14_1
       try clear hfz14_2
       try clear hfz14_3
       try clear hfz14_4
       try clear hfz14_5
       try clear hfz14_6
       try clear hfz16_0
       try clear hfz16_1
       try clear hfz16_2
       try clear hfz16_3
       try clear hfz16_4
       try clear hfz16_5
       try clear hfz16_6
       try clear hfz18_0
       try clear hfz18_1
       try clear hfz18_2
       try clear hfz18_3
       try clear hfz18_4
       try clear hfz18_5
       try clear hfz18_6
       try clear hfz20_0
       try clear hfz20_1
       try clear hfz20_2
       try clear hfz20_3
       try clear hfz20_4
       try clear hfz20_5
       try clear hfz20_6
       try clear hfz21_0
       try clear hfz21_1
       try clear hfz21_2
       try clear hfz21_3
       try clear hfz21_4
       try clear hfz21_5
       try clear hfz21_6
       try clear hfz25_0
       try clear hfz25_1
       try clear hfz25_2
       try clear hfz25_3
       try clear hfz25_4
       try clear hfz25_5
       try clear hfz25_6
       try clear hfz28_0
       try clear hfz28_1
       try clear hfz28_2
       try clear hfz28_3
       try clear hfz28_4
       try clear hfz28_5
       try clear hfz28_6
       try clear hfz29_0
       try clear hfz29_1
       try clear hfz29_2
       try clear hfz29_3
       try clear hfz29_4
       try clear hfz29_5
       try clear hfz29_6
       try clear hfz32_0
       try clear hfz32_1
       try clear hfz32_2
       try clear hfz32_3
       try clear hfz32_4
       try clear hfz32_5
       try clear hfz32_6
       try clear hfz35_0
       try clear hfz35_1
       try clear hfz35_2
       try clear hfz35_3
       try clear hfz35_4
       try clear hfz35_5
       try clear hfz35_6
       try clear hfz36_0
       try clear hfz36_1
       try clear hfz36_2
       try clear hfz36_3
       try clear hfz36_4
       try clear hfz36_5
       try clear hfz36_6
       try clear hfz5_0
       try clear hfz5_1
       try clear hfz5_2
       try clear hfz5_3
       try clear hfz5_4
       try clear hfz5_5
       try clear hfz5_6
       try clear p2
       obtain ⟨kq, x5_29, rfl, HA, HJ29, BK125, HB⟩ := hcut
       cases kq with
       | zero => exact absurd (HA.out.symm.trans (by rw [spec_MsgOk.j2])) (fun h_ => by cases h_)
       | succ kj29 =>
        have H := HA.out
        clear HA
        simp only [spec_MsgOk.j2] at H
        by_cases c37 : (Go.bits .and .i64 t126 4) = 0
        case pos =>
         rw [if_pos c37] at H
         have c37b0 : ((Go.bits .and .i64 t126 4) == 0) = true := beq_iff_eq.mpr c37
         have c37b1 : ((Go.bits .and .i64 t126 4) != 0) = false := bne_eq_false_iff_eq.mpr c37
         clear c37
         by_cases c38 : x4_22 = true
         ·subst c38
          have H1 : (if x5_29 = true then (if a0_4 = 0 then (if (Go.bits .and .i64 t126 8) = 0 then (if (l0_5.length : Int) = 0 then (if (Go.bits .and .i64 t126 16) = 0 then (some ((l0_6.length : Int) == 0)) else (some true)) else (some false)) else (if (Go.bits .and .i64 t126 16) = 0 then (some ((l0_6.length : Int) == 0)) else (some true))) else (some false)) else (some false)) = some r := by rw [if_pos rfl] at H; exact H
          clear H
          have H := H1
          clear H1
          by_cases c39 : x5_29 = true
          ·subst c39
           have H1 : (if a0_4 = 0 then (if (Go.bits .and .i64 t126 8) = 0 then (if (l0_5.length : Int) = 0 then (if (Go.bits .and .i64 t126 16) = 0 then (some ((l0_6.length : Int) == 0)) else (some true)) else (some false)) else (if (Go.bits .and .i64 t126 16) = 0 then (some ((l0_6.length : Int) == 0)) else (some true))) else (some false)) = some r := by rw [if_pos rfl] at H; exact H
           clear H
           have H := H1
           clear H1
           by_cases c40 : a0_4 = 0
           case neg =>
            rw [if_neg c40] at H
            have c40b0 : (a0_4 == 0) = false := beq_eq_false_iff_ne.mpr c40
            have c40b1 : (a0_4 != 0) = true := bne_iff_ne.mpr c40
            obtain rfl := Option.some.inj H
            have hcz50_0 : wc.cell? ⟨gb125, 0, none⟩ = some (.int .i64 a0_0) := (blk_cell BK125.out 0).trans rfl
            have hcz50_1 : wc.cell? ⟨gb125, 1, none⟩ = some (.int .i64 a0_1) := (blk_cell BK125.out 1).trans rfl
            have hcz50_2 : wc.cell? ⟨gb125, 2, none⟩ = some (.int .i64 a0_2) := (blk_cell BK125.out 2).trans rfl
            have hcz50_3 : wc.cell? ⟨gb125, 3, none⟩ = some (.int .i64 a0_3) := (blk_cell BK125.out 3).trans rfl
            have hcz50_4 : wc.cell? ⟨gb125, 4, none⟩ = some (.int .i64 a0_4) := (blk_cell BK125.out 4).trans rfl
            have hcz50_5 : wc.cell? ⟨gb125, 5, none⟩ = some (.slice A0_5 l0_5.length c0_5) := (blk_cell BK125.out 5).trans rfl
            have hcz50_6 : wc.cell? ⟨gb125, 6, none⟩ = some (.slice A0_6 l0_6.length c0_6) := (blk_cell BK125.out 6).trans rfl
            have hfz50_0 := blk_frozen BK125.out 0
            have hfz50_1 := blk_frozen BK125.out 1
            have hfz50_2 := blk_frozen BK125.out 2
            have hfz50_3 := blk_frozen BK125.out 3
            have hfz50_4 := blk_frozen BK125.out 4
            have hfz50_5 := blk_frozen BK125.out 5
            have hfz50_6 := blk_frozen BK125.out 6
            go_wp2
            go_ret
            exact ⟨by first | rfl | (simp [errW_none, errW_some] <;> rfl) | (simp [*, errW_none, errW_some] <;> rfl), by repeat (first | (with_reducible first | exact HB.out | apply below_alloc | apply pw_below_drewN | apply below_drew1 | refine below_set ?_ GE125.out) | exact HB.out)⟩
           rw [if_pos c40] at H
           have c40b0 : (a0_4 == 0) = true := beq_iff_eq.mpr c40
           have c40b1 : (a0_4 != 0) = false := bne_eq_false_iff_eq.mpr c40
           clear c40
           by_cases c41 : (Go.bits .and .i64 t126 8) = 0
           case neg =>
            rw [if_neg c41] at H
            have c41b0 : ((Go.bits .and .i64 t126 8) == 0) = false := beq_eq_false_iff_ne.mpr c41
            have c41b1 : ((Go.bits .and .i64 t126 8) != 0) = true := bne_iff_ne.mpr c41
            by_cases c47 : (Go.bits .and .i64 t126 16) = 0
            case neg =>
             rw [if_neg c47] at H
             have c47b0 : ((Go.bits .and .i64 t126 16) == 0) = false := beq_eq_false_iff_ne.mpr c47
             have c47b1 : ((Go.bits .and .i64 t126 16) != 0) = true := bne_iff_ne.mpr c47
             obtain rfl := Option.some.inj H
             have hcz49_0 : wc.cell? ⟨gb125, 0, none⟩ = some (.int .i64 a0_0) := (blk_cell BK125.out 0).trans rfl
             have hcz49_1 : wc.cell? ⟨gb125, 1, none⟩ = some (.int .i64 a0_1) := (blk_cell BK125.out 1).trans rfl
             have hcz49_2 : wc.cell? ⟨gb125, 2, none⟩ = some (.int .i64 a0_2) := (blk_cell BK125.out 2).trans rfl
             have hcz49_3 : wc.cell? ⟨gb125, 3, none⟩ = some (.int .i64 a0_3) := (blk_cell BK125.out 3).trans rfl
             have hcz49_4 : wc.cell? ⟨gb125, 4, none⟩ = some (.int .i64 a0_4) := (blk_cell BK125.out 4).trans rfl
             have hcz49_5 : wc.cell? ⟨gb125, 5, none⟩ = some (.slice A0_5 l0_5.length c0_5) := (blk_cell BK125.out 5).trans rfl
             have hcz49_6 : wc.cell? ⟨gb125, 6, none⟩ = some (.slice A0_6 l0_6.length c0_6) := (blk_cell BK125.out 6).trans rfl
             have hfz49_0 := blk_frozen BK125.out 0
             have hfz49_1 := blk_frozen BK125.out 1
             have hfz49_2 := blk_frozen BK125.out 2
             have hfz49_3 := blk_frozen BK125.out 3
             have hfz49_4 := blk_frozen BK125.out 4
             have hfz49_5 := blk_frozen BK125.out 5
             have hfz49_6 := blk_frozen BK125.out 6
             go_wp2
             go_ret
             exact ⟨by first | rfl | (simp [errW_none, errW_some] <;> rfl) | (simp [*, errW_none, errW_some] <;> rfl), by repeat (first | (with_reducible first | exact HB.out | apply below_alloc | apply pw_below_drewN | apply below_drew1 | refine below_set ?_ GE125.out) | exact HB.out)⟩
            rw [if_pos c47] at H
            have c47b0 : ((Go.bits .and .i64 t126 16) == 0) = true := beq_iff_eq.mpr c47
            have c47b1 : ((Go.bits .and .i64 t126 16) != 0) = false := bne_eq_false_iff_eq.mpr c47
            clear c47
            obtain rfl := Option.some.inj H
            have hcz48_0 : wc.cell? ⟨gb125, 0, none⟩ = some (.int .i64 a0_0) := (blk_cell BK125.out 0).trans rfl
            have hcz48_1 : wc.cell? ⟨gb125, 1, none⟩ = some (.int .i64 a0_1) := (blk_cell BK125.out 1).trans rfl
            have hcz48_2 : wc.cell? ⟨gb125, 2, none⟩ = some (.int .i64 a0_2) := (blk_cell BK125.out 2).trans rfl
            have hcz48_3 : wc.cell? ⟨gb125, 3, none⟩ = some (.int .i64 a0_3) := (blk_cell BK125.out 3).trans rfl
            have hcz48_4 : wc.cell? ⟨gb125, 4, none⟩ = some (.int .i64 a0_4) := (blk_cell BK125.out 4).trans rfl
            have hcz48_5 : wc.cell? ⟨gb125, 5, none⟩ = some (.slice A0_5 l0_5.length c0_5) := (blk_cell BK125.out 5).trans rfl
            have hcz48_6 : wc.cell? ⟨gb125, 6, none⟩ = some (.slice A0_6 l0_6.length c0_6) := (blk_cell BK125.out 6).trans rfl
            have hfz48_0 := blk_frozen BK125.out 0
            have hfz48_1 := blk_frozen BK125.out 1
            have hfz48_2 := blk_frozen BK125.out 2
            have hfz48_3 := blk_frozen BK125.out 3
            have hfz48_4 := blk_frozen BK125.out 4
            have hfz48_5 := blk_frozen BK125.out 5
            have hfz48_6 := blk_frozen BK125.out 6
            go_wp2
            go_ret
            exact ⟨by first | rfl | (simp [errW_none, errW_some] <;> rfl) | (simp [*, errW_none, errW_some] <;> rfl), by repeat (first | (with_reducible first | exact HB.out | apply below_alloc | apply pw_below_drewN | apply below_drew1 | refine below_set ?_ GE125.out) | exact HB.out)⟩
           rw [if_pos c41] at H
           have c41b0 : ((Go.bits .and .i64 t126 8) == 0) = true := beq_iff_eq.mpr c41
           have c41b1 : ((Go.bits .and .i64 t126 8) != 0) = false := bne_eq_false_iff_eq.mpr c41
           clear c41
           by_cases c42 : (l0_5.length : Int) = 0
           case neg =>
            rw [if_neg c42] at H
            have c42b0 : ((l0_5.length : Int) == 0) = false := beq_eq_false_iff_ne.mpr c42
            have c42b1 : ((l0_5.length : Int) != 0) = true := bne_iff_ne.mpr c42
            have c42b2 : ¬ (l0_5 = []) := fun h_ => c42 (by rw [h_]; rfl)
            obtain rfl := Option.some.inj H
            have hcz46_0 : wc.cell? ⟨gb125, 0, none⟩ = some (.int .i64 a0_0) := (blk_cell BK125.out 0).trans rfl
            have hcz46_1 : wc.cell? ⟨gb125, 1, none⟩ = some (.int .i64 a0_1) := (blk_cell BK125.out 1).trans rfl
            have hcz46_2 : wc.cell? ⟨gb125, 2, none⟩ = some (.int .i64 a0_2) := (blk_cell BK125.out 2).trans rfl
            have hcz46_3 : wc.cell? ⟨gb125, 3, none⟩ = some (.int .i64 a0_3) := (blk_cell BK125.out 3).trans rfl
            have hcz46_4 : wc.cell? ⟨gb125, 4, none⟩ = some (.int .i64 a0_4) := (blk_cell BK125.out 4).trans rfl
            have hcz46_5 : wc.cell? ⟨gb125, 5, none⟩ = some (.slice A0_5 l0_5.length c0_5) := (blk_cell BK125.out 5).trans rfl
            have hcz46_6 : wc.cell? ⟨gb125, 6, none⟩ = some (.slice A0_6 l0_6.length c0_6) := (blk_cell BK125.out 6).trans rfl
            have hfz46_0 := blk_frozen BK125.out 0
            have hfz46_1 := blk_frozen BK125.out 1
            have hfz46_2 := blk_frozen BK125.out 2
            have hfz46_3 := blk_frozen BK125.out 3
            have hfz46_4 := blk_frozen BK125.out 4
            have hfz46_5 := blk_frozen BK125.out 5
            have hfz46_6 := blk_frozen BK125.out 6
            go_wp2
            go_ret
            exact ⟨by first | rfl | (simp [errW_none, errW_some] <;> rfl) | (simp [*, errW_none, errW_some] <;> rfl), by repeat (first | (with_reducible first | exact HB.out | apply below_alloc | apply pw_below_drewN | apply below_drew1 | refine below_set ?_ GE125.out) | exact HB.out)⟩
           rw [if_pos c42] at H
           have c42b0 : ((l0_5.length : Int) == 0) = true := beq_iff_eq.mpr c42
           have c42b1 : ((l0_5.length : Int) != 0) = false := bne_eq_false_iff_eq.mpr c42
           clear c42
           by_cases c43 : (Go.bits .and .i64 t126 16) = 0
           case neg =>
            rw [if_neg c43] at H
            have c43b0 : ((Go.bits .and .i64 t126 16) == 0) = false := beq_eq_false_iff_ne.mpr c43
            have c43b1 : ((Go.bits .and .i64 t126 16) != 0) = true := bne_iff_ne.mpr c43
            obtain rfl := Option.some.inj H
            have hcz45_0 : wc.cell? ⟨gb125, 0, none⟩ = some (.int .i64 a0_0) := (blk_cell BK125.out 0).trans rfl
            have hcz45_1 : wc.cell? ⟨gb125, 1, none⟩ = some (.int .i64 a0_1) := (blk_cell BK125.out 1).trans rfl
            have hcz45_2 : wc.cell? ⟨gb125, 2, none⟩ = some (.int .i64 a0_2) := (blk_cell BK125.out 2).trans rfl
            have hcz45_3 : wc.cell? ⟨gb125, 3, none⟩ = some (.int .i64 a0_3) := (blk_cell BK125.out 3).trans rfl
            have hcz45_4 : wc.cell? ⟨gb125, 4, none⟩ = some (.int .i64 a0_4) := (blk_cell BK125.out 4).trans rfl
            have hcz45_5 : wc.cell? ⟨gb125, 5, none⟩ = some (.slice A0_5 l0_5.length c0_5) := (blk_cell BK125.out 5).trans rfl
            have hcz45_6 : wc.cell? ⟨gb125, 6, none⟩ = some (.slice A0_6 l0_6.length c0_6) := (blk_cell BK125.out 6).trans rfl
            have hfz45_0 := blk_frozen BK125.out 0
            have hfz45_1 := blk_frozen BK125.out 1
            have hfz45_2 := blk_frozen BK125.out 2
            have hfz45_3 := blk_frozen BK125.out 3
            have hfz45_4 := blk_frozen BK125.out 4
            have hfz45_5 := blk_frozen BK125.out 5
            have hfz45_6 := blk_frozen BK125.out 6
            go_wp2
            go_ret
            exact ⟨by first | rfl | (simp [errW_none, errW_some] <;> rfl) | (simp [*, errW_none, errW_some] <;> rfl), by repeat (first | (with_reducible first | exact HB.out | apply below_alloc | apply pw_below_drewN | apply below_drew1 | refine below_set ?_ GE125.out) | exact HB.out)⟩
           rw [if_pos c43] at H
           have c43b0 : ((Go.bits .and .i64 t126 16) == 0) = true := beq_iff_eq.mpr c43
           have c43b1 : ((Go.bits .and .i64 t126 16) != 0) = false := bne_eq_false_iff_eq.mpr c43
           clear c43
           obtain rfl := Option.some.inj H
           have hcz44_0 : wc.cell? ⟨gb125, 0, none⟩ = some (.int .i64 a0_0) := (blk_cell BK125.out 0).trans rfl
           have hcz44_1 : wc.cell? ⟨gb125, 1, none⟩ = some (.int .i64 a0_1) := (blk_cell BK125.out 1).trans rfl
           have hcz44_2 : wc.cell? ⟨gb125, 2, none⟩ = some (.int .i64 a0_2) := (blk_cell BK125.out 2).trans rfl
           have hcz44_3 : wc.cell? ⟨gb125, 3, none⟩ = some (.int .i64 a0_3) := (blk_cell BK125.out 3).trans rfl
           have hcz44_4 : wc.cell? ⟨gb125, 4, none⟩ = some (.int .i64 a0_4) := (blk_cell BK125.out 4).trans rfl
           have hcz44_5 : wc.cell? ⟨gb125, 5, none⟩ = some (.slice A0_5 l0_5.length c0_5) := (blk_cell BK125.out 5).trans rfl
           have hcz44_6 : wc.cell? ⟨gb125, 6, none⟩ = some (.slice A0_6 l0_6.length c0_6) := (blk_cell BK125.out 6).trans rfl
           have hfz44_0 := blk_frozen BK125.out 0
           have hfz44_1 := blk_frozen BK125.out 1
           have hfz44_2 := blk_frozen BK125.out 2
           have hfz44_3 := blk_frozen BK125.out 3
           have hfz44_4 := blk_frozen BK125.out 4
           have hfz44_5 := blk_frozen BK125.out 5
           have hfz44_6 := blk_frozen BK125.out 6
           go_wp2
           go_ret
           exact ⟨by first | rfl | (simp [errW_none, errW_some] <;> rfl) | (simp [*, errW_none, errW_some] <;> rfl), by repeat (first | (with_reducible first | exact HB.out | apply below_alloc | apply pw_below_drewN | apply below_drew1 | refine below_set ?_ GE125.out) | exact HB.out)⟩
          ·replace c39 := Bool.eq_false_iff.mpr c39
           subst c39
           have H1 : (some false) = some r := by rw [if_neg (show ¬ (false = true) by decide)] at H; exact H
           clear H
           have H := H1
           clear H1
           obtain rfl := Option.some.inj H
           have hcz51_0 : wc.cell? ⟨gb125, 0, none⟩ = some (.int .i64 a0_0) := (blk_cell BK125.out 0).trans rfl
           have hcz51_1 : wc.cell? ⟨gb125, 1, none⟩ = some (.int .i64 a0_1) := (blk_cell BK125.out 1).trans rfl
           have hcz51_2 : wc.cell? ⟨gb125, 2, none⟩ = some (.int .i64 a0_2) := (blk_cell BK125.out 2).trans rfl
           have hcz51_3 : wc.cell? ⟨gb125, 3, none⟩ = some (.int .i64 a0_3) := (blk_cell BK125.out 3).trans rfl
           have hcz51_4 : wc.cell? ⟨gb125, 4, none⟩ = some (.int .i64 a0_4) := (blk_cell BK125.out 4).trans rfl
           have hcz51_5 : wc.cell? ⟨gb125, 5, none⟩ = some (.slice A0_5 l0_5.length c0_5) := (blk_cell BK125.out 5).trans rfl
           have hcz51_6 : wc.cell? ⟨gb125, 6, none⟩ = some (.slice A0_6 l0_6.length c0_6) := (blk_cell BK125.out 6).trans rfl
           have hfz51_0 := blk_frozen BK125.out 0
           have hfz51_1 := blk_frozen BK125.out 1
           have hfz51_2 := blk_frozen BK125.out 2
           have hfz51_3 := blk_frozen BK125.out 3
           have hfz51_4 := blk_frozen BK125.out 4
           have hfz51_5 := blk_frozen BK125.out 5
           have hfz51_6 := blk_frozen BK125.out 6
           go_wp2
           go_ret
           exact ⟨by first | rfl | (simp [errW_none, errW_some] <;> rfl) | (simp [*, errW_none, errW_some] <;> rfl), by repeat (first | (with_reducible first | exact HB.out | apply below_alloc | apply pw_below_drewN | apply below_drew1 | refine below_set ?_ GE125.out) | exact HB.out)⟩
         ·replace c38 := Bool.eq_false_iff.mpr c38
          subst c38
          have H1 : (some false) = some r := by rw [if_neg (show ¬ (false = true) by decide)] at H; exact H
          clear H
          have H := H1
          clear H1
          obtain rfl := Option.some.inj H
          have hcz52_0 : wc.cell? ⟨gb125, 0, none⟩ = some (.int .i64 a0_0) := (blk_cell BK125.out 0).trans rfl
          have hcz52_1 : wc.cell? ⟨gb125, 1, none⟩ = some (.int .i64 a0_1) := (blk_cell BK125.out 1).trans rfl
          have hcz52_2 : wc.cell? ⟨gb125, 2, none⟩ = some (.int .i64 a0_2) := (blk_cell BK125.out 2).trans rfl
          have hcz52_3 : wc.cell? ⟨gb125, 3, none⟩ = some (.int .i64 a0_3) := (blk_cell BK125.out 3).trans rfl
          have hcz52_4 : wc.cell? ⟨gb125, 4, none⟩ = some (.int .i64 a0_4) := (blk_cell BK125.out 4).trans rfl
          have hcz52_5 : wc.cell? ⟨gb125, 5, none⟩ = some (.slice A0_5 l0_5.length c0_5) := (blk_cell BK125.out 5).trans rfl
          have hcz52_6 : wc.cell? ⟨gb125, 6, none⟩ = some (.slice A0_6 l0_6.length c0_6) := (blk_cell BK125.out 6).trans rfl
          have hfz52_0 := blk_frozen BK125.out 0
          have hfz52_1 := blk_frozen BK125.out 1
          have hfz52_2 := blk_frozen BK125.out 2
          have hfz52_3 := blk_frozen BK125.out 3
          have hfz52_4 := blk_frozen BK125.out 4
          have hfz52_5 := blk_frozen BK125.out 5
          have hfz52_6 := blk_frozen BK125.out 6
          go_wp2
          go_ret
          exact ⟨by first | rfl | (simp [errW_none, errW_some] <;> rfl) | (simp [*, errW_none, errW_some] <;> rfl), by repeat (first | (with_reducible first | exact HB.out | apply below_alloc | apply pw_below_drewN | apply below_drew1 | refine below_set ?_ GE125.out) | exact HB.out)⟩
        rw [if_neg c37] at H
        have c37b0 : ((Go.bits .and .i64 t126 4) == 0) = false := beq_eq_false_iff_ne.mpr c37
        have c37b1 : ((Go.bits .and .i64 t126 4) != 0) = true := bne_iff_ne.mpr c37
        replace H := Option.bind_eq_some_iff.mp H
        obtain ⟨t133, A530, H⟩ := H
        replace H : (if t133 = true then (if x4_22 = true then (if x5_29 = true then (if (Go.bits .and .i64 t126 8) = 0 then (if (l0_5.length : Int) = 0 then (if (Go.bits .and .i64 t126 16) = 0 then (some ((l0_6.length : Int) == 0)) else (some true)) else (some false)) else (if (Go.bits .and .i64 t126 16) = 0 then (some ((l0_6.length : Int) == 0)) else (some true))) else (some false)) else (some false)) else (if x4_22 = true then (if x5_29 = true then (if a0_4 = 0 then (if (Go.bits .and .i64 t126 8) = 0 then (if (l0_5.length : Int) = 0 then (if (Go.bits .and .i64 t126 16) = 0 then (some ((l0_6.length : Int) == 0)) else (some true)) else (some false)) else (if (Go.bits .and .i64 t126 16) = 0 then (some ((l0_6.length : Int) == 0)) else (some true))) else (some false)) else (some false)) else (some false))) = some r := H
        have A53 := Aside0.mk A530
        clear A530
        by_cases c54 : t133 = true
        ·subst c54
         have H1 : (if x4_22 = true then (if x5_29 = true then (if (Go.bits .and .i64 t126 8) = 0 then (if (l0_5.length : Int) = 0 then (if (Go.bits .and .i64 t126 16) = 0 then (some ((l0_6.length : Int) == 0)) else (some true)) else (some false)) else (if (Go.bits .and .i64 t126 16) = 0 then (some ((l0_6.length : Int) == 0)) else (some true))) else (some false)) else (some false)) = some r := by rw [if_pos rfl] at H; exact H
         clear H
         have H := H1
         clear H1
         by_cases c55 : x4_22 = true
         ·subst c55
          have H1 : (if x5_29 = true then (if (Go.bits .and .i64 t126 8) = 0 then (if (l0_5.length : Int) = 0 then (if (Go.bits .and .i64 t126 16) = 0 then (some ((l0_6.length : Int) == 0)) else (some true)) else (some false)) else (if (Go.bits .and .i64 t126 16) = 0 then (some ((l0_6.length : Int) == 0)) else (some true))) else (some false)) = some r := by rw [if_pos rfl] at H; exact H
          clear H
          have H := H1
          clear H1
          by_cases c56 : x5_29 = true
          ·subst c56
           have H1 : (if (Go.bits .and .i64 t126 8) = 0 then (if (l0_5.length : Int) = 0 then (if (Go.bits .and .i64 t126 16) = 0 then (some ((l0_6.length : Int) == 0)) else (some true)) else (some false)) else (if (Go.bits .and .i64 t126 16) = 0 then (some ((l0_6.length : Int) == 0)) else (some true))) = some r := by rw [if_pos rfl] at H; exact H
           clear H
           have H := H1
           clear H1
           by_cases c57 : (Go.bits .and .i64 t126 8) = 0
           case neg =>
            rw [if_neg c57] at H
            have c57b0 : ((Go.bits .and .i64 t126 8) == 0) = false := beq_eq_false_iff_ne.mpr c57
            have c57b1 : ((Go.bits .and .i64 t126 8) != 0) = true := bne_iff_ne.mpr c57
            by_cases c63 : (Go.bits .and .i64 t126 16) = 0
            case neg =>
             rw [if_neg c63] at H
             have c63b0 : ((Go.bits .and .i64 t126 16) == 0) = false := beq_eq_false_iff_ne.mpr c63
             have c63b1 : ((Go.bits .and .i64 t126 16) != 0) = true := bne_iff_ne.mpr c63
             obtain rfl := Option.some.inj H
             have hcz65_0 : wc.cell? ⟨gb125, 0, none⟩ = some (.int .i64 a0_0) := (blk_cell BK125.out 0).trans rfl
             have hcz65_1 : wc.cell? ⟨gb125, 1, none⟩ = some (.int .i64 a0_1) := (blk_cell BK125.out 1).trans rfl
             have hcz65_2 : wc.cell? ⟨gb125, 2, none⟩ = some (.int .i64 a0_2) := (blk_cell BK125.out 2).trans rfl
             have hcz65_3 : wc.cell? ⟨gb125, 3, none⟩ = some (.int .i64 a0_3) := (blk_cell BK125.out 3).trans rfl
             have hcz65_4 : wc.cell? ⟨gb125, 4, none⟩ = some (.int .i64 a0_4) := (blk_cell BK125.out 4).trans rfl
             have hcz65_5 : wc.cell? ⟨gb125, 5, none⟩ = some (.slice A0_5 l0_5.length c0_5) := (blk_cell BK125.out 5).trans rfl
             have hcz65_6 : wc.cell? ⟨gb125, 6, none⟩ = some (.slice A0_6 l0_6.length c0_6) := (blk_cell BK125.out 6).trans rfl
             have hfz65_0 := blk_frozen BK125.out 0
             have hfz65_1 := blk_frozen BK125.out 1
             have hfz65_2 := blk_frozen BK125.out 2
             have hfz65_3 := blk_frozen BK125.out 3
             have hfz65_4 := blk_frozen BK125.out 4
             have hfz65_5 := blk_frozen BK125.out 5
             have hfz65_6 := blk_frozen BK125.out 6
             go_wp2_with (first | (go_at_call 90; (with_reducible refine (spec_l1In.calls a0_4 0 16777215 true _ A53.out).mono ?_); rintro e w' ⟨rfl, ⟨nd, rfl⟩⟩))
             go_ret
             exact ⟨by first | rfl | (simp [errW_none, errW_some] <;> rfl) | (simp [*, errW_none, errW_some] <;> rfl), by repeat (first | (with_reducible first | exact HB.out | apply below_alloc | apply pw_below_drewN | apply below_drew1 | refine below_set ?_ GE125.out) | exact HB.out)⟩
            rw [if_pos c63] at H
            have c63b0 : ((Go.bits .and .i64 t126 16) == 0) = true := beq_iff_eq.mpr c63
            have c63b1 : ((Go.bits .and .i64 t126 16) != 0) = false := bne_eq_false_iff_eq.mpr c63
            clear c63
            obtain rfl := Option.some.inj H
            have hcz64_0 : wc.cell? ⟨gb125, 0, none⟩ = some (.int .i64 a0_0) := (blk_cell BK125.out 0).trans rfl
            have hcz64_1 : wc.cell? ⟨gb125, 1, none⟩ = some (.int .i64 a0_1) := (blk_cell BK125.out 1).trans rfl
            have hcz64_2 : wc.cell? ⟨gb125, 2, none⟩ = some (.int .i64 a0_2) := (blk_cell BK125.out 2).trans rfl
            have hcz64_3 : wc.cell? ⟨gb125, 3, none⟩ = some (.int .i64 a0_3) := (blk_cell BK125.out 3).trans rfl
            have hcz64_4 : wc.cell? ⟨gb125, 4, none⟩ = some (.int .i64 a0_4) := (blk_cell BK125.out 4).trans rfl
            have hcz64_5 : wc.cell? ⟨gb125, 5, none⟩ = some (.slice A0_5 l0_5.length c0_5) := (blk_cell BK125.out 5).trans rfl
            have hcz64_6 : wc.cell? ⟨gb125, 6, none⟩ = some (.slice A0_6 l0_6.length c0_6) := (blk_cell BK125.out 6).trans rfl
            have hfz64_0 := blk_frozen BK125.out 0
            have hfz64_1 := blk_frozen BK125.out 1
            have hfz64_2 := blk_frozen BK125.out 2
            have hfz64_3 := blk_frozen BK125.out 3
            have hfz64_4 := blk_frozen BK125.out 4
            have hfz64_5 := blk_frozen BK125.out 5
            have hfz64_6 := blk_frozen BK125.out 6
            go_wp2_with (first | (go_at_call 90; (with_reducible refine (spec_l1In.calls a0_4 0 16777215 true _ A53.out).mono ?_); rintro e w' ⟨rfl, ⟨nd, rfl⟩⟩))
            go_ret
            exact ⟨by first | rfl | (simp [errW_none, errW_some] <;> rfl) | (simp [*, errW_none, errW_some] <;> rfl), by repeat (first | (with_reducible first | exact HB.out | apply below_alloc | apply pw_below_drewN | apply below_drew1 | refine below_set ?_ GE125.out) | exact HB.out)⟩
           rw [if_pos c57] at H
           have c57b0 : ((Go.bits .and .i64 t126 8) == 0) = true := beq_iff_eq.mpr c57
           have c57b1 : ((Go.bits .and .i64 t126 8) != 0) = false := bne_eq_false_iff_eq.mpr c57
           clear c57
           by_cases c58 : (l0_5.length : Int) = 0
           case neg =>
            rw [if_neg c58] at H
            have c58b0 : ((l0_5.length : Int) == 0) = false := beq_eq_false_iff_ne.mpr c58
            have c58b1 : ((l0_5.length : Int) != 0) = true := bne_iff_ne.mpr c58
            have c58b2 : ¬ (l0_5 = []) := fun h_ => c58 (by rw [h_]; rfl)
            obtain rfl := Option.some.inj H
            have hcz62_0 : wc.cell? ⟨gb125, 0, none⟩ = some (.int .i64 a0_0) := (blk_cell BK125.out 0).trans rfl
            have hcz62_1 : wc.cell? ⟨gb125, 1, none⟩ = some (.int .i64 a0_1) := (blk_cell BK125.out 1).trans rfl
            have hcz62_2 : wc.cell? ⟨gb125, 2, none⟩ = some (.int .i64 a0_2) := (blk_cell BK125.out 2).trans rfl
            have hcz62_3 : wc.cell? ⟨gb125, 3, none⟩ = some (.int .i64 a0_3) := (blk_cell BK125.out 3).trans rfl
            have hcz62_4 : wc.cell? ⟨gb125, 4, none⟩ = some (.int .i64 a0_4) := (blk_cell BK125.out 4).trans rfl
            have hcz62_5 : wc.cell? ⟨gb125, 5, none⟩ = some (.slice A0_5 l0_5.length c0_5) := (blk_cell BK125.out 5).trans rfl
            have hcz62_6 : wc.cell? ⟨gb125, 6, none⟩ = some (.slice A0_6 l0_6.length c0_6) := (blk_cell BK125.out 6).trans rfl
            have hfz62_0 := blk_frozen BK125.out 0
            have hfz62_1 := blk_frozen BK125.out 1
            have hfz62_2 := blk_frozen BK125.out 2
            have hfz62_3 := blk_frozen BK125.out 3
            have hfz62_4 := blk_frozen BK125.out 4
            have hfz62_5 := blk_frozen BK125.out 5
            have hfz62_6 := blk_frozen BK125.out 6
            go_wp2_with (first | (go_at_call 90; (with_reducible refine (spec_l1In.calls a0_4 0 16777215 true _ A53.out).mono ?_); rintro e w' ⟨rfl, ⟨nd, rfl⟩⟩))
            go_ret
            exact ⟨by first | rfl | (simp [errW_none, errW_some] <;> rfl) | (simp [*, errW_none, errW_some] <;> rfl), by repeat (first | (with_reducible first | exact HB.out | apply below_alloc | apply pw_below_drewN | apply below_drew1 | refine below_set ?_ GE125.out) | exact HB.out)⟩
           rw [if_pos c58] at H
           have c58b0 : ((l0_5.length : Int) == 0) = true := beq_iff_eq.mpr c58
           have c58b1 : ((l0_5.length : Int) != 0) = false := bne_eq_false_iff_eq.mpr c58
           clear c58
           by_cases c59 : (Go.bits .and .i64 t126 16) = 0
           case neg =>
            rw [if_neg c59] at H
            have c59b0 : ((Go.bits .and .i64 t126 16) == 0) = false := beq_eq_false_iff_ne.mpr c59
            have c59b1 : ((Go.bits .and .i64 t126 16) != 0) = true := bne_iff_ne.mpr c59
            obtain rfl := Option.some.inj H
            have hcz61_0 : wc.cell? ⟨gb125, 0, none⟩ = some (.int .i64 a0_0) := (blk_cell BK125.out 0).trans rfl
            have hcz61_1 : wc.cell? ⟨gb125, 1, none⟩ = some (.int .i64 a0_1) := (blk_cell BK125.out 1).trans rfl
            have hcz61_2 : wc.cell? ⟨gb125, 2, none⟩ = some (.int .i64 a0_2) := (blk_cell BK125.out 2).trans rfl
            have hcz61_3 : wc.cell? ⟨gb125, 3, none⟩ = some (.int .i64 a0_3) := (blk_cell BK125.out 3).trans rfl
            have hcz61_4 : wc.cell? ⟨gb125, 4, none⟩ = some (.int .i64 a0_4) := (blk_cell BK125.out 4).trans rfl
            have hcz61_5 : wc.cell? ⟨gb125, 5, none⟩ = some (.slice A0_5 l0_5.length c0_5) := (blk_cell BK125.out 5).trans rfl
            have hcz61_6 : wc.cell? ⟨gb125, 6, none⟩ = some (.slice A0_6 l0_6.length c0_6) := (blk_cell BK125.out 6).trans rfl
            have hfz61_0 := blk_frozen BK125.out 0
            have hfz61_1 := blk_frozen BK125.out 1
            have hfz61_2 := blk_frozen BK125.out 2
            have hfz61_3 := blk_frozen BK125.out 3
            have hfz61_4 := blk_frozen BK125.out 4
            have hfz61_5 := blk_frozen BK125.out 5
            have hfz61_6 := blk_frozen BK125.out 6
            go_wp2_with (first | (go_at_call 90; (with_reducible refine (spec_l1In.calls a0_4 0 16777215 true _ A53.out).mono ?_); rintro e w' ⟨rfl, ⟨nd, rfl⟩⟩))
            go_ret
            exact ⟨by first | rfl | (simp [errW_none, errW_some] <;> rfl) | (simp [*, errW_none, errW_some] <;> rfl), by repeat (first | (with_reducible first | exact HB.out | apply below_alloc | apply pw_below_drewN | apply below_drew1 | refine below_set ?_ GE125.out) | exact HB.out)⟩
           rw [if_pos c59] at H
           have c59b0 : ((Go.bits .and .i64 t126 16) == 0) = true := beq_iff_eq.mpr c59
           have c59b1 : ((Go.bits .and .i64 t126 16) != 0) = false := bne_eq_false_iff_eq.mpr c59
           clear c59
           obtain rfl := Option.some.inj H
           have hcz60_0 : wc.cell? ⟨gb125, 0, none⟩ = some (.int .i64 a0_0) := (blk_cell BK125.out 0).trans rfl
           have hcz60_1 : wc.cell? ⟨gb125, 1, none⟩ = some (.int .i64 a0_1) := (blk_cell BK125.out 1).trans rfl
           have hcz60_2 : wc.cell? ⟨gb125, 2, none⟩ = some (.int .i64 a0_2) := (blk_cell BK125.out 2).trans rfl
           have hcz60_3 : wc.cell? ⟨gb125, 3, none⟩ = some (.int .i64 a0_3) := (blk_cell BK125.out 3).trans rfl
           have hcz60_4 : wc.cell? ⟨gb125, 4, none⟩ = some (.int .i64 a0_4) := (blk_cell BK125.out 4).trans rfl
           have hcz60_5 : wc.cell? ⟨gb125, 5, none⟩ = some (.slice A0_5 l0_5.length c0_5) := (blk_cell BK125.out 5).trans rfl
           have hcz60_6 : wc.cell? ⟨gb125, 6, none⟩ = some (.slice A0_6 l0_6.length c0_6) := (blk_cell BK125.out 6).trans rfl
           have hfz60_0 := blk_frozen BK125.out 0
           have hfz60_1 := blk_frozen BK125.out 1
           have hfz60_2 := blk_frozen BK125.out 2
           have hfz60_3 := blk_frozen BK125.out 3
           have hfz60_4 := blk_frozen BK125.out 4
           have hfz60_5 := blk_frozen BK125.out 5
           have hfz60_6 := blk_frozen BK125.out 6
           go_wp2_with (first | (go_at_call 90; (with_reducible refine (spec_l1In.calls a0_4 0 16777215 true _ A53.out).mono ?_); rintro e w' ⟨rfl, ⟨nd, rfl⟩⟩))
           go_ret
           exact ⟨by first | rfl | (simp [errW_none, errW_some] <;> rfl) | (simp [*, errW_none, errW_some] <;> rfl), by repeat (first | (with_reducible first | exact HB.out | apply below_alloc | apply pw_below_drewN | apply below_drew1 | refine below_set ?_ GE125.out) | exact HB.out)⟩
          ·replace c56 := Bool.eq_false_iff.mpr c56
           subst c56
           have H1 : (some false) = some r := by rw [if_neg (show ¬ (false = true) by decide)] at H; exact H
           clear H
           have H := H1
           clear H1
           obtain rfl := Option.some.inj H
           have hcz66_0 : wc.cell? ⟨gb125, 0, none⟩ = some (.int .i64 a0_0) := (blk_cell BK125.out 0).trans rfl
           have hcz66_1 : wc.cell? ⟨gb125, 1, none⟩ = some (.int .i64 a0_1) := (blk_cell BK125.out 1).trans rfl
           have hcz66_2 : wc.cell? ⟨gb125, 2, none⟩ = some (.int .i64 a0_2) := (blk_cell BK125.out 2).trans rfl
           have hcz66_3 : wc.cell? ⟨gb125, 3, none⟩ = some (.int .i64 a0_3) := (blk_cell BK125.out 3).trans rfl
           have hcz66_4 : wc.cell? ⟨gb125, 4, none⟩ = some (.int .i64 a0_4) := (blk_cell BK125.out 4).trans rfl
           have hcz66_5 : wc.cell? ⟨gb125, 5, none⟩ = some (.slice A0_5 l0_5.length c0_5) := (blk_cell BK125.out 5).trans rfl
           have hcz66_6 : wc.cell? ⟨gb125, 6, none⟩ = some (.slice A0_6 l0_6.length c0_6) := (blk_cell BK125.out 6).trans rfl
           have hfz66_0 := blk_frozen BK125.out 0
           have hfz66_1 := blk_frozen BK125.out 1
           have hfz66_2 := blk_frozen BK125.out 2
           have hfz66_3 := blk_frozen BK125.out 3
           have hfz66_4 := blk_frozen BK125.out 4
           have hfz66_5 := blk_frozen BK125.out 5
           have hfz66_6 := blk_frozen BK125.out 6
           go_wp2_with (first | (go_at_call 90; (with_reducible refine (spec_l1In.calls a0_4 0 16777215 true _ A53.out).mono ?_); rintro e w' ⟨rfl, ⟨nd, rfl⟩⟩))
           go_ret
           exact ⟨by first | rfl | (simp [errW_none, errW_some] <;> rfl) | (simp [*, errW_none, errW_some] <;> rfl), by repeat (first | (with_reducible first | exact HB.out | apply below_alloc | apply pw_below_drewN | apply below_drew1 | refine below_set ?_ GE125.out) | exact HB.out)⟩
         ·replace c55 := Bool.eq_false_iff.mpr c55
          subst c55
          have H1 : (some false) = some r := by rw [if_neg (show ¬ (false = true) by decide)] at H; exact H
          clear H
          have H := H1
          clear H1
          obtain rfl := Option.some.inj H
          have hcz67_0 : wc.cell? ⟨gb125, 0, none⟩ = some (.int .i64 a0_0) := (blk_cell BK125.out 0).trans rfl
          have hcz67_1 : wc.cell? ⟨gb125, 1, none⟩ = some (.int .i64 a0_1) := (blk_cell BK125.out 1).trans rfl
          have hcz67_2 : wc.cell? ⟨gb125, 2, none⟩ = some (.int .i64 a0_2) := (blk_cell BK125.out 2).trans rfl
          have hcz67_3 : wc.cell? ⟨gb125, 3, none⟩ = some (.int .i64 a0_3) := (blk_cell BK125.out 3).trans rfl
          have hcz67_4 : wc.cell? ⟨gb125, 4, none⟩ = some (.int .i64 a0_4) := (blk_cell BK125.out 4).trans rfl
          have hcz67_5 : wc.cell? ⟨gb125, 5, none⟩ = some (.slice A0_5 l0_5.length c0_5) := (blk_cell BK125.out 5).trans rfl
          have hcz67_6 : wc.cell? ⟨gb125, 6, none⟩ = some (.slice A0_6 l0_6.length c0_6) := (blk_cell BK125.out 6).trans rfl
          have hfz67_0 := blk_frozen BK125.out 0
          have hfz67_1 := blk_frozen BK125.out 1
          have hfz67_2 := blk_frozen BK125.out 2
          have hfz67_3 := blk_frozen BK125.out 3
          have hfz67_4 := blk_frozen BK125.out 4
          have hfz67_5 := blk_frozen BK125.out 5
          have hfz67_6 := blk_frozen BK125.out 6
          go_wp2_with (first | (go_at_call 90; (with_reducible refine (spec_l1In.calls a0_4 0 16777215 true _ A53.out).mono ?_); rintro e w' ⟨rfl, ⟨nd, rfl⟩⟩))
          go_ret
          exact ⟨by first | rfl | (simp [errW_none, errW_some] <;> rfl) | (simp [*, errW_none, errW_some] <;> rfl), by repeat (first | (with_reducible first | exact HB.out | apply below_alloc | apply pw_below_drewN | apply below_drew1 | refine below_set ?_ GE125.out) | exact HB.out)⟩
        ·replace c54 := Bool.eq_false_iff.mpr c54
         subst c54
         have H1 : (if x4_22 = true then (if x5_29 = true then (if a0_4 = 0 then (if (Go.bits .and .i64 t126 8) = 0 then (if (l0_5.length : Int) = 0 then (if (Go.bits .and .i64 t126 16) = 0 then (some ((l0_6.length : Int) == 0)) else (some true)) else (some false)) else (if (Go.bits .and .i64 t126 16) = 0 then (some ((l0_6.length : Int) == 0)) else (some true))) else (some false)) else (some false)) else (some false)) = some r := by rw [if_neg (show ¬ (false = true) by decide)] at H; exact H
         clear H
         have H := H1
         clear H1
         by_cases c68 : x4_22 = true
         ·subst c68
          have H1 : (if x5_29 = true then (if a0_4 = 0 then (if (Go.bits .and .i64 t126 8) = 0 then (if (l0_5.length : Int) = 0 then (if (Go.bits .and .i64 t126 16) = 0 then (some ((l0_6.length : Int) == 0)) else (some true)) else (some false)) else (if (Go.bits .and .i64 t126 16) = 0 then (some ((l0_6.length : Int) == 0)) else (some true))) else (some false)) else (some false)) = some r := by rw [if_pos rfl] at H; exact H
          clear H
          have H := H1
          clear H1
          by_cases c69 : x5_29 = true
          ·subst c69
           have H1 : (if a0_4 = 0 then (if (Go.bits .and .i64 t126 8) = 0 then (if (l0_5.length : Int) = 0 then (if (Go.bits .and .i64 t126 16) = 0 then (some ((l0_6.length : Int) == 0)) else (some true)) else (some false)) else (if (Go.bits .and .i64 t126 16) = 0 then (some ((l0_6.length : Int) == 0)) else (some true))) else (some false)) = some r := by rw [if_pos rfl] at H; exact H
           clear H
           have H := H1
           clear H1
           by_cases c70 : a0_4 = 0
           case neg =>
            rw [if_neg c70] at H
            have c70b0 : (a0_4 == 0) = false := beq_eq_false_iff_ne.mpr c70
            have c70b1 : (a0_4 != 0) = true := bne_iff_ne.mpr c70
            obtain rfl := Option.some.inj H
            have hcz80_0 : wc.cell? ⟨gb125, 0, none⟩ = some (.int .i64 a0_0) := (blk_cell BK125.out 0).trans rfl
            have hcz80_1 : wc.cell? ⟨gb125, 1, none⟩ = some (.int .i64 a0_1) := (blk_cell BK125.out 1).trans rfl
            have hcz80_2 : wc.cell? ⟨gb125, 2, none⟩ = some (.int .i64 a0_2) := (blk_cell BK125.out 2).trans rfl
            have hcz80_3 : wc.cell? ⟨gb125, 3, none⟩ = some (.int .i64 a0_3) := (blk_cell BK125.out 3).trans rfl
            have hcz80_4 : wc.cell? ⟨gb125, 4, none⟩ = some (.int .i64 a0_4) := (blk_cell BK125.out 4).trans rfl
            have hcz80_5 : wc.cell? ⟨gb125, 5, none⟩ = some (.slice A0_5 l0_5.length c0_5) := (blk_cell BK125.out 5).trans rfl
            have hcz80_6 : wc.cell? ⟨gb125, 6, none⟩ = some (.slice A0_6 l0_6.length c0_6) := (blk_cell BK125.out 6).trans rfl
            have hfz80_0 := blk_frozen BK125.out 0
            have hfz80_1 := blk_frozen BK125.out 1
            have hfz80_2 := blk_frozen BK125.out 2
            have hfz80_3 := blk_frozen BK125.out 3
            have hfz80_4 := blk_frozen BK125.out 4
            have hfz80_5 := blk_frozen BK125.out 5
            have hfz80_6 := blk_frozen BK125.out 6
            go_wp2_with (first | (go_at_call 90; (with_reducible refine (spec_l1In.calls a0_4 0 16777215 false _ A53.out).mono ?_); rintro e w' ⟨rfl, ⟨nd, rfl⟩⟩))
            go_ret
            exact ⟨by first | rfl | (simp [errW_none, errW_some] <;> rfl) | (simp [*, errW_none, errW_some] <;> rfl), by repeat (first | (with_reducible first | exact HB.out | apply below_alloc | apply pw_below_drewN | apply below_drew1 | refine below_set ?_ GE125.out) | exact HB.out)⟩
           rw [if_pos c70] at H
           have c70b0 : (a0_4 == 0) = true := beq_iff_eq.mpr c70
           have c70b1 : (a0_4 != 0) = false := bne_eq_false_iff_eq.mpr c70
           clear c70
           by_cases c71 : (Go.bits .and .i64 t126 8) = 0
           case neg =>
            rw [if_neg c71] at H
            have c71b0 : ((Go.bits .and .i64 t126 8) == 0) = false := beq_eq_false_iff_ne.mpr c71
            have c71b1 : ((Go.bits .and .i64 t126 8) != 0) = true := bne_iff_ne.mpr c71
            by_cases c77 : (Go.bits .and .i64 t126 16) = 0
            case neg =>
             rw [if_neg c77] at H
             have c77b0 : ((Go.bits .and .i64 t126 16) == 0) = false := beq_eq_false_iff_ne.mpr c77
             have c77b1 : ((Go.bits .and .i64 t126 16) != 0) = true := bne_iff_ne.mpr c77
             obtain rfl := Option.some.inj H
             have hcz79_0 : wc.cell? ⟨gb125, 0, none⟩ = some (.int .i64 a0_0) := (blk_cell BK125.out 0).trans rfl
             have hcz79_1 : wc.cell? ⟨gb125, 1, none⟩ = some (.int .i64 a0_1) := (blk_cell BK125.out 1).trans rfl
             have hcz79_2 : wc.cell? ⟨gb125, 2, none⟩ = some (.int .i64 a0_2) := (blk_cell BK125.out 2).trans rfl
             have hcz79_3 : wc.cell? ⟨gb125, 3, none⟩ = some (.int .i64 a0_3) := (blk_cell BK125.out 3).trans rfl
             have hcz79_4 : wc.cell? ⟨gb125, 4, none⟩ = some (.int .i64 a0_4) := (blk_cell BK125.out 4).trans rfl
             have hcz79_5 : wc.cell? ⟨gb125, 5, none⟩ = some (.slice A0_5 l0_5.length c0_5) := (blk_cell BK125.out 5).trans rfl
             have hcz79_6 : wc.cell? ⟨gb125, 6, none⟩ = some (.slice A0_6 l0_6.length c0_6) := (blk_cell BK125.out 6).trans rfl
             have hfz79_0 := blk_frozen BK125.out 0
             have hfz79_1 := blk_frozen BK125.out 1
             have hfz79_2 := blk_frozen BK125.out 2
             have hfz79_3 := blk_frozen BK125.out 3
             have hfz79_4 := blk_frozen BK125.out 4
             have hfz79_5 := blk_frozen BK125.out 5
             have hfz79_6 := blk_frozen BK125.out 6
             go_wp2_with (first | (go_at_call 90; (with_reducible refine (spec_l1In.calls a0_4 0 16777215 false _ A53.out).mono ?_); rintro e w' ⟨rfl, ⟨nd, rfl⟩⟩))
             go_ret
             exact ⟨by first | rfl | (simp [errW_none, errW_some] <;> rfl) | (simp [*, errW_none, errW_some] <;> rfl), by repeat (first | (with_reducible first | exact HB.out | apply below_alloc | apply pw_below_drewN | apply below_drew1 | refine below_set ?_ GE125.out) | exact HB.out)⟩
            rw [if_pos c77] at H
            have c77b0 : ((Go.bits .and .i64 t126 16) == 0) = true := beq_iff_eq.mpr c77
            have c77b1 : ((Go.bits .and .i64 t126 16) != 0) = false := bne_eq_false_iff_eq.mpr c77
            clear c77
            obtain rfl := Option.some.inj H
            have hcz78_0 : wc.cell? ⟨gb125, 0, none⟩ = some (.int .i64 a0_0) := (blk_cell BK125.out 0).trans rfl
            have hcz78_1 : wc.cell? ⟨gb125, 1, none⟩ = some (.int .i64 a0_1) := (blk_cell BK125.out 1).trans rfl
            have hcz78_2 : wc.cell? ⟨gb125, 2, none⟩ = some (.int .i64 a0_2) := (blk_cell BK125.out 2).trans rfl
            have hcz78_3 : wc.cell? ⟨gb125, 3, none⟩ = some (.int .i64 a0_3) := (blk_cell BK125.out 3).trans rfl
            have hcz78_4 : wc.cell? ⟨gb125, 4, none⟩ = some (.int .i64 a0_4) := (blk_cell BK125.out 4).trans rfl
            have hcz78_5 : wc.cell? ⟨gb125, 5, none⟩ = some (.slice A0_5 l0_5.length c0_5) := (blk_cell BK125.out 5).trans rfl
            have hcz78_6 : wc.cell? ⟨gb125, 6, none⟩ = some (.slice A0_6 l0_6.length c0_6) := (blk_cell BK125.out 6).trans rfl
            have hfz78_0 := blk_frozen BK125.out 0
            have hfz78_1 := blk_frozen BK125.out 1
            have hfz78_2 := blk_frozen BK125.out 2
            have hfz78_3 := blk_frozen BK125.out 3
            have hfz78_4 := blk_frozen BK125.out 4
            have hfz78_5 := blk_frozen BK125.out 5
            have hfz78_6 := blk_frozen BK125.out 6
            go_wp2_with (first | (go_at_call 90; (with_reducible refine (spec_l1In.calls a0_4 0 16777215 false _ A53.out).mono ?_); rintro e w' ⟨rfl, ⟨nd, rfl⟩⟩))
            go_ret
            exact ⟨by first | rfl | (simp [errW_none, errW_some] <;> rfl) | (simp [*, errW_none, errW_some] <;> rfl), by repeat (first | (with_reducible first | exact HB.out | apply below_alloc | apply pw_below_drewN | apply below_drew1 | refine below_set ?_ GE125.out) | exact HB.out)⟩
           rw [if_pos c71] at H
           have c71b0 : ((Go.bits .and .i64 t126 8) == 0) = true := beq_iff_eq.mpr c71
           have c71b1 : ((Go.bits .and .i64 t126 8) != 0) = false := bne_eq_false_iff_eq.mpr c71
           clear c71
           by_cases c72 : (l0_5.length : Int) = 0
           case neg =>
            rw [if_neg c72] at H
            have c72b0 : ((l0_5.length : Int) == 0) = false := beq_eq_false_iff_ne.mpr c72
            have c72b1 : ((l0_5.length : Int) != 0) = true := bne_iff_ne.mpr c72
            have c72b2 : ¬ (l0_5 = []) := fun h_ => c72 (by rw [h_]; rfl)
            obtain rfl := Option.some.inj H
            have hcz76_0 : wc.cell? ⟨gb125, 0, none⟩ = some (.int .i64 a0_0) := (blk_cell BK125.out 0).trans rfl
            have hcz76_1 : wc.cell? ⟨gb125, 1, none⟩ = some (.int .i64 a0_1) := (blk_cell BK125.out 1).trans rfl
            have hcz76_2 : wc.cell? ⟨gb125, 2, none⟩ = some (.int .i64 a0_2) := (blk_cell BK125.out 2).trans rfl
            have hcz76_3 : wc.cell? ⟨gb125, 3, none⟩ = some (.int .i64 a0_3) := (blk_cell BK125.out 3).trans rfl
            have hcz76_4 : wc.cell? ⟨gb125, 4, none⟩ = some (.int .i64 a0_4) := (blk_cell BK125.out 4).trans rfl
            have hcz76_5 : wc.cell? ⟨gb125, 5, none⟩ = some (.slice A0_5 l0_5.length c0_5) := (blk_cell BK125.out 5).trans rfl
            have hcz76_6 : wc.cell? ⟨gb125, 6, none⟩ = some (.slice A0_6 l0_6.length c0_6) := (blk_cell BK125.out 6).trans rfl
            have hfz76_0 := blk_frozen BK125.out 0
            have hfz76_1 := blk_frozen BK125.out 1
            have hfz76_2 := blk_frozen BK125.out 2
            have hfz76_3 := blk_frozen BK125.out 3
            have hfz76_4 := blk_frozen BK125.out 4
            have hfz76_5 := blk_frozen BK125.out 5
            have hfz76_6 := blk_frozen BK125.out 6
            go_wp2_with (first | (go_at_call 90; (with_reducible refine (spec_l1In.calls a0_4 0 16777215 false _ A53.out).mono ?_); rintro e w' ⟨rfl, ⟨nd, rfl⟩⟩))
            go_ret
            exact ⟨by first | rfl | (simp [errW_none, errW_some] <;> rfl) | (simp [*, errW_none, errW_some] <;> rfl), by repeat (first | (with_reducible first | exact HB.out | apply below_alloc | apply pw_below_drewN | apply below_drew1 | refine below_set ?_ GE125.out) | exact HB.out)⟩
           rw [if_pos c72] at H
           have c72b0 : ((l0_5.length : Int) == 0) = true := beq_iff_eq.mpr c72
           have c72b1 : ((l0_5.length : Int) != 0) = false := bne_eq_false_iff_eq.mpr c72
           clear c72
           by_cases c73 : (Go.bits .and .i64 t126 16) = 0
           case neg =>
            rw [if_neg c73] at H
            have c73b0 : ((Go.bits .and .i64 t126 16) == 0) = false := beq_eq_false_iff_ne.mpr c73
            have c73b1 : ((Go.bits .and .i64 t126 16) != 0) = true := bne_iff_ne.mpr c73
            obtain rfl := Option.some.inj H
            have hcz75_0 : wc.cell? ⟨gb125, 0, none⟩ = some (.int .i64 a0_0) := (blk_cell BK125.out 0).trans rfl
            have hcz75_1 : wc.cell? ⟨gb125, 1, none⟩ = some (.int .i64 a0_1) := (blk_cell BK125.out 1).trans rfl
            have hcz75_2 : wc.cell? ⟨gb125, 2, none⟩ = some (.int .i64 a0_2) := (blk_cell BK125.out 2).trans rfl
            have hcz75_3 : wc.cell? ⟨gb125, 3, none⟩ = some (.int .i64 a0_3) := (blk_cell BK125.out 3).trans rfl
            have hcz75_4 : wc.cell? ⟨gb125, 4, none⟩ = some (.int .i64 a0_4) := (blk_cell BK125.out 4).trans rfl
            have hcz75_5 : wc.cell? ⟨gb125, 5, none⟩ = some (.slice A0_5 l0_5.length c0_5) := (blk_cell BK125.out 5).trans rfl
            have hcz75_6 : wc.cell? ⟨gb125, 6, none⟩ = some (.slice A0_6 l0_6.length c0_6) := (blk_cell BK125.out 6).trans rfl
            have hfz75_0 := blk_frozen BK125.out 0
            have hfz75_1 := blk_frozen BK125.out 1
            have hfz75_2 := blk_frozen BK125.out 2
            have hfz75_3 := blk_frozen BK125.out 3
            have hfz75_4 := blk_frozen BK125.out 4
            have hfz75_5 := blk_frozen BK125.out 5
            have hfz75_6 := blk_frozen BK125.out 6
            go_wp2_with (first | (go_at_call 90; (with_reducible refine (spec_l1In.calls a0_4 0 16777215 false _ A53.out).mono ?_); rintro e w' ⟨rfl, ⟨nd, rfl⟩⟩))
            go_ret
            exact ⟨by first | rfl | (simp [errW_none, errW_some] <;> rfl) | (simp [*, errW_none, errW_some] <;> rfl), by repeat (first | (with_reducible first | exact HB.out | apply below_alloc | apply pw_below_drewN | apply below_drew1 | refine below_set ?_ GE125.out) | exact HB.out)⟩
           rw [if_pos c73] at H
           have c73b0 : ((Go.bits .and .i64 t126 16) == 0) = true := beq_iff_eq.mpr c73
           have c73b1 : ((Go.bits .and .i64 t126 16) != 0) = false := bne_eq_false_iff_eq.mpr c73
           clear c73
           obtain rfl := Option.some.inj H
           have hcz74_0 : wc.cell? ⟨gb125, 0, none⟩ = some (.int .i64 a0_0) := (blk_cell BK125.out 0).trans rfl
           have hcz74_1 : wc.cell? ⟨gb125, 1, none⟩ = some (.int .i64 a0_1) := (blk_cell BK125.out 1).trans rfl
           have hcz74_2 : wc.cell? ⟨gb125, 2, none⟩ = some (.int .i64 a0_2) := (blk_cell BK125.out 2).trans rfl
           have hcz74_3 : wc.cell? ⟨gb125, 3, none⟩ = some (.int .i64 a0_3) := (blk_cell BK125.out 3).trans rfl
           have hcz74_4 : wc.cell? ⟨gb125, 4, none⟩ = some (.int .i64 a0_4) := (blk_cell BK125.out 4).trans rfl
           have hcz74_5 : wc.cell? ⟨gb125, 5, none⟩ = some (.slice A0_5 l0_5.length c0_5) := (blk_cell BK125.out 5).trans rfl
           have hcz74_6 : wc.cell? ⟨gb125, 6, none⟩ = some (.slice A0_6 l0_6.length c0_6) := (blk_cell BK125.out 6).trans rfl
           have hfz74_0 := blk_frozen BK125.out 0
           have hfz74_1 := blk_frozen BK125.out 1
           have hfz74_2 := blk_frozen BK125.out 2
           have hfz74_3 := blk_frozen BK125.out 3
           have hfz74_4 := blk_frozen BK125.out 4
           have hfz74_5 := blk_frozen BK125.out 5
           have hfz74_6 := blk_frozen BK125.out 6
           go_wp2_with (first | (go_at_call 90; (with_reducible refine (spec_l1In.calls a0_4 0 16777215 false _ A53.out).mono ?_); rintro e w' ⟨rfl, ⟨nd, rfl⟩⟩))
           go_ret
           exact ⟨by first | rfl | (simp [errW_none, errW_some] <;> rfl) | (simp [*, errW_none, errW_some] <;> rfl), by repeat (first | (with_reducible first | exact HB.out | apply below_alloc | apply pw_below_drewN | apply below_drew1 | refine below_set ?_ GE125.out) | exact HB.out)⟩
          ·replace c69 := Bool.eq_false_iff.mpr c69
           subst c69
           have H1 : (some false) = some r := by rw [if_neg (show ¬ (false = true) by decide)] at H; exact H
           clear H
           have H := H1
           clear H1
           obtain rfl := Option.some.inj H
           have hcz81_0 : wc.cell? ⟨gb125, 0, none⟩ = some (.int .i64 a0_0) := (blk_cell BK125.out 0).trans rfl
           have hcz81_1 : wc.cell? ⟨gb125, 1, none⟩ = some (.int .i64 a0_1) := (blk_cell BK125.out 1).trans rfl
           have hcz81_2 : wc.cell? ⟨gb125, 2, none⟩ = some (.int .i64 a0_2) := (blk_cell BK125.out 2).trans rfl
           have hcz81_3 : wc.cell? ⟨gb125, 3, none⟩ = some (.int .i64 a0_3) := (blk_cell BK125.out 3).trans rfl
           have hcz81_4 : wc.cell? ⟨gb125, 4, none⟩ = some (.int .i64 a0_4) := (blk_cell BK125.out 4).trans rfl
           have hcz81_5 : wc.cell? ⟨gb125, 5, none⟩ = some (.slice A0_5 l0_5.length c0_5) := (blk_cell BK125.out 5).trans rfl
           have hcz81_6 : wc.cell? ⟨gb125, 6, none⟩ = some (.slice A0_6 l0_6.length c0_6) := (blk_cell BK125.out 6).trans rfl
           have hfz81_0 := blk_frozen BK125.out 0
           have hfz81_1 := blk_frozen BK125.out 1
           have hfz81_2 := blk_frozen BK125.out 2
           have hfz81_3 := blk_frozen BK125.out 3
           have hfz81_4 := blk_frozen BK125.out 4
           have hfz81_5 := blk_frozen BK125.out 5
           have hfz81_6 := blk_frozen BK125.out 6
           go_wp2_with (first | (go_at_call 90; (with_reducible refine (spec_l1In.calls a0_4 0 16777215 false _ A53.out).mono ?_); rintro e w' ⟨rfl, ⟨nd, rfl⟩⟩))
           go_ret
           exact ⟨by first | rfl | (simp [errW_none, errW_some] <;> rfl) | (simp [*, errW_none, errW_some] <;> rfl), by repeat (first | (with_reducible first | exact HB.out | apply below_alloc | apply pw_below_drewN | apply below_drew1 | refine below_set ?_ GE125.out) | exact HB.out)⟩
         ·replace c68 := Bool.eq_false_iff.mpr c68
          subst c68
          have H1 : (some false) = some r := by rw [if_neg (show ¬ (false = true) by decide)] at H; exact H
          clear H
          have H := H1
          clear H1
          obtain rfl := Option.some.inj H
          have hcz82_0 : wc.cell? ⟨gb125, 0, none⟩ = some (.int .i64 a0_0) := (blk_cell BK125.out 0).trans rfl
          have hcz82_1 : wc.cell? ⟨gb125, 1, none⟩ = some (.int .i64 a0_1) := (blk_cell BK125.out 1).trans rfl
          have hcz82_2 : wc.cell? ⟨gb125, 2, none⟩ = some (.int .i64 a0_2) := (blk_cell BK125.out 2).trans rfl
          have hcz82_3 : wc.cell? ⟨gb125, 3, none⟩ = some (.int .i64 a0_3) := (blk_cell BK125.out 3).trans rfl
          have hcz82_4 : wc.cell? ⟨gb125, 4, none⟩ = some (.int .i64 a0_4) := (blk_cell BK125.out 4).trans rfl
          have hcz82_5 : wc.cell? ⟨gb125, 5, none⟩ = some (.slice A0_5 l0_5.length c0_5) := (blk_cell BK125.out 5).trans rfl
          have hcz82_6 : wc.cell? ⟨gb125, 6, none⟩ = some (.slice A0_6 l0_6.length c0_6) := (blk_cell BK125.out 6).trans rfl
          have hfz82_0 := blk_frozen BK125.out 0
          have hfz82_1 := blk_frozen BK125.out 1
          have hfz82_2 := blk_frozen BK125.out 2
          have hfz82_3 := blk_frozen BK125.out 3
          have hfz82_4 := blk_frozen BK125.out 4
          have hfz82_5 := blk_frozen BK125.out 5
          have hfz82_6 := blk_frozen BK125.out 6
          go_wp2_with (first | (go_at_call 90; (with_reducible refine (spec_l1In.calls a0_4 0 16777215 false _ A53.out).mono ?_); rintro e w' ⟨rfl, ⟨nd, rfl⟩⟩))
          go_ret
          exact ⟨by first | rfl | (simp [errW_none, errW_some] <;> rfl) | (simp [*, errW_none, errW_some] <;> rfl), by repeat (first | (with_reducible first | exact HB.out | apply below_alloc | apply pw_below_drewN | apply below_drew1 | refine below_set ?_ GE125.out) | exact HB.out)⟩

end Go.Proofs.Ytfpghkgfodnjmaa.MFnExactMsgOk
