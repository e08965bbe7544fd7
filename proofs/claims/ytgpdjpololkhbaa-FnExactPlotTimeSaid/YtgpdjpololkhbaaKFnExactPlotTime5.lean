/-
  A part of the proof of FnExactPlotTime: contracts of the Go functions that it reaches, and plain statements on what they come to; each says its own conditions.
-/
import Derived.Deep.RegionWith
import Derived.Test.YtgpdjpololkhbaaKFnExactPlotTime4

namespace Go.Proofs.Ytgpdjpololkhbaa.F
open Go.RowKit Go.Proofs.YtgpdjpololkhbaaW.PrintWords Go.Proofs.YtgpdjpololkhbaaW.PrintLast Go.Proofs.YtgpdjpololkhbaaW.PrintMore
attribute [local go_sem] max2_int min2_int max_two min_two max_three min_three max_four min_four   -- for this text's walks alone
set_option linter.unusedVariables false
set_option linter.unusedSimpArgs false

/-! ### impl_Plotter_step: function 160 -/
def impl_Plotter_step.f (a0_0 : Int) (a0_1 : Int) (a0_2 : Int) (a0_3 : Bool) (a1_0 : Int) (a1_1 : Int) (a1_2 : Int) : Option (Int × Int × Int × Bool × Bool) := if a1_0 = 80 then (some (a0_0, a0_1, a1_1, false, true)) else (if a1_0 = 85 then (some (a1_1, a1_2, a0_2, false, true)) else (some (a1_1, a1_2, a0_2, true, decide (a0_2 > 0))))
def impl_Plotter_step.T6 : Bool × List (List Nat × List Nat) := (true, [([], []), ([0], [0]), ([], []), ([2], [2]), ([], []), ([4], [4]), ([1, 3, 5], [1, 3, 5]), ([], []), ([7], [7]), ([8], [8]), ([6, 0, 1, 2, 3, 4, 5, 6], [6]), ([9, 10, 0, 1, 2, 3, 4, 5, 6, 7, 8, 9, 10], [9])])
def impl_Plotter_step.B6 : List Nat := [0, 1, 0, 4, 0, 16, 63, 0, 128, 384, 127, 2047]
theorem impl_Plotter_step.tab6 : rtab .any (opsOf Try.f160 6) = impl_Plotter_step.T6 := by kernel_rfl
theorem impl_Plotter_step.bits6 : waitsOk impl_Plotter_step.T6.2 impl_Plotter_step.B6 = true := by kernel_rfl
set_option maxHeartbeats 8000000 in
set_option maxRecDepth 100000 in
theorem impl_Plotter_step.calls (a0_0 : Int) (a0_1 : Int) (a0_2 : Int) (a0_3 : Bool) (a1_0 : Int) (a1_1 : Int) (a1_2 : Int) (r1 : Int) (r2 : Int) (r3 : Int) (r4 : Bool) (r5 : Bool) (w : World) (h : impl_Plotter_step.f a0_0 a0_1 a0_2 a0_3 a1_0 a1_1 a1_2 = some (r1, r2, r3, r4, r5)) :
    Calls Try.prog 160 #[.agg #[.int .i64 a0_0, .int .i64 a0_1, .int .i64 a0_2, .bool a0_3], .agg #[.int .u8 a1_0, .int .i64 a1_1, .int .i64 a1_2]] w fun e w' => e = .returned (.tuple #[.agg #[.int .i64 r1, .int .i64 r2, .int .i64 r3, .bool r4], .bool r5]) ∧ Below w.heap.size w w' := by
  have hu75 := Try.underlying75
  have hu137 := Try.underlying137
  have HB := Aside0.mk (Below.refl w.heap.size w)
  have H : (if a1_0 = 80 then (some (a0_0, a0_1, a1_1, false, true)) else (if a1_0 = 85 then (some (a1_1, a1_2, a0_2, false, true)) else (some (a1_1, a1_2, a0_2, true, decide (a0_2 > 0))))) = some (r1, r2, r3, r4, r5) := h
  clear h
  by_cases c3 : a1_0 = 80
  · rw [if_pos c3] at H
    have c3b0 : (a1_0 == 80) = true := beq_iff_eq.mpr c3
    have c3b1 : (a1_0 != 80) = false := bne_eq_false_iff_eq.mpr c3
    clear c3
    simp only [Option.some.injEq, Prod.mk.injEq] at H
    obtain ⟨rfl, rfl, rfl, rfl, rfl⟩ := H
    go_enter Try.func160, Try.ntmps160
    go_wp2_with (first | ((with_reducible refine gate_dst (N := 2) rfl ?_); refine box_event ?hg (N := 2) ?hd (cs := #[.int .i64 a0_0, .int .i64 a0_1, .int .i64 a0_2, .bool a0_3]) (t := 75) ?hr ?_; (case hd => rfl); (case hg => rfl); (case hr => first | (go_simp; done) | (go_simp; rfl)); intro gb894 hg w4 hbox hb; have n0_ := Aside0.mk (below_step (by repeat (first | (with_reducible first | exact HB.out | apply below_alloc | apply pw_below_drewN | apply below_drew1) | exact HB.out)) hb); have n1_ := Aside0.mk (hbox); have n2_ := Aside0.mk ((by rw [hg]; exact (below_size (by repeat (first | (with_reducible first | exact HB.out | apply below_alloc | apply pw_below_drewN | apply below_drew1) | exact HB.out))) : w.heap.size ≤ gb894)); have n3_ := Aside0.mk ((by rw [hg]; exact (below_size (by repeat (first | (with_reducible first | exact HB.out | apply below_alloc | apply pw_below_drewN | apply below_drew1) | exact HB.out))) : w.heap.size ≤ gb894)); clear HB; have HB := n0_; have BK894 := n1_; have GW894 := n2_; have GE894 := n3_; clear n0_ n1_ n2_ n3_; clear hb hbox hg) | ((with_reducible refine gate_dst (N := 3) rfl ?_); refine box_event ?hg (N := 3) ?hd (cs := #[.int .u8 a1_0, .int .i64 a1_1, .int .i64 a1_2]) (t := 137) ?hr ?_; (case hd => rfl); (case hg => rfl); (case hr => first | (go_simp; done) | (go_simp; rfl)); intro gb895 hg w5 hbox hb; have n0_ := Aside0.mk (blk_below (g := gb894) (o := .cells #[.int .i64 a0_0, .int .i64 a0_1, .int .i64 a0_2, .bool a0_3] 75 (0, 0)) (by (with_reducible repeat (first | refine blk_drewN ?_ _ | refine blk_drew ?_ | refine blk_alloc ?_ _)); exact BK894.out) hb); have n1_ := Aside0.mk (below_step (by repeat (first | (with_reducible first | exact HB.out | apply below_alloc | apply pw_below_drewN | apply below_drew1 | refine below_set ?_ GE894.out) | exact HB.out)) hb); have n2_ := Aside0.mk (hbox); have n3_ := Aside0.mk ((by rw [hg]; exact (below_size (by repeat (first | (with_reducible first | exact HB.out | apply below_alloc | apply pw_below_drewN | apply below_drew1 | refine below_set ?_ GE894.out) | exact HB.out))) : w.heap.size ≤ gb895)); have n4_ := Aside0.mk ((by rw [hg]; exact (below_size (by repeat (first | (with_reducible first | exact HB.out | apply below_alloc | apply pw_below_drewN | apply below_drew1 | refine below_set ?_ GE894.out) | exact HB.out))) : w.heap.size ≤ gb895)); have n5_ := Aside0.mk ((by rw [hg]; exact Nat.ne_of_lt (blk_lt (g := gb894) (o := .cells #[.int .i64 a0_0, .int .i64 a0_1, .int .i64 a0_2, .bool a0_3] 75 (0, 0)) (by (with_reducible repeat (first | refine blk_drewN ?_ _ | refine blk_drew ?_ | refine blk_alloc ?_ _)); exact BK894.out)) : gb894 ≠ gb895)); have n6_ := Aside0.mk ((by rw [hg]; exact Nat.ne_of_gt (blk_lt (g := gb894) (o := .cells #[.int .i64 a0_0, .int .i64 a0_1, .int .i64 a0_2, .bool a0_3] 75 (0, 0)) (by (with_reducible repeat (first | refine blk_drewN ?_ _ | refine blk_drew ?_ | refine blk_alloc ?_ _)); exact BK894.out)) : gb895 ≠ gb894)); clear BK894; clear HB; have BK894 := n0_; have HB := n1_; have BK895 := n2_; have GW895 := n3_; have GE895 := n4_; have NB894_895 := n5_; have NB895_894 := n6_; clear n0_ n1_ n2_ n3_ n4_ n5_ n6_; clear hb hbox hg) | ((with_reducible refine gate_dst (N := 4) rfl ?_); refine box_event ?hg (N := 4) ?hd (cs := #[.int .i64 0, .int .i64 0, .int .i64 0, .bool false]) (t := 75) ?hr ?_; (case hd => rfl); (case hg => rfl); (case hr => first | (go_simp; done) | (go_simp; rfl)); intro gb896 hg w6 hbox hb; have n0_ := Aside0.mk (blk_below (g := gb894) (o := .cells #[.int .i64 a0_0, .int .i64 a0_1, .int .i64 a0_2, .bool a0_3] 75 (0, 0)) (by (with_reducible repeat (first | refine blk_drewN ?_ _ | refine blk_drew ?_ | refine blk_alloc ?_ _)); exact BK894.out) hb); have n1_ := Aside0.mk (blk_below (g := gb895) (o := .cells #[.int .u8 a1_0, .int .i64 a1_1, .int .i64 a1_2] 137 (0, 0)) (by (with_reducible repeat (first | refine blk_drewN ?_ _ | refine blk_drew ?_ | refine blk_alloc ?_ _)); exact BK895.out) hb); have n2_ := Aside0.mk (below_step (by repeat (first | (with_reducible first | exact HB.out | apply below_alloc | apply pw_below_drewN | apply below_drew1 | refine below_set ?_ GE894.out | refine below_set ?_ GE895.out) | exact HB.out)) hb); have n3_ := Aside0.mk (hbox); have n4_ := Aside0.mk ((by rw [hg]; exact (below_size (by repeat (first | (with_reducible first | exact HB.out | apply below_alloc | apply pw_below_drewN | apply below_drew1 | refine below_set ?_ GE894.out | refine below_set ?_ GE895.out) | exact HB.out))) : w.heap.size ≤ gb896)); have n5_ := Aside0.mk ((by rw [hg]; exact (below_size (by repeat (first | (with_reducible first | exact HB.out | apply below_alloc | apply pw_below_drewN | apply below_drew1 | refine below_set ?_ GE894.out | refine below_set ?_ GE895.out) | exact HB.out))) : w.heap.size ≤ gb896)); have n6_ := Aside0.mk ((by rw [hg]; exact Nat.ne_of_lt (blk_lt (g := gb894) (o := .cells #[.int .i64 a0_0, .int .i64 a0_1, .int .i64 a0_2, .bool a0_3] 75 (0, 0)) (by (with_reducible repeat (first | refine blk_drewN ?_ _ | refine blk_drew ?_ | refine blk_alloc ?_ _)); exact BK894.out)) : gb894 ≠ gb896)); have n7_ := Aside0.mk ((by rw [hg]; exact Nat.ne_of_gt (blk_lt (g := gb894) (o := .cells #[.int .i64 a0_0, .int .i64 a0_1, .int .i64 a0_2, .bool a0_3] 75 (0, 0)) (by (with_reducible repeat (first | refine blk_drewN ?_ _ | refine blk_drew ?_ | refine blk_alloc ?_ _)); exact BK894.out)) : gb896 ≠ gb894)); have n8_ := Aside0.mk ((by rw [hg]; exact Nat.ne_of_lt (blk_lt (g := gb895) (o := .cells #[.int .u8 a1_0, .int .i64 a1_1, .int .i64 a1_2] 137 (0, 0)) (by (with_reducible repeat (first | refine blk_drewN ?_ _ | refine blk_drew ?_ | refine blk_alloc ?_ _)); exact BK895.out)) : gb895 ≠ gb896)); have n9_ := Aside0.mk ((by rw [hg]; exact Nat.ne_of_gt (blk_lt (g := gb895) (o := .cells #[.int .u8 a1_0, .int .i64 a1_1, .int .i64 a1_2] 137 (0, 0)) (by (with_reducible repeat (first | refine blk_drewN ?_ _ | refine blk_drew ?_ | refine blk_alloc ?_ _)); exact BK895.out)) : gb896 ≠ gb895)); clear BK894; clear BK895; clear HB; have BK894 := n0_; have BK895 := n1_; have HB := n2_; have BK896 := n3_; have GW896 := n4_; have GE896 := n5_; have NB894_896 := n6_; have NB896_894 := n7_; have NB895_896 := n8_; have NB896_895 := n9_; clear n0_ n1_ n2_ n3_ n4_ n5_ n6_ n7_ n8_ n9_; clear hb hbox hg; have hnb7 := NB895_894.out; have hnc7 := NB894_895.out; have hnb8 := NB895_896.out; have hnc8 := NB896_895.out; have hcz9_0 : w6.cell? ⟨gb895, 0, none⟩ = some (.int .u8 a1_0) := (blk_cell BK895.out 0).trans rfl; have hcz9_1 : w6.cell? ⟨gb895, 1, none⟩ = some (.int .i64 a1_1) := (blk_cell BK895.out 1).trans rfl; have hcz9_2 : w6.cell? ⟨gb895, 2, none⟩ = some (.int .i64 a1_2) := (blk_cell BK895.out 2).trans rfl; have hfz9_0 := blk_frozen BK895.out 0; have hfz9_1 := blk_frozen BK895.out 1; have hfz9_2 := blk_frozen BK895.out 2; have hnb10 := NB894_896.out; have hnc10 := NB896_894.out; have hcz11_0 : w6.cell? ⟨gb894, 0, none⟩ = some (.int .i64 a0_0) := (blk_cell BK894.out 0).trans rfl; have hcz11_1 : w6.cell? ⟨gb894, 1, none⟩ = some (.int .i64 a0_1) := (blk_cell BK894.out 1).trans rfl; have hcz11_2 : w6.cell? ⟨gb894, 2, none⟩ = some (.int .i64 a0_2) := (blk_cell BK894.out 2).trans rfl; have hcz11_3 : w6.cell? ⟨gb894, 3, none⟩ = some (.bool a0_3) := (blk_cell BK894.out 3).trans rfl; have hfz11_0 := blk_frozen BK894.out 0; have hfz11_1 := blk_frozen BK894.out 1; have hfz11_2 := blk_frozen BK894.out 2; have hfz11_3 := blk_frozen BK894.out 3; have hcz12_0 : w6.cell? ⟨gb896, 0, none⟩ = some (.int .i64 0) := (blk_cell BK896.out 0).trans rfl; have hcz12_1 : w6.cell? ⟨gb896, 1, none⟩ = some (.int .i64 0) := (blk_cell BK896.out 1).trans rfl; have hcz12_2 : w6.cell? ⟨gb896, 2, none⟩ = some (.int .i64 0) := (blk_cell BK896.out 2).trans rfl; have hcz12_3 : w6.cell? ⟨gb896, 3, none⟩ = some (.bool false) := (blk_cell BK896.out 3).trans rfl; have hfz12_0 := blk_frozen BK896.out 0; have hfz12_1 := blk_frozen BK896.out 1; have hfz12_2 := blk_frozen BK896.out 2; have hfz12_3 := blk_frozen BK896.out 3))
    refine bodyPost_ret (results_ct rfl _ _ gb896 75 #[.int .i64 a0_0, .int .i64 a0_1, .int .i64 a1_1, .bool false] (0, 0) _ rfl (by (with_reducible repeat (first | refine blk_drewN ?_ _ | refine blk_drew ?_ | refine blk_alloc ?_ _)); refine blk_put (cs := #[.int .i64 a0_0, .int .i64 a0_1, .int .i64 a1_1, .bool false]) ?_ 3 _ rfl; (with_reducible repeat (first | refine blk_drewN ?_ _ | refine blk_drew ?_ | refine blk_alloc ?_ _)); refine blk_put (cs := #[.int .i64 a0_0, .int .i64 a0_1, .int .i64 0, .bool false]) ?_ 2 _ rfl; (with_reducible repeat (first | refine blk_drewN ?_ _ | refine blk_drew ?_ | refine blk_alloc ?_ _)); refine blk_put (cs := #[.int .i64 a0_0, .int .i64 0, .int .i64 0, .bool false]) ?_ 1 _ rfl; (with_reducible repeat (first | refine blk_drewN ?_ _ | refine blk_drew ?_ | refine blk_alloc ?_ _)); refine blk_put (cs := #[.int .i64 0, .int .i64 0, .int .i64 0, .bool false]) ?_ 0 _ rfl; (with_reducible repeat (first | refine blk_drewN ?_ _ | refine blk_drew ?_ | refine blk_alloc ?_ _)); exact BK896.out) Try.underlying75 rfl (by kernel_rfl)) rfl ?_
    exact ⟨by first | rfl | (simp [errW_none, errW_some] <;> rfl) | (simp [*, errW_none, errW_some] <;> rfl), by repeat (first | (with_reducible first | exact HB.out | apply below_alloc | apply pw_below_drewN | apply below_drew1 | refine below_set ?_ GE894.out | refine below_set ?_ GE895.out | refine below_set ?_ GE896.out) | exact HB.out)⟩
  · rw [if_neg c3] at H
    have c3b0 : (a1_0 == 80) = false := beq_eq_false_iff_ne.mpr c3
    have c3b1 : (a1_0 != 80) = true := bne_iff_ne.mpr c3
    by_cases c13 : a1_0 = 85
    · rw [if_pos c13] at H
      have c13b0 : (a1_0 == 85) = true := beq_iff_eq.mpr c13
      have c13b1 : (a1_0 != 85) = false := bne_eq_false_iff_eq.mpr c13
      clear c13
      simp only [Option.some.injEq, Prod.mk.injEq] at H
      obtain ⟨rfl, rfl, rfl, rfl, rfl⟩ := H
      go_enter Try.func160, Try.ntmps160
      go_wp2_with (first | ((with_reducible refine gate_dst (N := 2) rfl ?_); refine box_event ?hg (N := 2) ?hd (cs := #[.int .i64 a0_0, .int .i64 a0_1, .int .i64 a0_2, .bool a0_3]) (t := 75) ?hr ?_; (case hd => rfl); (case hg => rfl); (case hr => first | (go_simp; done) | (go_simp; rfl)); intro gb894 hg w14 hbox hb; have n0_ := Aside0.mk (below_step (by repeat (first | (with_reducible first | exact HB.out | apply below_alloc | apply pw_below_drewN | apply below_drew1) | exact HB.out)) hb); have n1_ := Aside0.mk (hbox); have n2_ := Aside0.mk ((by rw [hg]; exact (below_size (by repeat (first | (with_reducible first | exact HB.out | apply below_alloc | apply pw_below_drewN | apply below_drew1) | exact HB.out))) : w.heap.size ≤ gb894)); have n3_ := Aside0.mk ((by rw [hg]; exact (below_size (by repeat (first | (with_reducible first | exact HB.out | apply below_alloc | apply pw_below_drewN | apply below_drew1) | exact HB.out))) : w.heap.size ≤ gb894)); clear HB; have HB := n0_; have BK894 := n1_; have GW894 := n2_; have GE894 := n3_; clear n0_ n1_ n2_ n3_; clear hb hbox hg) | ((with_reducible refine gate_dst (N := 3) rfl ?_); refine box_event ?hg (N := 3) ?hd (cs := #[.int .u8 a1_0, .int .i64 a1_1, .int .i64 a1_2]) (t := 137) ?hr ?_; (case hd => rfl); (case hg => rfl); (case hr => first | (go_simp; done) | (go_simp; rfl)); intro gb895 hg w15 hbox hb; have n0_ := Aside0.mk (blk_below (g := gb894) (o := .cells #[.int .i64 a0_0, .int .i64 a0_1, .int .i64 a0_2, .bool a0_3] 75 (0, 0)) (by (with_reducible repeat (first | refine blk_drewN ?_ _ | refine blk_drew ?_ | refine blk_alloc ?_ _)); exact BK894.out) hb); have n1_ := Aside0.mk (below_step (by repeat (first | (with_reducible first | exact HB.out | apply below_alloc | apply pw_below_drewN | apply below_drew1 | refine below_set ?_ GE894.out) | exact HB.out)) hb); have n2_ := Aside0.mk (hbox); have n3_ := Aside0.mk ((by rw [hg]; exact (below_size (by repeat (first | (with_reducible first | exact HB.out | apply below_alloc | apply pw_below_drewN | apply below_drew1 | refine below_set ?_ GE894.out) | exact HB.out))) : w.heap.size ≤ gb895)); have n4_ := Aside0.mk ((by rw [hg]; exact (below_size (by repeat (first | (with_reducible first | exact HB.out | apply below_alloc | apply pw_below_drewN | apply below_drew1 | refine below_set ?_ GE894.out) | exact HB.out))) : w.heap.size ≤ gb895)); have n5_ := Aside0.mk ((by rw [hg]; exact Nat.ne_of_lt (blk_lt (g := gb894) (o := .cells #[.int .i64 a0_0, .int .i64 a0_1, .int .i64 a0_2, .bool a0_3] 75 (0, 0)) (by (with_reducible repeat (first | refine blk_drewN ?_ _ | refine blk_drew ?_ | refine blk_alloc ?_ _)); exact BK894.out)) : gb894 ≠ gb895)); have n6_ := Aside0.mk ((by rw [hg]; exact Nat.ne_of_gt (blk_lt (g := gb894) (o := .cells #[.int .i64 a0_0, .int .i64 a0_1, .int .i64 a0_2, .bool a0_3] 75 (0, 0)) (by (with_reducible repeat (first | refine blk_drewN ?_ _ | refine blk_drew ?_ | refine blk_alloc ?_ _)); exact BK894.out)) : gb895 ≠ gb894)); clear BK894; clear HB; have BK894 := n0_; have HB := n1_; have BK895 := n2_; have GW895 := n3_; have GE895 := n4_; have NB894_895 := n5_; have NB895_894 := n6_; clear n0_ n1_ n2_ n3_ n4_ n5_ n6_; clear hb hbox hg) | ((with_reducible refine gate_dst (N := 4) rfl ?_); refine box_event ?hg (N := 4) ?hd (cs := #[.int .i64 0, .int .i64 0, .int .i64 0, .bool false]) (t := 75) ?hr ?_; (case hd => rfl); (case hg => rfl); (case hr => first | (go_simp; done) | (go_simp; rfl)); intro gb896 hg w16 hbox hb; have n0_ := Aside0.mk (blk_below (g := gb894) (o := .cells #[.int .i64 a0_0, .int .i64 a0_1, .int .i64 a0_2, .bool a0_3] 75 (0, 0)) (by (with_reducible repeat (first | refine blk_drewN ?_ _ | refine blk_drew ?_ | refine blk_alloc ?_ _)); exact BK894.out) hb); have n1_ := Aside0.mk (blk_below (g := gb895) (o := .cells #[.int .u8 a1_0, .int .i64 a1_1, .int .i64 a1_2] 137 (0, 0)) (by (with_reducible repeat (first | refine blk_drewN ?_ _ | refine blk_drew ?_ | refine blk_alloc ?_ _)); exact BK895.out) hb); have n2_ := Aside0.mk (below_step (by repeat (first | (with_reducible first | exact HB.out | apply below_alloc | apply pw_below_drewN | apply below_drew1 | refine below_set ?_ GE894.out | refine below_set ?_ GE895.out) | exact HB.out)) hb); have n3_ := Aside0.mk (hbox); have n4_ := Aside0.mk ((by rw [hg]; exact (below_size (by repeat (first | (with_reducible first | exact HB.out | apply below_alloc | apply pw_below_drewN | apply below_drew1 | refine below_set ?_ GE894.out | refine below_set ?_ GE895.out) | exact HB.out))) : w.heap.size ≤ gb896)); have n5_ := Aside0.mk ((by rw [hg]; exact (below_size (by repeat (first | (with_reducible first | exact HB.out | apply below_alloc | apply pw_below_drewN | apply below_drew1 | refine below_set ?_ GE894.out | refine below_set ?_ GE895.out) | exact HB.out))) : w.heap.size ≤ gb896)); have n6_ := Aside0.mk ((by rw [hg]; exact Nat.ne_of_lt (blk_lt (g := gb894) (o := .cells #[.int .i64 a0_0, .int .i64 a0_1, .int .i64 a0_2, .bool a0_3] 75 (0, 0)) (by (with_reducible repeat (first | refine blk_drewN ?_ _ | refine blk_drew ?_ | refine blk_alloc ?_ _)); exact BK894.out)) : gb894 ≠ gb896)); have n7_ := Aside0.mk ((by rw [hg]; exact Nat.ne_of_gt (blk_lt (g := gb894) (o := .cells #[.int .i64 a0_0, .int .i64 a0_1, .int .i64 a0_2, .bool a0_3] 75 (0, 0)) (by (with_reducible repeat (first | refine blk_drewN ?_ _ | refine blk_drew ?_ | refine blk_alloc ?_ _)); exact BK894.out)) : gb896 ≠ gb894)); have n8_ := Aside0.mk ((by rw [hg]; exact Nat.ne_of_lt (blk_lt (g := gb895) (o := .cells #[.int .u8 a1_0, .int .i64 a1_1, .int .i64 a1_2] 137 (0, 0)) (by (with_reducible repeat (first | refine blk_drewN ?_ _ | refine blk_drew ?_ | refine blk_alloc ?_ _)); exact BK895.out)) : gb895 ≠ gb896)); have n9_ := Aside0.mk ((by rw [hg]; exact Nat.ne_of_gt (blk_lt (g := gb895) (o := .cells #[.int .u8 a1_0, .int .i64 a1_1, .int .i64 a1_2] 137 (0, 0)) (by (with_reducible repeat (first | refine blk_drewN ?_ _ | refine blk_drew ?_ | refine blk_alloc ?_ _)); exact BK895.out)) : gb896 ≠ gb895)); clear BK894; clear BK895; clear HB; have BK894 := n0_; have BK895 := n1_; have HB := n2_; have BK896 := n3_; have GW896 := n4_; have GE896 := n5_; have NB894_896 := n6_; have NB896_894 := n7_; have NB895_896 := n8_; have NB896_895 := n9_; clear n0_ n1_ n2_ n3_ n4_ n5_ n6_ n7_ n8_ n9_; clear hb hbox hg; have hnb17 := NB895_894.out; have hnc17 := NB894_895.out; have hnb18 := NB895_896.out; have hnc18 := NB896_895.out; have hcz19_0 : w16.cell? ⟨gb895, 0, none⟩ = some (.int .u8 a1_0) := (blk_cell BK895.out 0).trans rfl; have hcz19_1 : w16.cell? ⟨gb895, 1, none⟩ = some (.int .i64 a1_1) := (blk_cell BK895.out 1).trans rfl; have hcz19_2 : w16.cell? ⟨gb895, 2, none⟩ = some (.int .i64 a1_2) := (blk_cell BK895.out 2).trans rfl; have hfz19_0 := blk_frozen BK895.out 0; have hfz19_1 := blk_frozen BK895.out 1; have hfz19_2 := blk_frozen BK895.out 2; have hnb20 := NB894_896.out; have hnc20 := NB896_894.out; have hcz21_0 : w16.cell? ⟨gb894, 0, none⟩ = some (.int .i64 a0_0) := (blk_cell BK894.out 0).trans rfl; have hcz21_1 : w16.cell? ⟨gb894, 1, none⟩ = some (.int .i64 a0_1) := (blk_cell BK894.out 1).trans rfl; have hcz21_2 : w16.cell? ⟨gb894, 2, none⟩ = some (.int .i64 a0_2) := (blk_cell BK894.out 2).trans rfl; have hcz21_3 : w16.cell? ⟨gb894, 3, none⟩ = some (.bool a0_3) := (blk_cell BK894.out 3).trans rfl; have hfz21_0 := blk_frozen BK894.out 0; have hfz21_1 := blk_frozen BK894.out 1; have hfz21_2 := blk_frozen BK894.out 2; have hfz21_3 := blk_frozen BK894.out 3; have hcz22_0 : w16.cell? ⟨gb896, 0, none⟩ = some (.int .i64 0) := (blk_cell BK896.out 0).trans rfl; have hcz22_1 : w16.cell? ⟨gb896, 1, none⟩ = some (.int .i64 0) := (blk_cell BK896.out 1).trans rfl; have hcz22_2 : w16.cell? ⟨gb896, 2, none⟩ = some (.int .i64 0) := (blk_cell BK896.out 2).trans rfl; have hcz22_3 : w16.cell? ⟨gb896, 3, none⟩ = some (.bool false) := (blk_cell BK896.out 3).trans rfl; have hfz22_0 := blk_frozen BK896.out 0; have hfz22_1 := blk_frozen BK896.out 1; have hfz22_2 := blk_frozen BK896.out 2; have hfz22_3 := blk_frozen BK896.out 3))
      refine bodyPost_ret (results_ct rfl _ _ gb896 75 #[.int .i64 a1_1, .int .i64 a1_2, .int .i64 a0_2, .bool false] (0, 0) _ rfl (by (with_reducible repeat (first | refine blk_drewN ?_ _ | refine blk_drew ?_ | refine blk_alloc ?_ _)); refine blk_put (cs := #[.int .i64 a1_1, .int .i64 a1_2, .int .i64 a0_2, .bool false]) ?_ 3 _ rfl; (with_reducible repeat (first | refine blk_drewN ?_ _ | refine blk_drew ?_ | refine blk_alloc ?_ _)); refine blk_put (cs := #[.int .i64 a1_1, .int .i64 a1_2, .int .i64 0, .bool false]) ?_ 2 _ rfl; (with_reducible repeat (first | refine blk_drewN ?_ _ | refine blk_drew ?_ | refine blk_alloc ?_ _)); refine blk_put (cs := #[.int .i64 a1_1, .int .i64 0, .int .i64 0, .bool false]) ?_ 1 _ rfl; (with_reducible repeat (first | refine blk_drewN ?_ _ | refine blk_drew ?_ | refine blk_alloc ?_ _)); refine blk_put (cs := #[.int .i64 0, .int .i64 0, .int .i64 0, .bool false]) ?_ 0 _ rfl; (with_reducible repeat (first | refine blk_drewN ?_ _ | refine blk_drew ?_ | refine blk_alloc ?_ _)); exact BK896.out) Try.underlying75 rfl (by kernel_rfl)) rfl ?_
      exact ⟨by first | rfl | (simp [errW_none, errW_some] <;> rfl) | (simp [*, errW_none, errW_some] <;> rfl), by repeat (first | (with_reducible first | exact HB.out | apply below_alloc | apply pw_below_drewN | apply below_drew1 | refine below_set ?_ GE894.out | refine below_set ?_ GE895.out | refine below_set ?_ GE896.out) | exact HB.out)⟩
    · rw [if_neg c13] at H
      have c13b0 : (a1_0 == 85) = false := beq_eq_false_iff_ne.mpr c13
      have c13b1 : (a1_0 != 85) = true := bne_iff_ne.mpr c13
      simp only [Option.some.injEq, Prod.mk.injEq] at H
      obtain ⟨rfl, rfl, rfl, rfl, rfl⟩ := H
      go_enter Try.func160, Try.ntmps160
      try go_wp2_with (first | ((with_reducible refine gate_dst (N := 2) rfl ?_); refine box_event ?hg (N := 2) ?hd (cs := #[.int .i64 a0_0, .int .i64 a0_1, .int .i64 a0_2, .bool a0_3]) (t := 75) ?hr ?_; (case hd => rfl); (case hg => rfl); (case hr => first | (go_simp; done) | (go_simp; rfl)); intro gb894 hg w23 hbox hb; have n0_ := Aside0.mk (below_step (by repeat (first | (with_reducible first | exact HB.out | apply below_alloc | apply pw_below_drewN | apply below_drew1) | exact HB.out)) hb); have n1_ := Aside0.mk (hbox); have n2_ := Aside0.mk ((by rw [hg]; exact (below_size (by repeat (first | (with_reducible first | exact HB.out | apply below_alloc | apply pw_below_drewN | apply below_drew1) | exact HB.out))) : w.heap.size ≤ gb894)); have n3_ := Aside0.mk ((by rw [hg]; exact (below_size (by repeat (first | (with_reducible first | exact HB.out | apply below_alloc | apply pw_below_drewN | apply below_drew1) | exact HB.out))) : w.heap.size ≤ gb894)); clear HB; have HB := n0_; have BK894 := n1_; have GW894 := n2_; have GE894 := n3_; clear n0_ n1_ n2_ n3_; clear hb hbox hg) | ((with_reducible refine gate_dst (N := 3) rfl ?_); refine box_event ?hg (N := 3) ?hd (cs := #[.int .u8 a1_0, .int .i64 a1_1, .int .i64 a1_2]) (t := 137) ?hr ?_; (case hd => rfl); (case hg => rfl); (case hr => first | (go_simp; done) | (go_simp; rfl)); intro gb895 hg w24 hbox hb; have n0_ := Aside0.mk (blk_below (g := gb894) (o := .cells #[.int .i64 a0_0, .int .i64 a0_1, .int .i64 a0_2, .bool a0_3] 75 (0, 0)) (by (with_reducible repeat (first | refine blk_drewN ?_ _ | refine blk_drew ?_ | refine blk_alloc ?_ _)); exact BK894.out) hb); have n1_ := Aside0.mk (below_step (by repeat (first | (with_reducible first | exact HB.out | apply below_alloc | apply pw_below_drewN | apply below_drew1 | refine below_set ?_ GE894.out) | exact HB.out)) hb); have n2_ := Aside0.mk (hbox); have n3_ := Aside0.mk ((by rw [hg]; exact (below_size (by repeat (first | (with_reducible first | exact HB.out | apply below_alloc | apply pw_below_drewN | apply below_drew1 | refine below_set ?_ GE894.out) | exact HB.out))) : w.heap.size ≤ gb895)); have n4_ := Aside0.mk ((by rw [hg]; exact (below_size (by repeat (first | (with_reducible first | exact HB.out | apply below_alloc | apply pw_below_drewN | apply below_drew1 | refine below_set ?_ GE894.out) | exact HB.out))) : w.heap.size ≤ gb895)); have n5_ := Aside0.mk ((by rw [hg]; exact Nat.ne_of_lt (blk_lt (g := gb894) (o := .cells #[.int .i64 a0_0, .int .i64 a0_1, .int .i64 a0_2, .bool a0_3] 75 (0, 0)) (by (with_reducible repeat (first | refine blk_drewN ?_ _ | refine blk_drew ?_ | refine blk_alloc ?_ _)); exact BK894.out)) : gb894 ≠ gb895)); have n6_ := Aside0.mk ((by rw [hg]; exact Nat.ne_of_gt (blk_lt (g := gb894) (o := .cells #[.int .i64 a0_0, .int .i64 a0_1, .int .i64 a0_2, .bool a0_3] 75 (0, 0)) (by (with_reducible repeat (first | refine blk_drewN ?_ _ | refine blk_drew ?_ | refine blk_alloc ?_ _)); exact BK894.out)) : gb895 ≠ gb894)); clear BK894; clear HB; have BK894 := n0_; have HB := n1_; have BK895 := n2_; have GW895 := n3_; have GE895 := n4_; have NB894_895 := n5_; have NB895_894 := n6_; clear n0_ n1_ n2_ n3_ n4_ n5_ n6_; clear hb hbox hg) | ((with_reducible refine gate_dst (N := 4) rfl ?_); refine box_event ?hg (N := 4) ?hd (cs := #[.int .i64 0, .int .i64 0, .int .i64 0, .bool false]) (t := 75) ?hr ?_; (case hd => rfl); (case hg => rfl); (case hr => first | (go_simp; done) | (go_simp; rfl)); intro gb896 hg w25 hbox hb; have n0_ := Aside0.mk (blk_below (g := gb894) (o := .cells #[.int .i64 a0_0, .int .i64 a0_1, .int .i64 a0_2, .bool a0_3] 75 (0, 0)) (by (with_reducible repeat (first | refine blk_drewN ?_ _ | refine blk_drew ?_ | refine blk_alloc ?_ _)); exact BK894.out) hb); have n1_ := Aside0.mk (blk_below (g := gb895) (o := .cells #[.int .u8 a1_0, .int .i64 a1_1, .int .i64 a1_2] 137 (0, 0)) (by (with_reducible repeat (first | refine blk_drewN ?_ _ | refine blk_drew ?_ | refine blk_alloc ?_ _)); exact BK895.out) hb); have n2_ := Aside0.mk (below_step (by repeat (first | (with_reducible first | exact HB.out | apply below_alloc | apply pw_below_drewN | apply below_drew1 | refine below_set ?_ GE894.out | refine below_set ?_ GE895.out) | exact HB.out)) hb); have n3_ := Aside0.mk (hbox); have n4_ := Aside0.mk ((by rw [hg]; exact (below_size (by repeat (first | (with_reducible first | exact HB.out | apply below_alloc | apply pw_below_drewN | apply below_drew1 | refine below_set ?_ GE894.out | refine below_set ?_ GE895.out) | exact HB.out))) : w.heap.size ≤ gb896)); have n5_ := Aside0.mk ((by rw [hg]; exact (below_size (by repeat (first | (with_reducible first | exact HB.out | apply below_alloc | apply pw_below_drewN | apply below_drew1 | refine below_set ?_ GE894.out | refine below_set ?_ GE895.out) | exact HB.out))) : w.heap.size ≤ gb896)); have n6_ := Aside0.mk ((by rw [hg]; exact Nat.ne_of_lt (blk_lt (g := gb894) (o := .cells #[.int .i64 a0_0, .int .i64 a0_1, .int .i64 a0_2, .bool a0_3] 75 (0, 0)) (by (with_reducible repeat (first | refine blk_drewN ?_ _ | refine blk_drew ?_ | refine blk_alloc ?_ _)); exact BK894.out)) : gb894 ≠ gb896)); have n7_ := Aside0.mk ((by rw [hg]; exact Nat.ne_of_gt (blk_lt (g := gb894) (o := .cells #[.int .i64 a0_0, .int .i64 a0_1, .int .i64 a0_2, .bool a0_3] 75 (0, 0)) (by (with_reducible repeat (first | refine blk_drewN ?_ _ | refine blk_drew ?_ | refine blk_alloc ?_ _)); exact BK894.out)) : gb896 ≠ gb894)); have n8_ := Aside0.mk ((by rw [hg]; exact Nat.ne_of_lt (blk_lt (g := gb895) (o := .cells #[.int .u8 a1_0, .int .i64 a1_1, .int .i64 a1_2] 137 (0, 0)) (by (with_reducible repeat (first | refine blk_drewN ?_ _ | refine blk_drew ?_ | refine blk_alloc ?_ _)); exact BK895.out)) : gb895 ≠ gb896)); have n9_ := Aside0.mk ((by rw [hg]; exact Nat.ne_of_gt (blk_lt (g := gb895) (o := .cells #[.int .u8 a1_0, .int .i64 a1_1, .int .i64 a1_2] 137 (0, 0)) (by (with_reducible repeat (first | refine blk_drewN ?_ _ | refine blk_drew ?_ | refine blk_alloc ?_ _)); exact BK895.out)) : gb896 ≠ gb895)); clear BK894; clear BK895; clear HB; have BK894 := n0_; have BK895 := n1_; have HB := n2_; have BK896 := n3_; have GW896 := n4_; have GE896 := n5_; have NB894_896 := n6_; have NB896_894 := n7_; have NB895_896 := n8_; have NB896_895 := n9_; clear n0_ n1_ n2_ n3_ n4_ n5_ n6_ n7_ n8_ n9_; clear hb hbox hg; have hnb26 := NB895_894.out; have hnc26 := NB894_895.out; have hnb27 := NB895_896.out; have hnc27 := NB896_895.out; have hcz28_0 : w25.cell? ⟨gb895, 0, none⟩ = some (.int .u8 a1_0) := (blk_cell BK895.out 0).trans rfl; have hcz28_1 : w25.cell? ⟨gb895, 1, none⟩ = some (.int .i64 a1_1) := (blk_cell BK895.out 1).trans rfl; have hcz28_2 : w25.cell? ⟨gb895, 2, none⟩ = some (.int .i64 a1_2) := (blk_cell BK895.out 2).trans rfl; have hfz28_0 := blk_frozen BK895.out 0; have hfz28_1 := blk_frozen BK895.out 1; have hfz28_2 := blk_frozen BK895.out 2))
      have n0_ := Aside0.mk (blk_drew BK894.out)
      have n1_ := Aside0.mk (blk_drew BK895.out)
      have n2_ := Aside0.mk (blk_drew BK896.out)
      have n3_ := Aside0.mk (below_drew1 HB.out)
      clear BK894
      clear BK895
      clear BK896
      clear HB
      have BK894 := n0_
      have BK895 := n1_
      have BK896 := n2_
      have HB := n3_
      clear n0_ n1_ n2_ n3_
      refine start_ (n := 12) (S := fun w' => w'.cell? ⟨gb895, 0, none⟩ = some (.int .u8 a1_0) ∧ w'.cell? ⟨gb895, 1, none⟩ = some (.int .i64 a1_1) ∧ w'.cell? ⟨gb895, 2, none⟩ = some (.int .i64 a1_2) ∧ w'.cell? ⟨gb894, 0, none⟩ = some (.int .i64 a0_0) ∧ w'.cell? ⟨gb894, 1, none⟩ = some (.int .i64 a0_1) ∧ w'.cell? ⟨gb894, 2, none⟩ = some (.int .i64 a0_2) ∧ w'.cell? ⟨gb894, 3, none⟩ = some (.bool a0_3)) (ds := []) #[false, false, false, false, false, false, false, false, false, false, false, false] (by kernel_rfl) rfl rfl ⟨(blk_cell BK895.out 0).trans rfl, (blk_cell BK895.out 1).trans rfl, (blk_cell BK895.out 2).trans rfl, (blk_cell BK894.out 0).trans rfl, (blk_cell BK894.out 1).trans rfl, (blk_cell BK894.out 2).trans rfl, (blk_cell BK894.out 3).trans rfl⟩ (fun hHeld => ?_); refine with_tabW impl_Plotter_step.tab6 impl_Plotter_step.bits6 (fun HT_ HW_ => ?_)
      generalize w25.drew = w29 at BK894 BK895 BK896 HB hHeld ⊢
      refine pure_ (i := 0) (N := some 26) (v := ?_) (a' := ?_) #[true, false, false, false, false, false, false, false, false, false, false, false] rfl rfl (any_of HT_.out (by kernel_rfl)) (fun _ _ _ h => h) (Or.inl ⟨by rfl, ?_⟩) ?_ ?_
      rotate_left
      · intro w'
        go_simp
        with_reducible rfl
      rotate_left
      · simp only [Act.put, List.setIfInBounds_toArray, List.set_cons_zero, List.set_cons_succ, i64_w, i32_w]
        rfl
      refine pure_ (i := 2) (N := some 28) (v := ?_) (a' := ?_) #[true, false, true, false, false, false, false, false, false, false, false, false] rfl rfl (any_of HT_.out (by kernel_rfl)) (fun _ _ _ h => h) (Or.inl ⟨by rfl, ?_⟩) ?_ ?_
      rotate_left
      · intro w'
        go_simp
        with_reducible rfl
      rotate_left
      · simp only [Act.put, List.setIfInBounds_toArray, List.set_cons_zero, List.set_cons_succ, i64_w, i32_w]
        rfl
      refine pure_ (i := 4) (N := some 30) (v := ?_) (a' := ?_) #[true, false, true, false, true, false, false, false, false, false, false, false] rfl rfl (any_of HT_.out (by kernel_rfl)) (fun _ _ _ h => h) (Or.inl ⟨by rfl, ?_⟩) ?_ ?_
      rotate_left
      · intro w'
        go_simp
        with_reducible rfl
      rotate_left
      · simp only [Act.put, List.setIfInBounds_toArray, List.set_cons_zero, List.set_cons_succ, i64_w, i32_w]
        rfl
      refine pure_ (i := 7) (N := some 33) (v := ?_) (a' := ?_) #[true, false, true, false, true, false, false, true, false, false, false, false] rfl rfl (any_of HT_.out (by kernel_rfl)) (fun _ _ _ h => h) (Or.inl ⟨by rfl, ?_⟩) ?_ ?_
      rotate_left
      · intro w'
        go_simp
        with_reducible rfl
      rotate_left
      · simp only [Act.put, List.setIfInBounds_toArray, List.set_cons_zero, List.set_cons_succ, i64_w, i32_w]
        rfl
      refine take_ (i := 1) (N := some 27) (v := ?_) (a' := ?_) #[true, true, true, false, true, false, false, true, false, false, false, false] rfl rfl (take_ofW HT_.out HW_.out (by kernel_rfl)) (fun _ _ _ h => h) (Or.inl ⟨by rfl, ?_⟩) hHeld ?_ ?_
      rotate_left
      · rintro w' ⟨s0, s1, s2, s3, s4, s5, s6⟩
        go_simp
        with_reducible rfl
      rotate_left
      · simp only [Act.put, List.setIfInBounds_toArray, List.set_cons_zero, List.set_cons_succ, i64_w, i32_w]
        rfl
      refine take_ (i := 3) (N := some 29) (v := ?_) (a' := ?_) #[true, true, true, true, true, false, false, true, false, false, false, false] rfl rfl (take_ofW HT_.out HW_.out (by kernel_rfl)) (fun _ _ _ h => h) (Or.inl ⟨by rfl, ?_⟩) hHeld ?_ ?_
      rotate_left
      · rintro w' ⟨s0, s1, s2, s3, s4, s5, s6⟩
        go_simp
        with_reducible rfl
      rotate_left
      · simp only [Act.put, List.setIfInBounds_toArray, List.set_cons_zero, List.set_cons_succ, i64_w, i32_w]
        rfl
      refine take_ (i := 5) (N := some 31) (v := ?_) (a' := ?_) #[true, true, true, true, true, true, false, true, false, false, false, false] rfl rfl (take_ofW HT_.out HW_.out (by kernel_rfl)) (fun _ _ _ h => h) (Or.inl ⟨by rfl, ?_⟩) hHeld ?_ ?_
      rotate_left
      · rintro w' ⟨s0, s1, s2, s3, s4, s5, s6⟩
        go_simp
        with_reducible rfl
      rotate_left
      · simp only [Act.put, List.setIfInBounds_toArray, List.set_cons_zero, List.set_cons_succ, i64_w, i32_w]
        rfl
      refine pure_ (i := 6) (N := some 32) (v := ?_) (a' := ?_) #[true, true, true, true, true, true, true, true, false, false, false, false] rfl rfl (any_of HT_.out (by kernel_rfl)) (fun _ _ _ h => h) (Or.inl ⟨by rfl, ?_⟩) ?_ ?_
      rotate_left
      · intro w'
        go_simp
        with_reducible rfl
      rotate_left
      · simp only [Act.put, List.setIfInBounds_toArray, List.set_cons_zero, List.set_cons_succ, i64_w, i32_w]
        rfl
      refine take_ (i := 8) (N := some 34) (v := ?_) (a' := ?_) #[true, true, true, true, true, true, true, true, true, false, false, false] rfl rfl (take_ofW HT_.out HW_.out (by kernel_rfl)) (fun _ _ _ h => h) (Or.inl ⟨by rfl, ?_⟩) hHeld ?_ ?_
      rotate_left
      · rintro w' ⟨s0, s1, s2, s3, s4, s5, s6⟩
        go_simp
        with_reducible rfl
      rotate_left
      · simp only [Act.put, List.setIfInBounds_toArray, List.set_cons_zero, List.set_cons_succ, i64_w, i32_w]
        rfl
      refine pure_ (i := 9) (N := some 35) (v := ?_) (a' := ?_) #[true, true, true, true, true, true, true, true, true, true, false, false] rfl rfl (any_of HT_.out (by kernel_rfl)) (fun _ _ _ h => h) (Or.inl ⟨by rfl, ?_⟩) ?_ ?_
      rotate_left
      · intro w'
        go_simp
        with_reducible rfl
      rotate_left
      · simp only [Act.put, List.setIfInBounds_toArray, List.set_cons_zero, List.set_cons_succ, i64_w, i32_w]
        rfl
      refine one_ (i := 10) (N := none) #[true, true, true, true, true, true, true, true, true, true, true, false] rfl rfl (one_of HT_.out (by kernel_rfl)) (by decide) (fun K hK => ?_)
      have hs30 : w29.cell? ⟨gb896, 0, none⟩ = some (.int .i64 0) := (blk_cell BK896.out 0).trans rfl
      have hfs30 := blk_frozen BK896.out 0
      have hns30_0 := NB894_896.out
      have hns30_1 := NB895_896.out
      have hms30_0 := NB896_894.out
      have hms30_1 := NB896_895.out
      have hs31 : w29.cell? ⟨gb896, 1, none⟩ = some (.int .i64 0) := (blk_cell BK896.out 1).trans rfl
      have hfs31 := blk_frozen BK896.out 1
      have hns31_0 := NB894_896.out
      have hns31_1 := NB895_896.out
      have hms31_0 := NB896_894.out
      have hms31_1 := NB896_895.out
      have hs32 : w29.cell? ⟨gb896, 2, none⟩ = some (.int .i64 0) := (blk_cell BK896.out 2).trans rfl
      have hfs32 := blk_frozen BK896.out 2
      have hns32_0 := NB894_896.out
      have hns32_1 := NB895_896.out
      have hms32_0 := NB896_894.out
      have hms32_1 := NB896_895.out
      have hs33 : w29.cell? ⟨gb896, 3, none⟩ = some (.bool false) := (blk_cell BK896.out 3).trans rfl
      have hfs33 := blk_frozen BK896.out 3
      have hns33_0 := NB894_896.out
      have hns33_1 := NB895_896.out
      have hms33_0 := NB896_894.out
      have hms33_1 := NB896_895.out
      refine skip_ (w1 := ?_) (by rfl) rfl ?_ ?_
      rotate_left
      · go_simp
        rfl
      refine hK.out _ _ ⟨((cell_far (p := ⟨gb896, _, none⟩) NB895_896.out _).trans (((cell_far (p := ⟨gb896, _, none⟩) NB895_896.out _).trans (((cell_far (p := ⟨gb896, _, none⟩) NB895_896.out _).trans (((cell_far (p := ⟨gb896, _, none⟩) NB895_896.out _).trans (hHeld.1)))))))), ((cell_far (p := ⟨gb896, _, none⟩) NB895_896.out _).trans (((cell_far (p := ⟨gb896, _, none⟩) NB895_896.out _).trans (((cell_far (p := ⟨gb896, _, none⟩) NB895_896.out _).trans (((cell_far (p := ⟨gb896, _, none⟩) NB895_896.out _).trans (hHeld.2.1)))))))), ((cell_far (p := ⟨gb896, _, none⟩) NB895_896.out _).trans (((cell_far (p := ⟨gb896, _, none⟩) NB895_896.out _).trans (((cell_far (p := ⟨gb896, _, none⟩) NB895_896.out _).trans (((cell_far (p := ⟨gb896, _, none⟩) NB895_896.out _).trans (hHeld.2.2.1)))))))), ((cell_far (p := ⟨gb896, _, none⟩) NB894_896.out _).trans (((cell_far (p := ⟨gb896, _, none⟩) NB894_896.out _).trans (((cell_far (p := ⟨gb896, _, none⟩) NB894_896.out _).trans (((cell_far (p := ⟨gb896, _, none⟩) NB894_896.out _).trans (hHeld.2.2.2.1)))))))), ((cell_far (p := ⟨gb896, _, none⟩) NB894_896.out _).trans (((cell_far (p := ⟨gb896, _, none⟩) NB894_896.out _).trans (((cell_far (p := ⟨gb896, _, none⟩) NB894_896.out _).trans (((cell_far (p := ⟨gb896, _, none⟩) NB894_896.out _).trans (hHeld.2.2.2.2.1)))))))), ((cell_far (p := ⟨gb896, _, none⟩) NB894_896.out _).trans (((cell_far (p := ⟨gb896, _, none⟩) NB894_896.out _).trans (((cell_far (p := ⟨gb896, _, none⟩) NB894_896.out _).trans (((cell_far (p := ⟨gb896, _, none⟩) NB894_896.out _).trans (hHeld.2.2.2.2.2.1)))))))), ((cell_far (p := ⟨gb896, _, none⟩) NB894_896.out _).trans (((cell_far (p := ⟨gb896, _, none⟩) NB894_896.out _).trans (((cell_far (p := ⟨gb896, _, none⟩) NB894_896.out _).trans (((cell_far (p := ⟨gb896, _, none⟩) NB894_896.out _).trans (hHeld.2.2.2.2.2.2))))))))⟩ (fun hHeld => ?_)
      clear hK K
      refine pure_ (i := 11) (N := some 5) (v := ?_) (a' := ?_) #[true, true, true, true, true, true, true, true, true, true, true, true] rfl rfl (any_of HT_.out (by kernel_rfl)) (fun _ _ _ h => h) (Or.inl ⟨by rfl, ?_⟩) ?_ ?_
      rotate_left
      · intro w'
        go_simp
        with_reducible rfl
      rotate_left
      · simp only [Act.put, List.setIfInBounds_toArray, List.set_cons_zero, List.set_cons_succ, i64_w, i32_w]
        rfl
      refine done_ (done_of HT_.out (by kernel_rfl)) ?_
      try go_wp2
      refine bodyPost_ret (results_ct rfl _ _ gb896 75 #[.int .i64 a1_1, .int .i64 a1_2, .int .i64 a0_2, .bool true] (0, 0) _ rfl (by (with_reducible repeat (first | refine blk_drewN ?_ _ | refine blk_drew ?_ | refine blk_alloc ?_ _)); refine blk_put (cs := #[.int .i64 a1_1, .int .i64 a1_2, .int .i64 a0_2, .bool false]) ?_ 3 _ rfl; (with_reducible repeat (first | refine blk_drewN ?_ _ | refine blk_drew ?_ | refine blk_alloc ?_ _)); refine blk_put (cs := #[.int .i64 a1_1, .int .i64 a1_2, .int .i64 0, .bool false]) ?_ 2 _ rfl; (with_reducible repeat (first | refine blk_drewN ?_ _ | refine blk_drew ?_ | refine blk_alloc ?_ _)); refine blk_put (cs := #[.int .i64 a1_1, .int .i64 0, .int .i64 0, .bool false]) ?_ 1 _ rfl; (with_reducible repeat (first | refine blk_drewN ?_ _ | refine blk_drew ?_ | refine blk_alloc ?_ _)); refine blk_put (cs := #[.int .i64 0, .int .i64 0, .int .i64 0, .bool false]) ?_ 0 _ rfl; (with_reducible repeat (first | refine blk_drewN ?_ _ | refine blk_drew ?_ | refine blk_alloc ?_ _)); exact BK896.out) Try.underlying75 rfl (by kernel_rfl)) rfl ?_
      exact ⟨by first | rfl | (simp [errW_none, errW_some] <;> rfl) | (simp [*, errW_none, errW_some] <;> rfl), by repeat (first | (with_reducible first | exact HB.out | apply below_alloc | apply pw_below_drewN | apply below_drew1 | refine below_set ?_ GE894.out | refine below_set ?_ GE895.out | refine below_set ?_ GE896.out) | exact HB.out)⟩

end Go.Proofs.Ytgpdjpololkhbaa.F

namespace Go.Proofs.Ytgpdjpololkhbaa.F
open Go.RowKit Go.Proofs.YtgpdjpololkhbaaW.PrintWords Go.Proofs.YtgpdjpololkhbaaW.PrintLast Go.Proofs.YtgpdjpololkhbaaW.PrintMore
attribute [local go_sem] max2_int min2_int max_two min_two max_three min_three max_four min_four   -- for this text's walks alone
set_option linter.unusedVariables false
set_option linter.unusedSimpArgs false

/-! ### impl_Plotter_point: function 162 -/
def impl_Plotter_point.f (a0_0 : Int) (a0_1 : Int) (a0_2 : Int) (a0_3 : Bool) : Option (Int × Int) := some (a0_0, a0_1)
set_option maxHeartbeats 8000000 in
set_option maxRecDepth 100000 in
theorem impl_Plotter_point.calls (a0_0 : Int) (a0_1 : Int) (a0_2 : Int) (a0_3 : Bool) (r1 : Int) (r2 : Int) (w : World) (h : impl_Plotter_point.f a0_0 a0_1 a0_2 a0_3 = some (r1, r2)) :
    Calls Try.prog 162 #[.agg #[.int .i64 a0_0, .int .i64 a0_1, .int .i64 a0_2, .bool a0_3]] w fun e w' => e = .returned (.agg #[.int .i64 r1, .int .i64 r2]) ∧ Below w.heap.size w w' := by
  have hu75 := Try.underlying75
  have hu90 := Try.underlying90
  have HB := Aside0.mk (Below.refl w.heap.size w)
  have H : (some (a0_0, a0_1)) = some (r1, r2) := h
  clear h
  simp only [Option.some.injEq, Prod.mk.injEq] at H
  obtain ⟨rfl, rfl⟩ := H
  go_enter Try.func162, Try.ntmps162
  go_wp2_with (first | ((with_reducible refine gate_dst (N := 1) rfl ?_); refine box_event ?hg (N := 1) ?hd (cs := #[.int .i64 a0_0, .int .i64 a0_1, .int .i64 a0_2, .bool a0_3]) (t := 75) ?hr ?_; (case hd => rfl); (case hg => rfl); (case hr => first | (go_simp; done) | (go_simp; rfl)); intro gb937 hg w2 hbox hb; have n0_ := Aside0.mk (below_step (by repeat (first | (with_reducible first | exact HB.out | apply below_alloc | apply pw_below_drewN | apply below_drew1) | exact HB.out)) hb); have n1_ := Aside0.mk (hbox); have n2_ := Aside0.mk ((by rw [hg]; exact (below_size (by repeat (first | (with_reducible first | exact HB.out | apply below_alloc | apply pw_below_drewN | apply below_drew1) | exact HB.out))) : w.heap.size ≤ gb937)); have n3_ := Aside0.mk ((by rw [hg]; exact (below_size (by repeat (first | (with_reducible first | exact HB.out | apply below_alloc | apply pw_below_drewN | apply below_drew1) | exact HB.out))) : w.heap.size ≤ gb937)); clear HB; have HB := n0_; have BK937 := n1_; have GW937 := n2_; have GE937 := n3_; clear n0_ n1_ n2_ n3_; clear hb hbox hg) | ((with_reducible refine gate_dst (N := 2) rfl ?_); refine box_event ?hg (N := 2) ?hd (cs := #[.int .i64 0, .int .i64 0]) (t := 90) ?hr ?_; (case hd => rfl); (case hg => rfl); (case hr => first | (go_simp; done) | (go_simp; rfl)); intro gb938 hg w3 hbox hb; have n0_ := Aside0.mk (blk_below (g := gb937) (o := .cells #[.int .i64 a0_0, .int .i64 a0_1, .int .i64 a0_2, .bool a0_3] 75 (0, 0)) (by (with_reducible repeat (first | refine blk_drewN ?_ _ | refine blk_drew ?_ | refine blk_alloc ?_ _)); exact BK937.out) hb); have n1_ := Aside0.mk (below_step (by repeat (first | (with_reducible first | exact HB.out | apply below_alloc | apply pw_below_drewN | apply below_drew1 | refine below_set ?_ GE937.out) | exact HB.out)) hb); have n2_ := Aside0.mk (hbox); have n3_ := Aside0.mk ((by rw [hg]; exact (below_size (by repeat (first | (with_reducible first | exact HB.out | apply below_alloc | apply pw_below_drewN | apply below_drew1 | refine below_set ?_ GE937.out) | exact HB.out))) : w.heap.size ≤ gb938)); have n4_ := Aside0.mk ((by rw [hg]; exact (below_size (by repeat (first | (with_reducible first | exact HB.out | apply below_alloc | apply pw_below_drewN | apply below_drew1 | refine below_set ?_ GE937.out) | exact HB.out))) : w.heap.size ≤ gb938)); have n5_ := Aside0.mk ((by rw [hg]; exact Nat.ne_of_lt (blk_lt (g := gb937) (o := .cells #[.int .i64 a0_0, .int .i64 a0_1, .int .i64 a0_2, .bool a0_3] 75 (0, 0)) (by (with_reducible repeat (first | refine blk_drewN ?_ _ | refine blk_drew ?_ | refine blk_alloc ?_ _)); exact BK937.out)) : gb937 ≠ gb938)); have n6_ := Aside0.mk ((by rw [hg]; exact Nat.ne_of_gt (blk_lt (g := gb937) (o := .cells #[.int .i64 a0_0, .int .i64 a0_1, .int .i64 a0_2, .bool a0_3] 75 (0, 0)) (by (with_reducible repeat (first | refine blk_drewN ?_ _ | refine blk_drew ?_ | refine blk_alloc ?_ _)); exact BK937.out)) : gb938 ≠ gb937)); clear BK937; clear HB; have BK937 := n0_; have HB := n1_; have BK938 := n2_; have GW938 := n3_; have GE938 := n4_; have NB937_938 := n5_; have NB938_937 := n6_; clear n0_ n1_ n2_ n3_ n4_ n5_ n6_; clear hb hbox hg; have hnb4 := NB937_938.out; have hnc4 := NB938_937.out; have hcz5_0 : w3.cell? ⟨gb937, 0, none⟩ = some (.int .i64 a0_0) := (blk_cell BK937.out 0).trans rfl; have hcz5_1 : w3.cell? ⟨gb937, 1, none⟩ = some (.int .i64 a0_1) := (blk_cell BK937.out 1).trans rfl; have hcz5_2 : w3.cell? ⟨gb937, 2, none⟩ = some (.int .i64 a0_2) := (blk_cell BK937.out 2).trans rfl; have hcz5_3 : w3.cell? ⟨gb937, 3, none⟩ = some (.bool a0_3) := (blk_cell BK937.out 3).trans rfl; have hfz5_0 := blk_frozen BK937.out 0; have hfz5_1 := blk_frozen BK937.out 1; have hfz5_2 := blk_frozen BK937.out 2; have hfz5_3 := blk_frozen BK937.out 3; have hcz6_0 : w3.cell? ⟨gb938, 0, none⟩ = some (.int .i64 0) := (blk_cell BK938.out 0).trans rfl; have hcz6_1 : w3.cell? ⟨gb938, 1, none⟩ = some (.int .i64 0) := (blk_cell BK938.out 1).trans rfl; have hfz6_0 := blk_frozen BK938.out 0; have hfz6_1 := blk_frozen BK938.out 1))
  refine bodyPost_ret (results_cell_row rfl _ _ gb938 90 #[.int .i64 a0_0, .int .i64 a0_1] (0, 0) _ rfl (by (with_reducible repeat (first | refine blk_drewN ?_ _ | refine blk_drew ?_ | refine blk_alloc ?_ _)); refine blk_put (cs := #[.int .i64 a0_0, .int .i64 0]) ?_ 1 _ rfl; (with_reducible repeat (first | refine blk_drewN ?_ _ | refine blk_drew ?_ | refine blk_alloc ?_ _)); refine blk_put (cs := #[.int .i64 0, .int .i64 0]) ?_ 0 _ rfl; (with_reducible repeat (first | refine blk_drewN ?_ _ | refine blk_drew ?_ | refine blk_alloc ?_ _)); exact BK938.out) Try.underlying90 rfl (by kernel_rfl)) rfl ?_
  exact ⟨by first | rfl | (simp [errW_none, errW_some] <;> rfl) | (simp [*, errW_none, errW_some] <;> rfl), by repeat (first | (with_reducible first | exact HB.out | apply below_alloc | apply pw_below_drewN | apply below_drew1 | refine below_set ?_ GE937.out | refine below_set ?_ GE938.out) | exact HB.out)⟩

end Go.Proofs.Ytgpdjpololkhbaa.F

namespace Go.Proofs.Ytgpdjpololkhbaa.F
open Go.RowKit Go.Proofs.YtgpdjpololkhbaaW.PrintWords Go.Proofs.YtgpdjpololkhbaaW.PrintLast Go.Proofs.YtgpdjpololkhbaaW.PrintMore
attribute [local go_sem] max2_int min2_int max_two min_two max_three min_three max_four min_four   -- for this text's walks alone
set_option linter.unusedVariables false
set_option linter.unusedSimpArgs false

/-! ### impl_travel: function 114 -/
theorem impl_travel.drop_nil {α : Type} {xs : List α} {m : Nat} (h : xs.drop m = []) : xs.length ≤ m := by
  rcases Nat.lt_or_ge m xs.length with h1 | h1
  · rw [List.drop_eq_getElem_cons h1] at h; cases h
  · exact h1
theorem impl_travel.drop_at {xs ys : List S137} {y : S137} {m : Nat} (h : xs.drop m = y :: ys) : rd_T137 xs (m : Int) = y := by
  have hm : m < xs.length := by
    rcases Nat.lt_or_ge m xs.length with h1 | h1
    · exact h1
    · rw [List.drop_eq_nil_of_le h1] at h; cases h
  rw [List.drop_eq_getElem_cons hm] at h
  injection h with h1 h2
  show xs.getD (Int.toNat (m : Int)) _ = y
  rw [Int.toNat_natCast, List.getD_eq_getElem?_getD, List.getElem?_eq_getElem hm, ← h1]
  rfl
theorem impl_travel.drop_next {α : Type} {xs ys : List α} {y : α} {m : Nat} (h : xs.drop m = y :: ys) : xs.drop (m + 1) = ys := by
  have hm : m < xs.length := by
    rcases Nat.lt_or_ge m xs.length with h1 | h1
    · exact h1
    · rw [List.drop_eq_nil_of_le h1] at h; cases h
  rw [List.drop_eq_getElem_cons hm] at h
  injection h with h1 h2
def impl_travel.go (k : Nat) : List S137 → Int → Int → Int → Bool → Int → Int → Option (Int × Int × Bool)
  | [], _, _, _, _, u, n => some (u, n, true)
  | y :: ys, a, b, c, d, u, n => (impl_Plotter_step.f a b c d y.f0 y.f1 y.f2).bind fun s => if s.2.2.2.2 = true then (impl_distance.f k a b s.1 s.2.1).bind fun t => (if s.2.2.2.1 = true then impl_travel.go k ys s.1 s.2.1 s.2.2.1 s.2.2.2.1 u (wrap64 (n + t)) else impl_travel.go k ys s.1 s.2.1 s.2.2.1 s.2.2.2.1 (wrap64 (u + t)) n) else some (u, n, false)
theorem impl_travel.mono_go : ∀ (ys : List S137) (a b c : Int) (d : Bool) (u n : Int) (k : Nat), LeO (impl_travel.go k ys a b c d u n) (impl_travel.go (k + 1) ys a b c d u n)
  | [], a, b, c, d, u, n, k => LeO.refl _
  | y :: ys, a, b, c, d, u, n, k => by
    unfold impl_travel.go
    refine LeO.bind (LeO.refl _) (fun s => LeO.ite (LeO.bind (impl_distance.mono _ _ _ _ _) (fun t => LeO.ite (impl_travel.mono_go ys _ _ _ _ _ _ k) (impl_travel.mono_go ys _ _ _ _ _ _ k))) (LeO.refl _))
def impl_travel.f (k : Nat) (l0 : List S137) : Option (Int × Int × Bool) := impl_travel.go k l0 0 0 0 false 0 0
theorem impl_travel.mono : ∀ a0 k, LeO (impl_travel.f k a0) (impl_travel.f (k + 1) a0) := fun a0 k => impl_travel.mono_go a0 0 0 0 false 0 0 k
/-- What is so behind travel's literal. -/
def impl_travel.Lit (gu gn : Nat) (u n : Int) (w0 w w' : World) (e : Ending) : Prop := e = .returned (.tuple #[]) ∧ w'.heap[gu]? = some (.cells #[.int .i64 u] 2 (0, 0)) ∧ w'.heap[gn]? = some (.cells #[.int .i64 n] 2 (0, 0)) ∧ Below w0.heap.size w0 w' ∧ Kept w w' (fun k => k = gu ∨ k = gn)
set_option maxHeartbeats 8000000 in
set_option maxRecDepth 100000 in
theorem impl_travel.lit_false (k gu gn : Nat) (a b c : Int) (z : Bool) (x y p t u n : Int) (w0 w : World) (hB : Below w0.heap.size w0 w) (geu : w0.heap.size ≤ gu) (gen : w0.heap.size ≤ gn) (hne : gu ≠ gn) (bku : w.heap[gu]? = some (.cells #[.int .i64 u] 2 (0, 0))) (bkn : w.heap[gn]? = some (.cells #[.int .i64 n] 2 (0, 0))) (h : impl_distance.f k a b x y = some t) :
    Calls Try.prog 161 #[.agg #[.int .i64 a, .int .i64 b, .int .i64 c, .bool z], .agg #[.int .i64 x, .int .i64 y, .int .i64 p, .bool false], .pointer (some ⟨gn, 0, none⟩), .pointer (some ⟨gu, 0, none⟩)] w fun e w' => impl_travel.Lit gu gn (wrap64 (u + t)) (n) w0 w w' e := by
  have hu75 := Try.underlying75
  have HB := Aside0.mk hB
  have GEu := Aside0.mk geu
  have GEn := Aside0.mk gen
  have HNE := Aside0.mk hne
  have BKu := Aside0.mk bku
  have BKn := Aside0.mk bkn
  have HD := Aside0.mk h
  have HK := Aside0.mk (Kept.refl w (fun k => k = gu ∨ k = gn))
  clear hB geu gen hne bku bkn h
  go_enter Try.func161, Try.ntmps161
  go_wp2_with (first | ((with_reducible refine gate_dst (N := 4) rfl ?_); refine box_event ?hg (N := 4) ?hd (cs := #[.int .i64 a, .int .i64 b, .int .i64 c, .bool z]) (t := 75) ?hr ?_; (case hd => rfl); (case hg => rfl); (case hr => first | (go_simp; done) | (go_simp; rfl)); intro g1 hg w2 hbox hb; have n0_ := Aside0.mk (below_step (by first | exact HB.out | exact below_drew1 HB.out) hb); have u_ := Aside0.mk (blk_below (by first | exact BKu.out | exact blk_drew BKu.out) hb); have v_ := Aside0.mk (blk_below (by first | exact BKn.out | exact blk_drew BKn.out) hb); have k_ := Aside0.mk (Kept.below (by first | exact HK.out | exact Kept.drew HK.out) hb); clear HB BKu BKn HK; have HB := n0_; have BKu := u_; have BKn := v_; have HK := k_; clear n0_ u_ v_ k_; have B1 := Aside0.mk hbox; clear hb hbox hg) | ((with_reducible refine gate_dst (N := 5) rfl ?_); refine box_event ?hg (N := 5) ?hd (cs := #[.int .i64 x, .int .i64 y, .int .i64 p, .bool false]) (t := 75) ?hr ?_; (case hd => rfl); (case hg => rfl); (case hr => first | (go_simp; done) | (go_simp; rfl)); intro g2 hg w2 hbox hb; have n0_ := Aside0.mk (below_step (by first | exact HB.out | exact below_drew1 HB.out) hb); have u_ := Aside0.mk (blk_below (by first | exact BKu.out | exact blk_drew BKu.out) hb); have v_ := Aside0.mk (blk_below (by first | exact BKn.out | exact blk_drew BKn.out) hb); have k_ := Aside0.mk (Kept.below (by first | exact HK.out | exact Kept.drew HK.out) hb); clear HB BKu BKn HK; have HB := n0_; have BKu := u_; have BKn := v_; have HK := k_; clear n0_ u_ v_ k_; have b_ := Aside0.mk (blk_below (by first | exact B1.out | exact blk_drew B1.out) hb); clear B1; have B1 := b_; clear b_; have B2 := Aside0.mk hbox; clear hb hbox hg; have ca0 : w2.cell? ⟨g1, 0, none⟩ = some (.int .i64 a) := (blk_cell B1.out 0).trans rfl; have ca1 : w2.cell? ⟨g1, 1, none⟩ = some (.int .i64 b) := (blk_cell B1.out 1).trans rfl; have ca2 : w2.cell? ⟨g1, 2, none⟩ = some (.int .i64 c) := (blk_cell B1.out 2).trans rfl; have ca3 : w2.cell? ⟨g1, 3, none⟩ = some (.bool z) := (blk_cell B1.out 3).trans rfl; have cb0 : w2.cell? ⟨g2, 0, none⟩ = some (.int .i64 x) := (blk_cell B2.out 0).trans rfl; have cb1 : w2.cell? ⟨g2, 1, none⟩ = some (.int .i64 y) := (blk_cell B2.out 1).trans rfl; have cb2 : w2.cell? ⟨g2, 2, none⟩ = some (.int .i64 p) := (blk_cell B2.out 2).trans rfl; have cb3 : w2.cell? ⟨g2, 3, none⟩ = some (.bool false) := (blk_cell B2.out 3).trans rfl; have cu : w2.cell? ⟨gu, 0, none⟩ = some (.int .i64 u) := (blk_cell BKu.out 0).trans rfl; have cn : w2.cell? ⟨gn, 0, none⟩ = some (.int .i64 n) := (blk_cell BKn.out 0).trans rfl; have fu := blk_frozen BKu.out 0; have fn_ := blk_frozen BKn.out 0))
  go_region_with (first | (go_at_call 162; (with_reducible refine (impl_Plotter_point.calls a b c z a b _ rfl).mono ?_); rintro e w3 ⟨rfl, hb⟩; have n0_ := Aside0.mk (below_step (by first | exact HB.out | exact below_drew1 HB.out) hb); have u_ := Aside0.mk (blk_below (by first | exact BKu.out | exact blk_drew BKu.out) hb); have v_ := Aside0.mk (blk_below (by first | exact BKn.out | exact blk_drew BKn.out) hb); have k_ := Aside0.mk (Kept.below (by first | exact HK.out | exact Kept.drew HK.out) hb); clear HB BKu BKn HK; have HB := n0_; have BKu := u_; have BKn := v_; have HK := k_; clear n0_ u_ v_ k_; have b_ := Aside0.mk (blk_below (by first | exact B1.out | exact blk_drew B1.out) hb); clear B1; have B1 := b_; clear b_; have b_ := Aside0.mk (blk_below (by first | exact B2.out | exact blk_drew B2.out) hb); clear B2; have B2 := b_; clear b_; clear ca0 ca1 ca2 ca3 cb0 cb1 cb2 cb3 cu cn fu fn_; clear hb; have ca0 : w3.cell? ⟨g1, 0, none⟩ = some (.int .i64 a) := (blk_cell B1.out 0).trans rfl; have ca1 : w3.cell? ⟨g1, 1, none⟩ = some (.int .i64 b) := (blk_cell B1.out 1).trans rfl; have ca2 : w3.cell? ⟨g1, 2, none⟩ = some (.int .i64 c) := (blk_cell B1.out 2).trans rfl; have ca3 : w3.cell? ⟨g1, 3, none⟩ = some (.bool z) := (blk_cell B1.out 3).trans rfl; have cb0 : w3.cell? ⟨g2, 0, none⟩ = some (.int .i64 x) := (blk_cell B2.out 0).trans rfl; have cb1 : w3.cell? ⟨g2, 1, none⟩ = some (.int .i64 y) := (blk_cell B2.out 1).trans rfl; have cb2 : w3.cell? ⟨g2, 2, none⟩ = some (.int .i64 p) := (blk_cell B2.out 2).trans rfl; have cb3 : w3.cell? ⟨g2, 3, none⟩ = some (.bool false) := (blk_cell B2.out 3).trans rfl; have cu : w3.cell? ⟨gu, 0, none⟩ = some (.int .i64 u) := (blk_cell BKu.out 0).trans rfl; have cn : w3.cell? ⟨gn, 0, none⟩ = some (.int .i64 n) := (blk_cell BKn.out 0).trans rfl; have fu := blk_frozen BKu.out 0; have fn_ := blk_frozen BKn.out 0) | (go_at_call 162; (with_reducible refine (impl_Plotter_point.calls x y p false x y _ rfl).mono ?_); rintro e w3 ⟨rfl, hb⟩; have n0_ := Aside0.mk (below_step (by first | exact HB.out | exact below_drew1 HB.out) hb); have u_ := Aside0.mk (blk_below (by first | exact BKu.out | exact blk_drew BKu.out) hb); have v_ := Aside0.mk (blk_below (by first | exact BKn.out | exact blk_drew BKn.out) hb); have k_ := Aside0.mk (Kept.below (by first | exact HK.out | exact Kept.drew HK.out) hb); clear HB BKu BKn HK; have HB := n0_; have BKu := u_; have BKn := v_; have HK := k_; clear n0_ u_ v_ k_; have b_ := Aside0.mk (blk_below (by first | exact B1.out | exact blk_drew B1.out) hb); clear B1; have B1 := b_; clear b_; have b_ := Aside0.mk (blk_below (by first | exact B2.out | exact blk_drew B2.out) hb); clear B2; have B2 := b_; clear b_; clear ca0 ca1 ca2 ca3 cb0 cb1 cb2 cb3 cu cn fu fn_; clear hb; have ca0 : w3.cell? ⟨g1, 0, none⟩ = some (.int .i64 a) := (blk_cell B1.out 0).trans rfl; have ca1 : w3.cell? ⟨g1, 1, none⟩ = some (.int .i64 b) := (blk_cell B1.out 1).trans rfl; have ca2 : w3.cell? ⟨g1, 2, none⟩ = some (.int .i64 c) := (blk_cell B1.out 2).trans rfl; have ca3 : w3.cell? ⟨g1, 3, none⟩ = some (.bool z) := (blk_cell B1.out 3).trans rfl; have cb0 : w3.cell? ⟨g2, 0, none⟩ = some (.int .i64 x) := (blk_cell B2.out 0).trans rfl; have cb1 : w3.cell? ⟨g2, 1, none⟩ = some (.int .i64 y) := (blk_cell B2.out 1).trans rfl; have cb2 : w3.cell? ⟨g2, 2, none⟩ = some (.int .i64 p) := (blk_cell B2.out 2).trans rfl; have cb3 : w3.cell? ⟨g2, 3, none⟩ = some (.bool false) := (blk_cell B2.out 3).trans rfl; have cu : w3.cell? ⟨gu, 0, none⟩ = some (.int .i64 u) := (blk_cell BKu.out 0).trans rfl; have cn : w3.cell? ⟨gn, 0, none⟩ = some (.int .i64 n) := (blk_cell BKn.out 0).trans rfl; have fu := blk_frozen BKu.out 0; have fn_ := blk_frozen BKn.out 0) | (go_at_call 137; (with_reducible refine (impl_distance.calls k a b x y t _ HD.out).mono ?_); rintro e w3 ⟨rfl, hb⟩; have n0_ := Aside0.mk (below_step (by first | exact HB.out | exact below_drew1 HB.out) hb); have u_ := Aside0.mk (blk_below (by first | exact BKu.out | exact blk_drew BKu.out) hb); have v_ := Aside0.mk (blk_below (by first | exact BKn.out | exact blk_drew BKn.out) hb); have k_ := Aside0.mk (Kept.below (by first | exact HK.out | exact Kept.drew HK.out) hb); clear HB BKu BKn HK; have HB := n0_; have BKu := u_; have BKn := v_; have HK := k_; clear n0_ u_ v_ k_; have b_ := Aside0.mk (blk_below (by first | exact B1.out | exact blk_drew B1.out) hb); clear B1; have B1 := b_; clear b_; have b_ := Aside0.mk (blk_below (by first | exact B2.out | exact blk_drew B2.out) hb); clear B2; have B2 := b_; clear b_; clear ca0 ca1 ca2 ca3 cb0 cb1 cb2 cb3 cu cn fu fn_; clear hb; have ca0 : w3.cell? ⟨g1, 0, none⟩ = some (.int .i64 a) := (blk_cell B1.out 0).trans rfl; have ca1 : w3.cell? ⟨g1, 1, none⟩ = some (.int .i64 b) := (blk_cell B1.out 1).trans rfl; have ca2 : w3.cell? ⟨g1, 2, none⟩ = some (.int .i64 c) := (blk_cell B1.out 2).trans rfl; have ca3 : w3.cell? ⟨g1, 3, none⟩ = some (.bool z) := (blk_cell B1.out 3).trans rfl; have cb0 : w3.cell? ⟨g2, 0, none⟩ = some (.int .i64 x) := (blk_cell B2.out 0).trans rfl; have cb1 : w3.cell? ⟨g2, 1, none⟩ = some (.int .i64 y) := (blk_cell B2.out 1).trans rfl; have cb2 : w3.cell? ⟨g2, 2, none⟩ = some (.int .i64 p) := (blk_cell B2.out 2).trans rfl; have cb3 : w3.cell? ⟨g2, 3, none⟩ = some (.bool false) := (blk_cell B2.out 3).trans rfl; have cu : w3.cell? ⟨gu, 0, none⟩ = some (.int .i64 u) := (blk_cell BKu.out 0).trans rfl; have cn : w3.cell? ⟨gn, 0, none⟩ = some (.int .i64 n) := (blk_cell BKn.out 0).trans rfl; have fu := blk_frozen BKu.out 0; have fn_ := blk_frozen BKn.out 0))
  all_goals (try go_wp2)
  all_goals go_end0
  all_goals exact ⟨rfl, (by refine blk_put (cs := #[.int .i64 u]) ?_ 0 _ rfl; exact BKu.out), (by refine blk_far ?_ (fun h_ => HNE.out h_.symm) _; exact BKn.out), by (repeat (first | exact HB.out | refine below_set ?_ GEu.out)), by have HM_ : ((fun k => k = gu ∨ k = gn)) (⟨gu, 0, none⟩ : Addr).block ∨ w.heap.size ≤ (⟨gu, 0, none⟩ : Addr).block := .inl (by simp); (repeat (first | exact HK.out | refine Kept.setCell ?_ HM_ _))⟩
set_option maxHeartbeats 8000000 in
set_option maxRecDepth 100000 in
theorem impl_travel.lit_true (k gu gn : Nat) (a b c : Int) (z : Bool) (x y p t u n : Int) (w0 w : World) (hB : Below w0.heap.size w0 w) (geu : w0.heap.size ≤ gu) (gen : w0.heap.size ≤ gn) (hne : gu ≠ gn) (bku : w.heap[gu]? = some (.cells #[.int .i64 u] 2 (0, 0))) (bkn : w.heap[gn]? = some (.cells #[.int .i64 n] 2 (0, 0))) (h : impl_distance.f k a b x y = some t) :
    Calls Try.prog 161 #[.agg #[.int .i64 a, .int .i64 b, .int .i64 c, .bool z], .agg #[.int .i64 x, .int .i64 y, .int .i64 p, .bool true], .pointer (some ⟨gn, 0, none⟩), .pointer (some ⟨gu, 0, none⟩)] w fun e w' => impl_travel.Lit gu gn (u) (wrap64 (n + t)) w0 w w' e := by
  have hu75 := Try.underlying75
  have HB := Aside0.mk hB
  have GEu := Aside0.mk geu
  have GEn := Aside0.mk gen
  have HNE := Aside0.mk hne
  have BKu := Aside0.mk bku
  have BKn := Aside0.mk bkn
  have HD := Aside0.mk h
  have HK := Aside0.mk (Kept.refl w (fun k => k = gu ∨ k = gn))
  clear hB geu gen hne bku bkn h
  go_enter Try.func161, Try.ntmps161
  go_wp2_with (first | ((with_reducible refine gate_dst (N := 4) rfl ?_); refine box_event ?hg (N := 4) ?hd (cs := #[.int .i64 a, .int .i64 b, .int .i64 c, .bool z]) (t := 75) ?hr ?_; (case hd => rfl); (case hg => rfl); (case hr => first | (go_simp; done) | (go_simp; rfl)); intro g1 hg w2 hbox hb; have n0_ := Aside0.mk (below_step (by first | exact HB.out | exact below_drew1 HB.out) hb); have u_ := Aside0.mk (blk_below (by first | exact BKu.out | exact blk_drew BKu.out) hb); have v_ := Aside0.mk (blk_below (by first | exact BKn.out | exact blk_drew BKn.out) hb); have k_ := Aside0.mk (Kept.below (by first | exact HK.out | exact Kept.drew HK.out) hb); clear HB BKu BKn HK; have HB := n0_; have BKu := u_; have BKn := v_; have HK := k_; clear n0_ u_ v_ k_; have B1 := Aside0.mk hbox; clear hb hbox hg) | ((with_reducible refine gate_dst (N := 5) rfl ?_); refine box_event ?hg (N := 5) ?hd (cs := #[.int .i64 x, .int .i64 y, .int .i64 p, .bool true]) (t := 75) ?hr ?_; (case hd => rfl); (case hg => rfl); (case hr => first | (go_simp; done) | (go_simp; rfl)); intro g2 hg w2 hbox hb; have n0_ := Aside0.mk (below_step (by first | exact HB.out | exact below_drew1 HB.out) hb); have u_ := Aside0.mk (blk_below (by first | exact BKu.out | exact blk_drew BKu.out) hb); have v_ := Aside0.mk (blk_below (by first | exact BKn.out | exact blk_drew BKn.out) hb); have k_ := Aside0.mk (Kept.below (by first | exact HK.out | exact Kept.drew HK.out) hb); clear HB BKu BKn HK; have HB := n0_; have BKu := u_; have BKn := v_; have HK := k_; clear n0_ u_ v_ k_; have b_ := Aside0.mk (blk_below (by first | exact B1.out | exact blk_drew B1.out) hb); clear B1; have B1 := b_; clear b_; have B2 := Aside0.mk hbox; clear hb hbox hg; have ca0 : w2.cell? ⟨g1, 0, none⟩ = some (.int .i64 a) := (blk_cell B1.out 0).trans rfl; have ca1 : w2.cell? ⟨g1, 1, none⟩ = some (.int .i64 b) := (blk_cell B1.out 1).trans rfl; have ca2 : w2.cell? ⟨g1, 2, none⟩ = some (.int .i64 c) := (blk_cell B1.out 2).trans rfl; have ca3 : w2.cell? ⟨g1, 3, none⟩ = some (.bool z) := (blk_cell B1.out 3).trans rfl; have cb0 : w2.cell? ⟨g2, 0, none⟩ = some (.int .i64 x) := (blk_cell B2.out 0).trans rfl; have cb1 : w2.cell? ⟨g2, 1, none⟩ = some (.int .i64 y) := (blk_cell B2.out 1).trans rfl; have cb2 : w2.cell? ⟨g2, 2, none⟩ = some (.int .i64 p) := (blk_cell B2.out 2).trans rfl; have cb3 : w2.cell? ⟨g2, 3, none⟩ = some (.bool true) := (blk_cell B2.out 3).trans rfl; have cu : w2.cell? ⟨gu, 0, none⟩ = some (.int .i64 u) := (blk_cell BKu.out 0).trans rfl; have cn : w2.cell? ⟨gn, 0, none⟩ = some (.int .i64 n) := (blk_cell BKn.out 0).trans rfl; have fu := blk_frozen BKu.out 0; have fn_ := blk_frozen BKn.out 0))
  go_region_with (first | (go_at_call 162; (with_reducible refine (impl_Plotter_point.calls a b c z a b _ rfl).mono ?_); rintro e w3 ⟨rfl, hb⟩; have n0_ := Aside0.mk (below_step (by first | exact HB.out | exact below_drew1 HB.out) hb); have u_ := Aside0.mk (blk_below (by first | exact BKu.out | exact blk_drew BKu.out) hb); have v_ := Aside0.mk (blk_below (by first | exact BKn.out | exact blk_drew BKn.out) hb); have k_ := Aside0.mk (Kept.below (by first | exact HK.out | exact Kept.drew HK.out) hb); clear HB BKu BKn HK; have HB := n0_; have BKu := u_; have BKn := v_; have HK := k_; clear n0_ u_ v_ k_; have b_ := Aside0.mk (blk_below (by first | exact B1.out | exact blk_drew B1.out) hb); clear B1; have B1 := b_; clear b_; have b_ := Aside0.mk (blk_below (by first | exact B2.out | exact blk_drew B2.out) hb); clear B2; have B2 := b_; clear b_; clear ca0 ca1 ca2 ca3 cb0 cb1 cb2 cb3 cu cn fu fn_; clear hb; have ca0 : w3.cell? ⟨g1, 0, none⟩ = some (.int .i64 a) := (blk_cell B1.out 0).trans rfl; have ca1 : w3.cell? ⟨g1, 1, none⟩ = some (.int .i64 b) := (blk_cell B1.out 1).trans rfl; have ca2 : w3.cell? ⟨g1, 2, none⟩ = some (.int .i64 c) := (blk_cell B1.out 2).trans rfl; have ca3 : w3.cell? ⟨g1, 3, none⟩ = some (.bool z) := (blk_cell B1.out 3).trans rfl; have cb0 : w3.cell? ⟨g2, 0, none⟩ = some (.int .i64 x) := (blk_cell B2.out 0).trans rfl; have cb1 : w3.cell? ⟨g2, 1, none⟩ = some (.int .i64 y) := (blk_cell B2.out 1).trans rfl; have cb2 : w3.cell? ⟨g2, 2, none⟩ = some (.int .i64 p) := (blk_cell B2.out 2).trans rfl; have cb3 : w3.cell? ⟨g2, 3, none⟩ = some (.bool true) := (blk_cell B2.out 3).trans rfl; have cu : w3.cell? ⟨gu, 0, none⟩ = some (.int .i64 u) := (blk_cell BKu.out 0).trans rfl; have cn : w3.cell? ⟨gn, 0, none⟩ = some (.int .i64 n) := (blk_cell BKn.out 0).trans rfl; have fu := blk_frozen BKu.out 0; have fn_ := blk_frozen BKn.out 0) | (go_at_call 162; (with_reducible refine (impl_Plotter_point.calls x y p true x y _ rfl).mono ?_); rintro e w3 ⟨rfl, hb⟩; have n0_ := Aside0.mk (below_step (by first | exact HB.out | exact below_drew1 HB.out) hb); have u_ := Aside0.mk (blk_below (by first | exact BKu.out | exact blk_drew BKu.out) hb); have v_ := Aside0.mk (blk_below (by first | exact BKn.out | exact blk_drew BKn.out) hb); have k_ := Aside0.mk (Kept.below (by first | exact HK.out | exact Kept.drew HK.out) hb); clear HB BKu BKn HK; have HB := n0_; have BKu := u_; have BKn := v_; have HK := k_; clear n0_ u_ v_ k_; have b_ := Aside0.mk (blk_below (by first | exact B1.out | exact blk_drew B1.out) hb); clear B1; have B1 := b_; clear b_; have b_ := Aside0.mk (blk_below (by first | exact B2.out | exact blk_drew B2.out) hb); clear B2; have B2 := b_; clear b_; clear ca0 ca1 ca2 ca3 cb0 cb1 cb2 cb3 cu cn fu fn_; clear hb; have ca0 : w3.cell? ⟨g1, 0, none⟩ = some (.int .i64 a) := (blk_cell B1.out 0).trans rfl; have ca1 : w3.cell? ⟨g1, 1, none⟩ = some (.int .i64 b) := (blk_cell B1.out 1).trans rfl; have ca2 : w3.cell? ⟨g1, 2, none⟩ = some (.int .i64 c) := (blk_cell B1.out 2).trans rfl; have ca3 : w3.cell? ⟨g1, 3, none⟩ = some (.bool z) := (blk_cell B1.out 3).trans rfl; have cb0 : w3.cell? ⟨g2, 0, none⟩ = some (.int .i64 x) := (blk_cell B2.out 0).trans rfl; have cb1 : w3.cell? ⟨g2, 1, none⟩ = some (.int .i64 y) := (blk_cell B2.out 1).trans rfl; have cb2 : w3.cell? ⟨g2, 2, none⟩ = some (.int .i64 p) := (blk_cell B2.out 2).trans rfl; have cb3 : w3.cell? ⟨g2, 3, none⟩ = some (.bool true) := (blk_cell B2.out 3).trans rfl; have cu : w3.cell? ⟨gu, 0, none⟩ = some (.int .i64 u) := (blk_cell BKu.out 0).trans rfl; have cn : w3.cell? ⟨gn, 0, none⟩ = some (.int .i64 n) := (blk_cell BKn.out 0).trans rfl; have fu := blk_frozen BKu.out 0; have fn_ := blk_frozen BKn.out 0) | (go_at_call 137; (with_reducible refine (impl_distance.calls k a b x y t _ HD.out).mono ?_); rintro e w3 ⟨rfl, hb⟩; have n0_ := Aside0.mk (below_step (by first | exact HB.out | exact below_drew1 HB.out) hb); have u_ := Aside0.mk (blk_below (by first | exact BKu.out | exact blk_drew BKu.out) hb); have v_ := Aside0.mk (blk_below (by first | exact BKn.out | exact blk_drew BKn.out) hb); have k_ := Aside0.mk (Kept.below (by first | exact HK.out | exact Kept.drew HK.out) hb); clear HB BKu BKn HK; have HB := n0_; have BKu := u_; have BKn := v_; have HK := k_; clear n0_ u_ v_ k_; have b_ := Aside0.mk (blk_below (by first | exact B1.out | exact blk_drew B1.out) hb); clear B1; have B1 := b_; clear b_; have b_ := Aside0.mk (blk_below (by first | exact B2.out | exact blk_drew B2.out) hb); clear B2; have B2 := b_; clear b_; clear ca0 ca1 ca2 ca3 cb0 cb1 cb2 cb3 cu cn fu fn_; clear hb; have ca0 : w3.cell? ⟨g1, 0, none⟩ = some (.int .i64 a) := (blk_cell B1.out 0).trans rfl; have ca1 : w3.cell? ⟨g1, 1, none⟩ = some (.int .i64 b) := (blk_cell B1.out 1).trans rfl; have ca2 : w3.cell? ⟨g1, 2, none⟩ = some (.int .i64 c) := (blk_cell B1.out 2).trans rfl; have ca3 : w3.cell? ⟨g1, 3, none⟩ = some (.bool z) := (blk_cell B1.out 3).trans rfl; have cb0 : w3.cell? ⟨g2, 0, none⟩ = some (.int .i64 x) := (blk_cell B2.out 0).trans rfl; have cb1 : w3.cell? ⟨g2, 1, none⟩ = some (.int .i64 y) := (blk_cell B2.out 1).trans rfl; have cb2 : w3.cell? ⟨g2, 2, none⟩ = some (.int .i64 p) := (blk_cell B2.out 2).trans rfl; have cb3 : w3.cell? ⟨g2, 3, none⟩ = some (.bool true) := (blk_cell B2.out 3).trans rfl; have cu : w3.cell? ⟨gu, 0, none⟩ = some (.int .i64 u) := (blk_cell BKu.out 0).trans rfl; have cn : w3.cell? ⟨gn, 0, none⟩ = some (.int .i64 n) := (blk_cell BKn.out 0).trans rfl; have fu := blk_frozen BKu.out 0; have fn_ := blk_frozen BKn.out 0))
  all_goals (try go_wp2)
  all_goals go_end0
  all_goals exact ⟨rfl, (by refine blk_far ?_ HNE.out _; exact BKu.out), (by refine blk_put (cs := #[.int .i64 n]) ?_ 0 _ rfl; exact BKn.out), by (repeat (first | exact HB.out | refine below_set ?_ GEn.out)), by have HM_ : ((fun k => k = gu ∨ k = gn)) (⟨gn, 0, none⟩ : Addr).block ∨ w.heap.size ≤ (⟨gn, 0, none⟩ : Addr).block := .inl (by simp); (repeat (first | exact HK.out | refine Kept.setCell ?_ HM_ _))⟩
/-- What is so behind a run: the captured variables hold the run's result. -/
def impl_travel.Ran (gu : Nat) (gn : Nat) (r1 : Int) (r2 : Int) (ok : Bool) (w0 w w' : World) (e : Ending) : Prop := e = .returned (.bool ok) ∧ Below w0.heap.size w0 w' ∧ w'.heap[gu]? = some (.cells #[.int .i64 r1] 2 (0, 0)) ∧ w'.heap[gn]? = some (.cells #[.int .i64 r2] 2 (0, 0)) ∧ Kept w w' (fun k => k = gu ∨ k = gn)
set_option maxHeartbeats 8000000 in
set_option maxRecDepth 100000 in
theorem impl_travel.run (A0 : Option Addr) (c0 : Nat) (l0 : List S137) (k : Nat) (gu : Nat) (gn : Nat) (u : Int) (n : Int) (r1 : Int) (r2 : Int) (ok : Bool) (w0 w : World) (hr0 : Kd.C k137 w0 A0 l0.length l0) (hB : Below w0.heap.size w0 w) (hne : gu ≠ gn) (gegu : w0.heap.size ≤ gu) (gegn : w0.heap.size ≤ gn) (bkgu : w.heap[gu]? = some (.cells #[.int .i64 u] 2 (0, 0))) (bkgn : w.heap[gn]? = some (.cells #[.int .i64 n] 2 (0, 0))) (h : impl_travel.go k l0 0 0 0 false u n = some (r1, r2, ok)) :
    Calls Try.prog 112 #[.slice A0 l0.length c0, .func (.func 161) #[] #[.pointer (some ⟨gn, 0, none⟩), .pointer (some ⟨gu, 0, none⟩)]] w fun e w' => impl_travel.Ran gu gn r1 r2 ok w0 w w' e := by
  have hu75 := Try.underlying75
  have hu137 := Try.underlying137
  have hmf : ∀ (fn : Fn) (first cap : Array Value) (w : World), (Instr.makeFunc fn first cap).run Try.prog w = .ok (.func fn first cap) w := fun _ _ _ _ => rfl
  have HR0 := Aside0.mk hr0
  have HB := Aside0.mk hB
  have HK := Aside0.mk (Kept.refl w (fun k => k = gu ∨ k = gn))
  have H' := Aside0.mk h
  have hlen : l0.length ≤ 9223372036854775807 := hr0.2.1
  have GEgu := Aside0.mk gegu
  have BKgu := Aside0.mk bkgu
  have GEgn := Aside0.mk gegn
  have BKgn := Aside0.mk bkgn
  have HNE := Aside0.mk hne
  clear hr0 hB h gegu bkgu gegn bkgn hne
  go_enter Try.func112, Try.ntmps112
  go_wp2_with (first | ((with_reducible refine gate_dst (N := 5) rfl ?_); refine box_event ?hg (N := 5) ?hd (cs := #[.int .i64 0, .int .i64 0, .int .i64 0, .bool false]) (t := 75) ?hr ?_; (case hd => rfl); (case hg => rfl); (case hr => first | (go_simp; done) | (go_simp; rfl)); intro gp hg w2 hbox hb; have n0_ := Aside0.mk (below_step HB.out hb); have NP := Aside0.mk hbox; have GKp := Aside0.mk ((by rw [hg]; exact HK.out.1) : w.heap.size ≤ gp); have k_ := Aside0.mk (Kept.below HK.out hb); clear HK; have HK := k_; clear k_; have GEp := Aside0.mk ((by rw [hg]; exact below_size HB.out) : w0.heap.size ≤ gp); have NEgu : Aside0 (gp ≠ gu) := ⟨by have h_ := blk_lt BKgu.out; rw [hg]; omega⟩; have mgu_ := Aside0.mk (blk_below BKgu.out hb); clear BKgu; have BKgu := mgu_; clear mgu_; have NEgn : Aside0 (gp ≠ gn) := ⟨by have h_ := blk_lt BKgn.out; rw [hg]; omega⟩; have mgn_ := Aside0.mk (blk_below BKgn.out hb); clear BKgn; have BKgn := mgn_; clear mgn_; clear HB; have HB := n0_; clear n0_; clear hb hbox hg; have cz0 : w2.cell? ⟨gp, 0, none⟩ = some (.int .i64 0) := (blk_cell NP.out 0).trans rfl; have cz1 : w2.cell? ⟨gp, 1, none⟩ = some (.int .i64 0) := (blk_cell NP.out 1).trans rfl; have cz2 : w2.cell? ⟨gp, 2, none⟩ = some (.int .i64 0) := (blk_cell NP.out 2).trans rfl; have cz3 : w2.cell? ⟨gp, 3, none⟩ = some (.bool false) := (blk_cell NP.out 3).trans rfl; have fz0 := blk_frozen NP.out 0; have fz1 := blk_frozen NP.out 1; have fz2 := blk_frozen NP.out 2; have fz3 := blk_frozen NP.out 3))
  go_loopw [13] (fun v13 wr => ∃ (m : Nat) (ys : List S137) (x y p : Int) (d : Bool) (u : Int) (n : Int), v13 = .int .i64 m ∧ m ≤ l0.length ∧ Aside0 (l0.drop m = ys) ∧ Aside0 (impl_travel.go k ys x y p d u n = some (r1, r2, ok)) ∧ Aside0 (wr.heap[gp]? = some (.cells #[.int .i64 x, .int .i64 y, .int .i64 p, .bool d] 75 (0, 0))) ∧ Aside0 (wr.heap[gu]? = some (.cells #[.int .i64 u] 2 (0, 0))) ∧ Aside0 (wr.heap[gn]? = some (.cells #[.int .i64 n] 2 (0, 0))) ∧ Aside0 (Below w0.heap.size w0 wr) ∧ Aside0 (Kept w wr (fun k => k = gu ∨ k = gn))) (fun v13 _ => l0.length - (intOf v13).toNat)
  case atStart => exact ⟨0, l0, 0, 0, 0, false, u, n, rfl, Nat.zero_le _, ⟨rfl⟩, H', ⟨(by refine blk_put (cs := #[.int .i64 0, .int .i64 0, .int .i64 0, .bool false]) ?_ 3 _ rfl; refine blk_put (cs := #[.int .i64 0, .int .i64 0, .int .i64 0, .bool false]) ?_ 2 _ rfl; refine blk_put (cs := #[.int .i64 0, .int .i64 0, .int .i64 0, .bool false]) ?_ 1 _ rfl; refine blk_put (cs := #[.int .i64 0, .int .i64 0, .int .i64 0, .bool false]) ?_ 0 _ rfl; exact NP.out)⟩, ⟨(by (repeat (first | exact BKgu.out | refine blk_far ?_ (fun h_ => NEgu.out h_.symm) _)))⟩, ⟨(by (repeat (first | exact BKgn.out | refine blk_far ?_ (fun h_ => NEgn.out h_.symm) _)))⟩, ⟨by repeat (first | exact HB.out | refine below_set ?_ GEp.out)⟩, ⟨(by have HM_ : ((fun k => k = gu ∨ k = gn)) (⟨gp, 0, none⟩ : Addr).block ∨ w.heap.size ≤ (⟨gp, 0, none⟩ : Addr).block := .inr GKp.out; (repeat (first | exact HK.out | refine Kept.setCell ?_ HM_ _)) : Kept w _ (fun k => k = gu ∨ k = gn))⟩⟩
  case round =>
    clear H' NP
    try clear cz0 fz0 cz1 fz1 cz2 fz2 cz3 fz3
    obtain ⟨m, ys, x, y, p, d, u_, n_, rfl, hm, HD, HA, BKp, BKgu, BKgn, HB, HK⟩ := hrel
    by_cases hlt : m < l0.length
    · cases ys with
      | nil => exact absurd (impl_travel.drop_nil HD.out) (by omega)
      | cons c ys =>
      have hrd := Aside0.mk (impl_travel.drop_at HD.out)
      have HD2 := Aside0.mk (impl_travel.drop_next HD.out)
      have H := HA.out
      clear HA
      simp only [impl_travel.go] at H
      replace H := Option.bind_eq_some_iff.mp H
      obtain ⟨⟨s1, s2, s3, s4, s5⟩, A1, H⟩ := H
      have HS := Aside0.mk A1
      clear A1
      obtain ⟨ad, e0, hx0, hx1, hx2⟩ := at_T137 HR0.out (m : Int) (by omega) (by omega)
      cases e0
      rw [show rd_T137 l0 (m : Int) = c from hrd.out] at hx0 hx1 hx2
      simp only [Int.toNat_natCast] at hx0 hx1 hx2
      replace hx0 := (HB.out.cell (World.block_lt_of_cell? w0 _ hx0)).trans hx0
      replace hx1 := (HB.out.cell (World.block_lt_of_cell? w0 _ hx1)).trans hx1
      replace hx2 := (HB.out.cell (World.block_lt_of_cell? w0 _ hx2)).trans hx2
      clear hrd HD
      cases s5 with
      | false =>
        rw [if_neg (by simp)] at H
        obtain ⟨rfl, rfl, rfl⟩ := (by simpa using H)
        clear H
        go_wp2_with (first | ((with_reducible refine gate_dst (N := 7) rfl ?_); refine box_event ?hg (N := 7) ?hd (cs := #[.int .u8 0, .int .i64 0, .int .i64 0]) (t := 137) ?hr ?_; (case hd => rfl); (case hg => rfl); (case hr => first | (go_simp; done) | (go_simp; rfl)); intro gc hg w2 hbox hb; have n0_ := Aside0.mk (below_step HB.out hb); have BKc := Aside0.mk hbox; have GKc := Aside0.mk ((by rw [hg]; exact HK.out.1) : w.heap.size ≤ gc); have k_ := Aside0.mk (Kept.below HK.out hb); clear HK; have HK := k_; clear k_; have GEc := Aside0.mk ((by rw [hg]; exact below_size HB.out) : w0.heap.size ≤ gc); have NEpc : Aside0 (gp ≠ gc) := ⟨by have h_ := blk_lt BKp.out; rw [hg]; omega⟩; have m_ := Aside0.mk (blk_below BKp.out hb); clear BKp; have BKp := m_; clear m_; have NEcgu : Aside0 (gu ≠ gc) := ⟨by have h_ := blk_lt BKgu.out; rw [hg]; omega⟩; have m_ := Aside0.mk (blk_below BKgu.out hb); clear BKgu; have BKgu := m_; clear m_; have NEcgn : Aside0 (gn ≠ gc) := ⟨by have h_ := blk_lt BKgn.out; rw [hg]; omega⟩; have m_ := Aside0.mk (blk_below BKgn.out hb); clear BKgn; have BKgn := m_; clear m_; clear HB; have HB := n0_; clear n0_; clear hb hbox hg; have cc0 : w2.cell? ⟨gc, 0, none⟩ = some (.int .u8 0) := (blk_cell BKc.out 0).trans rfl; have cc1 : w2.cell? ⟨gc, 1, none⟩ = some (.int .i64 0) := (blk_cell BKc.out 1).trans rfl; have cc2 : w2.cell? ⟨gc, 2, none⟩ = some (.int .i64 0) := (blk_cell BKc.out 2).trans rfl; have fc0 := blk_frozen BKc.out 0; have fc1 := blk_frozen BKc.out 1; have fc2 := blk_frozen BKc.out 2; have cp0 : w2.cell? ⟨gp, 0, none⟩ = some (.int .i64 x) := (blk_cell BKp.out 0).trans rfl; have cp1 : w2.cell? ⟨gp, 1, none⟩ = some (.int .i64 y) := (blk_cell BKp.out 1).trans rfl; have cp2 : w2.cell? ⟨gp, 2, none⟩ = some (.int .i64 p) := (blk_cell BKp.out 2).trans rfl; have cp3 : w2.cell? ⟨gp, 3, none⟩ = some (.bool d) := (blk_cell BKp.out 3).trans rfl; have qgpgc : (gp = gc) = False := eq_false NEpc.out; have qgcgp : (gc = gp) = False := eq_false (fun h_ => NEpc.out h_.symm); clear hx0 hx1 hx2))
        (with_reducible refine (impl_Plotter_step.calls x y p d c.f0 c.f1 c.f2 s1 s2 s3 s4 false _ HS.out).mono ?_)
        rintro e w3 ⟨rfl, hb⟩
        have m_ := Aside0.mk (blk_below (by (repeat (first | exact BKp.out | refine blk_far ?_ NEpc.out _)) : (_ : World).heap[gp]? = some (.cells #[.int .i64 x, .int .i64 y, .int .i64 p, .bool d] 75 (0, 0))) hb)
        clear BKp
        have BKp := m_
        clear m_
        have m_ := Aside0.mk (blk_below (by (repeat (first | exact BKgu.out | refine blk_far ?_ NEcgu.out _)) : (_ : World).heap[gu]? = some (.cells #[.int .i64 u_] 2 (0, 0))) hb)
        clear BKgu
        have BKgu := m_
        clear m_
        have m_ := Aside0.mk (blk_below (by (repeat (first | exact BKgn.out | refine blk_far ?_ NEcgn.out _)) : (_ : World).heap[gn]? = some (.cells #[.int .i64 n_] 2 (0, 0))) hb)
        clear BKgn
        have BKgn := m_
        clear m_
        have n0_ := Aside0.mk (below_step (by (repeat (first | exact HB.out | refine below_set ?_ GEc.out))) hb)
        have k_ := Aside0.mk (Kept.below (by have HM_ : ((fun k => k = gu ∨ k = gn)) (⟨gc, 0, none⟩ : Addr).block ∨ w.heap.size ≤ (⟨gc, 0, none⟩ : Addr).block := .inr GKc.out; (repeat (first | exact HK.out | refine Kept.setCell ?_ HM_ _)) : Kept w _ (fun k => k = gu ∨ k = gn)) hb)
        clear HK
        have HK := k_
        clear k_
        clear HB
        have HB := n0_
        clear n0_ hb cc0 cc1 cc2 fc0 fc1 fc2 cp0 cp1 cp2 cp3 qgpgc qgcgp
        go_wp2_with (first | ((with_reducible refine gate_dst (N := 8) rfl ?_); refine box_event ?hg (N := 8) ?hd (cs := #[.int .i64 0, .int .i64 0, .int .i64 0, .bool false]) (t := 75) ?hr ?_; (case hd => rfl); (case hg => rfl); (case hr => first | (go_simp; done) | (go_simp; rfl)); intro gq hg w2 hbox hb; have n0_ := Aside0.mk (below_step HB.out hb); have BKq := Aside0.mk hbox; have GKq := Aside0.mk ((by rw [hg]; exact HK.out.1) : w.heap.size ≤ gq); have k_ := Aside0.mk (Kept.below HK.out hb); clear HK; have HK := k_; clear k_; have GEq := Aside0.mk ((by rw [hg]; exact below_size HB.out) : w0.heap.size ≤ gq); have NEpq : Aside0 (gp ≠ gq) := ⟨by have h_ := blk_lt BKp.out; rw [hg]; omega⟩; have m_ := Aside0.mk (blk_below BKp.out hb); clear BKp; have BKp := m_; clear m_; have NEqgu : Aside0 (gu ≠ gq) := ⟨by have h_ := blk_lt BKgu.out; rw [hg]; omega⟩; have m_ := Aside0.mk (blk_below BKgu.out hb); clear BKgu; have BKgu := m_; clear m_; have NEqgn : Aside0 (gn ≠ gq) := ⟨by have h_ := blk_lt BKgn.out; rw [hg]; omega⟩; have m_ := Aside0.mk (blk_below BKgn.out hb); clear BKgn; have BKgn := m_; clear m_; clear HB; have HB := n0_; clear n0_; clear hb hbox hg; have cq0 : w2.cell? ⟨gq, 0, none⟩ = some (.int .i64 0) := (blk_cell BKq.out 0).trans rfl; have cq1 : w2.cell? ⟨gq, 1, none⟩ = some (.int .i64 0) := (blk_cell BKq.out 1).trans rfl; have cq2 : w2.cell? ⟨gq, 2, none⟩ = some (.int .i64 0) := (blk_cell BKq.out 2).trans rfl; have cq3 : w2.cell? ⟨gq, 3, none⟩ = some (.bool false) := (blk_cell BKq.out 3).trans rfl; have fq0 := blk_frozen BKq.out 0; have fq1 := blk_frozen BKq.out 1; have fq2 := blk_frozen BKq.out 2; have fq3 := blk_frozen BKq.out 3; have cp0 : w2.cell? ⟨gp, 0, none⟩ = some (.int .i64 x) := (blk_cell BKp.out 0).trans rfl; have cp1 : w2.cell? ⟨gp, 1, none⟩ = some (.int .i64 y) := (blk_cell BKp.out 1).trans rfl; have cp2 : w2.cell? ⟨gp, 2, none⟩ = some (.int .i64 p) := (blk_cell BKp.out 2).trans rfl; have cp3 : w2.cell? ⟨gp, 3, none⟩ = some (.bool d) := (blk_cell BKp.out 3).trans rfl; have qgpgq : (gp = gq) = False := eq_false NEpq.out; have qgqgp : (gq = gp) = False := eq_false (fun h_ => NEpq.out h_.symm)))
        go_ret
        exact ⟨rfl, by (repeat (first | exact HB.out | refine below_set ?_ GEq.out)), by (repeat (first | exact BKgu.out | refine blk_far ?_ NEqgu.out _)), by (repeat (first | exact BKgn.out | refine blk_far ?_ NEqgn.out _)), (by have HM_ : ((fun k => k = gu ∨ k = gn)) (⟨gq, 0, none⟩ : Addr).block ∨ w.heap.size ≤ (⟨gq, 0, none⟩ : Addr).block := .inr GKq.out; (repeat (first | exact HK.out | refine Kept.setCell ?_ HM_ _)) : Kept w _ (fun k => k = gu ∨ k = gn))⟩
      | true =>
        rw [if_pos rfl] at H
        replace H := Option.bind_eq_some_iff.mp H
        obtain ⟨t, A3, H⟩ := H
        have HT := Aside0.mk A3
        clear A3
        cases s4 with
        | false =>
          replace H : impl_travel.go k ys s1 s2 s3 false (wrap64 (u_ + t)) n_ = some (r1, r2, ok) := by rw [if_neg (by simp)] at H; exact H
          go_wp2_with (first | ((with_reducible refine gate_dst (N := 7) rfl ?_); refine box_event ?hg (N := 7) ?hd (cs := #[.int .u8 0, .int .i64 0, .int .i64 0]) (t := 137) ?hr ?_; (case hd => rfl); (case hg => rfl); (case hr => first | (go_simp; done) | (go_simp; rfl)); intro gc hg w2 hbox hb; have n0_ := Aside0.mk (below_step HB.out hb); have BKc := Aside0.mk hbox; have GKc := Aside0.mk ((by rw [hg]; exact HK.out.1) : w.heap.size ≤ gc); have k_ := Aside0.mk (Kept.below HK.out hb); clear HK; have HK := k_; clear k_; have GEc := Aside0.mk ((by rw [hg]; exact below_size HB.out) : w0.heap.size ≤ gc); have NEpc : Aside0 (gp ≠ gc) := ⟨by have h_ := blk_lt BKp.out; rw [hg]; omega⟩; have m_ := Aside0.mk (blk_below BKp.out hb); clear BKp; have BKp := m_; clear m_; have NEcgu : Aside0 (gu ≠ gc) := ⟨by have h_ := blk_lt BKgu.out; rw [hg]; omega⟩; have m_ := Aside0.mk (blk_below BKgu.out hb); clear BKgu; have BKgu := m_; clear m_; have NEcgn : Aside0 (gn ≠ gc) := ⟨by have h_ := blk_lt BKgn.out; rw [hg]; omega⟩; have m_ := Aside0.mk (blk_below BKgn.out hb); clear BKgn; have BKgn := m_; clear m_; clear HB; have HB := n0_; clear n0_; clear hb hbox hg; have cc0 : w2.cell? ⟨gc, 0, none⟩ = some (.int .u8 0) := (blk_cell BKc.out 0).trans rfl; have cc1 : w2.cell? ⟨gc, 1, none⟩ = some (.int .i64 0) := (blk_cell BKc.out 1).trans rfl; have cc2 : w2.cell? ⟨gc, 2, none⟩ = some (.int .i64 0) := (blk_cell BKc.out 2).trans rfl; have fc0 := blk_frozen BKc.out 0; have fc1 := blk_frozen BKc.out 1; have fc2 := blk_frozen BKc.out 2; have cp0 : w2.cell? ⟨gp, 0, none⟩ = some (.int .i64 x) := (blk_cell BKp.out 0).trans rfl; have cp1 : w2.cell? ⟨gp, 1, none⟩ = some (.int .i64 y) := (blk_cell BKp.out 1).trans rfl; have cp2 : w2.cell? ⟨gp, 2, none⟩ = some (.int .i64 p) := (blk_cell BKp.out 2).trans rfl; have cp3 : w2.cell? ⟨gp, 3, none⟩ = some (.bool d) := (blk_cell BKp.out 3).trans rfl; have qgpgc : (gp = gc) = False := eq_false NEpc.out; have qgcgp : (gc = gp) = False := eq_false (fun h_ => NEpc.out h_.symm); clear hx0 hx1 hx2))
          (with_reducible refine (impl_Plotter_step.calls x y p d c.f0 c.f1 c.f2 s1 s2 s3 false true _ HS.out).mono ?_)
          rintro e w3 ⟨rfl, hb⟩
          have m_ := Aside0.mk (blk_below (by (repeat (first | exact BKp.out | refine blk_far ?_ NEpc.out _)) : (_ : World).heap[gp]? = some (.cells #[.int .i64 x, .int .i64 y, .int .i64 p, .bool d] 75 (0, 0))) hb)
          clear BKp
          have BKp := m_
          clear m_
          have m_ := Aside0.mk (blk_below (by (repeat (first | exact BKgu.out | refine blk_far ?_ NEcgu.out _)) : (_ : World).heap[gu]? = some (.cells #[.int .i64 u_] 2 (0, 0))) hb)
          clear BKgu
          have BKgu := m_
          clear m_
          have m_ := Aside0.mk (blk_below (by (repeat (first | exact BKgn.out | refine blk_far ?_ NEcgn.out _)) : (_ : World).heap[gn]? = some (.cells #[.int .i64 n_] 2 (0, 0))) hb)
          clear BKgn
          have BKgn := m_
          clear m_
          have n0_ := Aside0.mk (below_step (by (repeat (first | exact HB.out | refine below_set ?_ GEc.out))) hb)
          have k_ := Aside0.mk (Kept.below (by have HM_ : ((fun k => k = gu ∨ k = gn)) (⟨gc, 0, none⟩ : Addr).block ∨ w.heap.size ≤ (⟨gc, 0, none⟩ : Addr).block := .inr GKc.out; (repeat (first | exact HK.out | refine Kept.setCell ?_ HM_ _)) : Kept w _ (fun k => k = gu ∨ k = gn)) hb)
          clear HK
          have HK := k_
          clear k_
          clear HB
          have HB := n0_
          clear n0_ hb cc0 cc1 cc2 fc0 fc1 fc2 cp0 cp1 cp2 cp3 qgpgc qgcgp
          go_wp2_with (first | ((with_reducible refine gate_dst (N := 8) rfl ?_); refine box_event ?hg (N := 8) ?hd (cs := #[.int .i64 0, .int .i64 0, .int .i64 0, .bool false]) (t := 75) ?hr ?_; (case hd => rfl); (case hg => rfl); (case hr => first | (go_simp; done) | (go_simp; rfl)); intro gq hg w2 hbox hb; have n0_ := Aside0.mk (below_step HB.out hb); have BKq := Aside0.mk hbox; have GKq := Aside0.mk ((by rw [hg]; exact HK.out.1) : w.heap.size ≤ gq); have k_ := Aside0.mk (Kept.below HK.out hb); clear HK; have HK := k_; clear k_; have GEq := Aside0.mk ((by rw [hg]; exact below_size HB.out) : w0.heap.size ≤ gq); have NEpq : Aside0 (gp ≠ gq) := ⟨by have h_ := blk_lt BKp.out; rw [hg]; omega⟩; have m_ := Aside0.mk (blk_below BKp.out hb); clear BKp; have BKp := m_; clear m_; have NEqgu : Aside0 (gu ≠ gq) := ⟨by have h_ := blk_lt BKgu.out; rw [hg]; omega⟩; have m_ := Aside0.mk (blk_below BKgu.out hb); clear BKgu; have BKgu := m_; clear m_; have NEqgn : Aside0 (gn ≠ gq) := ⟨by have h_ := blk_lt BKgn.out; rw [hg]; omega⟩; have m_ := Aside0.mk (blk_below BKgn.out hb); clear BKgn; have BKgn := m_; clear m_; clear HB; have HB := n0_; clear n0_; clear hb hbox hg; have cq0 : w2.cell? ⟨gq, 0, none⟩ = some (.int .i64 0) := (blk_cell BKq.out 0).trans rfl; have cq1 : w2.cell? ⟨gq, 1, none⟩ = some (.int .i64 0) := (blk_cell BKq.out 1).trans rfl; have cq2 : w2.cell? ⟨gq, 2, none⟩ = some (.int .i64 0) := (blk_cell BKq.out 2).trans rfl; have cq3 : w2.cell? ⟨gq, 3, none⟩ = some (.bool false) := (blk_cell BKq.out 3).trans rfl; have fq0 := blk_frozen BKq.out 0; have fq1 := blk_frozen BKq.out 1; have fq2 := blk_frozen BKq.out 2; have fq3 := blk_frozen BKq.out 3; have cp0 : w2.cell? ⟨gp, 0, none⟩ = some (.int .i64 x) := (blk_cell BKp.out 0).trans rfl; have cp1 : w2.cell? ⟨gp, 1, none⟩ = some (.int .i64 y) := (blk_cell BKp.out 1).trans rfl; have cp2 : w2.cell? ⟨gp, 2, none⟩ = some (.int .i64 p) := (blk_cell BKp.out 2).trans rfl; have cp3 : w2.cell? ⟨gp, 3, none⟩ = some (.bool d) := (blk_cell BKp.out 3).trans rfl; have qgpgq : (gp = gq) = False := eq_false NEpq.out; have qgqgp : (gq = gp) = False := eq_false (fun h_ => NEpq.out h_.symm)))
          (with_reducible refine (impl_travel.lit_false k gu gn x y p d s1 s2 s3 t u_ n_ w0 _ ?cbfalse GEgu.out GEgn.out HNE.out ?cufalse ?cnfalse HT.out).mono ?_)
          (case cbfalse => (repeat (first | exact HB.out | refine below_set ?_ GEq.out)))
          (case cufalse => (repeat (first | exact BKgu.out | refine blk_far ?_ NEqgu.out _)))
          (case cnfalse => (repeat (first | exact BKgn.out | refine blk_far ?_ NEqgn.out _)))
          rintro e w5 ⟨rfl, hl1, hl2, hb2, hk⟩
          have m_ := Aside0.mk (blk_kept (by (repeat (first | exact BKp.out | refine blk_far ?_ NEpq.out _)) : (_ : World).heap[gp]? = some (.cells #[.int .i64 x, .int .i64 y, .int .i64 p, .bool d] 75 (0, 0))) hk (fun h_ => h_.elim NEgu.out NEgn.out))
          have n_ := Aside0.mk (blk_kept ((by refine blk_put (cs := #[.int .i64 s1, .int .i64 s2, .int .i64 s3, .bool false]) ?_ 3 _ rfl; refine blk_put (cs := #[.int .i64 s1, .int .i64 s2, .int .i64 0, .bool false]) ?_ 2 _ rfl; refine blk_put (cs := #[.int .i64 s1, .int .i64 0, .int .i64 0, .bool false]) ?_ 1 _ rfl; refine blk_put (cs := #[.int .i64 0, .int .i64 0, .int .i64 0, .bool false]) ?_ 0 _ rfl; exact BKq.out) : (_ : World).heap[gq]? = some (.cells #[.int .i64 s1, .int .i64 s2, .int .i64 s3, .bool false] 75 (0, 0))) hk (fun h_ => h_.elim (fun e_ => NEqgu.out e_.symm) (fun e_ => NEqgn.out e_.symm)))
          clear BKp BKq BKgu BKgn HB cq0 cq1 cq2 cq3 fq0 fq1 fq2 fq3 cp0 cp1 cp2 cp3
          have BKp := m_
          have BKq := n_
          have BKgu := Aside0.mk hl1
          have BKgn := Aside0.mk hl2
          have HB := Aside0.mk hb2
          have k_ := Aside0.mk (Kept.then_ (by have HM_ : ((fun k => k = gu ∨ k = gn)) (⟨gq, 0, none⟩ : Addr).block ∨ w.heap.size ≤ (⟨gq, 0, none⟩ : Addr).block := .inr GKq.out; (repeat (first | exact HK.out | refine Kept.setCell ?_ HM_ _)) : Kept w _ (fun k => k = gu ∨ k = gn)) hk (fun k_ hk_ => .inl hk_))
          clear HK
          have HK := k_
          clear k_
          clear m_ n_ hl1 hl2 hb2 hk
          have cq0 : w5.cell? ⟨gq, 0, none⟩ = some (.int .i64 s1) := (blk_cell BKq.out 0).trans rfl
          have cq1 : w5.cell? ⟨gq, 1, none⟩ = some (.int .i64 s2) := (blk_cell BKq.out 1).trans rfl
          have cq2 : w5.cell? ⟨gq, 2, none⟩ = some (.int .i64 s3) := (blk_cell BKq.out 2).trans rfl
          have cq3 : w5.cell? ⟨gq, 3, none⟩ = some (.bool false) := (blk_cell BKq.out 3).trans rfl
          have cp0 : w5.cell? ⟨gp, 0, none⟩ = some (.int .i64 x) := (blk_cell BKp.out 0).trans rfl
          have cp1 : w5.cell? ⟨gp, 1, none⟩ = some (.int .i64 y) := (blk_cell BKp.out 1).trans rfl
          have cp2 : w5.cell? ⟨gp, 2, none⟩ = some (.int .i64 p) := (blk_cell BKp.out 2).trans rfl
          have cp3 : w5.cell? ⟨gp, 3, none⟩ = some (.bool d) := (blk_cell BKp.out 3).trans rfl
          have fp0 := blk_frozen BKp.out 0
          have fp1 := blk_frozen BKp.out 1
          have fp2 := blk_frozen BKp.out 2
          have fp3 := blk_frozen BKp.out 3
          go_wp2_with fail
          go_roundw
          case measure => simp [intOf]; omega
          case rel => exact ⟨m + 1, ys, s1, s2, s3, false, wrap64 (u_ + t), n_, by go_num, by omega, HD2, ⟨H⟩, ⟨(by refine blk_put (cs := #[.int .i64 s1, .int .i64 s2, .int .i64 s3, .bool d]) ?_ 3 _ rfl; refine blk_put (cs := #[.int .i64 s1, .int .i64 s2, .int .i64 p, .bool d]) ?_ 2 _ rfl; refine blk_put (cs := #[.int .i64 s1, .int .i64 y, .int .i64 p, .bool d]) ?_ 1 _ rfl; refine blk_put (cs := #[.int .i64 x, .int .i64 y, .int .i64 p, .bool d]) ?_ 0 _ rfl; exact BKp.out)⟩, ⟨by (repeat (first | exact BKgu.out | refine blk_far ?_ (fun h_ => NEgu.out h_.symm) _))⟩, ⟨by (repeat (first | exact BKgn.out | refine blk_far ?_ (fun h_ => NEgn.out h_.symm) _))⟩, ⟨by (repeat (first | exact HB.out | refine below_set ?_ GEp.out))⟩, ⟨(by have HM_ : ((fun k => k = gu ∨ k = gn)) (⟨gp, 0, none⟩ : Addr).block ∨ w.heap.size ≤ (⟨gp, 0, none⟩ : Addr).block := .inr GKp.out; (repeat (first | exact HK.out | refine Kept.setCell ?_ HM_ _)) : Kept w _ (fun k => k = gu ∨ k = gn))⟩⟩
        | true =>
          replace H : impl_travel.go k ys s1 s2 s3 true u_ (wrap64 (n_ + t)) = some (r1, r2, ok) := by rw [if_pos rfl] at H; exact H
          go_wp2_with (first | ((with_reducible refine gate_dst (N := 7) rfl ?_); refine box_event ?hg (N := 7) ?hd (cs := #[.int .u8 0, .int .i64 0, .int .i64 0]) (t := 137) ?hr ?_; (case hd => rfl); (case hg => rfl); (case hr => first | (go_simp; done) | (go_simp; rfl)); intro gc hg w2 hbox hb; have n0_ := Aside0.mk (below_step HB.out hb); have BKc := Aside0.mk hbox; have GKc := Aside0.mk ((by rw [hg]; exact HK.out.1) : w.heap.size ≤ gc); have k_ := Aside0.mk (Kept.below HK.out hb); clear HK; have HK := k_; clear k_; have GEc := Aside0.mk ((by rw [hg]; exact below_size HB.out) : w0.heap.size ≤ gc); have NEpc : Aside0 (gp ≠ gc) := ⟨by have h_ := blk_lt BKp.out; rw [hg]; omega⟩; have m_ := Aside0.mk (blk_below BKp.out hb); clear BKp; have BKp := m_; clear m_; have NEcgu : Aside0 (gu ≠ gc) := ⟨by have h_ := blk_lt BKgu.out; rw [hg]; omega⟩; have m_ := Aside0.mk (blk_below BKgu.out hb); clear BKgu; have BKgu := m_; clear m_; have NEcgn : Aside0 (gn ≠ gc) := ⟨by have h_ := blk_lt BKgn.out; rw [hg]; omega⟩; have m_ := Aside0.mk (blk_below BKgn.out hb); clear BKgn; have BKgn := m_; clear m_; clear HB; have HB := n0_; clear n0_; clear hb hbox hg; have cc0 : w2.cell? ⟨gc, 0, none⟩ = some (.int .u8 0) := (blk_cell BKc.out 0).trans rfl; have cc1 : w2.cell? ⟨gc, 1, none⟩ = some (.int .i64 0) := (blk_cell BKc.out 1).trans rfl; have cc2 : w2.cell? ⟨gc, 2, none⟩ = some (.int .i64 0) := (blk_cell BKc.out 2).trans rfl; have fc0 := blk_frozen BKc.out 0; have fc1 := blk_frozen BKc.out 1; have fc2 := blk_frozen BKc.out 2; have cp0 : w2.cell? ⟨gp, 0, none⟩ = some (.int .i64 x) := (blk_cell BKp.out 0).trans rfl; have cp1 : w2.cell? ⟨gp, 1, none⟩ = some (.int .i64 y) := (blk_cell BKp.out 1).trans rfl; have cp2 : w2.cell? ⟨gp, 2, none⟩ = some (.int .i64 p) := (blk_cell BKp.out 2).trans rfl; have cp3 : w2.cell? ⟨gp, 3, none⟩ = some (.bool d) := (blk_cell BKp.out 3).trans rfl; have qgpgc : (gp = gc) = False := eq_false NEpc.out; have qgcgp : (gc = gp) = False := eq_false (fun h_ => NEpc.out h_.symm); clear hx0 hx1 hx2))
          (with_reducible refine (impl_Plotter_step.calls x y p d c.f0 c.f1 c.f2 s1 s2 s3 true true _ HS.out).mono ?_)
          rintro e w3 ⟨rfl, hb⟩
          have m_ := Aside0.mk (blk_below (by (repeat (first | exact BKp.out | refine blk_far ?_ NEpc.out _)) : (_ : World).heap[gp]? = some (.cells #[.int .i64 x, .int .i64 y, .int .i64 p, .bool d] 75 (0, 0))) hb)
          clear BKp
          have BKp := m_
          clear m_
          have m_ := Aside0.mk (blk_below (by (repeat (first | exact BKgu.out | refine blk_far ?_ NEcgu.out _)) : (_ : World).heap[gu]? = some (.cells #[.int .i64 u_] 2 (0, 0))) hb)
          clear BKgu
          have BKgu := m_
          clear m_
          have m_ := Aside0.mk (blk_below (by (repeat (first | exact BKgn.out | refine blk_far ?_ NEcgn.out _)) : (_ : World).heap[gn]? = some (.cells #[.int .i64 n_] 2 (0, 0))) hb)
          clear BKgn
          have BKgn := m_
          clear m_
          have n0_ := Aside0.mk (below_step (by (repeat (first | exact HB.out | refine below_set ?_ GEc.out))) hb)
          have k_ := Aside0.mk (Kept.below (by have HM_ : ((fun k => k = gu ∨ k = gn)) (⟨gc, 0, none⟩ : Addr).block ∨ w.heap.size ≤ (⟨gc, 0, none⟩ : Addr).block := .inr GKc.out; (repeat (first | exact HK.out | refine Kept.setCell ?_ HM_ _)) : Kept w _ (fun k => k = gu ∨ k = gn)) hb)
          clear HK
          have HK := k_
          clear k_
          clear HB
          have HB := n0_
          clear n0_ hb cc0 cc1 cc2 fc0 fc1 fc2 cp0 cp1 cp2 cp3 qgpgc qgcgp
          go_wp2_with (first | ((with_reducible refine gate_dst (N := 8) rfl ?_); refine box_event ?hg (N := 8) ?hd (cs := #[.int .i64 0, .int .i64 0, .int .i64 0, .bool false]) (t := 75) ?hr ?_; (case hd => rfl); (case hg => rfl); (case hr => first | (go_simp; done) | (go_simp; rfl)); intro gq hg w2 hbox hb; have n0_ := Aside0.mk (below_step HB.out hb); have BKq := Aside0.mk hbox; have GKq := Aside0.mk ((by rw [hg]; exact HK.out.1) : w.heap.size ≤ gq); have k_ := Aside0.mk (Kept.below HK.out hb); clear HK; have HK := k_; clear k_; have GEq := Aside0.mk ((by rw [hg]; exact below_size HB.out) : w0.heap.size ≤ gq); have NEpq : Aside0 (gp ≠ gq) := ⟨by have h_ := blk_lt BKp.out; rw [hg]; omega⟩; have m_ := Aside0.mk (blk_below BKp.out hb); clear BKp; have BKp := m_; clear m_; have NEqgu : Aside0 (gu ≠ gq) := ⟨by have h_ := blk_lt BKgu.out; rw [hg]; omega⟩; have m_ := Aside0.mk (blk_below BKgu.out hb); clear BKgu; have BKgu := m_; clear m_; have NEqgn : Aside0 (gn ≠ gq) := ⟨by have h_ := blk_lt BKgn.out; rw [hg]; omega⟩; have m_ := Aside0.mk (blk_below BKgn.out hb); clear BKgn; have BKgn := m_; clear m_; clear HB; have HB := n0_; clear n0_; clear hb hbox hg; have cq0 : w2.cell? ⟨gq, 0, none⟩ = some (.int .i64 0) := (blk_cell BKq.out 0).trans rfl; have cq1 : w2.cell? ⟨gq, 1, none⟩ = some (.int .i64 0) := (blk_cell BKq.out 1).trans rfl; have cq2 : w2.cell? ⟨gq, 2, none⟩ = some (.int .i64 0) := (blk_cell BKq.out 2).trans rfl; have cq3 : w2.cell? ⟨gq, 3, none⟩ = some (.bool false) := (blk_cell BKq.out 3).trans rfl; have fq0 := blk_frozen BKq.out 0; have fq1 := blk_frozen BKq.out 1; have fq2 := blk_frozen BKq.out 2; have fq3 := blk_frozen BKq.out 3; have cp0 : w2.cell? ⟨gp, 0, none⟩ = some (.int .i64 x) := (blk_cell BKp.out 0).trans rfl; have cp1 : w2.cell? ⟨gp, 1, none⟩ = some (.int .i64 y) := (blk_cell BKp.out 1).trans rfl; have cp2 : w2.cell? ⟨gp, 2, none⟩ = some (.int .i64 p) := (blk_cell BKp.out 2).trans rfl; have cp3 : w2.cell? ⟨gp, 3, none⟩ = some (.bool d) := (blk_cell BKp.out 3).trans rfl; have qgpgq : (gp = gq) = False := eq_false NEpq.out; have qgqgp : (gq = gp) = False := eq_false (fun h_ => NEpq.out h_.symm)))
          (with_reducible refine (impl_travel.lit_true k gu gn x y p d s1 s2 s3 t u_ n_ w0 _ ?cbtrue GEgu.out GEgn.out HNE.out ?cutrue ?cntrue HT.out).mono ?_)
          (case cbtrue => (repeat (first | exact HB.out | refine below_set ?_ GEq.out)))
          (case cutrue => (repeat (first | exact BKgu.out | refine blk_far ?_ NEqgu.out _)))
          (case cntrue => (repeat (first | exact BKgn.out | refine blk_far ?_ NEqgn.out _)))
          rintro e w5 ⟨rfl, hl1, hl2, hb2, hk⟩
          have m_ := Aside0.mk (blk_kept (by (repeat (first | exact BKp.out | refine blk_far ?_ NEpq.out _)) : (_ : World).heap[gp]? = some (.cells #[.int .i64 x, .int .i64 y, .int .i64 p, .bool d] 75 (0, 0))) hk (fun h_ => h_.elim NEgu.out NEgn.out))
          have n_ := Aside0.mk (blk_kept ((by refine blk_put (cs := #[.int .i64 s1, .int .i64 s2, .int .i64 s3, .bool false]) ?_ 3 _ rfl; refine blk_put (cs := #[.int .i64 s1, .int .i64 s2, .int .i64 0, .bool false]) ?_ 2 _ rfl; refine blk_put (cs := #[.int .i64 s1, .int .i64 0, .int .i64 0, .bool false]) ?_ 1 _ rfl; refine blk_put (cs := #[.int .i64 0, .int .i64 0, .int .i64 0, .bool false]) ?_ 0 _ rfl; exact BKq.out) : (_ : World).heap[gq]? = some (.cells #[.int .i64 s1, .int .i64 s2, .int .i64 s3, .bool true] 75 (0, 0))) hk (fun h_ => h_.elim (fun e_ => NEqgu.out e_.symm) (fun e_ => NEqgn.out e_.symm)))
          clear BKp BKq BKgu BKgn HB cq0 cq1 cq2 cq3 fq0 fq1 fq2 fq3 cp0 cp1 cp2 cp3
          have BKp := m_
          have BKq := n_
          have BKgu := Aside0.mk hl1
          have BKgn := Aside0.mk hl2
          have HB := Aside0.mk hb2
          have k_ := Aside0.mk (Kept.then_ (by have HM_ : ((fun k => k = gu ∨ k = gn)) (⟨gq, 0, none⟩ : Addr).block ∨ w.heap.size ≤ (⟨gq, 0, none⟩ : Addr).block := .inr GKq.out; (repeat (first | exact HK.out | refine Kept.setCell ?_ HM_ _)) : Kept w _ (fun k => k = gu ∨ k = gn)) hk (fun k_ hk_ => .inl hk_))
          clear HK
          have HK := k_
          clear k_
          clear m_ n_ hl1 hl2 hb2 hk
          have cq0 : w5.cell? ⟨gq, 0, none⟩ = some (.int .i64 s1) := (blk_cell BKq.out 0).trans rfl
          have cq1 : w5.cell? ⟨gq, 1, none⟩ = some (.int .i64 s2) := (blk_cell BKq.out 1).trans rfl
          have cq2 : w5.cell? ⟨gq, 2, none⟩ = some (.int .i64 s3) := (blk_cell BKq.out 2).trans rfl
          have cq3 : w5.cell? ⟨gq, 3, none⟩ = some (.bool true) := (blk_cell BKq.out 3).trans rfl
          have cp0 : w5.cell? ⟨gp, 0, none⟩ = some (.int .i64 x) := (blk_cell BKp.out 0).trans rfl
          have cp1 : w5.cell? ⟨gp, 1, none⟩ = some (.int .i64 y) := (blk_cell BKp.out 1).trans rfl
          have cp2 : w5.cell? ⟨gp, 2, none⟩ = some (.int .i64 p) := (blk_cell BKp.out 2).trans rfl
          have cp3 : w5.cell? ⟨gp, 3, none⟩ = some (.bool d) := (blk_cell BKp.out 3).trans rfl
          have fp0 := blk_frozen BKp.out 0
          have fp1 := blk_frozen BKp.out 1
          have fp2 := blk_frozen BKp.out 2
          have fp3 := blk_frozen BKp.out 3
          go_wp2_with fail
          go_roundw
          case measure => simp [intOf]; omega
          case rel => exact ⟨m + 1, ys, s1, s2, s3, true, u_, wrap64 (n_ + t), by go_num, by omega, HD2, ⟨H⟩, ⟨(by refine blk_put (cs := #[.int .i64 s1, .int .i64 s2, .int .i64 s3, .bool d]) ?_ 3 _ rfl; refine blk_put (cs := #[.int .i64 s1, .int .i64 s2, .int .i64 p, .bool d]) ?_ 2 _ rfl; refine blk_put (cs := #[.int .i64 s1, .int .i64 y, .int .i64 p, .bool d]) ?_ 1 _ rfl; refine blk_put (cs := #[.int .i64 x, .int .i64 y, .int .i64 p, .bool d]) ?_ 0 _ rfl; exact BKp.out)⟩, ⟨by (repeat (first | exact BKgu.out | refine blk_far ?_ (fun h_ => NEgu.out h_.symm) _))⟩, ⟨by (repeat (first | exact BKgn.out | refine blk_far ?_ (fun h_ => NEgn.out h_.symm) _))⟩, ⟨by (repeat (first | exact HB.out | refine below_set ?_ GEp.out))⟩, ⟨(by have HM_ : ((fun k => k = gu ∨ k = gn)) (⟨gp, 0, none⟩ : Addr).block ∨ w.heap.size ≤ (⟨gp, 0, none⟩ : Addr).block := .inr GKp.out; (repeat (first | exact HK.out | refine Kept.setCell ?_ HM_ _)) : Kept w _ (fun k => k = gu ∨ k = gn))⟩⟩
    · have HE : Aside0 (ys = []) := ⟨by rw [← HD.out, List.drop_eq_nil_of_le (by omega)]⟩
      have H := HA.out
      rw [HE.out] at H
      clear HA
      simp only [impl_travel.go] at H
      obtain ⟨rfl, rfl, rfl⟩ := (by simpa using H)
      clear HE
      go_wp2
      go_ret
      exact ⟨rfl, HB.out, BKgu.out, BKgn.out, HK.out⟩
set_option maxHeartbeats 8000000 in
set_option maxRecDepth 100000 in
theorem impl_travel.calls (k : Nat) (A0 : Option Addr) (c0 : Nat) (l0 : List S137) (r1 r2 : Int) (r3 : Bool) (w : World) (hr0 : Kd.C k137 w A0 l0.length l0) (hc0 : l0.length ≤ c0) (h : impl_travel.f k l0 = some (r1, r2, r3)) :
    Calls Try.prog 114 #[.slice A0 l0.length c0] w fun e w' => e = .returned (.tuple #[.int .i64 r1, .int .i64 r2, .bool r3]) ∧ Below w.heap.size w w' := by
  have hmf : ∀ (fn : Fn) (first cap : Array Value) (w : World), (Instr.makeFunc fn first cap).run Try.prog w = .ok (.func fn first cap) w := fun _ _ _ _ => rfl
  have HB := Aside0.mk (Below.refl w.heap.size w)
  have HR0 := Aside0.mk hr0
  have A2 := Aside0.mk (show impl_travel.go k l0 0 0 0 false 0 0 = some (r1, r2, r3) from h)
  clear hr0 hc0 h
  go_enter Try.func114, Try.ntmps114
  go_wp2_with (first | ((with_reducible refine gate_dst (N := 5) rfl ?_); refine box_event ?hg (N := 5) ?hd (cs := #[.int .i64 0]) (t := 2) ?hr ?_; (case hd => rfl); (case hg => rfl); (case hr => first | (go_simp; done) | (go_simp; rfl)); intro gu hg w2 hbox hb; have n0_ := Aside0.mk (below_step HB.out hb); have BKu := Aside0.mk hbox; have GEu := Aside0.mk ((by rw [hg]; exact below_size HB.out) : w.heap.size ≤ gu); clear HB; have HB := n0_; clear n0_ hb hbox hg) | ((with_reducible refine gate_dst (N := 6) rfl ?_); refine box_event ?hg (N := 6) ?hd (cs := #[.int .i64 0]) (t := 2) ?hr ?_; (case hd => rfl); (case hg => rfl); (case hr => first | (go_simp; done) | (go_simp; rfl)); intro gn hg w2 hbox hb; have n0_ := Aside0.mk (below_step HB.out hb); have BKn := Aside0.mk hbox; have GEn := Aside0.mk ((by rw [hg]; exact below_size HB.out) : w.heap.size ≤ gn); have NEun : Aside0 (gu ≠ gn) := ⟨by have h_ := blk_lt BKu.out; rw [hg]; omega⟩; have m_ := Aside0.mk (blk_below BKu.out hb); clear BKu HB; have HB := n0_; have BKu := m_; clear n0_ m_ hb hbox hg; have cu : w2.cell? ⟨gu, 0, none⟩ = some (.int .i64 0) := (blk_cell BKu.out 0).trans rfl; have cn : w2.cell? ⟨gn, 0, none⟩ = some (.int .i64 0) := (blk_cell BKn.out 0).trans rfl; have fu := blk_frozen BKu.out 0; have fn_ := blk_frozen BKn.out 0; have qgugn : (gu = gn) = False := eq_false NEun.out; have qgngu : (gn = gu) = False := eq_false (fun h_ => NEun.out h_.symm)))
  refine (impl_travel.run A0 c0 l0 k gu gn 0 0 r1 r2 r3 w _ HR0.out ?rb NEun.out GEu.out GEn.out ?ru ?rn A2.out).mono ?_
  case rb => (repeat (first | exact HB.out | refine below_set ?_ GEu.out | refine below_set ?_ GEn.out))
  case ru => (refine blk_far ?_ NEun.out _; refine blk_put (cs := #[.int .i64 0]) ?_ 0 _ rfl; exact BKu.out)
  case rn => (refine blk_put (cs := #[.int .i64 0]) ?_ 0 _ rfl; refine blk_far ?_ (fun h_ => NEun.out h_.symm) _; exact BKn.out)
  rintro e w4 ⟨rfl, hb2, hl1, hl2, hk⟩
  have HB2 := Aside0.mk hb2
  clear cu cn fu fn_ hb2 hk
  have cu : w4.cell? ⟨gu, 0, none⟩ = some (.int .i64 r1) := (blk_cell hl1 0).trans rfl
  have cn : w4.cell? ⟨gn, 0, none⟩ = some (.int .i64 r2) := (blk_cell hl2 0).trans rfl
  clear hl1 hl2 BKu BKn HB
  go_wp2
  go_region
  all_goals (try go_wp2)
  all_goals go_ret3
  all_goals exact ⟨rfl, below_drew1 HB2.out⟩

end Go.Proofs.Ytgpdjpololkhbaa.F

namespace Go.Proofs.Ytgpdjpololkhbaa.F
open Go.RowKit Go.Proofs.YtgpdjpololkhbaaW.PrintWords Go.Proofs.YtgpdjpololkhbaaW.PrintLast Go.Proofs.YtgpdjpololkhbaaW.PrintMore
attribute [local go_sem] max2_int min2_int max_two min_two max_three min_three max_four min_four   -- for this text's walks alone
set_option linter.unusedVariables false
set_option linter.unusedSimpArgs false

/-! ### impl_CountKind: function 116 -/
def impl_CountKind.l0 : Nat → Int → Int → List (S137) → Int → Int → Option (Int × Int)
  | 0, _, _, _, _, _ => none
  | k + 1, x1, x7, x15, x16, x17 => if x17 < x16 then (if 0 ≤ x17 then (if x17 < (x15.length : Int) then (if ((rd_T137 x15 x17).f0) = x1 then (impl_CountKind.l0 k x1 (wrap64 (x7 + 1)) x15 x16 (wrap64 (x17 + 1))) else (impl_CountKind.l0 k x1 x7 x15 x16 (wrap64 (x17 + 1)))) else (none)) else (none)) else (some (x7, 0))
def impl_CountKind.f (k : Nat) (l0 : List (S137)) (a1 : Int) : Option (Int × Int) := (impl_program.f k l0).bind fun t988 => (if t988 = 0 then (impl_CountKind.l0 k a1 0 l0 (l0.length : Int) 0) else (some (0, t988)))
theorem impl_CountKind.mono_l : ∀ k, (∀ y0 y1 y2 y3 y4, LeO (impl_CountKind.l0 k y0 y1 y2 y3 y4) (impl_CountKind.l0 (k + 1) y0 y1 y2 y3 y4))
  | 0 => fun _ _ _ _ _ r h => by simp [impl_CountKind.l0] at h
  | k + 1 => by
    have ih0 := impl_CountKind.mono_l k
    · intro y0 y1 y2 y3 y4
      unfold impl_CountKind.l0
      repeat' first
      | (with_reducible exact ih0 _ _ _ _ _)
      | (with_reducible exact impl_program.mono _ _)
      | (with_reducible exact LeO.refl _)
      | (with_reducible exact LeO.none _)
      | (with_reducible refine LeO.ite ?_ ?_)
      | (with_reducible refine LeO.bind ?_ (fun _ => ?_))
      | exact ih0 _ _ _ _ _
      | exact impl_program.mono _ _
      | exact LeO.none _
      | refine LeO.ite ?_ ?_
      | refine LeO.bind ?_ (fun _ => ?_)
theorem impl_CountKind.mono : ∀ a0 a1 k, LeO (impl_CountKind.f k a0 a1) (impl_CountKind.f (k + 1) a0 a1) := by
  intro a0 a1 k
  have ih0 := impl_CountKind.mono_l k
  unfold impl_CountKind.f
  repeat' first
      | (with_reducible exact ih0 _ _ _ _ _)
      | (with_reducible exact impl_program.mono _ _)
      | (with_reducible exact LeO.refl _)
      | (with_reducible exact LeO.none _)
      | (with_reducible refine LeO.ite ?_ ?_)
      | (with_reducible refine LeO.bind ?_ (fun _ => ?_))
      | exact ih0 _ _ _ _ _
      | exact impl_program.mono _ _
      | exact LeO.none _
      | refine LeO.ite ?_ ?_
      | refine LeO.bind ?_ (fun _ => ?_)
set_option maxHeartbeats 8000000 in
set_option maxRecDepth 100000 in
theorem impl_CountKind.calls (k : Nat) (A0 : Option Addr) (c0 : Nat) (l0 : List (S137)) (a1 : Int) (r1 : Int) (r2 : Int) (w : World) (hr0 : Kd.C k137 w A0 l0.length l0) (hc0 : l0.length ≤ c0) (h : impl_CountKind.f k l0 a1 = some (r1, r2)) :
    Calls Try.prog 116 #[.slice A0 l0.length c0, .int .u8 a1] w fun e w' => e = .returned (.tuple #[.int .i64 r1, .int .i64 r2]) ∧ Below w.heap.size w w' := by
  have hu137 := Try.underlying137
  have HR0 := Aside0.mk hr0
  have HC0 := Aside0.mk hc0
  clear hr0 hc0
  have HB := Aside0.mk (Below.refl w.heap.size w)
  have H : ((impl_program.f k l0).bind fun t988 => (if t988 = 0 then (impl_CountKind.l0 k a1 0 l0 (l0.length : Int) 0) else (some (0, t988)))) = some (r1, r2) := h
  clear h
  replace H := Option.bind_eq_some_iff.mp H
  obtain ⟨t988, A30, H⟩ := H
  replace H : (if t988 = 0 then (impl_CountKind.l0 k a1 0 l0 (l0.length : Int) 0) else (some (0, t988))) = some (r1, r2) := H
  have A3 := Aside0.mk A30
  clear A30
  by_cases c4 : t988 = 0
  · rw [if_pos c4] at H
    have c4b0 : (t988 == 0) = true := beq_iff_eq.mpr c4
    have c4b1 : (t988 != 0) = false := bne_eq_false_iff_eq.mpr c4
    clear c4
    have H' := Aside0.mk H
    clear H
    go_enter Try.func116, Try.ntmps116
    go_wp2_with (first | ((with_reducible refine gate_callee (f := 91) rfl ?_); refine goesL_ (some 11) rfl rfl Try.func91 (by kernel_rfl) rfl #[.slice A0 l0.length c0] rfl (by (try simp only [List.map_toArray, List.map_cons, List.map_nil]); first | done | rfl | (simp only [List.length_drop, List.length_take]; rfl)) ?_; (with_reducible refine (impl_program.calls k _ _ l0 t988 _ ?side1 ?side2 A3.out).mono ?_); (case side1 => repeat (first | exact HR0.out | (with_reducible refine Kd.C_alloc ?_ _) | (with_reducible refine Kd.C_drewN ?_ _) | (with_reducible refine Kd.C_drew ?_))); (case side2 => exact HC0.out); rintro e w5 ⟨rfl, hb⟩; refine ⟨_, rfl, ?_⟩; have n0_ := Aside0.mk (below_step (by repeat (first | (with_reducible first | exact HB.out | apply below_alloc | apply pw_below_drewN | apply below_drew1) | exact HB.out)) hb); clear HB; have HB := n0_; clear n0_; (try clear hb); (try clear hb2); (try clear hk); (try clear hi)))
    go_loopg [7, 17] k (fun kq v7 v17 w' => ∃ (x7_1 : Int) (x17_1 : Int), v7 = .int .i64 x7_1 ∧ v17 = .int .i64 x17_1 ∧ Aside0 (impl_CountKind.l0 kq a1 x7_1 l0 (l0.length : Int) x17_1 = some (r1, r2)) ∧ Aside0 (kq ≤ k) ∧ Aside0 (Below w.heap.size w w'))
    case atStart => exact ⟨(0), (0), (by first | rfl | (simp; done) | (simp [*]; done)), (by first | rfl | (simp; done) | (simp [*]; done)), H', ⟨Nat.le_refl _⟩, ⟨by repeat (first | (with_reducible first | exact HB.out | apply below_alloc | apply pw_below_drewN | apply below_drew1) | exact HB.out)⟩⟩
    case round =>
      clear H'
      try clear c1
      try clear p2
      try clear c4
      try clear c4b0
      try clear c4b1
      obtain ⟨x7_1, x17_1, rfl, rfl, HA, HK1, HB⟩ := hrel
      cases gk with
      | zero => exact absurd HA.out (by simp [impl_CountKind.l0])
      | succ k1 =>
        have H := HA.out
        clear HA
        simp only [impl_CountKind.l0] at H
        by_cases c6 : x17_1 < (l0.length : Int)
        · rw [if_pos c6] at H
          have c6b0 : decide (x17_1 < (l0.length : Int)) = true := decide_eq_true c6
          clear c6
          by_cases c7 : 0 ≤ x17_1
          · rw [if_pos c7] at H
            have c7b0 : decide (0 ≤ x17_1) = true := decide_eq_true c7
            clear c7
            by_cases c8 : x17_1 < (l0.length : Int)
            · rw [if_pos c8] at H
              have c8b0 : decide (x17_1 < (l0.length : Int)) = true := decide_eq_true c8
              clear c8
              by_cases c9 : ((rd_T137 l0 x17_1).f0) = a1
              · rw [if_pos c9] at H
                have c9b0 : (((rd_T137 l0 x17_1).f0) == a1) = true := beq_iff_eq.mpr c9
                have c9b1 : (((rd_T137 l0 x17_1).f0) != a1) = false := bne_eq_false_iff_eq.mpr c9
                clear c9
                have H' := Aside0.mk H
                clear H
                have p989 : 0 ≤ (x17_1 : Int) := of_decide_eq_true (by first | (with_reducible assumption) | assumption)
                have q989 : x17_1 < (l0.length : Int) := of_decide_eq_true (by first | (with_reducible assumption) | assumption)
                obtain ⟨ad989, e989, hx989_0, hx989_1, hx989_2⟩ := at_T137 HR0.out x17_1 p989 q989
                cases e989
                replace hx989_0 := (HB.out.cell (World.block_lt_of_cell? w _ hx989_0)).trans hx989_0
                replace hx989_1 := (HB.out.cell (World.block_lt_of_cell? w _ hx989_1)).trans hx989_1
                replace hx989_2 := (HB.out.cell (World.block_lt_of_cell? w _ hx989_2)).trans hx989_2
                replace p989 := eq_true p989
                replace q989 := eq_true q989
                go_wp2_with (first | ((with_reducible refine gate_dst (N := 9) rfl ?_); refine box_event ?hg (N := 9) ?hd (cs := #[.int .u8 0, .int .i64 0, .int .i64 0]) (t := 137) ?hr ?_; (case hd => rfl); (case hg => rfl); (case hr => first | (go_simp; done) | (go_simp; rfl)); intro gb990 hg w10 hbox hb; have n0_ := Aside0.mk (below_step (by repeat (first | (with_reducible first | exact HB.out | apply below_alloc | apply pw_below_drewN | apply below_drew1) | exact HB.out)) hb); have n1_ := Aside0.mk (hbox); have n2_ := Aside0.mk ((by rw [hg]; exact (below_size (by repeat (first | (with_reducible first | exact HB.out | apply below_alloc | apply pw_below_drewN | apply below_drew1) | exact HB.out))) : w.heap.size ≤ gb990)); have n3_ := Aside0.mk ((by rw [hg]; exact (below_size (by repeat (first | (with_reducible first | exact HB.out | apply below_alloc | apply pw_below_drewN | apply below_drew1) | exact HB.out))) : w.heap.size ≤ gb990)); clear HB; have HB := n0_; have BK990 := n1_; have GW990 := n2_; have GE990 := n3_; clear n0_ n1_ n2_ n3_; clear hb hbox hg; have hcz11_0 : w10.cell? ⟨gb990, 0, none⟩ = some (.int .u8 0) := (blk_cell BK990.out 0).trans rfl; have hcz11_1 : w10.cell? ⟨gb990, 1, none⟩ = some (.int .i64 0) := (blk_cell BK990.out 1).trans rfl; have hcz11_2 : w10.cell? ⟨gb990, 2, none⟩ = some (.int .i64 0) := (blk_cell BK990.out 2).trans rfl; have hfz11_0 := blk_frozen BK990.out 0; have hfz11_1 := blk_frozen BK990.out 1; have hfz11_2 := blk_frozen BK990.out 2))
                go_roundg k1
                case measure => have := HK1.out; omega
                case rel => exact ⟨(wrap64 (x7_1 + 1)), (wrap64 (x17_1 + 1)), (by first | rfl | (simp; done) | (simp [*]; done)), (by first | rfl | (simp; done) | (simp [*]; done)), H', ⟨by have := HK1.out; omega⟩, ⟨by repeat (first | (with_reducible first | exact HB.out | apply below_alloc | apply pw_below_drewN | apply below_drew1 | refine below_set ?_ GE990.out) | exact HB.out)⟩⟩
              · rw [if_neg c9] at H
                have c9b0 : (((rd_T137 l0 x17_1).f0) == a1) = false := beq_eq_false_iff_ne.mpr c9
                have c9b1 : (((rd_T137 l0 x17_1).f0) != a1) = true := bne_iff_ne.mpr c9
                have H' := Aside0.mk H
                clear H
                have p989 : 0 ≤ (x17_1 : Int) := of_decide_eq_true (by first | (with_reducible assumption) | assumption)
                have q989 : x17_1 < (l0.length : Int) := of_decide_eq_true (by first | (with_reducible assumption) | assumption)
                obtain ⟨ad989, e989, hx989_0, hx989_1, hx989_2⟩ := at_T137 HR0.out x17_1 p989 q989
                cases e989
                replace hx989_0 := (HB.out.cell (World.block_lt_of_cell? w _ hx989_0)).trans hx989_0
                replace hx989_1 := (HB.out.cell (World.block_lt_of_cell? w _ hx989_1)).trans hx989_1
                replace hx989_2 := (HB.out.cell (World.block_lt_of_cell? w _ hx989_2)).trans hx989_2
                replace p989 := eq_true p989
                replace q989 := eq_true q989
                go_wp2_with (first | ((with_reducible refine gate_dst (N := 9) rfl ?_); refine box_event ?hg (N := 9) ?hd (cs := #[.int .u8 0, .int .i64 0, .int .i64 0]) (t := 137) ?hr ?_; (case hd => rfl); (case hg => rfl); (case hr => first | (go_simp; done) | (go_simp; rfl)); intro gb990 hg w12 hbox hb; have n0_ := Aside0.mk (below_step (by repeat (first | (with_reducible first | exact HB.out | apply below_alloc | apply pw_below_drewN | apply below_drew1) | exact HB.out)) hb); have n1_ := Aside0.mk (hbox); have n2_ := Aside0.mk ((by rw [hg]; exact (below_size (by repeat (first | (with_reducible first | exact HB.out | apply below_alloc | apply pw_below_drewN | apply below_drew1) | exact HB.out))) : w.heap.size ≤ gb990)); have n3_ := Aside0.mk ((by rw [hg]; exact (below_size (by repeat (first | (with_reducible first | exact HB.out | apply below_alloc | apply pw_below_drewN | apply below_drew1) | exact HB.out))) : w.heap.size ≤ gb990)); clear HB; have HB := n0_; have BK990 := n1_; have GW990 := n2_; have GE990 := n3_; clear n0_ n1_ n2_ n3_; clear hb hbox hg; have hcz13_0 : w12.cell? ⟨gb990, 0, none⟩ = some (.int .u8 0) := (blk_cell BK990.out 0).trans rfl; have hcz13_1 : w12.cell? ⟨gb990, 1, none⟩ = some (.int .i64 0) := (blk_cell BK990.out 1).trans rfl; have hcz13_2 : w12.cell? ⟨gb990, 2, none⟩ = some (.int .i64 0) := (blk_cell BK990.out 2).trans rfl; have hfz13_0 := blk_frozen BK990.out 0; have hfz13_1 := blk_frozen BK990.out 1; have hfz13_2 := blk_frozen BK990.out 2))
                go_roundg k1
                case measure => have := HK1.out; omega
                case rel => exact ⟨(x7_1), (wrap64 (x17_1 + 1)), (by first | rfl | (simp; done) | (simp [*]; done)), (by first | rfl | (simp; done) | (simp [*]; done)), H', ⟨by have := HK1.out; omega⟩, ⟨by repeat (first | (with_reducible first | exact HB.out | apply below_alloc | apply pw_below_drewN | apply below_drew1 | refine below_set ?_ GE990.out) | exact HB.out)⟩⟩
            · rw [if_neg c8] at H
              exact absurd H (by simp)
          · rw [if_neg c7] at H
            exact absurd H (by simp)
        · rw [if_neg c6] at H
          have c6b0 : decide (x17_1 < (l0.length : Int)) = false := decide_eq_false c6
          clear c6
          simp only [Option.some.injEq, Prod.mk.injEq] at H
          obtain ⟨rfl, rfl⟩ := H
          go_wp2
          go_ret2
          exact ⟨by first | rfl | (simp [errW_none, errW_some] <;> rfl) | (simp [*, errW_none, errW_some] <;> rfl), by repeat (first | (with_reducible first | exact HB.out | apply below_alloc | apply pw_below_drewN | apply below_drew1) | exact HB.out)⟩
  · rw [if_neg c4] at H
    have c4b0 : (t988 == 0) = false := beq_eq_false_iff_ne.mpr c4
    have c4b1 : (t988 != 0) = true := bne_iff_ne.mpr c4
    simp only [Option.some.injEq, Prod.mk.injEq] at H
    obtain ⟨rfl, rfl⟩ := H
    go_enter Try.func116, Try.ntmps116
    go_wp2_with (first | ((with_reducible refine gate_callee (f := 91) rfl ?_); refine goesL_ (some 11) rfl rfl Try.func91 (by kernel_rfl) rfl #[.slice A0 l0.length c0] rfl (by (try simp only [List.map_toArray, List.map_cons, List.map_nil]); first | done | rfl | (simp only [List.length_drop, List.length_take]; rfl)) ?_; (with_reducible refine (impl_program.calls k _ _ l0 t988 _ ?side1 ?side2 A3.out).mono ?_); (case side1 => repeat (first | exact HR0.out | (with_reducible refine Kd.C_alloc ?_ _) | (with_reducible refine Kd.C_drewN ?_ _) | (with_reducible refine Kd.C_drew ?_))); (case side2 => exact HC0.out); rintro e w14 ⟨rfl, hb⟩; refine ⟨_, rfl, ?_⟩; have n0_ := Aside0.mk (below_step (by repeat (first | (with_reducible first | exact HB.out | apply below_alloc | apply pw_below_drewN | apply below_drew1) | exact HB.out)) hb); clear HB; have HB := n0_; clear n0_; (try clear hb); (try clear hb2); (try clear hk); (try clear hi)))
    go_ret2
    exact ⟨by first | rfl | (simp [errW_none, errW_some] <;> rfl) | (simp [*, errW_none, errW_some] <;> rfl), by repeat (first | (with_reducible first | exact HB.out | apply below_alloc | apply pw_below_drewN | apply below_drew1) | exact HB.out)⟩

end Go.Proofs.Ytgpdjpololkhbaa.F

namespace Go.Proofs.Ytgpdjpololkhbaa.F
open Go.RowKit Go.Proofs.YtgpdjpololkhbaaW.PrintWords Go.Proofs.YtgpdjpololkhbaaW.PrintLast Go.Proofs.YtgpdjpololkhbaaW.PrintMore
attribute [local go_sem] max2_int min2_int max_two min_two max_three min_three max_four min_four   -- for this text's walks alone
set_option linter.unusedVariables false
set_option linter.unusedSimpArgs false

/-! ### impl_floor: function 164 -/
def impl_floor.f (a0 : Int) (a1 : Int) : Option (Int) := if a1 = 0 then (none) else (if (Int.tmod a0 a1) = 0 then (some (wrap64 (Int.tdiv a0 a1))) else (if ((decide ((Int.tmod a0 a1) < 0)) != (decide (a1 < 0))) = true then (some (wrap64 ((wrap64 (Int.tdiv a0 a1)) - 1))) else (some (wrap64 (Int.tdiv a0 a1)))))
set_option maxHeartbeats 8000000 in
set_option maxRecDepth 100000 in
theorem impl_floor.calls (a0 : Int) (a1 : Int) (r : Int) (w : World) (h : impl_floor.f a0 a1 = some r) :
    Calls Try.prog 164 #[.int .i64 a0, .int .i64 a1] w fun e w' => e = .returned (.int .i64 r) ∧ Drawn0 w w' := by
  have H : (if a1 = 0 then (none) else (if (Int.tmod a0 a1) = 0 then (some (wrap64 (Int.tdiv a0 a1))) else (if ((decide ((Int.tmod a0 a1) < 0)) != (decide (a1 < 0))) = true then (some (wrap64 ((wrap64 (Int.tdiv a0 a1)) - 1))) else (some (wrap64 (Int.tdiv a0 a1)))))) = some r := h
  clear h
  by_cases c3 : a1 = 0
  · rw [if_pos c3] at H
    exact absurd H (by simp)
  · rw [if_neg c3] at H
    have c3b0 : (a1 == 0) = false := beq_eq_false_iff_ne.mpr c3
    have c3b1 : (a1 != 0) = true := bne_iff_ne.mpr c3
    by_cases c4 : (Int.tmod a0 a1) = 0
    · rw [if_pos c4] at H
      have c4b0 : ((Int.tmod a0 a1) == 0) = true := beq_iff_eq.mpr c4
      have c4b1 : ((Int.tmod a0 a1) != 0) = false := bne_eq_false_iff_eq.mpr c4
      clear c4
      obtain rfl := Option.some.inj H
      go_enter Try.func164, Try.ntmps164
      go_wp2
      go_ret
      exact ⟨by first | rfl | (simp; done) | (simp [*]; done), by repeat (first | exact Drawn0.refl _ | apply Drawn0.step)⟩
    · rw [if_neg c4] at H
      have c4b0 : ((Int.tmod a0 a1) == 0) = false := beq_eq_false_iff_ne.mpr c4
      have c4b1 : ((Int.tmod a0 a1) != 0) = true := bne_iff_ne.mpr c4
      by_cases c5 : ((decide ((Int.tmod a0 a1) < 0)) != (decide (a1 < 0))) = true
      · rw [if_pos c5] at H
        have c5b0 : ((decide ((Int.tmod a0 a1) < 0)) != (decide (a1 < 0))) = true := c5
        (try (have c5b1 : decide ((decide ((Int.tmod a0 a1) < 0)) = (decide (a1 < 0))) = false := by simpa using c5))
        (try (have c5b2 : ((decide ((Int.tmod a0 a1) < 0)) == (decide (a1 < 0))) = false := by simpa using c5))
        (try (have c5b3 : ¬ ((decide ((Int.tmod a0 a1) < 0)) = (decide (a1 < 0))) := by simpa using c5))
        clear c5
        obtain rfl := Option.some.inj H
        go_enter Try.func164, Try.ntmps164
        go_wp2
        go_ret
        exact ⟨by first | rfl | (simp; done) | (simp [*]; done), by repeat (first | exact Drawn0.refl _ | apply Drawn0.step)⟩
      · rw [if_neg c5] at H
        have c5b0 : ((decide ((Int.tmod a0 a1) < 0)) != (decide (a1 < 0))) = false := by simpa using c5
        (try (have c5b1 : decide ((decide ((Int.tmod a0 a1) < 0)) = (decide (a1 < 0))) = true := by simpa using c5))
        (try (have c5b2 : ((decide ((Int.tmod a0 a1) < 0)) == (decide (a1 < 0))) = true := by simpa using c5))
        clear c5
        obtain rfl := Option.some.inj H
        go_enter Try.func164, Try.ntmps164
        go_wp2
        go_ret
        exact ⟨by first | rfl | (simp; done) | (simp [*]; done), by repeat (first | exact Drawn0.refl _ | apply Drawn0.step)⟩

end Go.Proofs.Ytgpdjpololkhbaa.F

namespace Go.Proofs.Ytgpdjpololkhbaa.F
open Go.RowKit Go.Proofs.YtgpdjpololkhbaaW.PrintWords Go.Proofs.YtgpdjpololkhbaaW.PrintLast Go.Proofs.YtgpdjpololkhbaaW.PrintMore
attribute [local go_sem] max2_int min2_int max_two min_two max_three min_three max_four min_four   -- for this text's walks alone
set_option linter.unusedVariables false
set_option linter.unusedSimpArgs false

/-! ### impl_ceil: function 117 -/
def impl_ceil.f (a0 : Int) (a1 : Int) : Option (Int) := (impl_floor.f (wrap64 (-a0)) a1).bind fun t991 => (some (wrap64 (-t991)))
set_option maxHeartbeats 8000000 in
set_option maxRecDepth 100000 in
theorem impl_ceil.calls (a0 : Int) (a1 : Int) (r : Int) (w : World) (h : impl_ceil.f a0 a1 = some r) :
    Calls Try.prog 117 #[.int .i64 a0, .int .i64 a1] w fun e w' => e = .returned (.int .i64 r) ∧ Drawn0 w w' := by
  have H : ((impl_floor.f (wrap64 (-a0)) a1).bind fun t991 => (some (wrap64 (-t991)))) = some r := h
  clear h
  replace H := Option.bind_eq_some_iff.mp H
  obtain ⟨t991, A30, H⟩ := H
  replace H : (some (wrap64 (-t991))) = some r := H
  have A3 := Aside0.mk A30
  clear A30
  obtain rfl := Option.some.inj H
  go_enter Try.func117, Try.ntmps117
  go_wp2_with (first | ((with_reducible refine gate_callee (f := 164) rfl ?_); refine goesL_ (some 8) rfl rfl Try.func164 (by kernel_rfl) rfl #[.int .i64 (wrap64 (-a0)), .int .i64 a1] rfl (by (try simp only [List.map_toArray, List.map_cons, List.map_nil]); first | done | rfl | (simp only [List.length_drop, List.length_take]; rfl)) ?_; (with_reducible refine (impl_floor.calls (wrap64 (-a0)) a1 t991 _ A3.out).mono ?_); rintro e w' ⟨rfl, ⟨nd, rfl⟩⟩; refine ⟨_, rfl, ?_⟩))
  go_ret
  exact ⟨by first | rfl | (simp; done) | (simp [*]; done), by repeat (first | exact Drawn0.refl _ | apply Drawn0.step)⟩

end Go.Proofs.Ytgpdjpololkhbaa.F

namespace Go.Proofs.Ytgpdjpololkhbaa.F
open Go.RowKit Go.Proofs.YtgpdjpololkhbaaW.PrintWords Go.Proofs.YtgpdjpololkhbaaW.PrintLast Go.Proofs.YtgpdjpololkhbaaW.PrintMore
attribute [local go_sem] max2_int min2_int max_two min_two max_three min_three max_four min_four   -- for this text's walks alone
set_option linter.unusedVariables false
set_option linter.unusedSimpArgs false

/-! ### impl_PlotTime: function 54 -/
def impl_PlotTime.j0 : Nat → List (S137) → Int → Int → Int → Bool → Option (Int × Int)
  | 0, _, _, _, _, _ => none
  | k + 1, x0, x1, x2, x3, x33 => if x33 = true then (some (0, 2)) else ((impl_travel.f k x0).bind fun bt996 => (if bt996.2.2 = true then ((impl_CountKind.f k x0 80).bind fun bt999 => ((impl_ceil.f bt996.1 x1).bind fun t1001 => ((impl_ceil.f bt996.2.1 x2).bind fun t1002 => (some (wrap64 ((wrap64 (t1001 + t1002)) + (wrap64 (bt999.1 * x3))), 0))))) else (some (0, 5))))
def impl_PlotTime.f (k : Nat) (l0 : List (S137)) (a1 : Int) (a2 : Int) (a3 : Int) : Option (Int × Int) := (impl_program.f k l0).bind fun t992 => (if t992 = 0 then ((impl_in.f a1 1 1000000).bind fun t993 => (if t993 = true then ((impl_in.f a2 1 1000000).bind fun t994 => (if t994 = true then ((impl_in.f a3 0 1000000).bind fun t995 => (impl_PlotTime.j0 k l0 a1 a2 a3 (!t995))) else (impl_PlotTime.j0 k l0 a1 a2 a3 true))) else (impl_PlotTime.j0 k l0 a1 a2 a3 true))) else (some (0, t992)))
theorem impl_PlotTime.mono_l : ∀ k, (∀ y0 y1 y2 y3 y4, LeO (impl_PlotTime.j0 k y0 y1 y2 y3 y4) (impl_PlotTime.j0 (k + 1) y0 y1 y2 y3 y4))
  | 0 => fun _ _ _ _ _ r h => by simp [impl_PlotTime.j0] at h
  | k + 1 => by
    have ih0 := impl_PlotTime.mono_l k
    · intro y0 y1 y2 y3 y4
      unfold impl_PlotTime.j0
      repeat' first
      | (with_reducible exact ih0 _ _ _ _ _)
      | (with_reducible exact impl_CountKind.mono _ _ _)
      | (with_reducible exact impl_program.mono _ _)
      | (with_reducible exact impl_travel.mono _ _)
      | (with_reducible exact LeO.refl _)
      | (with_reducible exact LeO.none _)
      | (with_reducible refine LeO.ite ?_ ?_)
      | (with_reducible refine LeO.bind ?_ (fun _ => ?_))
      | exact ih0 _ _ _ _ _
      | exact impl_CountKind.mono _ _ _
      | exact impl_program.mono _ _
      | exact impl_travel.mono _ _
      | exact LeO.none _
      | refine LeO.ite ?_ ?_
      | refine LeO.bind ?_ (fun _ => ?_)
theorem impl_PlotTime.mono : ∀ a0 a1 a2 a3 k, LeO (impl_PlotTime.f k a0 a1 a2 a3) (impl_PlotTime.f (k + 1) a0 a1 a2 a3) := by
  intro a0 a1 a2 a3 k
  have ih0 := impl_PlotTime.mono_l k
  unfold impl_PlotTime.f
  repeat' first
      | (with_reducible exact ih0 _ _ _ _ _)
      | (with_reducible exact impl_CountKind.mono _ _ _)
      | (with_reducible exact impl_program.mono _ _)
      | (with_reducible exact impl_travel.mono _ _)
      | (with_reducible exact LeO.refl _)
      | (with_reducible exact LeO.none _)
      | (with_reducible refine LeO.ite ?_ ?_)
      | (with_reducible refine LeO.bind ?_ (fun _ => ?_))
      | exact ih0 _ _ _ _ _
      | exact impl_CountKind.mono _ _ _
      | exact impl_program.mono _ _
      | exact impl_travel.mono _ _
      | exact LeO.none _
      | refine LeO.ite ?_ ?_
      | refine LeO.bind ?_ (fun _ => ?_)
set_option maxHeartbeats 8000000 in
set_option maxRecDepth 100000 in
theorem impl_PlotTime.calls (k : Nat) (A0 : Option Addr) (c0 : Nat) (l0 : List (S137)) (a1 : Int) (a2 : Int) (a3 : Int) (r1 : Int) (r2 : Int) (w : World) (hr0 : Kd.C k137 w A0 l0.length l0) (hc0 : l0.length ≤ c0) (h : impl_PlotTime.f k l0 a1 a2 a3 = some (r1, r2)) :
    Calls Try.prog 54 #[.slice A0 l0.length c0, .int .i64 a1, .int .i64 a2, .int .i64 a3] w fun e w' => e = .returned (.tuple #[.int .i64 r1, .int .i64 r2]) ∧ Below w.heap.size w w' := by
  have HR0 := Aside0.mk hr0
  have HC0 := Aside0.mk hc0
  clear hr0 hc0
  have HB := Aside0.mk (Below.refl w.heap.size w)
  have H : ((impl_program.f k l0).bind fun t992 => (if t992 = 0 then ((impl_in.f a1 1 1000000).bind fun t993 => (if t993 = true then ((impl_in.f a2 1 1000000).bind fun t994 => (if t994 = true then ((impl_in.f a3 0 1000000).bind fun t995 => (impl_PlotTime.j0 k l0 a1 a2 a3 (!t995))) else (impl_PlotTime.j0 k l0 a1 a2 a3 true))) else (impl_PlotTime.j0 k l0 a1 a2 a3 true))) else (some (0, t992)))) = some (r1, r2) := h
  clear h
  replace H := Option.bind_eq_some_iff.mp H
  obtain ⟨t992, A50, H⟩ := H
  replace H : (if t992 = 0 then ((impl_in.f a1 1 1000000).bind fun t993 => (if t993 = true then ((impl_in.f a2 1 1000000).bind fun t994 => (if t994 = true then ((impl_in.f a3 0 1000000).bind fun t995 => (impl_PlotTime.j0 k l0 a1 a2 a3 (!t995))) else (impl_PlotTime.j0 k l0 a1 a2 a3 true))) else (impl_PlotTime.j0 k l0 a1 a2 a3 true))) else (some (0, t992))) = some (r1, r2) := H
  have A5 := Aside0.mk A50
  clear A50
  by_cases c6 : t992 = 0
  · rw [if_pos c6] at H
    have c6b0 : (t992 == 0) = true := beq_iff_eq.mpr c6
    have c6b1 : (t992 != 0) = false := bne_eq_false_iff_eq.mpr c6
    clear c6
    have HC7 := Aside0.mk H
    clear H
    go_enter Try.func54, Try.ntmps54
    go_upto_region 4 with (first | ((with_reducible refine gate_callee (f := 91) rfl ?_); refine goesL_ (some 17) rfl rfl Try.func91 (by kernel_rfl) rfl #[.slice A0 l0.length c0] rfl (by (try simp only [List.map_toArray, List.map_cons, List.map_nil]); first | done | rfl | (simp only [List.length_drop, List.length_take]; rfl)) ?_; (with_reducible refine (impl_program.calls k _ _ l0 t992 _ ?side1 ?side2 A5.out).mono ?_); (case side1 => repeat (first | exact HR0.out | (with_reducible refine Kd.C_alloc ?_ _) | (with_reducible refine Kd.C_drewN ?_ _) | (with_reducible refine Kd.C_drew ?_))); (case side2 => exact HC0.out); rintro e w8 ⟨rfl, hb⟩; refine ⟨_, rfl, ?_⟩; have n0_ := Aside0.mk (below_step (by repeat (first | (with_reducible first | exact HB.out | apply below_alloc | apply pw_below_drewN | apply below_drew1) | exact HB.out)) hb); clear HB; have HB := n0_; clear n0_; (try clear hb); (try clear hb2); (try clear hk); (try clear hi)))
    (try simp only [Act.put, List.setIfInBounds_toArray, List.set_cons_zero, List.set_cons_succ])
    go_cut [33] (fun v33 wc => ∃ (kq : Nat) (x33_6 : Bool), v33 = .bool x33_6 ∧ Aside0 (impl_PlotTime.j0 kq l0 a1 a2 a3 x33_6 = some (r1, r2)) ∧ Aside0 (kq ≤ k) ∧ Aside0 (Below w.heap.size w wc))
    case first =>
      have H := HC7.out
      clear HC7
      replace H := Option.bind_eq_some_iff.mp H
      obtain ⟨t993, A90, H⟩ := H
      replace H : (if t993 = true then ((impl_in.f a2 1 1000000).bind fun t994 => (if t994 = true then ((impl_in.f a3 0 1000000).bind fun t995 => (impl_PlotTime.j0 k l0 a1 a2 a3 (!t995))) else (impl_PlotTime.j0 k l0 a1 a2 a3 true))) else (impl_PlotTime.j0 k l0 a1 a2 a3 true)) = some (r1, r2) := H
      have A9 := Aside0.mk A90
      clear A90
      by_cases c10 : t993 = true
      · subst c10
        have H1 : ((impl_in.f a2 1 1000000).bind fun t994 => (if t994 = true then ((impl_in.f a3 0 1000000).bind fun t995 => (impl_PlotTime.j0 k l0 a1 a2 a3 (!t995))) else (impl_PlotTime.j0 k l0 a1 a2 a3 true))) = some (r1, r2) := by rw [if_pos rfl] at H; exact H
        clear H
        have H := H1
        clear H1
        replace H := Option.bind_eq_some_iff.mp H
        obtain ⟨t994, A110, H⟩ := H
        replace H : (if t994 = true then ((impl_in.f a3 0 1000000).bind fun t995 => (impl_PlotTime.j0 k l0 a1 a2 a3 (!t995))) else (impl_PlotTime.j0 k l0 a1 a2 a3 true)) = some (r1, r2) := H
        have A11 := Aside0.mk A110
        clear A110
        by_cases c12 : t994 = true
        · subst c12
          have H1 : ((impl_in.f a3 0 1000000).bind fun t995 => (impl_PlotTime.j0 k l0 a1 a2 a3 (!t995))) = some (r1, r2) := by rw [if_pos rfl] at H; exact H
          clear H
          have H := H1
          clear H1
          replace H := Option.bind_eq_some_iff.mp H
          obtain ⟨t995, A130, H⟩ := H
          replace H : (impl_PlotTime.j0 k l0 a1 a2 a3 (!t995)) = some (r1, r2) := H
          have A13 := Aside0.mk A130
          clear A130
          have H' := Aside0.mk H
          clear H
          go_wp2_with (first | ((with_reducible refine gate_callee (f := 92) rfl ?_); refine goesL_ (some 22) rfl rfl Try.func92 (by kernel_rfl) rfl #[.int .i64 a1, .int .i64 1, .int .i64 1000000] rfl (by (try simp only [List.map_toArray, List.map_cons, List.map_nil]); first | done | rfl | (simp only [List.length_drop, List.length_take]; rfl)) ?_; (with_reducible refine (impl_in.calls a1 1 1000000 true _ A9.out).mono ?_); rintro e w' ⟨rfl, ⟨nd, rfl⟩⟩; refine ⟨_, rfl, ?_⟩) | (go_at_call 92; (with_reducible refine (impl_in.calls a2 1 1000000 true _ A11.out).mono ?_); rintro e w' ⟨rfl, ⟨nd, rfl⟩⟩) | (go_at_call 92; (with_reducible refine (impl_in.calls a3 0 1000000 t995 _ A13.out).mono ?_); rintro e w' ⟨rfl, ⟨nd, rfl⟩⟩))
          go_meet
          case rel => exact ⟨_, (!t995), (by first | rfl | (simp; done) | (simp [*]; done)), H', ⟨by first | omega | exact Nat.le_refl _⟩, ⟨by repeat (first | (with_reducible first | exact HB.out | apply below_alloc | apply pw_below_drewN | apply below_drew1) | exact HB.out)⟩⟩
        · replace c12 := Bool.eq_false_iff.mpr c12
          subst c12
          have H1 : (impl_PlotTime.j0 k l0 a1 a2 a3 true) = some (r1, r2) := by rw [if_neg (show ¬ (false = true) by decide)] at H; exact H
          clear H
          have H := H1
          clear H1
          have H' := Aside0.mk H
          clear H
          go_wp2_with (first | ((with_reducible refine gate_callee (f := 92) rfl ?_); refine goesL_ (some 22) rfl rfl Try.func92 (by kernel_rfl) rfl #[.int .i64 a1, .int .i64 1, .int .i64 1000000] rfl (by (try simp only [List.map_toArray, List.map_cons, List.map_nil]); first | done | rfl | (simp only [List.length_drop, List.length_take]; rfl)) ?_; (with_reducible refine (impl_in.calls a1 1 1000000 true _ A9.out).mono ?_); rintro e w' ⟨rfl, ⟨nd, rfl⟩⟩; refine ⟨_, rfl, ?_⟩) | (go_at_call 92; (with_reducible refine (impl_in.calls a2 1 1000000 false _ A11.out).mono ?_); rintro e w' ⟨rfl, ⟨nd, rfl⟩⟩))
          go_meet
          case rel => exact ⟨_, (true), (by first | rfl | (simp; done) | (simp [*]; done)), H', ⟨by first | omega | exact Nat.le_refl _⟩, ⟨by repeat (first | (with_reducible first | exact HB.out | apply below_alloc | apply pw_below_drewN | apply below_drew1) | exact HB.out)⟩⟩
      · replace c10 := Bool.eq_false_iff.mpr c10
        subst c10
        have H1 : (impl_PlotTime.j0 k l0 a1 a2 a3 true) = some (r1, r2) := by rw [if_neg (show ¬ (false = true) by decide)] at H; exact H
        clear H
        have H := H1
        clear H1
        have H' := Aside0.mk H
        clear H
        go_wp2_with (first | ((with_reducible refine gate_callee (f := 92) rfl ?_); refine goesL_ (some 22) rfl rfl Try.func92 (by kernel_rfl) rfl #[.int .i64 a1, .int .i64 1, .int .i64 1000000] rfl (by (try simp only [List.map_toArray, List.map_cons, List.map_nil]); first | done | rfl | (simp only [List.length_drop, List.length_take]; rfl)) ?_; (with_reducible refine (impl_in.calls a1 1 1000000 false _ A9.out).mono ?_); rintro e w' ⟨rfl, ⟨nd, rfl⟩⟩; refine ⟨_, rfl, ?_⟩))
        go_meet
        case rel => exact ⟨_, (true), (by first | rfl | (simp; done) | (simp [*]; done)), H', ⟨by first | omega | exact Nat.le_refl _⟩, ⟨by repeat (first | (with_reducible first | exact HB.out | apply below_alloc | apply pw_below_drewN | apply below_drew1) | exact HB.out)⟩⟩
    case rest =>
      clear HC7
      try clear c1
      try clear p2
      try clear c5
      try clear c6
      try clear c6b0
      try clear c6b1
      try clear c9
      try clear c10
      try clear c12
      obtain ⟨kq, x33_6, rfl, HA, HJ6, HB⟩ := hcut
      cases kq with
      | zero => exact absurd HA.out (by simp [impl_PlotTime.j0])
      | succ kj6 =>
        have H := HA.out
        clear HA
        simp only [impl_PlotTime.j0] at H
        by_cases c14 : x33_6 = true
        · subst c14
          have H1 : (some (0, 2)) = some (r1, r2) := by rw [if_pos rfl] at H; exact H
          clear H
          have H := H1
          clear H1
          simp only [Option.some.injEq, Prod.mk.injEq] at H
          obtain ⟨rfl, rfl⟩ := H
          go_wp2
          go_ret2
          exact ⟨by first | rfl | (simp [errW_none, errW_some] <;> rfl) | (simp [*, errW_none, errW_some] <;> rfl), by repeat (first | (with_reducible first | exact HB.out | apply below_alloc | apply pw_below_drewN | apply below_drew1) | exact HB.out)⟩
        · replace c14 := Bool.eq_false_iff.mpr c14
          subst c14
          have H1 : ((impl_travel.f kj6 l0).bind fun bt996 => (if bt996.2.2 = true then ((impl_CountKind.f kj6 l0 80).bind fun bt999 => ((impl_ceil.f bt996.1 a1).bind fun t1001 => ((impl_ceil.f bt996.2.1 a2).bind fun t1002 => (some (wrap64 ((wrap64 (t1001 + t1002)) + (wrap64 (bt999.1 * a3))), 0))))) else (some (0, 5)))) = some (r1, r2) := by rw [if_neg (show ¬ (false = true) by decide)] at H; exact H
          clear H
          have H := H1
          clear H1
          replace H := Option.bind_eq_some_iff.mp H
          obtain ⟨⟨t996, t997, t998⟩, A150, H⟩ := H
          replace H : (if t998 = true then ((impl_CountKind.f kj6 l0 80).bind fun bt999 => ((impl_ceil.f t996 a1).bind fun t1001 => ((impl_ceil.f t997 a2).bind fun t1002 => (some (wrap64 ((wrap64 (t1001 + t1002)) + (wrap64 (bt999.1 * a3))), 0))))) else (some (0, 5))) = some (r1, r2) := H
          have A15 := Aside0.mk A150
          clear A150
          by_cases c16 : t998 = true
          · subst c16
            have H1 : ((impl_CountKind.f kj6 l0 80).bind fun bt999 => ((impl_ceil.f t996 a1).bind fun t1001 => ((impl_ceil.f t997 a2).bind fun t1002 => (some (wrap64 ((wrap64 (t1001 + t1002)) + (wrap64 (bt999.1 * a3))), 0))))) = some (r1, r2) := by rw [if_pos rfl] at H; exact H
            clear H
            have H := H1
            clear H1
            replace H := Option.bind_eq_some_iff.mp H
            obtain ⟨⟨t999, t1000⟩, A170, H⟩ := H
            replace H : ((impl_ceil.f t996 a1).bind fun t1001 => ((impl_ceil.f t997 a2).bind fun t1002 => (some (wrap64 ((wrap64 (t1001 + t1002)) + (wrap64 (t999 * a3))), 0)))) = some (r1, r2) := H
            have A17 := Aside0.mk A170
            clear A170
            replace H := Option.bind_eq_some_iff.mp H
            obtain ⟨t1001, A180, H⟩ := H
            replace H : ((impl_ceil.f t997 a2).bind fun t1002 => (some (wrap64 ((wrap64 (t1001 + t1002)) + (wrap64 (t999 * a3))), 0))) = some (r1, r2) := H
            have A18 := Aside0.mk A180
            clear A180
            replace H := Option.bind_eq_some_iff.mp H
            obtain ⟨t1002, A190, H⟩ := H
            replace H : (some (wrap64 ((wrap64 (t1001 + t1002)) + (wrap64 (t999 * a3))), 0)) = some (r1, r2) := H
            have A19 := Aside0.mk A190
            clear A190
            simp only [Option.some.injEq, Prod.mk.injEq] at H
            obtain ⟨rfl, rfl⟩ := H
            go_wp2_with (first | ((with_reducible refine gate_callee (f := 114) rfl ?_); refine goesL_ (some 36) rfl rfl Try.func114 (by kernel_rfl) rfl #[.slice A0 l0.length c0] rfl (by (try simp only [List.map_toArray, List.map_cons, List.map_nil]); first | done | rfl | (simp only [List.length_drop, List.length_take]; rfl)) ?_; (with_reducible refine (impl_travel.calls kj6 _ _ l0 t996 t997 true _ ?side1 ?side2 A15.out).mono ?_); (case side1 => repeat (first | exact (Kd.C_below HR0.out HB.out) | (with_reducible refine Kd.C_alloc ?_ _) | (with_reducible refine Kd.C_drewN ?_ _) | (with_reducible refine Kd.C_drew ?_))); (case side2 => exact HC0.out); rintro e w20 ⟨rfl, hb⟩; refine ⟨_, rfl, ?_⟩; have n0_ := Aside0.mk (below_step (by repeat (first | (with_reducible first | exact HB.out | apply below_alloc | apply pw_below_drewN | apply below_drew1) | exact HB.out)) hb); clear HB; have HB := n0_; clear n0_; (try clear hb); (try clear hb2); (try clear hk); (try clear hi)) | ((with_reducible refine gate_callee (f := 116) rfl ?_); refine goesL_ (some 44) rfl rfl Try.func116 (by kernel_rfl) rfl #[.slice A0 l0.length c0, .int .u8 80] rfl (by (try simp only [List.map_toArray, List.map_cons, List.map_nil]); first | done | rfl | (simp only [List.length_drop, List.length_take]; rfl)) ?_; (with_reducible refine (impl_CountKind.calls kj6 _ _ l0 80 t999 t1000 _ ?side1 ?side2 A17.out).mono ?_); (case side1 => repeat (first | exact (Kd.C_below HR0.out HB.out) | (with_reducible refine Kd.C_alloc ?_ _) | (with_reducible refine Kd.C_drewN ?_ _) | (with_reducible refine Kd.C_drew ?_))); (case side2 => exact HC0.out); rintro e w21 ⟨rfl, hb⟩; refine ⟨_, rfl, ?_⟩; have n0_ := Aside0.mk (below_step (by repeat (first | (with_reducible first | exact HB.out | apply below_alloc | apply pw_below_drewN | apply below_drew1) | exact HB.out)) hb); clear HB; have HB := n0_; clear n0_; (try clear hb); (try clear hb2); (try clear hk); (try clear hi)) | ((with_reducible refine gate_callee (f := 117) rfl ?_); refine goesL_ (some 49) rfl rfl Try.func117 (by kernel_rfl) rfl #[.int .i64 t996, .int .i64 a1] rfl (by (try simp only [List.map_toArray, List.map_cons, List.map_nil]); first | done | rfl | (simp only [List.length_drop, List.length_take]; rfl)) ?_; (with_reducible refine (impl_ceil.calls t996 a1 t1001 _ A18.out).mono ?_); rintro e w' ⟨rfl, ⟨nd, rfl⟩⟩; refine ⟨_, rfl, ?_⟩) | ((with_reducible refine gate_callee (f := 117) rfl ?_); refine goesL_ (some 52) rfl rfl Try.func117 (by kernel_rfl) rfl #[.int .i64 t997, .int .i64 a2] rfl (by (try simp only [List.map_toArray, List.map_cons, List.map_nil]); first | done | rfl | (simp only [List.length_drop, List.length_take]; rfl)) ?_; (with_reducible refine (impl_ceil.calls t997 a2 t1002 _ A19.out).mono ?_); rintro e w' ⟨rfl, ⟨nd, rfl⟩⟩; refine ⟨_, rfl, ?_⟩))
            go_ret2
            exact ⟨by first | rfl | (simp [errW_none, errW_some] <;> rfl) | (simp [*, errW_none, errW_some] <;> rfl), by repeat (first | (with_reducible first | exact HB.out | apply below_alloc | apply pw_below_drewN | apply below_drew1) | exact HB.out)⟩
          · replace c16 := Bool.eq_false_iff.mpr c16
            subst c16
            have H1 : (some (0, 5)) = some (r1, r2) := by rw [if_neg (show ¬ (false = true) by decide)] at H; exact H
            clear H
            have H := H1
            clear H1
            simp only [Option.some.injEq, Prod.mk.injEq] at H
            obtain ⟨rfl, rfl⟩ := H
            go_wp2_with (first | ((with_reducible refine gate_callee (f := 114) rfl ?_); refine goesL_ (some 36) rfl rfl Try.func114 (by kernel_rfl) rfl #[.slice A0 l0.length c0] rfl (by (try simp only [List.map_toArray, List.map_cons, List.map_nil]); first | done | rfl | (simp only [List.length_drop, List.length_take]; rfl)) ?_; (with_reducible refine (impl_travel.calls kj6 _ _ l0 t996 t997 false _ ?side1 ?side2 A15.out).mono ?_); (case side1 => repeat (first | exact (Kd.C_below HR0.out HB.out) | (with_reducible refine Kd.C_alloc ?_ _) | (with_reducible refine Kd.C_drewN ?_ _) | (with_reducible refine Kd.C_drew ?_))); (case side2 => exact HC0.out); rintro e w22 ⟨rfl, hb⟩; refine ⟨_, rfl, ?_⟩; have n0_ := Aside0.mk (below_step (by repeat (first | (with_reducible first | exact HB.out | apply below_alloc | apply pw_below_drewN | apply below_drew1) | exact HB.out)) hb); clear HB; have HB := n0_; clear n0_; (try clear hb); (try clear hb2); (try clear hk); (try clear hi)))
            go_ret2
            exact ⟨by first | rfl | (simp [errW_none, errW_some] <;> rfl) | (simp [*, errW_none, errW_some] <;> rfl), by repeat (first | (with_reducible first | exact HB.out | apply below_alloc | apply pw_below_drewN | apply below_drew1) | exact HB.out)⟩
  · rw [if_neg c6] at H
    have c6b0 : (t992 == 0) = false := beq_eq_false_iff_ne.mpr c6
    have c6b1 : (t992 != 0) = true := bne_iff_ne.mpr c6
    simp only [Option.some.injEq, Prod.mk.injEq] at H
    obtain ⟨rfl, rfl⟩ := H
    go_enter Try.func54, Try.ntmps54
    go_wp2_with (first | ((with_reducible refine gate_callee (f := 91) rfl ?_); refine goesL_ (some 17) rfl rfl Try.func91 (by kernel_rfl) rfl #[.slice A0 l0.length c0] rfl (by (try simp only [List.map_toArray, List.map_cons, List.map_nil]); first | done | rfl | (simp only [List.length_drop, List.length_take]; rfl)) ?_; (with_reducible refine (impl_program.calls k _ _ l0 t992 _ ?side1 ?side2 A5.out).mono ?_); (case side1 => repeat (first | exact HR0.out | (with_reducible refine Kd.C_alloc ?_ _) | (with_reducible refine Kd.C_drewN ?_ _) | (with_reducible refine Kd.C_drew ?_))); (case side2 => exact HC0.out); rintro e w23 ⟨rfl, hb⟩; refine ⟨_, rfl, ?_⟩; have n0_ := Aside0.mk (below_step (by repeat (first | (with_reducible first | exact HB.out | apply below_alloc | apply pw_below_drewN | apply below_drew1) | exact HB.out)) hb); clear HB; have HB := n0_; clear n0_; (try clear hb); (try clear hb2); (try clear hk); (try clear hi)))
    go_ret2
    exact ⟨by first | rfl | (simp [errW_none, errW_some] <;> rfl) | (simp [*, errW_none, errW_some] <;> rfl), by repeat (first | (with_reducible first | exact HB.out | apply below_alloc | apply pw_below_drewN | apply below_drew1) | exact HB.out)⟩

end Go.Proofs.Ytgpdjpololkhbaa.F
