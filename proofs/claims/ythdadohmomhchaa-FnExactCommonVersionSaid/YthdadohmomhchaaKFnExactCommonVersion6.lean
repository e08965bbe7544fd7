/-
  A part of the proof of FnExactCommonVersion: contracts of the Go functions that it reaches, and plain statements on what they come to; each says its own conditions.
-/
import Derived.Deep.Slices
import Derived.ChangeArms
import Derived.Test.YthdadohmomhchaaKFnExactCommonVersion5

namespace Go.Proofs.Ythdadohmomhchaa.F
open Go.RowKit Go.Proofs.YthdadohmomhchaaW.PrintWords Go.Proofs.YthdadohmomhchaaW.PrintLast Go.Proofs.YthdadohmomhchaaW.PrintMore
attribute [local go_sem] max2_int min2_int max_two min_two max_three min_three max_four min_four   -- for this text's walks alone
set_option linter.unusedVariables false
set_option linter.unusedSimpArgs false

/-! ### laws_eqVersion: function 102 -/
def laws_eqVersion.f (k : Nat) (a0_0 : Int) (a0_1 : Int) (a0_2 : Int) (a0_3 : Int) (a0_4 : Int) (a0_5 : Int) (l0_6 : List Int) (l0_7 : List Int) (a1_0 : Int) (a1_1 : Int) (a1_2 : Int) (a1_3 : Int) (a1_4 : Int) (a1_5 : Int) (l1_6 : List Int) (l1_7 : List Int) : Option (Bool) := if a0_0 = a1_0 then ((laws_eqProject.f k a0_1 a0_2 a0_3 a0_4 a0_5 l0_6 l0_7 a1_1 a1_2 a1_3 a1_4 a1_5 l1_6 l1_7).bind fun t510 => (if t510 = true then (some true) else (some false))) else (some false)
theorem laws_eqVersion.mono : ∀ a0 a1 a2 a3 a4 a5 a6 a7 a8 a9 a10 a11 a12 a13 a14 a15 k, LeO (laws_eqVersion.f k a0 a1 a2 a3 a4 a5 a6 a7 a8 a9 a10 a11 a12 a13 a14 a15) (laws_eqVersion.f (k + 1) a0 a1 a2 a3 a4 a5 a6 a7 a8 a9 a10 a11 a12 a13 a14 a15) := by
  intro a0 a1 a2 a3 a4 a5 a6 a7 a8 a9 a10 a11 a12 a13 a14 a15 k
  unfold laws_eqVersion.f
  repeat' first
      | (with_reducible exact laws_eqProject.mono _ _ _ _ _ _ _ _ _ _ _ _ _ _ _)
      | (with_reducible exact LeO.refl _)
      | (with_reducible exact LeO.none _)
      | (with_reducible refine LeO.ite ?_ ?_)
      | (with_reducible refine LeO.bind ?_ (fun _ => ?_))
      | exact laws_eqProject.mono _ _ _ _ _ _ _ _ _ _ _ _ _ _ _
      | exact LeO.none _
      | refine LeO.ite ?_ ?_
      | refine LeO.bind ?_ (fun _ => ?_)
set_option maxHeartbeats 8000000 in
set_option maxRecDepth 100000 in
theorem laws_eqVersion.calls (k : Nat) (a0_0 : Int) (a0_1 : Int) (a0_2 : Int) (a0_3 : Int) (a0_4 : Int) (a0_5 : Int) (A0_6 : Option Addr) (c0_6 : Nat) (l0_6 : List Int) (A0_7 : Option Addr) (c0_7 : Nat) (l0_7 : List Int) (a1_0 : Int) (a1_1 : Int) (a1_2 : Int) (a1_3 : Int) (a1_4 : Int) (a1_5 : Int) (A1_6 : Option Addr) (c1_6 : Nat) (l1_6 : List Int) (A1_7 : Option Addr) (c1_7 : Nat) (l1_7 : List Int) (r : Bool) (w : World) (hr0_6 : Kd.C (Kd.int .i64) w A0_6 l0_6.length l0_6) (hc0_6 : l0_6.length ≤ c0_6) (hr0_7 : Kd.C (Kd.int .i64) w A0_7 l0_7.length l0_7) (hc0_7 : l0_7.length ≤ c0_7) (hr1_6 : Kd.C (Kd.int .i64) w A1_6 l1_6.length l1_6) (hc1_6 : l1_6.length ≤ c1_6) (hr1_7 : Kd.C (Kd.int .i64) w A1_7 l1_7.length l1_7) (hc1_7 : l1_7.length ≤ c1_7) (h : laws_eqVersion.f k a0_0 a0_1 a0_2 a0_3 a0_4 a0_5 l0_6 l0_7 a1_0 a1_1 a1_2 a1_3 a1_4 a1_5 l1_6 l1_7 = some r) :
    Calls Try.prog 102 #[.agg #[.int .i64 a0_0, .int .i64 a0_1, .int .i64 a0_2, .int .i64 a0_3, .int .i64 a0_4, .int .i64 a0_5, .slice A0_6 l0_6.length c0_6, .slice A0_7 l0_7.length c0_7], .agg #[.int .i64 a1_0, .int .i64 a1_1, .int .i64 a1_2, .int .i64 a1_3, .int .i64 a1_4, .int .i64 a1_5, .slice A1_6 l1_6.length c1_6, .slice A1_7 l1_7.length c1_7]] w fun e w' => e = .returned (.bool r) ∧ Below w.heap.size w w' := by
  have hu131 := Try.underlying131
  have hu63 := Try.underlying63
  have HR0_6 := Aside0.mk hr0_6
  have HC0_6 := Aside0.mk hc0_6
  clear hr0_6 hc0_6
  have HR0_7 := Aside0.mk hr0_7
  have HC0_7 := Aside0.mk hc0_7
  clear hr0_7 hc0_7
  have HR1_6 := Aside0.mk hr1_6
  have HC1_6 := Aside0.mk hc1_6
  clear hr1_6 hc1_6
  have HR1_7 := Aside0.mk hr1_7
  have HC1_7 := Aside0.mk hc1_7
  clear hr1_7 hc1_7
  have HB := Aside0.mk (Below.refl w.heap.size w)
  have H : (if a0_0 = a1_0 then ((laws_eqProject.f k a0_1 a0_2 a0_3 a0_4 a0_5 l0_6 l0_7 a1_1 a1_2 a1_3 a1_4 a1_5 l1_6 l1_7).bind fun t510 => (if t510 = true then (some true) else (some false))) else (some false)) = some r := h
  clear h
  by_cases c3 : a0_0 = a1_0
  · rw [if_pos c3] at H
    have c3b0 : (a0_0 == a1_0) = true := beq_iff_eq.mpr c3
    have c3b1 : (a0_0 != a1_0) = false := bne_eq_false_iff_eq.mpr c3
    clear c3
    replace H := Option.bind_eq_some_iff.mp H
    obtain ⟨t510, A40, H⟩ := H
    replace H : (if t510 = true then (some true) else (some false)) = some r := H
    have A4 := Aside0.mk A40
    clear A40
    by_cases c5 : t510 = true
    · subst c5
      have H1 : (some true) = some r := by rw [if_pos rfl] at H; exact H
      clear H
      have H := H1
      clear H1
      obtain rfl := Option.some.inj H
      go_enter Try.func102, Try.ntmps102
      go_wp2_with (first | ((with_reducible refine gate_dst (N := 2) rfl ?_); refine box_event ?hg (N := 2) ?hd (cs := #[.int .i64 a0_0, .int .i64 a0_1, .int .i64 a0_2, .int .i64 a0_3, .int .i64 a0_4, .int .i64 a0_5, .slice A0_6 l0_6.length c0_6, .slice A0_7 l0_7.length c0_7]) (t := 131) ?hr ?_; (case hd => rfl); (case hg => rfl); (case hr => first | (go_simp; done) | (go_simp; rfl)); intro gb508 hg w6 hbox hb; have n0_ := Aside0.mk (below_step (by repeat (first | (with_reducible first | exact HB.out | apply below_alloc | apply pw_below_drewN | apply below_drew1) | exact HB.out)) hb); have n1_ := Aside0.mk (hbox); have n2_ := Aside0.mk ((by rw [hg]; exact (below_size (by repeat (first | (with_reducible first | exact HB.out | apply below_alloc | apply pw_below_drewN | apply below_drew1) | exact HB.out))) : w.heap.size ≤ gb508)); have n3_ := Aside0.mk ((by rw [hg]; exact (below_size (by repeat (first | (with_reducible first | exact HB.out | apply below_alloc | apply pw_below_drewN | apply below_drew1) | exact HB.out))) : w.heap.size ≤ gb508)); clear HB; have HB := n0_; have BK508 := n1_; have GW508 := n2_; have GE508 := n3_; clear n0_ n1_ n2_ n3_; clear hb hbox hg) | ((with_reducible refine gate_dst (N := 3) rfl ?_); refine box_event ?hg (N := 3) ?hd (cs := #[.int .i64 a1_0, .int .i64 a1_1, .int .i64 a1_2, .int .i64 a1_3, .int .i64 a1_4, .int .i64 a1_5, .slice A1_6 l1_6.length c1_6, .slice A1_7 l1_7.length c1_7]) (t := 131) ?hr ?_; (case hd => rfl); (case hg => rfl); (case hr => first | (go_simp; done) | (go_simp; rfl)); intro gb509 hg w7 hbox hb; have n0_ := Aside0.mk (blk_below (g := gb508) (o := .cells #[.int .i64 a0_0, .int .i64 a0_1, .int .i64 a0_2, .int .i64 a0_3, .int .i64 a0_4, .int .i64 a0_5, .slice A0_6 l0_6.length c0_6, .slice A0_7 l0_7.length c0_7] 131 (0, 0)) (by (with_reducible repeat (first | refine blk_drewN ?_ _ | refine blk_drew ?_ | refine blk_alloc ?_ _)); exact BK508.out) hb); have n1_ := Aside0.mk (below_step (by repeat (first | (with_reducible first | exact HB.out | apply below_alloc | apply pw_below_drewN | apply below_drew1 | refine below_set ?_ GE508.out) | exact HB.out)) hb); have n2_ := Aside0.mk (hbox); have n3_ := Aside0.mk ((by rw [hg]; exact (below_size (by repeat (first | (with_reducible first | exact HB.out | apply below_alloc | apply pw_below_drewN | apply below_drew1 | refine below_set ?_ GE508.out) | exact HB.out))) : w.heap.size ≤ gb509)); have n4_ := Aside0.mk ((by rw [hg]; exact (below_size (by repeat (first | (with_reducible first | exact HB.out | apply below_alloc | apply pw_below_drewN | apply below_drew1 | refine below_set ?_ GE508.out) | exact HB.out))) : w.heap.size ≤ gb509)); have n5_ := Aside0.mk ((by rw [hg]; exact Nat.ne_of_lt (blk_lt (g := gb508) (o := .cells #[.int .i64 a0_0, .int .i64 a0_1, .int .i64 a0_2, .int .i64 a0_3, .int .i64 a0_4, .int .i64 a0_5, .slice A0_6 l0_6.length c0_6, .slice A0_7 l0_7.length c0_7] 131 (0, 0)) (by (with_reducible repeat (first | refine blk_drewN ?_ _ | refine blk_drew ?_ | refine blk_alloc ?_ _)); exact BK508.out)) : gb508 ≠ gb509)); have n6_ := Aside0.mk ((by rw [hg]; exact Nat.ne_of_gt (blk_lt (g := gb508) (o := .cells #[.int .i64 a0_0, .int .i64 a0_1, .int .i64 a0_2, .int .i64 a0_3, .int .i64 a0_4, .int .i64 a0_5, .slice A0_6 l0_6.length c0_6, .slice A0_7 l0_7.length c0_7] 131 (0, 0)) (by (with_reducible repeat (first | refine blk_drewN ?_ _ | refine blk_drew ?_ | refine blk_alloc ?_ _)); exact BK508.out)) : gb509 ≠ gb508)); clear BK508; clear HB; have BK508 := n0_; have HB := n1_; have BK509 := n2_; have GW509 := n3_; have GE509 := n4_; have NB508_509 := n5_; have NB509_508 := n6_; clear n0_ n1_ n2_ n3_ n4_ n5_ n6_; clear hb hbox hg; have hnb8 := NB508_509.out; have hnc8 := NB509_508.out; have hcz9_0 : w7.cell? ⟨gb508, 0, none⟩ = some (.int .i64 a0_0) := (blk_cell BK508.out 0).trans rfl; have hcz9_1 : w7.cell? ⟨gb508, 1, none⟩ = some (.int .i64 a0_1) := (blk_cell BK508.out 1).trans rfl; have hcz9_2 : w7.cell? ⟨gb508, 2, none⟩ = some (.int .i64 a0_2) := (blk_cell BK508.out 2).trans rfl; have hcz9_3 : w7.cell? ⟨gb508, 3, none⟩ = some (.int .i64 a0_3) := (blk_cell BK508.out 3).trans rfl; have hcz9_4 : w7.cell? ⟨gb508, 4, none⟩ = some (.int .i64 a0_4) := (blk_cell BK508.out 4).trans rfl; have hcz9_5 : w7.cell? ⟨gb508, 5, none⟩ = some (.int .i64 a0_5) := (blk_cell BK508.out 5).trans rfl; have hcz9_6 : w7.cell? ⟨gb508, 6, none⟩ = some (.slice A0_6 l0_6.length c0_6) := (blk_cell BK508.out 6).trans rfl; have hcz9_7 : w7.cell? ⟨gb508, 7, none⟩ = some (.slice A0_7 l0_7.length c0_7) := (blk_cell BK508.out 7).trans rfl; have hfz9_0 := blk_frozen BK508.out 0; have hfz9_1 := blk_frozen BK508.out 1; have hfz9_2 := blk_frozen BK508.out 2; have hfz9_3 := blk_frozen BK508.out 3; have hfz9_4 := blk_frozen BK508.out 4; have hfz9_5 := blk_frozen BK508.out 5; have hfz9_6 := blk_frozen BK508.out 6; have hfz9_7 := blk_frozen BK508.out 7; have hcz10_0 : w7.cell? ⟨gb509, 0, none⟩ = some (.int .i64 a1_0) := (blk_cell BK509.out 0).trans rfl; have hcz10_1 : w7.cell? ⟨gb509, 1, none⟩ = some (.int .i64 a1_1) := (blk_cell BK509.out 1).trans rfl; have hcz10_2 : w7.cell? ⟨gb509, 2, none⟩ = some (.int .i64 a1_2) := (blk_cell BK509.out 2).trans rfl; have hcz10_3 : w7.cell? ⟨gb509, 3, none⟩ = some (.int .i64 a1_3) := (blk_cell BK509.out 3).trans rfl; have hcz10_4 : w7.cell? ⟨gb509, 4, none⟩ = some (.int .i64 a1_4) := (blk_cell BK509.out 4).trans rfl; have hcz10_5 : w7.cell? ⟨gb509, 5, none⟩ = some (.int .i64 a1_5) := (blk_cell BK509.out 5).trans rfl; have hcz10_6 : w7.cell? ⟨gb509, 6, none⟩ = some (.slice A1_6 l1_6.length c1_6) := (blk_cell BK509.out 6).trans rfl; have hcz10_7 : w7.cell? ⟨gb509, 7, none⟩ = some (.slice A1_7 l1_7.length c1_7) := (blk_cell BK509.out 7).trans rfl; have hfz10_0 := blk_frozen BK509.out 0; have hfz10_1 := blk_frozen BK509.out 1; have hfz10_2 := blk_frozen BK509.out 2; have hfz10_3 := blk_frozen BK509.out 3; have hfz10_4 := blk_frozen BK509.out 4; have hfz10_5 := blk_frozen BK509.out 5; have hfz10_6 := blk_frozen BK509.out 6; have hfz10_7 := blk_frozen BK509.out 7) | ((with_reducible refine gate_callee (f := 38) rfl ?_); refine goesL_ (some 14) rfl rfl Try.func38 (by kernel_rfl) rfl #[.agg #[.int .i64 a0_1, .int .i64 a0_2, .int .i64 a0_3, .int .i64 a0_4, .int .i64 a0_5, .slice A0_6 l0_6.length c0_6, .slice A0_7 l0_7.length c0_7], .agg #[.int .i64 a1_1, .int .i64 a1_2, .int .i64 a1_3, .int .i64 a1_4, .int .i64 a1_5, .slice A1_6 l1_6.length c1_6, .slice A1_7 l1_7.length c1_7]] rfl (by (try simp only [List.map_toArray, List.map_cons, List.map_nil]); first | done | rfl | (simp only [List.length_drop, List.length_take]; rfl)) ?_; (with_reducible refine (laws_eqProject.calls k a0_1 a0_2 a0_3 a0_4 a0_5 _ _ l0_6 _ _ l0_7 a1_1 a1_2 a1_3 a1_4 a1_5 _ _ l1_6 _ _ l1_7 true _ ?side1 ?side2 ?side3 ?side4 ?side5 ?side6 ?side7 ?side8 A4.out).mono ?_); (case side1 => repeat (first | exact (Kd.C_below HR0_6.out HB.out) | (with_reducible refine Kd.C_alloc ?_ _) | (with_reducible refine Kd.C_drewN ?_ _) | (with_reducible refine Kd.C_drew ?_))); (case side2 => exact HC0_6.out); (case side3 => repeat (first | exact (Kd.C_below HR0_7.out HB.out) | (with_reducible refine Kd.C_alloc ?_ _) | (with_reducible refine Kd.C_drewN ?_ _) | (with_reducible refine Kd.C_drew ?_))); (case side4 => exact HC0_7.out); (case side5 => repeat (first | exact (Kd.C_below HR1_6.out HB.out) | (with_reducible refine Kd.C_alloc ?_ _) | (with_reducible refine Kd.C_drewN ?_ _) | (with_reducible refine Kd.C_drew ?_))); (case side6 => exact HC1_6.out); (case side7 => repeat (first | exact (Kd.C_below HR1_7.out HB.out) | (with_reducible refine Kd.C_alloc ?_ _) | (with_reducible refine Kd.C_drewN ?_ _) | (with_reducible refine Kd.C_drew ?_))); (case side8 => exact HC1_7.out); rintro e w11 ⟨rfl, hb⟩; refine ⟨_, rfl, ?_⟩; have n0_ := Aside0.mk (blk_below (g := gb508) (o := .cells #[.int .i64 a0_0, .int .i64 a0_1, .int .i64 a0_2, .int .i64 a0_3, .int .i64 a0_4, .int .i64 a0_5, .slice A0_6 l0_6.length c0_6, .slice A0_7 l0_7.length c0_7] 131 (0, 0)) (by (with_reducible repeat (first | refine blk_drewN ?_ _ | refine blk_drew ?_ | refine blk_alloc ?_ _)); exact BK508.out) hb); have n1_ := Aside0.mk (blk_below (g := gb509) (o := .cells #[.int .i64 a1_0, .int .i64 a1_1, .int .i64 a1_2, .int .i64 a1_3, .int .i64 a1_4, .int .i64 a1_5, .slice A1_6 l1_6.length c1_6, .slice A1_7 l1_7.length c1_7] 131 (0, 0)) (by (with_reducible repeat (first | refine blk_drewN ?_ _ | refine blk_drew ?_ | refine blk_alloc ?_ _)); exact BK509.out) hb); have n2_ := Aside0.mk (below_step (by repeat (first | (with_reducible first | exact HB.out | apply below_alloc | apply pw_below_drewN | apply below_drew1 | refine below_set ?_ GE508.out | refine below_set ?_ GE509.out) | exact HB.out)) hb); clear BK508; clear BK509; clear HB; have BK508 := n0_; have BK509 := n1_; have HB := n2_; clear n0_ n1_ n2_; (try clear hb); (try clear hb2); (try clear hk); (try clear hi)))
      go_ret
      exact ⟨by first | rfl | (simp [errW_none, errW_some] <;> rfl) | (simp [*, errW_none, errW_some] <;> rfl), by repeat (first | (with_reducible first | exact HB.out | apply below_alloc | apply pw_below_drewN | apply below_drew1 | refine below_set ?_ GE508.out | refine below_set ?_ GE509.out) | exact HB.out)⟩
    · replace c5 := Bool.eq_false_iff.mpr c5
      subst c5
      have H1 : (some false) = some r := by rw [if_neg (show ¬ (false = true) by decide)] at H; exact H
      clear H
      have H := H1
      clear H1
      obtain rfl := Option.some.inj H
      go_enter Try.func102, Try.ntmps102
      go_wp2_with (first | ((with_reducible refine gate_dst (N := 2) rfl ?_); refine box_event ?hg (N := 2) ?hd (cs := #[.int .i64 a0_0, .int .i64 a0_1, .int .i64 a0_2, .int .i64 a0_3, .int .i64 a0_4, .int .i64 a0_5, .slice A0_6 l0_6.length c0_6, .slice A0_7 l0_7.length c0_7]) (t := 131) ?hr ?_; (case hd => rfl); (case hg => rfl); (case hr => first | (go_simp; done) | (go_simp; rfl)); intro gb508 hg w12 hbox hb; have n0_ := Aside0.mk (below_step (by repeat (first | (with_reducible first | exact HB.out | apply below_alloc | apply pw_below_drewN | apply below_drew1) | exact HB.out)) hb); have n1_ := Aside0.mk (hbox); have n2_ := Aside0.mk ((by rw [hg]; exact (below_size (by repeat (first | (with_reducible first | exact HB.out | apply below_alloc | apply pw_below_drewN | apply below_drew1) | exact HB.out))) : w.heap.size ≤ gb508)); have n3_ := Aside0.mk ((by rw [hg]; exact (below_size (by repeat (first | (with_reducible first | exact HB.out | apply below_alloc | apply pw_below_drewN | apply below_drew1) | exact HB.out))) : w.heap.size ≤ gb508)); clear HB; have HB := n0_; have BK508 := n1_; have GW508 := n2_; have GE508 := n3_; clear n0_ n1_ n2_ n3_; clear hb hbox hg) | ((with_reducible refine gate_dst (N := 3) rfl ?_); refine box_event ?hg (N := 3) ?hd (cs := #[.int .i64 a1_0, .int .i64 a1_1, .int .i64 a1_2, .int .i64 a1_3, .int .i64 a1_4, .int .i64 a1_5, .slice A1_6 l1_6.length c1_6, .slice A1_7 l1_7.length c1_7]) (t := 131) ?hr ?_; (case hd => rfl); (case hg => rfl); (case hr => first | (go_simp; done) | (go_simp; rfl)); intro gb509 hg w13 hbox hb; have n0_ := Aside0.mk (blk_below (g := gb508) (o := .cells #[.int .i64 a0_0, .int .i64 a0_1, .int .i64 a0_2, .int .i64 a0_3, .int .i64 a0_4, .int .i64 a0_5, .slice A0_6 l0_6.length c0_6, .slice A0_7 l0_7.length c0_7] 131 (0, 0)) (by (with_reducible repeat (first | refine blk_drewN ?_ _ | refine blk_drew ?_ | refine blk_alloc ?_ _)); exact BK508.out) hb); have n1_ := Aside0.mk (below_step (by repeat (first | (with_reducible first | exact HB.out | apply below_alloc | apply pw_below_drewN | apply below_drew1 | refine below_set ?_ GE508.out) | exact HB.out)) hb); have n2_ := Aside0.mk (hbox); have n3_ := Aside0.mk ((by rw [hg]; exact (below_size (by repeat (first | (with_reducible first | exact HB.out | apply below_alloc | apply pw_below_drewN | apply below_drew1 | refine below_set ?_ GE508.out) | exact HB.out))) : w.heap.size ≤ gb509)); have n4_ := Aside0.mk ((by rw [hg]; exact (below_size (by repeat (first | (with_reducible first | exact HB.out | apply below_alloc | apply pw_below_drewN | apply below_drew1 | refine below_set ?_ GE508.out) | exact HB.out))) : w.heap.size ≤ gb509)); have n5_ := Aside0.mk ((by rw [hg]; exact Nat.ne_of_lt (blk_lt (g := gb508) (o := .cells #[.int .i64 a0_0, .int .i64 a0_1, .int .i64 a0_2, .int .i64 a0_3, .int .i64 a0_4, .int .i64 a0_5, .slice A0_6 l0_6.length c0_6, .slice A0_7 l0_7.length c0_7] 131 (0, 0)) (by (with_reducible repeat (first | refine blk_drewN ?_ _ | refine blk_drew ?_ | refine blk_alloc ?_ _)); exact BK508.out)) : gb508 ≠ gb509)); have n6_ := Aside0.mk ((by rw [hg]; exact Nat.ne_of_gt (blk_lt (g := gb508) (o := .cells #[.int .i64 a0_0, .int .i64 a0_1, .int .i64 a0_2, .int .i64 a0_3, .int .i64 a0_4, .int .i64 a0_5, .slice A0_6 l0_6.length c0_6, .slice A0_7 l0_7.length c0_7] 131 (0, 0)) (by (with_reducible repeat (first | refine blk_drewN ?_ _ | refine blk_drew ?_ | refine blk_alloc ?_ _)); exact BK508.out)) : gb509 ≠ gb508)); clear BK508; clear HB; have BK508 := n0_; have HB := n1_; have BK509 := n2_; have GW509 := n3_; have GE509 := n4_; have NB508_509 := n5_; have NB509_508 := n6_; clear n0_ n1_ n2_ n3_ n4_ n5_ n6_; clear hb hbox hg; have hnb14 := NB508_509.out; have hnc14 := NB509_508.out; have hcz15_0 : w13.cell? ⟨gb508, 0, none⟩ = some (.int .i64 a0_0) := (blk_cell BK508.out 0).trans rfl; have hcz15_1 : w13.cell? ⟨gb508, 1, none⟩ = some (.int .i64 a0_1) := (blk_cell BK508.out 1).trans rfl; have hcz15_2 : w13.cell? ⟨gb508, 2, none⟩ = some (.int .i64 a0_2) := (blk_cell BK508.out 2).trans rfl; have hcz15_3 : w13.cell? ⟨gb508, 3, none⟩ = some (.int .i64 a0_3) := (blk_cell BK508.out 3).trans rfl; have hcz15_4 : w13.cell? ⟨gb508, 4, none⟩ = some (.int .i64 a0_4) := (blk_cell BK508.out 4).trans rfl; have hcz15_5 : w13.cell? ⟨gb508, 5, none⟩ = some (.int .i64 a0_5) := (blk_cell BK508.out 5).trans rfl; have hcz15_6 : w13.cell? ⟨gb508, 6, none⟩ = some (.slice A0_6 l0_6.length c0_6) := (blk_cell BK508.out 6).trans rfl; have hcz15_7 : w13.cell? ⟨gb508, 7, none⟩ = some (.slice A0_7 l0_7.length c0_7) := (blk_cell BK508.out 7).trans rfl; have hfz15_0 := blk_frozen BK508.out 0; have hfz15_1 := blk_frozen BK508.out 1; have hfz15_2 := blk_frozen BK508.out 2; have hfz15_3 := blk_frozen BK508.out 3; have hfz15_4 := blk_frozen BK508.out 4; have hfz15_5 := blk_frozen BK508.out 5; have hfz15_6 := blk_frozen BK508.out 6; have hfz15_7 := blk_frozen BK508.out 7; have hcz16_0 : w13.cell? ⟨gb509, 0, none⟩ = some (.int .i64 a1_0) := (blk_cell BK509.out 0).trans rfl; have hcz16_1 : w13.cell? ⟨gb509, 1, none⟩ = some (.int .i64 a1_1) := (blk_cell BK509.out 1).trans rfl; have hcz16_2 : w13.cell? ⟨gb509, 2, none⟩ = some (.int .i64 a1_2) := (blk_cell BK509.out 2).trans rfl; have hcz16_3 : w13.cell? ⟨gb509, 3, none⟩ = some (.int .i64 a1_3) := (blk_cell BK509.out 3).trans rfl; have hcz16_4 : w13.cell? ⟨gb509, 4, none⟩ = some (.int .i64 a1_4) := (blk_cell BK509.out 4).trans rfl; have hcz16_5 : w13.cell? ⟨gb509, 5, none⟩ = some (.int .i64 a1_5) := (blk_cell BK509.out 5).trans rfl; have hcz16_6 : w13.cell? ⟨gb509, 6, none⟩ = some (.slice A1_6 l1_6.length c1_6) := (blk_cell BK509.out 6).trans rfl; have hcz16_7 : w13.cell? ⟨gb509, 7, none⟩ = some (.slice A1_7 l1_7.length c1_7) := (blk_cell BK509.out 7).trans rfl; have hfz16_0 := blk_frozen BK509.out 0; have hfz16_1 := blk_frozen BK509.out 1; have hfz16_2 := blk_frozen BK509.out 2; have hfz16_3 := blk_frozen BK509.out 3; have hfz16_4 := blk_frozen BK509.out 4; have hfz16_5 := blk_frozen BK509.out 5; have hfz16_6 := blk_frozen BK509.out 6; have hfz16_7 := blk_frozen BK509.out 7) | ((with_reducible refine gate_callee (f := 38) rfl ?_); refine goesL_ (some 14) rfl rfl Try.func38 (by kernel_rfl) rfl #[.agg #[.int .i64 a0_1, .int .i64 a0_2, .int .i64 a0_3, .int .i64 a0_4, .int .i64 a0_5, .slice A0_6 l0_6.length c0_6, .slice A0_7 l0_7.length c0_7], .agg #[.int .i64 a1_1, .int .i64 a1_2, .int .i64 a1_3, .int .i64 a1_4, .int .i64 a1_5, .slice A1_6 l1_6.length c1_6, .slice A1_7 l1_7.length c1_7]] rfl (by (try simp only [List.map_toArray, List.map_cons, List.map_nil]); first | done | rfl | (simp only [List.length_drop, List.length_take]; rfl)) ?_; (with_reducible refine (laws_eqProject.calls k a0_1 a0_2 a0_3 a0_4 a0_5 _ _ l0_6 _ _ l0_7 a1_1 a1_2 a1_3 a1_4 a1_5 _ _ l1_6 _ _ l1_7 false _ ?side1 ?side2 ?side3 ?side4 ?side5 ?side6 ?side7 ?side8 A4.out).mono ?_); (case side1 => repeat (first | exact (Kd.C_below HR0_6.out HB.out) | (with_reducible refine Kd.C_alloc ?_ _) | (with_reducible refine Kd.C_drewN ?_ _) | (with_reducible refine Kd.C_drew ?_))); (case side2 => exact HC0_6.out); (case side3 => repeat (first | exact (Kd.C_below HR0_7.out HB.out) | (with_reducible refine Kd.C_alloc ?_ _) | (with_reducible refine Kd.C_drewN ?_ _) | (with_reducible refine Kd.C_drew ?_))); (case side4 => exact HC0_7.out); (case side5 => repeat (first | exact (Kd.C_below HR1_6.out HB.out) | (with_reducible refine Kd.C_alloc ?_ _) | (with_reducible refine Kd.C_drewN ?_ _) | (with_reducible refine Kd.C_drew ?_))); (case side6 => exact HC1_6.out); (case side7 => repeat (first | exact (Kd.C_below HR1_7.out HB.out) | (with_reducible refine Kd.C_alloc ?_ _) | (with_reducible refine Kd.C_drewN ?_ _) | (with_reducible refine Kd.C_drew ?_))); (case side8 => exact HC1_7.out); rintro e w17 ⟨rfl, hb⟩; refine ⟨_, rfl, ?_⟩; have n0_ := Aside0.mk (blk_below (g := gb508) (o := .cells #[.int .i64 a0_0, .int .i64 a0_1, .int .i64 a0_2, .int .i64 a0_3, .int .i64 a0_4, .int .i64 a0_5, .slice A0_6 l0_6.length c0_6, .slice A0_7 l0_7.length c0_7] 131 (0, 0)) (by (with_reducible repeat (first | refine blk_drewN ?_ _ | refine blk_drew ?_ | refine blk_alloc ?_ _)); exact BK508.out) hb); have n1_ := Aside0.mk (blk_below (g := gb509) (o := .cells #[.int .i64 a1_0, .int .i64 a1_1, .int .i64 a1_2, .int .i64 a1_3, .int .i64 a1_4, .int .i64 a1_5, .slice A1_6 l1_6.length c1_6, .slice A1_7 l1_7.length c1_7] 131 (0, 0)) (by (with_reducible repeat (first | refine blk_drewN ?_ _ | refine blk_drew ?_ | refine blk_alloc ?_ _)); exact BK509.out) hb); have n2_ := Aside0.mk (below_step (by repeat (first | (with_reducible first | exact HB.out | apply below_alloc | apply pw_below_drewN | apply below_drew1 | refine below_set ?_ GE508.out | refine below_set ?_ GE509.out) | exact HB.out)) hb); clear BK508; clear BK509; clear HB; have BK508 := n0_; have BK509 := n1_; have HB := n2_; clear n0_ n1_ n2_; (try clear hb); (try clear hb2); (try clear hk); (try clear hi)))
      go_ret
      exact ⟨by first | rfl | (simp [errW_none, errW_some] <;> rfl) | (simp [*, errW_none, errW_some] <;> rfl), by repeat (first | (with_reducible first | exact HB.out | apply below_alloc | apply pw_below_drewN | apply below_drew1 | refine below_set ?_ GE508.out | refine below_set ?_ GE509.out) | exact HB.out)⟩
  · rw [if_neg c3] at H
    have c3b0 : (a0_0 == a1_0) = false := beq_eq_false_iff_ne.mpr c3
    have c3b1 : (a0_0 != a1_0) = true := bne_iff_ne.mpr c3
    obtain rfl := Option.some.inj H
    go_enter Try.func102, Try.ntmps102
    go_wp2_with (first | ((with_reducible refine gate_dst (N := 2) rfl ?_); refine box_event ?hg (N := 2) ?hd (cs := #[.int .i64 a0_0, .int .i64 a0_1, .int .i64 a0_2, .int .i64 a0_3, .int .i64 a0_4, .int .i64 a0_5, .slice A0_6 l0_6.length c0_6, .slice A0_7 l0_7.length c0_7]) (t := 131) ?hr ?_; (case hd => rfl); (case hg => rfl); (case hr => first | (go_simp; done) | (go_simp; rfl)); intro gb508 hg w18 hbox hb; have n0_ := Aside0.mk (below_step (by repeat (first | (with_reducible first | exact HB.out | apply below_alloc | apply pw_below_drewN | apply below_drew1) | exact HB.out)) hb); have n1_ := Aside0.mk (hbox); have n2_ := Aside0.mk ((by rw [hg]; exact (below_size (by repeat (first | (with_reducible first | exact HB.out | apply below_alloc | apply pw_below_drewN | apply below_drew1) | exact HB.out))) : w.heap.size ≤ gb508)); have n3_ := Aside0.mk ((by rw [hg]; exact (below_size (by repeat (first | (with_reducible first | exact HB.out | apply below_alloc | apply pw_below_drewN | apply below_drew1) | exact HB.out))) : w.heap.size ≤ gb508)); clear HB; have HB := n0_; have BK508 := n1_; have GW508 := n2_; have GE508 := n3_; clear n0_ n1_ n2_ n3_; clear hb hbox hg) | ((with_reducible refine gate_dst (N := 3) rfl ?_); refine box_event ?hg (N := 3) ?hd (cs := #[.int .i64 a1_0, .int .i64 a1_1, .int .i64 a1_2, .int .i64 a1_3, .int .i64 a1_4, .int .i64 a1_5, .slice A1_6 l1_6.length c1_6, .slice A1_7 l1_7.length c1_7]) (t := 131) ?hr ?_; (case hd => rfl); (case hg => rfl); (case hr => first | (go_simp; done) | (go_simp; rfl)); intro gb509 hg w19 hbox hb; have n0_ := Aside0.mk (blk_below (g := gb508) (o := .cells #[.int .i64 a0_0, .int .i64 a0_1, .int .i64 a0_2, .int .i64 a0_3, .int .i64 a0_4, .int .i64 a0_5, .slice A0_6 l0_6.length c0_6, .slice A0_7 l0_7.length c0_7] 131 (0, 0)) (by (with_reducible repeat (first | refine blk_drewN ?_ _ | refine blk_drew ?_ | refine blk_alloc ?_ _)); exact BK508.out) hb); have n1_ := Aside0.mk (below_step (by repeat (first | (with_reducible first | exact HB.out | apply below_alloc | apply pw_below_drewN | apply below_drew1 | refine below_set ?_ GE508.out) | exact HB.out)) hb); have n2_ := Aside0.mk (hbox); have n3_ := Aside0.mk ((by rw [hg]; exact (below_size (by repeat (first | (with_reducible first | exact HB.out | apply below_alloc | apply pw_below_drewN | apply below_drew1 | refine below_set ?_ GE508.out) | exact HB.out))) : w.heap.size ≤ gb509)); have n4_ := Aside0.mk ((by rw [hg]; exact (below_size (by repeat (first | (with_reducible first | exact HB.out | apply below_alloc | apply pw_below_drewN | apply below_drew1 | refine below_set ?_ GE508.out) | exact HB.out))) : w.heap.size ≤ gb509)); have n5_ := Aside0.mk ((by rw [hg]; exact Nat.ne_of_lt (blk_lt (g := gb508) (o := .cells #[.int .i64 a0_0, .int .i64 a0_1, .int .i64 a0_2, .int .i64 a0_3, .int .i64 a0_4, .int .i64 a0_5, .slice A0_6 l0_6.length c0_6, .slice A0_7 l0_7.length c0_7] 131 (0, 0)) (by (with_reducible repeat (first | refine blk_drewN ?_ _ | refine blk_drew ?_ | refine blk_alloc ?_ _)); exact BK508.out)) : gb508 ≠ gb509)); have n6_ := Aside0.mk ((by rw [hg]; exact Nat.ne_of_gt (blk_lt (g := gb508) (o := .cells #[.int .i64 a0_0, .int .i64 a0_1, .int .i64 a0_2, .int .i64 a0_3, .int .i64 a0_4, .int .i64 a0_5, .slice A0_6 l0_6.length c0_6, .slice A0_7 l0_7.length c0_7] 131 (0, 0)) (by (with_reducible repeat (first | refine blk_drewN ?_ _ | refine blk_drew ?_ | refine blk_alloc ?_ _)); exact BK508.out)) : gb509 ≠ gb508)); clear BK508; clear HB; have BK508 := n0_; have HB := n1_; have BK509 := n2_; have GW509 := n3_; have GE509 := n4_; have NB508_509 := n5_; have NB509_508 := n6_; clear n0_ n1_ n2_ n3_ n4_ n5_ n6_; clear hb hbox hg; have hnb20 := NB508_509.out; have hnc20 := NB509_508.out; have hcz21_0 : w19.cell? ⟨gb508, 0, none⟩ = some (.int .i64 a0_0) := (blk_cell BK508.out 0).trans rfl; have hcz21_1 : w19.cell? ⟨gb508, 1, none⟩ = some (.int .i64 a0_1) := (blk_cell BK508.out 1).trans rfl; have hcz21_2 : w19.cell? ⟨gb508, 2, none⟩ = some (.int .i64 a0_2) := (blk_cell BK508.out 2).trans rfl; have hcz21_3 : w19.cell? ⟨gb508, 3, none⟩ = some (.int .i64 a0_3) := (blk_cell BK508.out 3).trans rfl; have hcz21_4 : w19.cell? ⟨gb508, 4, none⟩ = some (.int .i64 a0_4) := (blk_cell BK508.out 4).trans rfl; have hcz21_5 : w19.cell? ⟨gb508, 5, none⟩ = some (.int .i64 a0_5) := (blk_cell BK508.out 5).trans rfl; have hcz21_6 : w19.cell? ⟨gb508, 6, none⟩ = some (.slice A0_6 l0_6.length c0_6) := (blk_cell BK508.out 6).trans rfl; have hcz21_7 : w19.cell? ⟨gb508, 7, none⟩ = some (.slice A0_7 l0_7.length c0_7) := (blk_cell BK508.out 7).trans rfl; have hfz21_0 := blk_frozen BK508.out 0; have hfz21_1 := blk_frozen BK508.out 1; have hfz21_2 := blk_frozen BK508.out 2; have hfz21_3 := blk_frozen BK508.out 3; have hfz21_4 := blk_frozen BK508.out 4; have hfz21_5 := blk_frozen BK508.out 5; have hfz21_6 := blk_frozen BK508.out 6; have hfz21_7 := blk_frozen BK508.out 7; have hcz22_0 : w19.cell? ⟨gb509, 0, none⟩ = some (.int .i64 a1_0) := (blk_cell BK509.out 0).trans rfl; have hcz22_1 : w19.cell? ⟨gb509, 1, none⟩ = some (.int .i64 a1_1) := (blk_cell BK509.out 1).trans rfl; have hcz22_2 : w19.cell? ⟨gb509, 2, none⟩ = some (.int .i64 a1_2) := (blk_cell BK509.out 2).trans rfl; have hcz22_3 : w19.cell? ⟨gb509, 3, none⟩ = some (.int .i64 a1_3) := (blk_cell BK509.out 3).trans rfl; have hcz22_4 : w19.cell? ⟨gb509, 4, none⟩ = some (.int .i64 a1_4) := (blk_cell BK509.out 4).trans rfl; have hcz22_5 : w19.cell? ⟨gb509, 5, none⟩ = some (.int .i64 a1_5) := (blk_cell BK509.out 5).trans rfl; have hcz22_6 : w19.cell? ⟨gb509, 6, none⟩ = some (.slice A1_6 l1_6.length c1_6) := (blk_cell BK509.out 6).trans rfl; have hcz22_7 : w19.cell? ⟨gb509, 7, none⟩ = some (.slice A1_7 l1_7.length c1_7) := (blk_cell BK509.out 7).trans rfl; have hfz22_0 := blk_frozen BK509.out 0; have hfz22_1 := blk_frozen BK509.out 1; have hfz22_2 := blk_frozen BK509.out 2; have hfz22_3 := blk_frozen BK509.out 3; have hfz22_4 := blk_frozen BK509.out 4; have hfz22_5 := blk_frozen BK509.out 5; have hfz22_6 := blk_frozen BK509.out 6; have hfz22_7 := blk_frozen BK509.out 7))
    go_ret
    exact ⟨by first | rfl | (simp [errW_none, errW_some] <;> rfl) | (simp [*, errW_none, errW_some] <;> rfl), by repeat (first | (with_reducible first | exact HB.out | apply below_alloc | apply pw_below_drewN | apply below_drew1 | refine below_set ?_ GE508.out | refine below_set ?_ GE509.out) | exact HB.out)⟩

end Go.Proofs.Ythdadohmomhchaa.F

namespace Go.Proofs.Ythdadohmomhchaa.F
open Go.RowKit Go.Proofs.YthdadohmomhchaaW.PrintWords Go.Proofs.YthdadohmomhchaaW.PrintLast Go.Proofs.YthdadohmomhchaaW.PrintMore
attribute [local go_sem] max2_int min2_int max_two min_two max_three min_three max_four min_four   -- for this text's walks alone
set_option linter.unusedVariables false
set_option linter.unusedSimpArgs false

/-! ### laws_eqVersionS: function 30 -/
def laws_eqVersionS.l0 : Nat → List (S131) → List (S131) → Int → Option (Bool)
  | 0, _, _, _ => none
  | k + 1, x0, x1, x5 => if x5 < (x0.length : Int) then (if 0 ≤ x5 then (if x5 < (x1.length : Int) then ((laws_eqVersion.f k ((rd_T131 x0 x5).f0) ((rd_T131 x0 x5).f1.f0.f0) ((rd_T131 x0 x5).f1.f0.f1.f0) ((rd_T131 x0 x5).f1.f0.f1.f1) ((rd_T131 x0 x5).f1.f0.f2) ((rd_T131 x0 x5).f1.f1) ((rd_T131 x0 x5).f1.f2) ((rd_T131 x0 x5).f1.f3) ((rd_T131 x1 x5).f0) ((rd_T131 x1 x5).f1.f0.f0) ((rd_T131 x1 x5).f1.f0.f1.f0) ((rd_T131 x1 x5).f1.f0.f1.f1) ((rd_T131 x1 x5).f1.f0.f2) ((rd_T131 x1 x5).f1.f1) ((rd_T131 x1 x5).f1.f2) ((rd_T131 x1 x5).f1.f3)).bind fun t513 => (if t513 = true then (laws_eqVersionS.l0 k x0 x1 (wrap64 (x5 + 1))) else (some false))) else (none)) else (none)) else (some true)
def laws_eqVersionS.f (k : Nat) (l0 : List (S131)) (l1 : List (S131)) : Option (Bool) := if (l0.length : Int) = (l1.length : Int) then (laws_eqVersionS.l0 k l0 l1 0) else (some false)
theorem laws_eqVersionS.mono_l : ∀ k, (∀ y0 y1 y2, LeO (laws_eqVersionS.l0 k y0 y1 y2) (laws_eqVersionS.l0 (k + 1) y0 y1 y2))
  | 0 => fun _ _ _ r h => by simp [laws_eqVersionS.l0] at h
  | k + 1 => by
    have ih0 := laws_eqVersionS.mono_l k
    · intro y0 y1 y2
      unfold laws_eqVersionS.l0
      repeat' first
      | (with_reducible exact ih0 _ _ _)
      | (with_reducible exact laws_eqVersion.mono _ _ _ _ _ _ _ _ _ _ _ _ _ _ _ _ _)
      | (with_reducible exact LeO.refl _)
      | (with_reducible exact LeO.none _)
      | (with_reducible refine LeO.ite ?_ ?_)
      | (with_reducible refine LeO.bind ?_ (fun _ => ?_))
      | exact ih0 _ _ _
      | exact laws_eqVersion.mono _ _ _ _ _ _ _ _ _ _ _ _ _ _ _ _ _
      | exact LeO.none _
      | refine LeO.ite ?_ ?_
      | refine LeO.bind ?_ (fun _ => ?_)
theorem laws_eqVersionS.mono : ∀ a0 a1 k, LeO (laws_eqVersionS.f k a0 a1) (laws_eqVersionS.f (k + 1) a0 a1) := by
  intro a0 a1 k
  have ih0 := laws_eqVersionS.mono_l k
  unfold laws_eqVersionS.f
  repeat' first
      | (with_reducible exact ih0 _ _ _)
      | (with_reducible exact laws_eqVersion.mono _ _ _ _ _ _ _ _ _ _ _ _ _ _ _ _ _)
      | (with_reducible exact LeO.refl _)
      | (with_reducible exact LeO.none _)
      | (with_reducible refine LeO.ite ?_ ?_)
      | (with_reducible refine LeO.bind ?_ (fun _ => ?_))
      | exact ih0 _ _ _
      | exact laws_eqVersion.mono _ _ _ _ _ _ _ _ _ _ _ _ _ _ _ _ _
      | exact LeO.none _
      | refine LeO.ite ?_ ?_
      | refine LeO.bind ?_ (fun _ => ?_)
def laws_eqVersionS.T6 : Bool × List (List Nat × List Nat) := (true, [([], []), ([], []), ([0, 1], [0, 1]), ([2], [2]), ([], []), ([], []), ([4, 5], [4, 5]), ([6], [6]), ([3, 7], [3, 7]), ([8], [8])])
def laws_eqVersionS.B6 : List Nat := [0, 0, 3, 7, 0, 0, 48, 112, 255, 511]
theorem laws_eqVersionS.tab6 : rtab .any (opsOf Try.f30 6) = laws_eqVersionS.T6 := by kernel_rfl
theorem laws_eqVersionS.bits6 : waitsOk laws_eqVersionS.T6.2 laws_eqVersionS.B6 = true := by kernel_rfl
set_option maxHeartbeats 8000000 in
set_option maxRecDepth 100000 in
theorem laws_eqVersionS.calls (k : Nat) (A0 : Option Addr) (c0 : Nat) (l0 : List (S131)) (A1 : Option Addr) (c1 : Nat) (l1 : List (S131)) (r : Bool) (w : World) (hr0 : Kd.C k131 w A0 l0.length l0) (hc0 : l0.length ≤ c0) (hr1 : Kd.C k131 w A1 l1.length l1) (hc1 : l1.length ≤ c1) (h : laws_eqVersionS.f k l0 l1 = some r) :
    Calls Try.prog 30 #[.slice A0 l0.length c0, .slice A1 l1.length c1] w fun e w' => e = .returned (.bool r) ∧ Below w.heap.size w w' := by
  have hu131 := Try.underlying131
  have HR0 := Aside0.mk hr0
  have HC0 := Aside0.mk hc0
  clear hr0 hc0
  have HR1 := Aside0.mk hr1
  have HC1 := Aside0.mk hc1
  clear hr1 hc1
  have HB := Aside0.mk (Below.refl w.heap.size w)
  have H : (if (l0.length : Int) = (l1.length : Int) then (laws_eqVersionS.l0 k l0 l1 0) else (some false)) = some r := h
  clear h
  by_cases c3 : (l0.length : Int) = (l1.length : Int)
  · rw [if_pos c3] at H
    have c3b0 : ((l0.length : Int) == (l1.length : Int)) = true := beq_iff_eq.mpr c3
    have c3b1 : ((l0.length : Int) != (l1.length : Int)) = false := bne_eq_false_iff_eq.mpr c3
    have c3b2 : (l0.length == l1.length) = true := by first | simpa using c3 | (simp at c3 ⊢; omega)
    clear c3
    have H' := Aside0.mk H
    clear H
    go_enter Try.func30, Try.ntmps30
    go_wp2
    go_loopg [5] k (fun kq v5 w' => ∃ (x5_1 : Int), v5 = .int .i64 x5_1 ∧ Aside0 (laws_eqVersionS.l0 kq l0 l1 x5_1 = some r) ∧ Aside0 (kq ≤ k) ∧ Aside0 (Below w.heap.size w w'))
    case atStart => exact ⟨(0), (by first | rfl | (simp; done) | (simp [*]; done)), H', ⟨Nat.le_refl _⟩, ⟨by repeat (first | (with_reducible first | exact HB.out | apply below_alloc | apply pw_below_drewN | apply below_drew1) | exact HB.out)⟩⟩
    case round =>
      clear H'
      try clear c1
      try clear p2
      try clear c3
      try clear c3b0
      try clear c3b1
      try clear c3b2
      obtain ⟨x5_1, rfl, HA, HK1, HB⟩ := hrel
      cases gk with
      | zero => exact absurd HA.out (by simp [laws_eqVersionS.l0])
      | succ k1 =>
        have H := HA.out
        clear HA
        simp only [laws_eqVersionS.l0] at H
        by_cases c4 : x5_1 < (l0.length : Int)
        · rw [if_pos c4] at H
          have c4b0 : decide (x5_1 < (l0.length : Int)) = true := decide_eq_true c4
          clear c4
          by_cases c5 : 0 ≤ x5_1
          · rw [if_pos c5] at H
            have c5b0 : decide (0 ≤ x5_1) = true := decide_eq_true c5
            clear c5
            by_cases c6 : x5_1 < (l1.length : Int)
            · rw [if_pos c6] at H
              have c6b0 : decide (x5_1 < (l1.length : Int)) = true := decide_eq_true c6
              clear c6
              replace H := Option.bind_eq_some_iff.mp H
              obtain ⟨t513, A70, H⟩ := H
              replace H : (if t513 = true then (laws_eqVersionS.l0 k1 l0 l1 (wrap64 (x5_1 + 1))) else (some false)) = some r := H
              have A7 := Aside0.mk A70
              clear A70
              by_cases c8 : t513 = true
              · subst c8
                have H1 : (laws_eqVersionS.l0 k1 l0 l1 (wrap64 (x5_1 + 1))) = some r := by rw [if_pos rfl] at H; exact H
                clear H
                have H := H1
                clear H1
                have H' := Aside0.mk H
                clear H
                try go_wp2
                have n0_ := Aside0.mk (below_drew1 HB.out)
                clear HB
                have HB := n0_
                clear n0_
                have p511 : 0 ≤ (x5_1 : Int) := of_decide_eq_true (by first | (with_reducible assumption) | assumption)
                have q511 : x5_1 < (l0.length : Int) := of_decide_eq_true (by first | (with_reducible assumption) | assumption)
                obtain ⟨ad511, A511_6, c511_6, A511_7, c511_7, e511, hx511_0, hx511_1, hx511_2, hx511_3, hx511_4, hx511_5, hx511_6, hx511_7, hl511_6, hi511_6, hl511_7, hi511_7⟩ := at_T131 HR0.out x5_1 p511 q511
                have hw511_7 := hx511_7
                have hw511_6 := hx511_6
                have hw511_5 := hx511_5
                have hw511_4 := hx511_4
                have hw511_3 := hx511_3
                have hw511_2 := hx511_2
                have hw511_1 := hx511_1
                have hw511_0 := hx511_0
                cases e511
                replace hx511_0 := (HB.out.cell (World.block_lt_of_cell? w _ hx511_0)).trans hx511_0
                replace hx511_1 := (HB.out.cell (World.block_lt_of_cell? w _ hx511_1)).trans hx511_1
                replace hx511_2 := (HB.out.cell (World.block_lt_of_cell? w _ hx511_2)).trans hx511_2
                replace hx511_3 := (HB.out.cell (World.block_lt_of_cell? w _ hx511_3)).trans hx511_3
                replace hx511_4 := (HB.out.cell (World.block_lt_of_cell? w _ hx511_4)).trans hx511_4
                replace hx511_5 := (HB.out.cell (World.block_lt_of_cell? w _ hx511_5)).trans hx511_5
                replace hx511_6 := (HB.out.cell (World.block_lt_of_cell? w _ hx511_6)).trans hx511_6
                replace hx511_7 := (HB.out.cell (World.block_lt_of_cell? w _ hx511_7)).trans hx511_7
                have HR511_6 := Aside0.mk hi511_6
                have HC511_6 := Aside0.mk hl511_6
                clear hi511_6 hl511_6
                have HR511_7 := Aside0.mk hi511_7
                have HC511_7 := Aside0.mk hl511_7
                clear hi511_7 hl511_7
                replace p511 := eq_true p511
                replace q511 := eq_true q511
                have p512 : 0 ≤ (x5_1 : Int) := of_decide_eq_true (by first | (with_reducible assumption) | assumption)
                have q512 : x5_1 < (l1.length : Int) := of_decide_eq_true (by first | (with_reducible assumption) | assumption)
                obtain ⟨ad512, A512_6, c512_6, A512_7, c512_7, e512, hx512_0, hx512_1, hx512_2, hx512_3, hx512_4, hx512_5, hx512_6, hx512_7, hl512_6, hi512_6, hl512_7, hi512_7⟩ := at_T131 HR1.out x5_1 p512 q512
                have hw512_7 := hx512_7
                have hw512_6 := hx512_6
                have hw512_5 := hx512_5
                have hw512_4 := hx512_4
                have hw512_3 := hx512_3
                have hw512_2 := hx512_2
                have hw512_1 := hx512_1
                have hw512_0 := hx512_0
                cases e512
                replace hx512_0 := (HB.out.cell (World.block_lt_of_cell? w _ hx512_0)).trans hx512_0
                replace hx512_1 := (HB.out.cell (World.block_lt_of_cell? w _ hx512_1)).trans hx512_1
                replace hx512_2 := (HB.out.cell (World.block_lt_of_cell? w _ hx512_2)).trans hx512_2
                replace hx512_3 := (HB.out.cell (World.block_lt_of_cell? w _ hx512_3)).trans hx512_3
                replace hx512_4 := (HB.out.cell (World.block_lt_of_cell? w _ hx512_4)).trans hx512_4
                replace hx512_5 := (HB.out.cell (World.block_lt_of_cell? w _ hx512_5)).trans hx512_5
                replace hx512_6 := (HB.out.cell (World.block_lt_of_cell? w _ hx512_6)).trans hx512_6
                replace hx512_7 := (HB.out.cell (World.block_lt_of_cell? w _ hx512_7)).trans hx512_7
                have HR512_6 := Aside0.mk hi512_6
                have HC512_6 := Aside0.mk hl512_6
                clear hi512_6 hl512_6
                have HR512_7 := Aside0.mk hi512_7
                have HC512_7 := Aside0.mk hl512_7
                clear hi512_7 hl512_7
                replace p512 := eq_true p512
                replace q512 := eq_true q512
                refine start_ (n := 10) (S := fun w' => w'.cell? (ad511.add ((x5_1).toNat * 8)) = some (.int .i64 ((rd_T131 l0 x5_1).f0)) ∧ w'.cell? ⟨(ad511.add ((x5_1).toNat * 8)).block, (ad511.add ((x5_1).toNat * 8)).off + 1, none⟩ = some (.int .i64 ((rd_T131 l0 x5_1).f1.f0.f0)) ∧ w'.cell? ⟨(ad511.add ((x5_1).toNat * 8)).block, (ad511.add ((x5_1).toNat * 8)).off + 2, none⟩ = some (.int .i64 ((rd_T131 l0 x5_1).f1.f0.f1.f0)) ∧ w'.cell? ⟨(ad511.add ((x5_1).toNat * 8)).block, (ad511.add ((x5_1).toNat * 8)).off + 3, none⟩ = some (.int .i64 ((rd_T131 l0 x5_1).f1.f0.f1.f1)) ∧ w'.cell? ⟨(ad511.add ((x5_1).toNat * 8)).block, (ad511.add ((x5_1).toNat * 8)).off + 4, none⟩ = some (.int .i64 ((rd_T131 l0 x5_1).f1.f0.f2)) ∧ w'.cell? ⟨(ad511.add ((x5_1).toNat * 8)).block, (ad511.add ((x5_1).toNat * 8)).off + 5, none⟩ = some (.int .i64 ((rd_T131 l0 x5_1).f1.f1)) ∧ w'.cell? ⟨(ad511.add ((x5_1).toNat * 8)).block, (ad511.add ((x5_1).toNat * 8)).off + 6, none⟩ = some (.slice A511_6 ((rd_T131 l0 x5_1).f1.f2).length c511_6) ∧ w'.cell? ⟨(ad511.add ((x5_1).toNat * 8)).block, (ad511.add ((x5_1).toNat * 8)).off + 7, none⟩ = some (.slice A511_7 ((rd_T131 l0 x5_1).f1.f3).length c511_7) ∧ w'.cell? (ad512.add ((x5_1).toNat * 8)) = some (.int .i64 ((rd_T131 l1 x5_1).f0)) ∧ w'.cell? ⟨(ad512.add ((x5_1).toNat * 8)).block, (ad512.add ((x5_1).toNat * 8)).off + 1, none⟩ = some (.int .i64 ((rd_T131 l1 x5_1).f1.f0.f0)) ∧ w'.cell? ⟨(ad512.add ((x5_1).toNat * 8)).block, (ad512.add ((x5_1).toNat * 8)).off + 2, none⟩ = some (.int .i64 ((rd_T131 l1 x5_1).f1.f0.f1.f0)) ∧ w'.cell? ⟨(ad512.add ((x5_1).toNat * 8)).block, (ad512.add ((x5_1).toNat * 8)).off + 3, none⟩ = some (.int .i64 ((rd_T131 l1 x5_1).f1.f0.f1.f1)) ∧ w'.cell? ⟨(ad512.add ((x5_1).toNat * 8)).block, (ad512.add ((x5_1).toNat * 8)).off + 4, none⟩ = some (.int .i64 ((rd_T131 l1 x5_1).f1.f0.f2)) ∧ w'.cell? ⟨(ad512.add ((x5_1).toNat * 8)).block, (ad512.add ((x5_1).toNat * 8)).off + 5, none⟩ = some (.int .i64 ((rd_T131 l1 x5_1).f1.f1)) ∧ w'.cell? ⟨(ad512.add ((x5_1).toNat * 8)).block, (ad512.add ((x5_1).toNat * 8)).off + 6, none⟩ = some (.slice A512_6 ((rd_T131 l1 x5_1).f1.f2).length c512_6) ∧ w'.cell? ⟨(ad512.add ((x5_1).toNat * 8)).block, (ad512.add ((x5_1).toNat * 8)).off + 7, none⟩ = some (.slice A512_7 ((rd_T131 l1 x5_1).f1.f3).length c512_7)) (ds := []) #[false, false, false, false, false, false, false, false, false, false] (by kernel_rfl) rfl rfl ⟨((HB.out.cell (World.block_lt_of_cell? w _ hw511_0)).trans hw511_0), ((HB.out.cell (World.block_lt_of_cell? w _ hw511_1)).trans hw511_1), ((HB.out.cell (World.block_lt_of_cell? w _ hw511_2)).trans hw511_2), ((HB.out.cell (World.block_lt_of_cell? w _ hw511_3)).trans hw511_3), ((HB.out.cell (World.block_lt_of_cell? w _ hw511_4)).trans hw511_4), ((HB.out.cell (World.block_lt_of_cell? w _ hw511_5)).trans hw511_5), ((HB.out.cell (World.block_lt_of_cell? w _ hw511_6)).trans hw511_6), ((HB.out.cell (World.block_lt_of_cell? w _ hw511_7)).trans hw511_7), ((HB.out.cell (World.block_lt_of_cell? w _ hw512_0)).trans hw512_0), ((HB.out.cell (World.block_lt_of_cell? w _ hw512_1)).trans hw512_1), ((HB.out.cell (World.block_lt_of_cell? w _ hw512_2)).trans hw512_2), ((HB.out.cell (World.block_lt_of_cell? w _ hw512_3)).trans hw512_3), ((HB.out.cell (World.block_lt_of_cell? w _ hw512_4)).trans hw512_4), ((HB.out.cell (World.block_lt_of_cell? w _ hw512_5)).trans hw512_5), ((HB.out.cell (World.block_lt_of_cell? w _ hw512_6)).trans hw512_6), ((HB.out.cell (World.block_lt_of_cell? w _ hw512_7)).trans hw512_7)⟩ (fun hHeld => ?_); refine with_tabW laws_eqVersionS.tab6 laws_eqVersionS.bits6 (fun HT_ HW_ => ?_)
                generalize wr.drew = w9 at HB HR511_6 HR511_7 HR512_6 HR512_7 hx511_0 hx511_1 hx511_2 hx511_3 hx511_4 hx511_5 hx511_6 hx511_7 hx512_0 hx512_1 hx512_2 hx512_3 hx512_4 hx512_5 hx512_6 hx512_7 hHeld ⊢
                refine pure_ (i := 0) (N := some 17) (v := ?_) (a' := ?_) #[true, false, false, false, false, false, false, false, false, false] rfl rfl (any_of HT_.out (by kernel_rfl)) (fun _ _ _ h => h) (Or.inl ⟨by rfl, ?_⟩) ?_ ?_
                rotate_left
                · intro w'
                  go_simp
                  with_reducible rfl
                rotate_left
                · simp only [Act.put, List.setIfInBounds_toArray, List.set_cons_zero, List.set_cons_succ, i64_w, i32_w]
                  rfl
                refine pure_ (i := 1) (N := some 18) (v := ?_) (a' := ?_) #[true, true, false, false, false, false, false, false, false, false] rfl rfl (any_of HT_.out (by kernel_rfl)) (fun _ _ _ h => h) (Or.inl ⟨by rfl, ?_⟩) ?_ ?_
                rotate_left
                · intro w'
                  go_simp
                  with_reducible rfl
                rotate_left
                · simp only [Act.put, List.setIfInBounds_toArray, List.set_cons_zero, List.set_cons_succ, i64_w, i32_w]
                  rfl
                refine pure_ (i := 2) (N := some 19) (v := ?_) (a' := ?_) #[true, true, true, false, false, false, false, false, false, false] rfl rfl (any_of HT_.out (by kernel_rfl)) (fun _ _ _ h => h) (Or.inl ⟨by rfl, ?_⟩) ?_ ?_
                rotate_left
                · intro w'
                  go_simp
                  with_reducible rfl
                rotate_left
                · simp only [Act.put, List.setIfInBounds_toArray, List.set_cons_zero, List.set_cons_succ, i64_w, i32_w]
                  rfl
                refine pure_ (i := 4) (N := some 21) (v := ?_) (a' := ?_) #[true, true, true, false, true, false, false, false, false, false] rfl rfl (any_of HT_.out (by kernel_rfl)) (fun _ _ _ h => h) (Or.inl ⟨by rfl, ?_⟩) ?_ ?_
                rotate_left
                · intro w'
                  go_simp
                  with_reducible rfl
                rotate_left
                · simp only [Act.put, List.setIfInBounds_toArray, List.set_cons_zero, List.set_cons_succ, i64_w, i32_w]
                  rfl
                refine pure_ (i := 5) (N := some 22) (v := ?_) (a' := ?_) #[true, true, true, false, true, true, false, false, false, false] rfl rfl (any_of HT_.out (by kernel_rfl)) (fun _ _ _ h => h) (Or.inl ⟨by rfl, ?_⟩) ?_ ?_
                rotate_left
                · intro w'
                  go_simp
                  with_reducible rfl
                rotate_left
                · simp only [Act.put, List.setIfInBounds_toArray, List.set_cons_zero, List.set_cons_succ, i64_w, i32_w]
                  rfl
                refine pure_ (i := 6) (N := some 23) (v := ?_) (a' := ?_) #[true, true, true, false, true, true, true, false, false, false] rfl rfl (any_of HT_.out (by kernel_rfl)) (fun _ _ _ h => h) (Or.inl ⟨by rfl, ?_⟩) ?_ ?_
                rotate_left
                · intro w'
                  go_simp
                  with_reducible rfl
                rotate_left
                · simp only [Act.put, List.setIfInBounds_toArray, List.set_cons_zero, List.set_cons_succ, i64_w, i32_w]
                  rfl
                refine take_ (i := 3) (N := some 20) (v := ?_) (a' := ?_) #[true, true, true, true, true, true, true, false, false, false] rfl rfl (take_ofW HT_.out HW_.out (by kernel_rfl)) (fun _ _ _ h => h) (Or.inl ⟨by rfl, ?_⟩) hHeld ?_ ?_
                rotate_left
                · rintro w' ⟨s0, s1, s2, s3, s4, s5, s6, s7, s8, s9, s10, s11, s12, s13, s14, s15⟩
                  go_simp
                  with_reducible rfl
                rotate_left
                · simp only [Act.put, List.setIfInBounds_toArray, List.set_cons_zero, List.set_cons_succ, i64_w, i32_w]
                  rfl
                refine take_ (i := 7) (N := some 24) (v := ?_) (a' := ?_) #[true, true, true, true, true, true, true, true, false, false] rfl rfl (take_ofW HT_.out HW_.out (by kernel_rfl)) (fun _ _ _ h => h) (Or.inl ⟨by rfl, ?_⟩) hHeld ?_ ?_
                rotate_left
                · rintro w' ⟨s0, s1, s2, s3, s4, s5, s6, s7, s8, s9, s10, s11, s12, s13, s14, s15⟩
                  go_simp
                  with_reducible rfl
                rotate_left
                · simp only [Act.put, List.setIfInBounds_toArray, List.set_cons_zero, List.set_cons_succ, i64_w, i32_w]
                  rfl
                refine one_ (i := 8) (N := some 25) #[true, true, true, true, true, true, true, true, true, false] rfl rfl (one_of HT_.out (by kernel_rfl)) (by decide) (fun K hK => ?_)
                refine goes_ Try.func102 (by kernel_rfl) rfl #[.agg #[.int .i64 ((rd_T131 l0 x5_1).f0), .int .i64 ((rd_T131 l0 x5_1).f1.f0.f0), .int .i64 ((rd_T131 l0 x5_1).f1.f0.f1.f0), .int .i64 ((rd_T131 l0 x5_1).f1.f0.f1.f1), .int .i64 ((rd_T131 l0 x5_1).f1.f0.f2), .int .i64 ((rd_T131 l0 x5_1).f1.f1), .slice A511_6 ((rd_T131 l0 x5_1).f1.f2).length c511_6, .slice A511_7 ((rd_T131 l0 x5_1).f1.f3).length c511_7], .agg #[.int .i64 ((rd_T131 l1 x5_1).f0), .int .i64 ((rd_T131 l1 x5_1).f1.f0.f0), .int .i64 ((rd_T131 l1 x5_1).f1.f0.f1.f0), .int .i64 ((rd_T131 l1 x5_1).f1.f0.f1.f1), .int .i64 ((rd_T131 l1 x5_1).f1.f0.f2), .int .i64 ((rd_T131 l1 x5_1).f1.f1), .slice A512_6 ((rd_T131 l1 x5_1).f1.f2).length c512_6, .slice A512_7 ((rd_T131 l1 x5_1).f1.f3).length c512_7]] (by rfl) rfl rfl (by (try simp only [List.map_toArray, List.map_cons, List.map_nil]); first | done | rfl | (simp only [List.length_drop, List.length_take]; rfl)) ?_
                with_reducible refine (laws_eqVersion.calls k1 ((rd_T131 l0 x5_1).f0) ((rd_T131 l0 x5_1).f1.f0.f0) ((rd_T131 l0 x5_1).f1.f0.f1.f0) ((rd_T131 l0 x5_1).f1.f0.f1.f1) ((rd_T131 l0 x5_1).f1.f0.f2) ((rd_T131 l0 x5_1).f1.f1) _ _ ((rd_T131 l0 x5_1).f1.f2) _ _ ((rd_T131 l0 x5_1).f1.f3) ((rd_T131 l1 x5_1).f0) ((rd_T131 l1 x5_1).f1.f0.f0) ((rd_T131 l1 x5_1).f1.f0.f1.f0) ((rd_T131 l1 x5_1).f1.f0.f1.f1) ((rd_T131 l1 x5_1).f1.f0.f2) ((rd_T131 l1 x5_1).f1.f1) _ _ ((rd_T131 l1 x5_1).f1.f2) _ _ ((rd_T131 l1 x5_1).f1.f3) true _ ?side1 ?side2 ?side3 ?side4 ?side5 ?side6 ?side7 ?side8 A7.out).mono ?_
                (case side1 => repeat (first | exact (Kd.C_below HR511_6.out HB.out) | (with_reducible refine Kd.C_alloc ?_ _) | (with_reducible refine Kd.C_drewN ?_ _) | (with_reducible refine Kd.C_drew ?_)))
                (case side2 => exact HC511_6.out)
                (case side3 => repeat (first | exact (Kd.C_below HR511_7.out HB.out) | (with_reducible refine Kd.C_alloc ?_ _) | (with_reducible refine Kd.C_drewN ?_ _) | (with_reducible refine Kd.C_drew ?_)))
                (case side4 => exact HC511_7.out)
                (case side5 => repeat (first | exact (Kd.C_below HR512_6.out HB.out) | (with_reducible refine Kd.C_alloc ?_ _) | (with_reducible refine Kd.C_drewN ?_ _) | (with_reducible refine Kd.C_drew ?_)))
                (case side6 => exact HC512_6.out)
                (case side7 => repeat (first | exact (Kd.C_below HR512_7.out HB.out) | (with_reducible refine Kd.C_alloc ?_ _) | (with_reducible refine Kd.C_drewN ?_ _) | (with_reducible refine Kd.C_drew ?_)))
                (case side8 => exact HC512_7.out)
                rintro e w10 ⟨rfl, hb⟩
                refine ⟨_, rfl, ?_⟩
                have n0_ := Aside0.mk (below_step (by repeat (first | (with_reducible first | exact HB.out | apply below_alloc | apply pw_below_drewN | apply below_drew1) | exact HB.out)) hb)
                clear HB
                have HB := n0_
                clear n0_
                (try clear hb)
                (try clear hb2)
                (try clear hk)
                (try clear hi)
                refine hK.out _ _ ⟨((HB.out.cell (World.block_lt_of_cell? w _ hw511_0)).trans hw511_0), ((HB.out.cell (World.block_lt_of_cell? w _ hw511_1)).trans hw511_1), ((HB.out.cell (World.block_lt_of_cell? w _ hw511_2)).trans hw511_2), ((HB.out.cell (World.block_lt_of_cell? w _ hw511_3)).trans hw511_3), ((HB.out.cell (World.block_lt_of_cell? w _ hw511_4)).trans hw511_4), ((HB.out.cell (World.block_lt_of_cell? w _ hw511_5)).trans hw511_5), ((HB.out.cell (World.block_lt_of_cell? w _ hw511_6)).trans hw511_6), ((HB.out.cell (World.block_lt_of_cell? w _ hw511_7)).trans hw511_7), ((HB.out.cell (World.block_lt_of_cell? w _ hw512_0)).trans hw512_0), ((HB.out.cell (World.block_lt_of_cell? w _ hw512_1)).trans hw512_1), ((HB.out.cell (World.block_lt_of_cell? w _ hw512_2)).trans hw512_2), ((HB.out.cell (World.block_lt_of_cell? w _ hw512_3)).trans hw512_3), ((HB.out.cell (World.block_lt_of_cell? w _ hw512_4)).trans hw512_4), ((HB.out.cell (World.block_lt_of_cell? w _ hw512_5)).trans hw512_5), ((HB.out.cell (World.block_lt_of_cell? w _ hw512_6)).trans hw512_6), ((HB.out.cell (World.block_lt_of_cell? w _ hw512_7)).trans hw512_7)⟩ (fun hHeld => ?_)
                clear hK K
                refine norm_ (a' := ?_) ?_ ?_
                rotate_left
                · show Act.put _ (some 25) _ = _
                  simp only [Act.put, List.setIfInBounds_toArray, List.set_cons_zero, List.set_cons_succ, i64_w, i32_w]
                  rfl
                refine pure_ (i := 9) (N := some 26) (v := ?_) (a' := ?_) #[true, true, true, true, true, true, true, true, true, true] rfl rfl (any_of HT_.out (by kernel_rfl)) (fun _ _ _ h => h) (Or.inl ⟨by rfl, ?_⟩) ?_ ?_
                rotate_left
                · intro w'
                  go_simp
                  with_reducible rfl
                rotate_left
                · simp only [Act.put, List.setIfInBounds_toArray, List.set_cons_zero, List.set_cons_succ, i64_w, i32_w]
                  rfl
                refine done_ (done_of HT_.out (by kernel_rfl)) ?_
                try go_wp2
                go_roundg k1
                case measure => have := HK1.out; omega
                case rel => exact ⟨(wrap64 (x5_1 + 1)), (by first | rfl | (simp; done) | (simp [*]; done)), H', ⟨by have := HK1.out; omega⟩, ⟨by repeat (first | (with_reducible first | exact HB.out | apply below_alloc | apply pw_below_drewN | apply below_drew1) | exact HB.out)⟩⟩
              · replace c8 := Bool.eq_false_iff.mpr c8
                subst c8
                have H1 : (some false) = some r := by rw [if_neg (show ¬ (false = true) by decide)] at H; exact H
                clear H
                have H := H1
                clear H1
                obtain rfl := Option.some.inj H
                try go_wp2
                have n0_ := Aside0.mk (below_drew1 HB.out)
                clear HB
                have HB := n0_
                clear n0_
                have p511 : 0 ≤ (x5_1 : Int) := of_decide_eq_true (by first | (with_reducible assumption) | assumption)
                have q511 : x5_1 < (l0.length : Int) := of_decide_eq_true (by first | (with_reducible assumption) | assumption)
                obtain ⟨ad511, A511_6, c511_6, A511_7, c511_7, e511, hx511_0, hx511_1, hx511_2, hx511_3, hx511_4, hx511_5, hx511_6, hx511_7, hl511_6, hi511_6, hl511_7, hi511_7⟩ := at_T131 HR0.out x5_1 p511 q511
                have hw511_7 := hx511_7
                have hw511_6 := hx511_6
                have hw511_5 := hx511_5
                have hw511_4 := hx511_4
                have hw511_3 := hx511_3
                have hw511_2 := hx511_2
                have hw511_1 := hx511_1
                have hw511_0 := hx511_0
                cases e511
                replace hx511_0 := (HB.out.cell (World.block_lt_of_cell? w _ hx511_0)).trans hx511_0
                replace hx511_1 := (HB.out.cell (World.block_lt_of_cell? w _ hx511_1)).trans hx511_1
                replace hx511_2 := (HB.out.cell (World.block_lt_of_cell? w _ hx511_2)).trans hx511_2
                replace hx511_3 := (HB.out.cell (World.block_lt_of_cell? w _ hx511_3)).trans hx511_3
                replace hx511_4 := (HB.out.cell (World.block_lt_of_cell? w _ hx511_4)).trans hx511_4
                replace hx511_5 := (HB.out.cell (World.block_lt_of_cell? w _ hx511_5)).trans hx511_5
                replace hx511_6 := (HB.out.cell (World.block_lt_of_cell? w _ hx511_6)).trans hx511_6
                replace hx511_7 := (HB.out.cell (World.block_lt_of_cell? w _ hx511_7)).trans hx511_7
                have HR511_6 := Aside0.mk hi511_6
                have HC511_6 := Aside0.mk hl511_6
                clear hi511_6 hl511_6
                have HR511_7 := Aside0.mk hi511_7
                have HC511_7 := Aside0.mk hl511_7
                clear hi511_7 hl511_7
                replace p511 := eq_true p511
                replace q511 := eq_true q511
                have p512 : 0 ≤ (x5_1 : Int) := of_decide_eq_true (by first | (with_reducible assumption) | assumption)
                have q512 : x5_1 < (l1.length : Int) := of_decide_eq_true (by first | (with_reducible assumption) | assumption)
                obtain ⟨ad512, A512_6, c512_6, A512_7, c512_7, e512, hx512_0, hx512_1, hx512_2, hx512_3, hx512_4, hx512_5, hx512_6, hx512_7, hl512_6, hi512_6, hl512_7, hi512_7⟩ := at_T131 HR1.out x5_1 p512 q512
                have hw512_7 := hx512_7
                have hw512_6 := hx512_6
                have hw512_5 := hx512_5
                have hw512_4 := hx512_4
                have hw512_3 := hx512_3
                have hw512_2 := hx512_2
                have hw512_1 := hx512_1
                have hw512_0 := hx512_0
                cases e512
                replace hx512_0 := (HB.out.cell (World.block_lt_of_cell? w _ hx512_0)).trans hx512_0
                replace hx512_1 := (HB.out.cell (World.block_lt_of_cell? w _ hx512_1)).trans hx512_1
                replace hx512_2 := (HB.out.cell (World.block_lt_of_cell? w _ hx512_2)).trans hx512_2
                replace hx512_3 := (HB.out.cell (World.block_lt_of_cell? w _ hx512_3)).trans hx512_3
                replace hx512_4 := (HB.out.cell (World.block_lt_of_cell? w _ hx512_4)).trans hx512_4
                replace hx512_5 := (HB.out.cell (World.block_lt_of_cell? w _ hx512_5)).trans hx512_5
                replace hx512_6 := (HB.out.cell (World.block_lt_of_cell? w _ hx512_6)).trans hx512_6
                replace hx512_7 := (HB.out.cell (World.block_lt_of_cell? w _ hx512_7)).trans hx512_7
                have HR512_6 := Aside0.mk hi512_6
                have HC512_6 := Aside0.mk hl512_6
                clear hi512_6 hl512_6
                have HR512_7 := Aside0.mk hi512_7
                have HC512_7 := Aside0.mk hl512_7
                clear hi512_7 hl512_7
                replace p512 := eq_true p512
                replace q512 := eq_true q512
                refine start_ (n := 10) (S := fun w' => w'.cell? (ad511.add ((x5_1).toNat * 8)) = some (.int .i64 ((rd_T131 l0 x5_1).f0)) ∧ w'.cell? ⟨(ad511.add ((x5_1).toNat * 8)).block, (ad511.add ((x5_1).toNat * 8)).off + 1, none⟩ = some (.int .i64 ((rd_T131 l0 x5_1).f1.f0.f0)) ∧ w'.cell? ⟨(ad511.add ((x5_1).toNat * 8)).block, (ad511.add ((x5_1).toNat * 8)).off + 2, none⟩ = some (.int .i64 ((rd_T131 l0 x5_1).f1.f0.f1.f0)) ∧ w'.cell? ⟨(ad511.add ((x5_1).toNat * 8)).block, (ad511.add ((x5_1).toNat * 8)).off + 3, none⟩ = some (.int .i64 ((rd_T131 l0 x5_1).f1.f0.f1.f1)) ∧ w'.cell? ⟨(ad511.add ((x5_1).toNat * 8)).block, (ad511.add ((x5_1).toNat * 8)).off + 4, none⟩ = some (.int .i64 ((rd_T131 l0 x5_1).f1.f0.f2)) ∧ w'.cell? ⟨(ad511.add ((x5_1).toNat * 8)).block, (ad511.add ((x5_1).toNat * 8)).off + 5, none⟩ = some (.int .i64 ((rd_T131 l0 x5_1).f1.f1)) ∧ w'.cell? ⟨(ad511.add ((x5_1).toNat * 8)).block, (ad511.add ((x5_1).toNat * 8)).off + 6, none⟩ = some (.slice A511_6 ((rd_T131 l0 x5_1).f1.f2).length c511_6) ∧ w'.cell? ⟨(ad511.add ((x5_1).toNat * 8)).block, (ad511.add ((x5_1).toNat * 8)).off + 7, none⟩ = some (.slice A511_7 ((rd_T131 l0 x5_1).f1.f3).length c511_7) ∧ w'.cell? (ad512.add ((x5_1).toNat * 8)) = some (.int .i64 ((rd_T131 l1 x5_1).f0)) ∧ w'.cell? ⟨(ad512.add ((x5_1).toNat * 8)).block, (ad512.add ((x5_1).toNat * 8)).off + 1, none⟩ = some (.int .i64 ((rd_T131 l1 x5_1).f1.f0.f0)) ∧ w'.cell? ⟨(ad512.add ((x5_1).toNat * 8)).block, (ad512.add ((x5_1).toNat * 8)).off + 2, none⟩ = some (.int .i64 ((rd_T131 l1 x5_1).f1.f0.f1.f0)) ∧ w'.cell? ⟨(ad512.add ((x5_1).toNat * 8)).block, (ad512.add ((x5_1).toNat * 8)).off + 3, none⟩ = some (.int .i64 ((rd_T131 l1 x5_1).f1.f0.f1.f1)) ∧ w'.cell? ⟨(ad512.add ((x5_1).toNat * 8)).block, (ad512.add ((x5_1).toNat * 8)).off + 4, none⟩ = some (.int .i64 ((rd_T131 l1 x5_1).f1.f0.f2)) ∧ w'.cell? ⟨(ad512.add ((x5_1).toNat * 8)).block, (ad512.add ((x5_1).toNat * 8)).off + 5, none⟩ = some (.int .i64 ((rd_T131 l1 x5_1).f1.f1)) ∧ w'.cell? ⟨(ad512.add ((x5_1).toNat * 8)).block, (ad512.add ((x5_1).toNat * 8)).off + 6, none⟩ = some (.slice A512_6 ((rd_T131 l1 x5_1).f1.f2).length c512_6) ∧ w'.cell? ⟨(ad512.add ((x5_1).toNat * 8)).block, (ad512.add ((x5_1).toNat * 8)).off + 7, none⟩ = some (.slice A512_7 ((rd_T131 l1 x5_1).f1.f3).length c512_7)) (ds := []) #[false, false, false, false, false, false, false, false, false, false] (by kernel_rfl) rfl rfl ⟨((HB.out.cell (World.block_lt_of_cell? w _ hw511_0)).trans hw511_0), ((HB.out.cell (World.block_lt_of_cell? w _ hw511_1)).trans hw511_1), ((HB.out.cell (World.block_lt_of_cell? w _ hw511_2)).trans hw511_2), ((HB.out.cell (World.block_lt_of_cell? w _ hw511_3)).trans hw511_3), ((HB.out.cell (World.block_lt_of_cell? w _ hw511_4)).trans hw511_4), ((HB.out.cell (World.block_lt_of_cell? w _ hw511_5)).trans hw511_5), ((HB.out.cell (World.block_lt_of_cell? w _ hw511_6)).trans hw511_6), ((HB.out.cell (World.block_lt_of_cell? w _ hw511_7)).trans hw511_7), ((HB.out.cell (World.block_lt_of_cell? w _ hw512_0)).trans hw512_0), ((HB.out.cell (World.block_lt_of_cell? w _ hw512_1)).trans hw512_1), ((HB.out.cell (World.block_lt_of_cell? w _ hw512_2)).trans hw512_2), ((HB.out.cell (World.block_lt_of_cell? w _ hw512_3)).trans hw512_3), ((HB.out.cell (World.block_lt_of_cell? w _ hw512_4)).trans hw512_4), ((HB.out.cell (World.block_lt_of_cell? w _ hw512_5)).trans hw512_5), ((HB.out.cell (World.block_lt_of_cell? w _ hw512_6)).trans hw512_6), ((HB.out.cell (World.block_lt_of_cell? w _ hw512_7)).trans hw512_7)⟩ (fun hHeld => ?_); refine with_tabW laws_eqVersionS.tab6 laws_eqVersionS.bits6 (fun HT_ HW_ => ?_)
                generalize wr.drew = w11 at HB HR511_6 HR511_7 HR512_6 HR512_7 hx511_0 hx511_1 hx511_2 hx511_3 hx511_4 hx511_5 hx511_6 hx511_7 hx512_0 hx512_1 hx512_2 hx512_3 hx512_4 hx512_5 hx512_6 hx512_7 hHeld ⊢
                refine pure_ (i := 0) (N := some 17) (v := ?_) (a' := ?_) #[true, false, false, false, false, false, false, false, false, false] rfl rfl (any_of HT_.out (by kernel_rfl)) (fun _ _ _ h => h) (Or.inl ⟨by rfl, ?_⟩) ?_ ?_
                rotate_left
                · intro w'
                  go_simp
                  with_reducible rfl
                rotate_left
                · simp only [Act.put, List.setIfInBounds_toArray, List.set_cons_zero, List.set_cons_succ, i64_w, i32_w]
                  rfl
                refine pure_ (i := 1) (N := some 18) (v := ?_) (a' := ?_) #[true, true, false, false, false, false, false, false, false, false] rfl rfl (any_of HT_.out (by kernel_rfl)) (fun _ _ _ h => h) (Or.inl ⟨by rfl, ?_⟩) ?_ ?_
                rotate_left
                · intro w'
                  go_simp
                  with_reducible rfl
                rotate_left
                · simp only [Act.put, List.setIfInBounds_toArray, List.set_cons_zero, List.set_cons_succ, i64_w, i32_w]
                  rfl
                refine pure_ (i := 2) (N := some 19) (v := ?_) (a' := ?_) #[true, true, true, false, false, false, false, false, false, false] rfl rfl (any_of HT_.out (by kernel_rfl)) (fun _ _ _ h => h) (Or.inl ⟨by rfl, ?_⟩) ?_ ?_
                rotate_left
                · intro w'
                  go_simp
                  with_reducible rfl
                rotate_left
                · simp only [Act.put, List.setIfInBounds_toArray, List.set_cons_zero, List.set_cons_succ, i64_w, i32_w]
                  rfl
                refine pure_ (i := 4) (N := some 21) (v := ?_) (a' := ?_) #[true, true, true, false, true, false, false, false, false, false] rfl rfl (any_of HT_.out (by kernel_rfl)) (fun _ _ _ h => h) (Or.inl ⟨by rfl, ?_⟩) ?_ ?_
                rotate_left
                · intro w'
                  go_simp
                  with_reducible rfl
                rotate_left
                · simp only [Act.put, List.setIfInBounds_toArray, List.set_cons_zero, List.set_cons_succ, i64_w, i32_w]
                  rfl
                refine pure_ (i := 5) (N := some 22) (v := ?_) (a' := ?_) #[true, true, true, false, true, true, false, false, false, false] rfl rfl (any_of HT_.out (by kernel_rfl)) (fun _ _ _ h => h) (Or.inl ⟨by rfl, ?_⟩) ?_ ?_
                rotate_left
                · intro w'
                  go_simp
                  with_reducible rfl
                rotate_left
                · simp only [Act.put, List.setIfInBounds_toArray, List.set_cons_zero, List.set_cons_succ, i64_w, i32_w]
                  rfl
                refine pure_ (i := 6) (N := some 23) (v := ?_) (a' := ?_) #[true, true, true, false, true, true, true, false, false, false] rfl rfl (any_of HT_.out (by kernel_rfl)) (fun _ _ _ h => h) (Or.inl ⟨by rfl, ?_⟩) ?_ ?_
                rotate_left
                · intro w'
                  go_simp
                  with_reducible rfl
                rotate_left
                · simp only [Act.put, List.setIfInBounds_toArray, List.set_cons_zero, List.set_cons_succ, i64_w, i32_w]
                  rfl
                refine take_ (i := 3) (N := some 20) (v := ?_) (a' := ?_) #[true, true, true, true, true, true, true, false, false, false] rfl rfl (take_ofW HT_.out HW_.out (by kernel_rfl)) (fun _ _ _ h => h) (Or.inl ⟨by rfl, ?_⟩) hHeld ?_ ?_
                rotate_left
                · rintro w' ⟨s0, s1, s2, s3, s4, s5, s6, s7, s8, s9, s10, s11, s12, s13, s14, s15⟩
                  go_simp
                  with_reducible rfl
                rotate_left
                · simp only [Act.put, List.setIfInBounds_toArray, List.set_cons_zero, List.set_cons_succ, i64_w, i32_w]
                  rfl
                refine take_ (i := 7) (N := some 24) (v := ?_) (a' := ?_) #[true, true, true, true, true, true, true, true, false, false] rfl rfl (take_ofW HT_.out HW_.out (by kernel_rfl)) (fun _ _ _ h => h) (Or.inl ⟨by rfl, ?_⟩) hHeld ?_ ?_
                rotate_left
                · rintro w' ⟨s0, s1, s2, s3, s4, s5, s6, s7, s8, s9, s10, s11, s12, s13, s14, s15⟩
                  go_simp
                  with_reducible rfl
                rotate_left
                · simp only [Act.put, List.setIfInBounds_toArray, List.set_cons_zero, List.set_cons_succ, i64_w, i32_w]
                  rfl
                refine one_ (i := 8) (N := some 25) #[true, true, true, true, true, true, true, true, true, false] rfl rfl (one_of HT_.out (by kernel_rfl)) (by decide) (fun K hK => ?_)
                refine goes_ Try.func102 (by kernel_rfl) rfl #[.agg #[.int .i64 ((rd_T131 l0 x5_1).f0), .int .i64 ((rd_T131 l0 x5_1).f1.f0.f0), .int .i64 ((rd_T131 l0 x5_1).f1.f0.f1.f0), .int .i64 ((rd_T131 l0 x5_1).f1.f0.f1.f1), .int .i64 ((rd_T131 l0 x5_1).f1.f0.f2), .int .i64 ((rd_T131 l0 x5_1).f1.f1), .slice A511_6 ((rd_T131 l0 x5_1).f1.f2).length c511_6, .slice A511_7 ((rd_T131 l0 x5_1).f1.f3).length c511_7], .agg #[.int .i64 ((rd_T131 l1 x5_1).f0), .int .i64 ((rd_T131 l1 x5_1).f1.f0.f0), .int .i64 ((rd_T131 l1 x5_1).f1.f0.f1.f0), .int .i64 ((rd_T131 l1 x5_1).f1.f0.f1.f1), .int .i64 ((rd_T131 l1 x5_1).f1.f0.f2), .int .i64 ((rd_T131 l1 x5_1).f1.f1), .slice A512_6 ((rd_T131 l1 x5_1).f1.f2).length c512_6, .slice A512_7 ((rd_T131 l1 x5_1).f1.f3).length c512_7]] (by rfl) rfl rfl (by (try simp only [List.map_toArray, List.map_cons, List.map_nil]); first | done | rfl | (simp only [List.length_drop, List.length_take]; rfl)) ?_
                with_reducible refine (laws_eqVersion.calls k1 ((rd_T131 l0 x5_1).f0) ((rd_T131 l0 x5_1).f1.f0.f0) ((rd_T131 l0 x5_1).f1.f0.f1.f0) ((rd_T131 l0 x5_1).f1.f0.f1.f1) ((rd_T131 l0 x5_1).f1.f0.f2) ((rd_T131 l0 x5_1).f1.f1) _ _ ((rd_T131 l0 x5_1).f1.f2) _ _ ((rd_T131 l0 x5_1).f1.f3) ((rd_T131 l1 x5_1).f0) ((rd_T131 l1 x5_1).f1.f0.f0) ((rd_T131 l1 x5_1).f1.f0.f1.f0) ((rd_T131 l1 x5_1).f1.f0.f1.f1) ((rd_T131 l1 x5_1).f1.f0.f2) ((rd_T131 l1 x5_1).f1.f1) _ _ ((rd_T131 l1 x5_1).f1.f2) _ _ ((rd_T131 l1 x5_1).f1.f3) false _ ?side1 ?side2 ?side3 ?side4 ?side5 ?side6 ?side7 ?side8 A7.out).mono ?_
                (case side1 => repeat (first | exact (Kd.C_below HR511_6.out HB.out) | (with_reducible refine Kd.C_alloc ?_ _) | (with_reducible refine Kd.C_drewN ?_ _) | (with_reducible refine Kd.C_drew ?_)))
                (case side2 => exact HC511_6.out)
                (case side3 => repeat (first | exact (Kd.C_below HR511_7.out HB.out) | (with_reducible refine Kd.C_alloc ?_ _) | (with_reducible refine Kd.C_drewN ?_ _) | (with_reducible refine Kd.C_drew ?_)))
                (case side4 => exact HC511_7.out)
                (case side5 => repeat (first | exact (Kd.C_below HR512_6.out HB.out) | (with_reducible refine Kd.C_alloc ?_ _) | (with_reducible refine Kd.C_drewN ?_ _) | (with_reducible refine Kd.C_drew ?_)))
                (case side6 => exact HC512_6.out)
                (case side7 => repeat (first | exact (Kd.C_below HR512_7.out HB.out) | (with_reducible refine Kd.C_alloc ?_ _) | (with_reducible refine Kd.C_drewN ?_ _) | (with_reducible refine Kd.C_drew ?_)))
                (case side8 => exact HC512_7.out)
                rintro e w12 ⟨rfl, hb⟩
                refine ⟨_, rfl, ?_⟩
                have n0_ := Aside0.mk (below_step (by repeat (first | (with_reducible first | exact HB.out | apply below_alloc | apply pw_below_drewN | apply below_drew1) | exact HB.out)) hb)
                clear HB
                have HB := n0_
                clear n0_
                (try clear hb)
                (try clear hb2)
                (try clear hk)
                (try clear hi)
                refine hK.out _ _ ⟨((HB.out.cell (World.block_lt_of_cell? w _ hw511_0)).trans hw511_0), ((HB.out.cell (World.block_lt_of_cell? w _ hw511_1)).trans hw511_1), ((HB.out.cell (World.block_lt_of_cell? w _ hw511_2)).trans hw511_2), ((HB.out.cell (World.block_lt_of_cell? w _ hw511_3)).trans hw511_3), ((HB.out.cell (World.block_lt_of_cell? w _ hw511_4)).trans hw511_4), ((HB.out.cell (World.block_lt_of_cell? w _ hw511_5)).trans hw511_5), ((HB.out.cell (World.block_lt_of_cell? w _ hw511_6)).trans hw511_6), ((HB.out.cell (World.block_lt_of_cell? w _ hw511_7)).trans hw511_7), ((HB.out.cell (World.block_lt_of_cell? w _ hw512_0)).trans hw512_0), ((HB.out.cell (World.block_lt_of_cell? w _ hw512_1)).trans hw512_1), ((HB.out.cell (World.block_lt_of_cell? w _ hw512_2)).trans hw512_2), ((HB.out.cell (World.block_lt_of_cell? w _ hw512_3)).trans hw512_3), ((HB.out.cell (World.block_lt_of_cell? w _ hw512_4)).trans hw512_4), ((HB.out.cell (World.block_lt_of_cell? w _ hw512_5)).trans hw512_5), ((HB.out.cell (World.block_lt_of_cell? w _ hw512_6)).trans hw512_6), ((HB.out.cell (World.block_lt_of_cell? w _ hw512_7)).trans hw512_7)⟩ (fun hHeld => ?_)
                clear hK K
                refine norm_ (a' := ?_) ?_ ?_
                rotate_left
                · show Act.put _ (some 25) _ = _
                  simp only [Act.put, List.setIfInBounds_toArray, List.set_cons_zero, List.set_cons_succ, i64_w, i32_w]
                  rfl
                refine pure_ (i := 9) (N := some 26) (v := ?_) (a' := ?_) #[true, true, true, true, true, true, true, true, true, true] rfl rfl (any_of HT_.out (by kernel_rfl)) (fun _ _ _ h => h) (Or.inl ⟨by rfl, ?_⟩) ?_ ?_
                rotate_left
                · intro w'
                  go_simp
                  with_reducible rfl
                rotate_left
                · simp only [Act.put, List.setIfInBounds_toArray, List.set_cons_zero, List.set_cons_succ, i64_w, i32_w]
                  rfl
                refine done_ (done_of HT_.out (by kernel_rfl)) ?_
                try go_wp2
                go_ret
                exact ⟨by first | rfl | (simp [errW_none, errW_some] <;> rfl) | (simp [*, errW_none, errW_some] <;> rfl), by repeat (first | (with_reducible first | exact HB.out | apply below_alloc | apply pw_below_drewN | apply below_drew1) | exact HB.out)⟩
            · rw [if_neg c6] at H
              exact absurd H (by simp)
          · rw [if_neg c5] at H
            exact absurd H (by simp)
        · rw [if_neg c4] at H
          have c4b0 : decide (x5_1 < (l0.length : Int)) = false := decide_eq_false c4
          clear c4
          obtain rfl := Option.some.inj H
          go_wp2
          go_ret
          exact ⟨by first | rfl | (simp [errW_none, errW_some] <;> rfl) | (simp [*, errW_none, errW_some] <;> rfl), by repeat (first | (with_reducible first | exact HB.out | apply below_alloc | apply pw_below_drewN | apply below_drew1) | exact HB.out)⟩
  · rw [if_neg c3] at H
    have c3b0 : ((l0.length : Int) == (l1.length : Int)) = false := beq_eq_false_iff_ne.mpr c3
    have c3b1 : ((l0.length : Int) != (l1.length : Int)) = true := bne_iff_ne.mpr c3
    have c3b2 : (l0.length == l1.length) = false := by first | simpa using c3 | (simp at c3 ⊢; omega)
    obtain rfl := Option.some.inj H
    go_enter Try.func30, Try.ntmps30
    go_wp2
    go_ret
    exact ⟨by first | rfl | (simp [errW_none, errW_some] <;> rfl) | (simp [*, errW_none, errW_some] <;> rfl), by repeat (first | (with_reducible first | exact HB.out | apply below_alloc | apply pw_below_drewN | apply below_drew1) | exact HB.out)⟩

end Go.Proofs.Ythdadohmomhchaa.F

namespace Go.Proofs.Ythdadohmomhchaa.F
open Go.RowKit Go.Proofs.YthdadohmomhchaaW.PrintWords Go.Proofs.YthdadohmomhchaaW.PrintLast Go.Proofs.YthdadohmomhchaaW.PrintMore
attribute [local go_sem] max2_int min2_int max_two min_two max_three min_three max_four min_four   -- for this text's walks alone
set_option linter.unusedVariables false
set_option linter.unusedSimpArgs false

/-! ### laws_FnExactCommonVersion: function 5 -/
def laws_FnExactCommonVersion.f (k : Nat) (l0 : List (S128)) (a1 : Int) (a2 : Int) : Option (Bool) := (laws_szVersionS.f k l0 1048576).bind fun t514 => (if t514 < 0 then (some true) else ((laws_toVersionS.f k l0).bind fun t515 => ((spec_CommonVersion.f k t515 a1 a2).bind fun bt518 => ((laws_toVersionS.f k l0).bind fun t520 => ((impl_CommonVersion.f k t520 a1 a2).bind fun bt523 => (if bt523.1 = bt518.1 then (if bt523.2 = bt518.2 then ((laws_toVersionS.f k l0).bind fun t525 => ((laws_eqVersionS.f k t520 t525).bind fun t528 => (if t528 = true then (some true) else (none)))) else (none)) else (none)))))))
theorem laws_FnExactCommonVersion.mono : ∀ a0 a1 a2 k, LeO (laws_FnExactCommonVersion.f k a0 a1 a2) (laws_FnExactCommonVersion.f (k + 1) a0 a1 a2) := by
  intro a0 a1 a2 k
  unfold laws_FnExactCommonVersion.f
  repeat' first
      | (with_reducible exact impl_CommonVersion.mono _ _ _ _)
      | (with_reducible exact laws_eqVersionS.mono _ _ _)
      | (with_reducible exact laws_szVersionS.mono _ _ _)
      | (with_reducible exact laws_toVersionS.mono _ _)
      | (with_reducible exact spec_CommonVersion.mono _ _ _ _)
      | (with_reducible exact LeO.refl _)
      | (with_reducible exact LeO.none _)
      | (with_reducible refine LeO.ite ?_ ?_)
      | (with_reducible refine LeO.bind ?_ (fun _ => ?_))
      | exact impl_CommonVersion.mono _ _ _ _
      | exact laws_eqVersionS.mono _ _ _
      | exact laws_szVersionS.mono _ _ _
      | exact laws_toVersionS.mono _ _
      | exact spec_CommonVersion.mono _ _ _ _
      | exact LeO.none _
      | refine LeO.ite ?_ ?_
      | refine LeO.bind ?_ (fun _ => ?_)
set_option maxHeartbeats 8000000 in
set_option maxRecDepth 100000 in
theorem laws_FnExactCommonVersion.calls (k : Nat) (A0 : Option Addr) (c0 : Nat) (l0 : List (S128)) (a1 : Int) (a2 : Int) (r : Bool) (w : World) (hr0 : Kd.C k128 w A0 l0.length l0) (hc0 : l0.length ≤ c0) (h : laws_FnExactCommonVersion.f k l0 a1 a2 = some r) :
    Calls Try.prog 5 #[.slice A0 l0.length c0, .int .i64 a1, .int .i64 a2] w fun e w' => e = .returned (.bool r) ∧ Below w.heap.size w w' := by
  have HR0 := Aside0.mk hr0
  have HC0 := Aside0.mk hc0
  clear hr0 hc0
  have HB := Aside0.mk (Below.refl w.heap.size w)
  have H : ((laws_szVersionS.f k l0 1048576).bind fun t514 => (if t514 < 0 then (some true) else ((laws_toVersionS.f k l0).bind fun t515 => ((spec_CommonVersion.f k t515 a1 a2).bind fun bt518 => ((laws_toVersionS.f k l0).bind fun t520 => ((impl_CommonVersion.f k t520 a1 a2).bind fun bt523 => (if bt523.1 = bt518.1 then (if bt523.2 = bt518.2 then ((laws_toVersionS.f k l0).bind fun t525 => ((laws_eqVersionS.f k t520 t525).bind fun t528 => (if t528 = true then (some true) else (none)))) else (none)) else (none)))))))) = some r := h
  clear h
  replace H := Option.bind_eq_some_iff.mp H
  obtain ⟨t514, A40, H⟩ := H
  replace H : (if t514 < 0 then (some true) else ((laws_toVersionS.f k l0).bind fun t515 => ((spec_CommonVersion.f k t515 a1 a2).bind fun bt518 => ((laws_toVersionS.f k l0).bind fun t520 => ((impl_CommonVersion.f k t520 a1 a2).bind fun bt523 => (if bt523.1 = bt518.1 then (if bt523.2 = bt518.2 then ((laws_toVersionS.f k l0).bind fun t525 => ((laws_eqVersionS.f k t520 t525).bind fun t528 => (if t528 = true then (some true) else (none)))) else (none)) else (none))))))) = some r := H
  have A4 := Aside0.mk A40
  clear A40
  by_cases c5 : t514 < 0
  · rw [if_pos c5] at H
    have c5b0 : decide (t514 < 0) = true := decide_eq_true c5
    clear c5
    obtain rfl := Option.some.inj H
    go_enter Try.func5, Try.ntmps5
    go_wp2_with (first | ((with_reducible refine gate_callee (f := 26) rfl ?_); refine goesL_ (some 15) rfl rfl Try.func26 (by kernel_rfl) rfl #[.slice A0 l0.length c0, .int .i64 1048576] rfl (by (try simp only [List.map_toArray, List.map_cons, List.map_nil]); first | done | rfl | (simp only [List.length_drop, List.length_take]; rfl)) ?_; (with_reducible refine (laws_szVersionS.calls k _ _ l0 1048576 t514 _ ?side1 ?side2 A4.out).mono ?_); (case side1 => repeat (first | exact HR0.out | (with_reducible refine Kd.C_alloc ?_ _) | (with_reducible refine Kd.C_drewN ?_ _) | (with_reducible refine Kd.C_drew ?_))); (case side2 => exact HC0.out); rintro e w6 ⟨rfl, hb⟩; refine ⟨_, rfl, ?_⟩; have n0_ := Aside0.mk (below_step (by repeat (first | (with_reducible first | exact HB.out | apply below_alloc | apply pw_below_drewN | apply below_drew1) | exact HB.out)) hb); clear HB; have HB := n0_; clear n0_; (try clear hb); (try clear hb2); (try clear hk); (try clear hi)))
    go_ret
    exact ⟨by first | rfl | (simp [errW_none, errW_some] <;> rfl) | (simp [*, errW_none, errW_some] <;> rfl), by repeat (first | (with_reducible first | exact HB.out | apply below_alloc | apply pw_below_drewN | apply below_drew1) | exact HB.out)⟩
  · rw [if_neg c5] at H
    have c5b0 : decide (t514 < 0) = false := decide_eq_false c5
    clear c5
    replace H := Option.bind_eq_some_iff.mp H
    obtain ⟨t515, A70, H⟩ := H
    replace H : ((spec_CommonVersion.f k t515 a1 a2).bind fun bt518 => ((laws_toVersionS.f k l0).bind fun t520 => ((impl_CommonVersion.f k t520 a1 a2).bind fun bt523 => (if bt523.1 = bt518.1 then (if bt523.2 = bt518.2 then ((laws_toVersionS.f k l0).bind fun t525 => ((laws_eqVersionS.f k t520 t525).bind fun t528 => (if t528 = true then (some true) else (none)))) else (none)) else (none))))) = some r := H
    have A7 := Aside0.mk A70
    clear A70
    replace H := Option.bind_eq_some_iff.mp H
    obtain ⟨⟨t518, t519⟩, A80, H⟩ := H
    replace H : ((laws_toVersionS.f k l0).bind fun t520 => ((impl_CommonVersion.f k t520 a1 a2).bind fun bt523 => (if bt523.1 = t518 then (if bt523.2 = t519 then ((laws_toVersionS.f k l0).bind fun t525 => ((laws_eqVersionS.f k t520 t525).bind fun t528 => (if t528 = true then (some true) else (none)))) else (none)) else (none)))) = some r := H
    have A8 := Aside0.mk A80
    clear A80
    replace H := Option.bind_eq_some_iff.mp H
    obtain ⟨t520, A90, H⟩ := H
    replace H : ((impl_CommonVersion.f k t520 a1 a2).bind fun bt523 => (if bt523.1 = t518 then (if bt523.2 = t519 then ((laws_toVersionS.f k l0).bind fun t525 => ((laws_eqVersionS.f k t520 t525).bind fun t528 => (if t528 = true then (some true) else (none)))) else (none)) else (none))) = some r := H
    have A9 := Aside0.mk A90
    clear A90
    replace H := Option.bind_eq_some_iff.mp H
    obtain ⟨⟨t523, t524⟩, A100, H⟩ := H
    replace H : (if t523 = t518 then (if t524 = t519 then ((laws_toVersionS.f k l0).bind fun t525 => ((laws_eqVersionS.f k t520 t525).bind fun t528 => (if t528 = true then (some true) else (none)))) else (none)) else (none)) = some r := H
    have A10 := Aside0.mk A100
    clear A100
    by_cases c11 : t523 = t518
    · rw [if_pos c11] at H
      have c11b0 : (t523 == t518) = true := beq_iff_eq.mpr c11
      have c11b1 : (t523 != t518) = false := bne_eq_false_iff_eq.mpr c11
      clear c11
      by_cases c12 : t524 = t519
      · rw [if_pos c12] at H
        have c12b0 : (t524 == t519) = true := beq_iff_eq.mpr c12
        have c12b1 : (t524 != t519) = false := bne_eq_false_iff_eq.mpr c12
        clear c12
        replace H := Option.bind_eq_some_iff.mp H
        obtain ⟨t525, A130, H⟩ := H
        replace H : ((laws_eqVersionS.f k t520 t525).bind fun t528 => (if t528 = true then (some true) else (none))) = some r := H
        have A13 := Aside0.mk A130
        clear A130
        replace H := Option.bind_eq_some_iff.mp H
        obtain ⟨t528, A140, H⟩ := H
        replace H : (if t528 = true then (some true) else (none)) = some r := H
        have A14 := Aside0.mk A140
        clear A140
        by_cases c15 : t528 = true
        · subst c15
          have H1 : (some true) = some r := by rw [if_pos rfl] at H; exact H
          clear H
          have H := H1
          clear H1
          obtain rfl := Option.some.inj H
          go_enter Try.func5, Try.ntmps5
          go_wp2_with (first | ((with_reducible refine gate_callee (f := 26) rfl ?_); refine goesL_ (some 15) rfl rfl Try.func26 (by kernel_rfl) rfl #[.slice A0 l0.length c0, .int .i64 1048576] rfl (by (try simp only [List.map_toArray, List.map_cons, List.map_nil]); first | done | rfl | (simp only [List.length_drop, List.length_take]; rfl)) ?_; (with_reducible refine (laws_szVersionS.calls k _ _ l0 1048576 t514 _ ?side1 ?side2 A4.out).mono ?_); (case side1 => repeat (first | exact HR0.out | (with_reducible refine Kd.C_alloc ?_ _) | (with_reducible refine Kd.C_drewN ?_ _) | (with_reducible refine Kd.C_drew ?_))); (case side2 => exact HC0.out); rintro e w16 ⟨rfl, hb⟩; refine ⟨_, rfl, ?_⟩; have n0_ := Aside0.mk (below_step (by repeat (first | (with_reducible first | exact HB.out | apply below_alloc | apply pw_below_drewN | apply below_drew1) | exact HB.out)) hb); clear HB; have HB := n0_; clear n0_; (try clear hb); (try clear hb2); (try clear hk); (try clear hi)) | ((with_reducible refine gate_callee (f := 28) rfl ?_); refine goesL_ (some 20) rfl rfl Try.func28 (by kernel_rfl) rfl #[.slice A0 l0.length c0] rfl (by (try simp only [List.map_toArray, List.map_cons, List.map_nil]); first | done | rfl | (simp only [List.length_drop, List.length_take]; rfl)) ?_; (with_reducible refine (laws_toVersionS.calls k _ _ l0 t515 _ ?side1 ?side2 A7.out).mono ?_); (case side1 => repeat (first | exact (Kd.C_below HR0.out HB.out) | (with_reducible refine Kd.C_alloc ?_ _) | (with_reducible refine Kd.C_drewN ?_ _) | (with_reducible refine Kd.C_drew ?_))); (case side2 => exact HC0.out); rintro e w17 ⟨v516, rfl, ho0, hb⟩; refine ⟨_, rfl, ?_⟩; have n0_ := Aside0.mk (Kd.S_lower ho0 (below_size (by repeat (first | (with_reducible first | exact HB.out | apply below_alloc | apply pw_below_drewN | apply below_drew1) | exact HB.out)))); have n1_ := Aside0.mk (below_step (by repeat (first | (with_reducible first | exact HB.out | apply below_alloc | apply pw_below_drewN | apply below_drew1) | exact HB.out)) hb); clear HB; have HO517 := n0_; have HB := n1_; clear n0_ n1_; (try clear hb); (try clear hb2); (try clear hk); (try clear hi); (try clear ho0); obtain ⟨Ao18, co18, eo18⟩ := Kd.S_slice HO517.out; subst eo18) | ((with_reducible refine gate_callee (f := 27) rfl ?_); refine goesL_ (some 23) rfl rfl Try.func27 (by kernel_rfl) rfl #[.slice Ao18 t515.length co18, .int .i64 a1, .int .i64 a2] rfl (by (try simp only [List.map_toArray, List.map_cons, List.map_nil]); first | done | rfl | (simp only [List.length_drop, List.length_take]; rfl)) ?_; (with_reducible refine (spec_CommonVersion.calls k _ _ t515 a1 a2 t518 t519 _ ?side1 ?side2 A8.out).mono ?_); (case side1 => repeat (first | exact (Kd.S_reads' HO517.out).2.2 | (with_reducible refine Kd.C_alloc ?_ _) | (with_reducible refine Kd.C_drewN ?_ _) | (with_reducible refine Kd.C_drew ?_))); (case side2 => exact (Kd.S_reads' HO517.out).2.1); rintro e w19 ⟨rfl, hb⟩; refine ⟨_, rfl, ?_⟩; have n0_ := Aside0.mk (Kd.S_below (by (with_reducible repeat (first | apply Kd.S_alloc | apply Kd.S_drewN | apply Kd.S_drew)); exact HO517.out) hb); have n1_ := Aside0.mk (below_step (by repeat (first | (with_reducible first | exact HB.out | apply below_alloc | apply pw_below_drewN | apply below_drew1) | exact HB.out)) hb); clear HO517; clear HB; have HO517 := n0_; have HB := n1_; clear n0_ n1_; (try clear hb); (try clear hb2); (try clear hk); (try clear hi)) | ((with_reducible refine gate_callee (f := 28) rfl ?_); refine goesL_ (some 27) rfl rfl Try.func28 (by kernel_rfl) rfl #[.slice A0 l0.length c0] rfl (by (try simp only [List.map_toArray, List.map_cons, List.map_nil]); first | done | rfl | (simp only [List.length_drop, List.length_take]; rfl)) ?_; (with_reducible refine (laws_toVersionS.calls k _ _ l0 t520 _ ?side1 ?side2 A9.out).mono ?_); (case side1 => repeat (first | exact (Kd.C_below HR0.out HB.out) | (with_reducible refine Kd.C_alloc ?_ _) | (with_reducible refine Kd.C_drewN ?_ _) | (with_reducible refine Kd.C_drew ?_))); (case side2 => exact HC0.out); rintro e w20 ⟨v521, rfl, ho0, hb⟩; refine ⟨_, rfl, ?_⟩; have n0_ := Aside0.mk (Kd.S_elder' (by (with_reducible repeat (first | apply Kd.S_alloc | apply Kd.S_drewN | apply Kd.S_drew)); exact HO517.out) (Kd.S_base ho0) hb); have n1_ := Aside0.mk (Kd.S_lower (Kd.S_new' ho0 (Kd.S_lt (by (with_reducible repeat (first | apply Kd.S_alloc | apply Kd.S_drewN | apply Kd.S_drew)); exact HO517.out))) (below_size (by repeat (first | (with_reducible first | exact HB.out | apply below_alloc | apply pw_below_drewN | apply below_drew1) | exact HB.out)))); have n2_ := Aside0.mk (below_step (by repeat (first | (with_reducible first | exact HB.out | apply below_alloc | apply pw_below_drewN | apply below_drew1) | exact HB.out)) hb); clear HO517; clear HB; have HO517 := n0_; have HO522 := n1_; have HB := n2_; clear n0_ n1_ n2_; (try clear hb); (try clear hb2); (try clear hk); (try clear hi); (try clear ho0); obtain ⟨Ao21, co21, eo21⟩ := Kd.S_slice HO522.out; subst eo21) | ((with_reducible refine gate_callee (f := 29) rfl ?_); refine goesL_ (some 32) rfl rfl Try.func29 (by kernel_rfl) rfl #[.slice Ao21 t520.length co21, .int .i64 a1, .int .i64 a2] rfl (by (try simp only [List.map_toArray, List.map_cons, List.map_nil]); first | done | rfl | (simp only [List.length_drop, List.length_take]; rfl)) ?_; (with_reducible refine (impl_CommonVersion.calls k _ _ t520 a1 a2 t523 t524 _ ?side1 ?side2 A10.out).mono ?_); (case side1 => repeat (first | exact (Kd.S_reads' HO522.out).2.2 | (with_reducible refine Kd.C_alloc ?_ _) | (with_reducible refine Kd.C_drewN ?_ _) | (with_reducible refine Kd.C_drew ?_))); (case side2 => exact (Kd.S_reads' HO522.out).2.1); rintro e w22 ⟨rfl, hb⟩; refine ⟨_, rfl, ?_⟩; have n0_ := Aside0.mk (Kd.S_below (by (with_reducible repeat (first | apply Kd.S_alloc | apply Kd.S_drewN | apply Kd.S_drew)); exact HO517.out) hb); have n1_ := Aside0.mk (Kd.S_below (by (with_reducible repeat (first | apply Kd.S_alloc | apply Kd.S_drewN | apply Kd.S_drew)); exact HO522.out) hb); have n2_ := Aside0.mk (below_step (by repeat (first | (with_reducible first | exact HB.out | apply below_alloc | apply pw_below_drewN | apply below_drew1) | exact HB.out)) hb); clear HO517; clear HO522; clear HB; have HO517 := n0_; have HO522 := n1_; have HB := n2_; clear n0_ n1_ n2_; (try clear hb); (try clear hb2); (try clear hk); (try clear hi)) | ((with_reducible refine gate_callee (f := 28) rfl ?_); refine goesL_ (some 45) rfl rfl Try.func28 (by kernel_rfl) rfl #[.slice A0 l0.length c0] rfl (by (try simp only [List.map_toArray, List.map_cons, List.map_nil]); first | done | rfl | (simp only [List.length_drop, List.length_take]; rfl)) ?_; (with_reducible refine (laws_toVersionS.calls k _ _ l0 t525 _ ?side1 ?side2 A13.out).mono ?_); (case side1 => repeat (first | exact (Kd.C_below HR0.out HB.out) | (with_reducible refine Kd.C_alloc ?_ _) | (with_reducible refine Kd.C_drewN ?_ _) | (with_reducible refine Kd.C_drew ?_))); (case side2 => exact HC0.out); rintro e w23 ⟨v526, rfl, ho0, hb⟩; refine ⟨_, rfl, ?_⟩; have n0_ := Aside0.mk (Kd.S_elder' (by (with_reducible repeat (first | apply Kd.S_alloc | apply Kd.S_drewN | apply Kd.S_drew)); exact HO517.out) (Kd.S_base ho0) hb); have n1_ := Aside0.mk (Kd.S_elder' (by (with_reducible repeat (first | apply Kd.S_alloc | apply Kd.S_drewN | apply Kd.S_drew)); exact HO522.out) (Kd.S_base ho0) hb); have n2_ := Aside0.mk (Kd.S_lower (Kd.S_new' (Kd.S_new' ho0 (Kd.S_lt (by (with_reducible repeat (first | apply Kd.S_alloc | apply Kd.S_drewN | apply Kd.S_drew)); exact HO517.out))) (Kd.S_lt (by (with_reducible repeat (first | apply Kd.S_alloc | apply Kd.S_drewN | apply Kd.S_drew)); exact HO522.out))) (below_size (by repeat (first | (with_reducible first | exact HB.out | apply below_alloc | apply pw_below_drewN | apply below_drew1) | exact HB.out)))); have n3_ := Aside0.mk (below_step (by repeat (first | (with_reducible first | exact HB.out | apply below_alloc | apply pw_below_drewN | apply below_drew1) | exact HB.out)) hb); clear HO517; clear HO522; clear HB; have HO517 := n0_; have HO522 := n1_; have HO527 := n2_; have HB := n3_; clear n0_ n1_ n2_ n3_; (try clear hb); (try clear hb2); (try clear hk); (try clear hi); (try clear ho0); obtain ⟨Ao24, co24, eo24⟩ := Kd.S_slice HO527.out; subst eo24) | ((with_reducible refine gate_callee (f := 30) rfl ?_); refine goesL_ (some 46) rfl rfl Try.func30 (by kernel_rfl) rfl #[.slice Ao21 t520.length co21, .slice Ao24 t525.length co24] rfl (by (try simp only [List.map_toArray, List.map_cons, List.map_nil]); first | done | rfl | (simp only [List.length_drop, List.length_take]; rfl)) ?_; (with_reducible refine (laws_eqVersionS.calls k _ _ t520 _ _ t525 true _ ?side1 ?side2 ?side3 ?side4 A14.out).mono ?_); (case side1 => repeat (first | exact (Kd.S_reads' HO522.out).2.2 | (with_reducible refine Kd.C_alloc ?_ _) | (with_reducible refine Kd.C_drewN ?_ _) | (with_reducible refine Kd.C_drew ?_))); (case side2 => exact (Kd.S_reads' HO522.out).2.1); (case side3 => repeat (first | exact (Kd.S_reads' HO527.out).2.2 | (with_reducible refine Kd.C_alloc ?_ _) | (with_reducible refine Kd.C_drewN ?_ _) | (with_reducible refine Kd.C_drew ?_))); (case side4 => exact (Kd.S_reads' HO527.out).2.1); rintro e w25 ⟨rfl, hb⟩; refine ⟨_, rfl, ?_⟩; have n0_ := Aside0.mk (Kd.S_below (by (with_reducible repeat (first | apply Kd.S_alloc | apply Kd.S_drewN | apply Kd.S_drew)); exact HO517.out) hb); have n1_ := Aside0.mk (Kd.S_below (by (with_reducible repeat (first | apply Kd.S_alloc | apply Kd.S_drewN | apply Kd.S_drew)); exact HO522.out) hb); have n2_ := Aside0.mk (Kd.S_below (by (with_reducible repeat (first | apply Kd.S_alloc | apply Kd.S_drewN | apply Kd.S_drew)); exact HO527.out) hb); have n3_ := Aside0.mk (below_step (by repeat (first | (with_reducible first | exact HB.out | apply below_alloc | apply pw_below_drewN | apply below_drew1) | exact HB.out)) hb); clear HO517; clear HO522; clear HO527; clear HB; have HO517 := n0_; have HO522 := n1_; have HO527 := n2_; have HB := n3_; clear n0_ n1_ n2_ n3_; (try clear hb); (try clear hb2); (try clear hk); (try clear hi)))
          go_ret
          exact ⟨by first | rfl | (simp [errW_none, errW_some] <;> rfl) | (simp [*, errW_none, errW_some] <;> rfl), by repeat (first | (with_reducible first | exact HB.out | apply below_alloc | apply pw_below_drewN | apply below_drew1) | exact HB.out)⟩
        · replace c15 := Bool.eq_false_iff.mpr c15
          subst c15
          have H1 : (none) = some r := by rw [if_neg (show ¬ (false = true) by decide)] at H; exact H
          clear H
          have H := H1
          clear H1
          exact absurd H (by simp)
      · rw [if_neg c12] at H
        exact absurd H (by simp)
    · rw [if_neg c11] at H
      exact absurd H (by simp)

end Go.Proofs.Ythdadohmomhchaa.F

namespace Go.Proofs.YthdadohmomhchaaO
open Go.RowKit Go.Proofs.YthdadohmomhchaaW.PrintWords
set_option linter.unusedVariables false

/-- What reads as data of type t is told by the kind d, and what it tells is G. -/
def Opens {H α : Type} (enc : TypeId × Value → H) (P : Program) (w : World) (d : Kd α) (t : TypeId) (G : α → Prop) : Prop :=
  ∀ (spare : Nat → Bool) (held : Bool) (base fuel : Nat) (cs : List Value) (x : DataW H × List MemPlace),
    DataW.trod enc P w base spare held fuel t cs = some x → ∃ a, d.K w a cs ∧ G a

section
variable {H α β : Type} {enc : TypeId × Value → H} {P : Program} {w : World}

theorem opens_int {t : TypeId} {k : IntKind} (ht : P.underlying t = some (.int k)) : Opens enc P w (Kd.int k) t (fun n => (Lit.int k n).wf = true) := by
  intro spare held base fuel cs x h
  obtain ⟨n, rfl, _, hw⟩ := DataW.trod_int ht h
  exact ⟨n, rfl, hw⟩

theorem opens_bool {t : TypeId} (ht : P.underlying t = some .bool) : Opens enc P w Kd.bool t (fun _ => True) := by
  intro spare held base fuel cs x h
  obtain ⟨n, rfl, _⟩ := DataW.trod_bool ht h
  exact ⟨n, rfl, trivial⟩

theorem opens_string {t : TypeId} (ht : P.underlying t = some .string) : Opens enc P w Kd.string t (fun s => s.size ≤ maxLen) := by
  intro spare held base fuel cs x h
  obtain ⟨n, rfl, _, hw⟩ := DataW.trod_string ht h
  exact ⟨n, rfl, hw⟩

theorem choose_list {p : Nat → α → Prop} : ∀ n, (∀ i, i < n → ∃ x, p i x) → ∃ l : List α, l.length = n ∧ ∀ i x, l[i]? = some x → p i x
  | 0, _ => ⟨[], rfl, fun i x h => by simp at h⟩
  | n + 1, h => by
    obtain ⟨l, hl, hp⟩ := choose_list n (fun i hi => h i (by omega))
    obtain ⟨x, hx⟩ := h n (by omega)
    refine ⟨l ++ [x], by simp [hl], fun i y hy => ?_⟩
    rcases Nat.lt_or_ge i n with hi | hi
    · rw [List.getElem?_append_left (by omega)] at hy
      exact hp i y hy
    · rw [List.getElem?_append_right (by omega), hl] at hy
      have : i - n = 0 := by
        rcases Nat.eq_zero_or_pos (i - n) with h0 | h0
        · exact h0
        · rw [List.getElem?_eq_none (by simp; omega)] at hy
          cases hy
      rw [this] at hy
      have : i = n := by omega
      subst this
      simp at hy
      exact hy ▸ hx

/-- A slice: its elements. -/
theorem opens_row {t e : TypeId} {d : Kd α} {G : α → Prop} (ht : P.underlying t = some (.slice e)) (hs : P.cellsOf e = d.sz) (he : Opens enc P w d e G)
    {spare : Nat → Bool} {held : Bool} {base fuel : Nat} {cs : List Value} {x : DataW H × List MemPlace} (h : DataW.trod enc P w base spare held fuel t cs = some x) :
    ∃ (A : Option Addr) (xs : List α) (c : Nat), cs = [.slice A xs.length c] ∧ xs.length ≤ c ∧ c ≤ maxLen ∧ d.C w A xs.length xs ∧ ∀ a ∈ xs, G a := by
  rcases Go.Deep.open_slice ht h with ⟨rfl, _⟩ | ⟨a, len, cap, m, n, D, Pl, rfl, hb, hl, hm, hmm, _, hx⟩
  · exact ⟨none, [], 0, rfl, Nat.le_refl _, by unfold maxLen; omega, ⟨rfl, by simp, fun h => absurd h (by simp)⟩, fun a ha => by simp at ha⟩
  · have hlm : len ≤ m := by rw [hmm]; split <;> omega
    obtain ⟨xs, hxl, hxs⟩ := choose_list (p := fun i (b : α) => (∃ c, c.length = d.sz ∧ d.K w b c ∧ ∀ j u, c[j]? = some u → w.cell? (a.add (i * d.sz + j)) = some u) ∧ G b) len (fun i hi => by
      obtain ⟨cs', h1, h2⟩ := hx i (by omega)
      obtain ⟨_, hcl, hc⟩ := World.cells?_some h1
      obtain ⟨b, hK, hG⟩ := he _ _ _ _ _ _ h2
      refine ⟨b, ⟨cs', by rw [hcl, hs], hK, fun j u hj => ?_⟩, hG⟩
      have hjl : j < P.cellsOf e := by rw [← hcl]; exact (List.getElem?_eq_some_iff.1 hj).1
      have := hc j hjl
      rw [hs] at this
      rw [hj] at this
      rw [← this, Go.Deep.add_add])
    subst hxl
    refine ⟨some a, xs, cap, rfl, hl, hm, ⟨rfl, by unfold maxLen at hm; omega, fun _ => ⟨a, rfl, fun j p hj => (hxs j p hj).1⟩⟩, fun b hb => ?_⟩
    obtain ⟨i, hi, rfl⟩ := List.getElem_of_mem hb
    exact (hxs i _ (List.getElem?_eq_getElem hi)).2

theorem opens_slice {t e e' : TypeId} {d : Kd α} {G : α → Prop} (ht : P.underlying t = some (.slice e)) (hs : P.cellsOf e = d.sz) (he : Opens enc P w d e G) :
    Opens enc P w (Kd.slice e' d) t (fun xs => xs.length ≤ maxLen ∧ ∀ a ∈ xs, G a) := by
  intro spare held base fuel cs x h
  obtain ⟨A, xs, c, rfl, hl, hm, hC, hG⟩ := opens_row ht hs he h
  exact ⟨xs, ⟨A, c, rfl, hl, hC⟩, by omega, hG⟩

/-- The fields of a struct from offset o on. -/
def OpensF (enc : TypeId × Value → H) (P : Program) (w : World) (d : Kd α) (fs : List Field) (o : Nat) (G : α → Prop) : Prop :=
  ∀ (spare : Nat → Bool) (held : Bool) (base fuel : Nat) (cs : List Value), cs.length = o + d.sz →
    (∀ f ∈ fs, ∃ x, DataW.trod enc P w base spare held fuel f.type ((cs.drop f.offset).take (P.cellsOf f.type)) = some x) → ∃ a, d.K w a (cs.drop o) ∧ G a

theorem opensF_last {d : Kd α} {f : Field} {o : Nat} {G : α → Prop} (ho : f.offset = o) (hs : P.cellsOf f.type = d.sz) (h : Opens enc P w d f.type G) : OpensF enc P w d [f] o G := by
  intro spare held base fuel cs hl hf
  obtain ⟨x, hx⟩ := hf f (List.mem_singleton.2 rfl)
  rw [ho, hs, List.take_of_length_le (by rw [List.length_drop]; omega)] at hx
  exact h _ _ _ _ _ _ hx

theorem opensF_cons {d : Kd α} {d' : Kd β} {f : Field} {fs : List Field} {o : Nat} {G : α → Prop} {G' : β → Prop} (ho : f.offset = o) (hs : P.cellsOf f.type = d.sz) (h : Opens enc P w d f.type G)
    (hr : OpensF enc P w d' fs (o + d.sz) G') : OpensF enc P w (Kd.pair d d') (f :: fs) o (fun x => G x.1 ∧ G' x.2) := by
  intro spare held base fuel cs hl hf
  have hl' : cs.length = o + (d.sz + d'.sz) := hl
  obtain ⟨x, hx⟩ := hf f List.mem_cons_self
  rw [ho, hs] at hx
  obtain ⟨a, hK, hG⟩ := h _ _ _ _ _ _ hx
  obtain ⟨b, hK', hG'⟩ := hr spare held base fuel cs (by omega) (fun g hg => hf g (List.mem_cons_of_mem _ hg))
  refine ⟨(a, b), ⟨_, _, ?_, hK, hK'⟩, hG, hG'⟩
  rw [← List.drop_drop, List.take_append_drop]

/-- A struct by its fields, as a Lean structure: f takes it apart, g puts it together. -/
theorem opens_struct {t : TypeId} {fs : Array Field} {d : Kd α} {G : α → Prop} (ht : P.underlying t = some (.struct fs)) (hs : P.cellsOf t = d.sz) (f : β → α) (g : α → β) (hfg : ∀ a, f (g a) = a) (h : OpensF enc P w d fs.toList 0 G) :
    Opens enc P w (Kd.iso d f) t (fun b => G (f b)) := by
  intro spare held base fuel cs x hx
  obtain ⟨xs, n, rfl, _, hl, hxl, hf⟩ := DataW.trod_struct ht hx
  obtain ⟨a, hK, hG⟩ := h spare held base n cs (by rw [hl, hs]; omega) (fun z hz => by
    obtain ⟨i, hi, rfl⟩ := List.getElem_of_mem hz
    have hi' : i < fs.size := by simpa using hi
    refine ⟨xs[i]'(by omega), ?_⟩
    rw [Array.getElem_toList]
    rw [hf i _ (Array.getElem?_eq_getElem hi'), List.getElem?_eq_getElem (by omega)])
  refine ⟨g a, ?_, by show G (f (g a)); rw [hfg]; exact hG⟩
  show d.K w (f (g a)) cs
  rw [hfg]
  exact hK

theorem Opens.mono {d : Kd α} {t : TypeId} {G G' : α → Prop} (h : Opens enc P w d t G) (hg : ∀ a, G a → G' a) : Opens enc P w d t G' := by
  intro spare held base fuel cs x hx
  obtain ⟨a, hK, hG⟩ := h _ _ _ _ _ _ hx
  exact ⟨a, hK, hg a hG⟩
end
end Go.Proofs.YthdadohmomhchaaO

namespace Go.Proofs.Ythdadohmomhchaa.F
open Go.RowKit Go.Proofs.YthdadohmomhchaaW.PrintWords Go.Proofs.YthdadohmomhchaaO
set_option linter.unusedVariables false

def g2 (x : Int) : Prop := (Lit.int .i64 x).wf = true
def g24 (x : S24) : Prop := ((Lit.int .i64 x.f0).wf = true) ∧ ((Lit.int .i64 x.f1).wf = true)
theorem o24 {H : Type} {enc : TypeId × Value → H} {w : World} : Opens enc Try.prog w k24 24 g24 := (opens_struct (β := S24) Try.underlying24 (by kernel_rfl) (fun x => (x.f0, x.f1)) (fun p => ⟨p.1, p.2⟩) (fun _ => rfl) (opensF_cons rfl (by kernel_rfl) (opens_int Try.underlying2) (opensF_last rfl (by kernel_rfl) (opens_int Try.underlying2)))).mono (fun _ h => h)
def g107 (x : (List S24)) : Prop := x.length ≤ maxLen ∧ ∀ y ∈ x, g24 y
def g109 (x : S109) : Prop := ((Lit.int .i64 x.f0).wf = true) ∧ (x.f1.length ≤ maxLen ∧ ∀ y ∈ x.f1, g24 y)
theorem o109 {H : Type} {enc : TypeId × Value → H} {w : World} : Opens enc Try.prog w k109 109 g109 := (opens_struct (β := S109) Try.underlying109 (by kernel_rfl) (fun x => (x.f0, x.f1)) (fun p => ⟨p.1, p.2⟩) (fun _ => rfl) (opensF_cons rfl (by kernel_rfl) (opens_int Try.underlying2) (opensF_last rfl (by kernel_rfl) (opens_slice (e' := 24) Try.underlying107 (by kernel_rfl) o24)))).mono (fun _ h => h)
def g53 (x : S53) : Prop := ((Lit.int .i64 x.f0).wf = true) ∧ ((Lit.int .i64 x.f1).wf = true)
theorem o53 {H : Type} {enc : TypeId × Value → H} {w : World} : Opens enc Try.prog w k53 53 g53 := (opens_struct (β := S53) Try.underlying53 (by kernel_rfl) (fun x => (x.f0, x.f1)) (fun p => ⟨p.1, p.2⟩) (fun _ => rfl) (opensF_cons rfl (by kernel_rfl) (opens_int Try.underlying2) (opensF_last rfl (by kernel_rfl) (opens_int Try.underlying2)))).mono (fun _ h => h)
def g55 (x : S55) : Prop := ((Lit.int .i64 x.f0).wf = true) ∧ (g53 x.f1) ∧ ((Lit.int .i64 x.f2).wf = true)
theorem o55 {H : Type} {enc : TypeId × Value → H} {w : World} : Opens enc Try.prog w k55 55 g55 := (opens_struct (β := S55) Try.underlying55 (by kernel_rfl) (fun x => (x.f0, x.f1, x.f2)) (fun p => ⟨p.1, p.2.1, p.2.2⟩) (fun _ => rfl) (opensF_cons rfl (by kernel_rfl) (opens_int Try.underlying2) (opensF_cons rfl (by kernel_rfl) o53 (opensF_last rfl (by kernel_rfl) (opens_int Try.underlying2))))).mono (fun _ h => h)
def g34 (x : (List Int)) : Prop := x.length ≤ maxLen ∧ ∀ y ∈ x, g2 y
def g57 (x : S57) : Prop := (g55 x.f0) ∧ ((Lit.int .i64 x.f1).wf = true) ∧ (x.f2.length ≤ maxLen ∧ ∀ y ∈ x.f2, g2 y) ∧ (x.f3.length ≤ maxLen ∧ ∀ y ∈ x.f3, g2 y)
theorem o57 {H : Type} {enc : TypeId × Value → H} {w : World} : Opens enc Try.prog w k57 57 g57 := (opens_struct (β := S57) Try.underlying57 (by kernel_rfl) (fun x => (x.f0, x.f1, x.f2, x.f3)) (fun p => ⟨p.1, p.2.1, p.2.2.1, p.2.2.2⟩) (fun _ => rfl) (opensF_cons rfl (by kernel_rfl) o55 (opensF_cons rfl (by kernel_rfl) (opens_int Try.underlying2) (opensF_cons rfl (by kernel_rfl) (opens_slice (e' := 2) Try.underlying34 (by kernel_rfl) (opens_int Try.underlying2)) (opensF_last rfl (by kernel_rfl) (opens_slice (e' := 2) Try.underlying34 (by kernel_rfl) (opens_int Try.underlying2))))))).mono (fun _ h => h)
def g128 (x : S128) : Prop := ((Lit.int .i64 x.f0).wf = true) ∧ (g57 x.f1)
theorem o128 {H : Type} {enc : TypeId × Value → H} {w : World} : Opens enc Try.prog w k128 128 g128 := (opens_struct (β := S128) Try.underlying128 (by kernel_rfl) (fun x => (x.f0, x.f1)) (fun p => ⟨p.1, p.2⟩) (fun _ => rfl) (opensF_cons rfl (by kernel_rfl) (opens_int Try.underlying2) (opensF_last rfl (by kernel_rfl) o57))).mono (fun _ h => h)
def g159 (x : S159) : Prop := ((Lit.int .i64 x.f0).wf = true) ∧ ((Lit.int .i64 x.f1).wf = true) ∧ (x.f2.length ≤ maxLen ∧ ∀ y ∈ x.f2, g24 y)
theorem o159 {H : Type} {enc : TypeId × Value → H} {w : World} : Opens enc Try.prog w k159 159 g159 := (opens_struct (β := S159) Try.underlying159 (by kernel_rfl) (fun x => (x.f0, x.f1, x.f2)) (fun p => ⟨p.1, p.2.1, p.2.2⟩) (fun _ => rfl) (opensF_cons rfl (by kernel_rfl) (opens_int Try.underlying2) (opensF_cons rfl (by kernel_rfl) (opens_int Try.underlying2) (opensF_last rfl (by kernel_rfl) (opens_slice (e' := 24) Try.underlying107 (by kernel_rfl) o24))))).mono (fun _ h => h)
def g5 (x : Int) : Prop := (Lit.int .u8 x).wf = true
def g175 (x : S175) : Prop := ((Lit.int .u8 x.f0).wf = true) ∧ ((Lit.int .i64 x.f1).wf = true) ∧ ((Lit.int .i64 x.f2).wf = true)
theorem o175 {H : Type} {enc : TypeId × Value → H} {w : World} : Opens enc Try.prog w k175 175 g175 := (opens_struct (β := S175) Try.underlying175 (by kernel_rfl) (fun x => (x.f0, x.f1, x.f2)) (fun p => ⟨p.1, p.2.1, p.2.2⟩) (fun _ => rfl) (opensF_cons rfl (by kernel_rfl) (opens_int Try.underlying5) (opensF_cons rfl (by kernel_rfl) (opens_int Try.underlying2) (opensF_last rfl (by kernel_rfl) (opens_int Try.underlying2))))).mono (fun _ h => h)
theorem p24 {H : Type} {enc : TypeId × Value → H} {w : World} : Opens enc Try.prog w (Kd.iso (Kd.pair (Kd.int .i64) (Kd.int .i64)) (fun x : (Int × Int) => x)) 24 (fun x => ((Lit.int .i64 x.1).wf = true) ∧ ((Lit.int .i64 x.2).wf = true)) := (opens_struct (β := (Int × Int)) Try.underlying24 (by kernel_rfl) (fun x => x) (fun x => x) (fun _ => rfl) (opensF_cons rfl (by kernel_rfl) (opens_int Try.underlying2) (opensF_last rfl (by kernel_rfl) (opens_int Try.underlying2)))).mono (fun _ h => h)
theorem p57 {H : Type} {enc : TypeId × Value → H} {w : World} : Opens enc Try.prog w (Kd.iso (Kd.pair (Kd.iso (Kd.pair (Kd.int .i64) (Kd.pair (Kd.iso (Kd.pair (Kd.int .i64) (Kd.int .i64)) (fun x : (Int × Int) => x)) (Kd.int .i64))) (fun x : (Int × (Int × Int) × Int) => x)) (Kd.pair (Kd.int .i64) (Kd.pair (Kd.slice 2 (Kd.int .i64)) (Kd.slice 2 (Kd.int .i64))))) (fun x : ((Int × (Int × Int) × Int) × Int × (List Int) × (List Int)) => x)) 57 (fun x => (((Lit.int .i64 x.1.1).wf = true) ∧ (((Lit.int .i64 x.1.2.1.1).wf = true) ∧ ((Lit.int .i64 x.1.2.1.2).wf = true)) ∧ ((Lit.int .i64 x.1.2.2).wf = true)) ∧ ((Lit.int .i64 x.2.1).wf = true) ∧ (x.2.2.1.length ≤ maxLen ∧ ∀ y ∈ x.2.2.1, g2 y) ∧ (x.2.2.2.length ≤ maxLen ∧ ∀ y ∈ x.2.2.2, g2 y)) := (opens_struct (β := ((Int × (Int × Int) × Int) × Int × (List Int) × (List Int))) Try.underlying57 (by kernel_rfl) (fun x => x) (fun x => x) (fun _ => rfl) (opensF_cons rfl (by kernel_rfl) (opens_struct (β := (Int × (Int × Int) × Int)) Try.underlying55 (by kernel_rfl) (fun x => x) (fun x => x) (fun _ => rfl) (opensF_cons rfl (by kernel_rfl) (opens_int Try.underlying2) (opensF_cons rfl (by kernel_rfl) (opens_struct (β := (Int × Int)) Try.underlying53 (by kernel_rfl) (fun x => x) (fun x => x) (fun _ => rfl) (opensF_cons rfl (by kernel_rfl) (opens_int Try.underlying2) (opensF_last rfl (by kernel_rfl) (opens_int Try.underlying2)))) (opensF_last rfl (by kernel_rfl) (opens_int Try.underlying2))))) (opensF_cons rfl (by kernel_rfl) (opens_int Try.underlying2) (opensF_cons rfl (by kernel_rfl) (opens_slice (e' := 2) Try.underlying34 (by kernel_rfl) (opens_int Try.underlying2)) (opensF_last rfl (by kernel_rfl) (opens_slice (e' := 2) Try.underlying34 (by kernel_rfl) (opens_int Try.underlying2))))))).mono (fun _ h => h)
end Go.Proofs.Ythdadohmomhchaa.F

namespace Go.Proofs.Ythdadohmomhchaa.Pure
open Go.RowKit Go.Proofs.Ythdadohmomhchaa.F Go.Proofs.YthdadohmomhchaaW.PrintWords Go.Proofs.YthdadohmomhchaaW.PrintLast Go.Proofs.YthdadohmomhchaaW.PrintMore Go.Proofs.YthdadohmomhchaaB
set_option linter.unusedVariables false
set_option linter.unusedSimpArgs false
theorem impl_in_f (a b c : Int) : impl_in.f a b c = some (inB a b c) := inB_if a b c

end Go.Proofs.Ythdadohmomhchaa.Pure

namespace Go.Proofs.Ythdadohmomhchaa.Pure
open Go.RowKit Go.Proofs.Ythdadohmomhchaa.F Go.Proofs.YthdadohmomhchaaW.PrintWords Go.Proofs.YthdadohmomhchaaW.PrintLast Go.Proofs.YthdadohmomhchaaW.PrintMore Go.Proofs.YthdadohmomhchaaB
set_option linter.unusedVariables false
set_option linter.unusedSimpArgs false
theorem impl_IsWall_f (a b : Int) : impl_IsWall.f a b = some (inB a 0 1295999 && inB b (-324000) 324000) := by
  simp only [impl_IsWall.f, impl_in_f, Option.bind_some]
  cases inB a 0 1295999 <;> simp

end Go.Proofs.Ythdadohmomhchaa.Pure

namespace Go.Proofs.Ythdadohmomhchaa.Pure
open Go.RowKit Go.Proofs.Ythdadohmomhchaa.F Go.Proofs.YthdadohmomhchaaW.PrintWords Go.Proofs.YthdadohmomhchaaW.PrintLast Go.Proofs.YthdadohmomhchaaW.PrintMore Go.Proofs.YthdadohmomhchaaB
set_option linter.unusedVariables false
set_option linter.unusedSimpArgs false
theorem impl_isHeight_f (a : Int) : impl_isHeight.f a = some (inB a 1 10000) := by
  simp only [impl_isHeight.f, impl_in_f, Option.bind_some]

end Go.Proofs.Ythdadohmomhchaa.Pure

namespace Go.Proofs.Ythdadohmomhchaa.Pure
open Go.RowKit Go.Proofs.Ythdadohmomhchaa.F Go.Proofs.YthdadohmomhchaaW.PrintWords Go.Proofs.YthdadohmomhchaaW.PrintLast Go.Proofs.YthdadohmomhchaaW.PrintMore Go.Proofs.YthdadohmomhchaaB
set_option linter.unusedVariables false
set_option linter.unusedSimpArgs false
theorem impl_isLatitude_f (a : Int) : impl_isLatitude.f a = some (inB a (-324000) 324000) := by
  simp only [impl_isLatitude.f, impl_in_f, Option.bind_some]

end Go.Proofs.Ythdadohmomhchaa.Pure

namespace Go.Proofs.Ythdadohmomhchaa.Pure
open Go.RowKit Go.Proofs.Ythdadohmomhchaa.F Go.Proofs.YthdadohmomhchaaW.PrintWords Go.Proofs.YthdadohmomhchaaW.PrintLast Go.Proofs.YthdadohmomhchaaW.PrintMore Go.Proofs.YthdadohmomhchaaB
set_option linter.unusedVariables false
set_option linter.unusedSimpArgs false
def dialB (a b c d : Int) : Bool := inB a (-324000) 324000 && (inB b 0 1295999 && inB c (-324000) 324000) && inB d 1 10000

end Go.Proofs.Ythdadohmomhchaa.Pure

namespace Go.Proofs.Ythdadohmomhchaa.Pure
open Go.RowKit Go.Proofs.Ythdadohmomhchaa.F Go.Proofs.YthdadohmomhchaaW.PrintWords Go.Proofs.YthdadohmomhchaaW.PrintLast Go.Proofs.YthdadohmomhchaaW.PrintMore Go.Proofs.YthdadohmomhchaaB
set_option linter.unusedVariables false
set_option linter.unusedSimpArgs false
theorem impl_IsDial_f (a b c d : Int) : impl_IsDial.f a b c d = some (dialB a b c d) := by
  simp only [impl_IsDial.f, impl_isLatitude_f, impl_IsWall_f, impl_isHeight_f, Option.bind_some, dialB]
  cases inB a (-324000) 324000 <;> cases (inB b 0 1295999 && inB c (-324000) 324000) <;> simp

end Go.Proofs.Ythdadohmomhchaa.Pure

namespace Go.Proofs.Ythdadohmomhchaa.Pure
open Go.RowKit Go.Proofs.Ythdadohmomhchaa.F Go.Proofs.YthdadohmomhchaaW.PrintWords Go.Proofs.YthdadohmomhchaaW.PrintLast Go.Proofs.YthdadohmomhchaaW.PrintMore Go.Proofs.YthdadohmomhchaaB
set_option linter.unusedVariables false
set_option linter.unusedSimpArgs false
theorem impl_Project_few_f (a b c d e : Int) (xs ys : List Int) (hx : xs.length ≤ 4611686018427387903) (hy : ys.length ≤ 4611686018427387903) : impl_Project_few.f a b c d e xs ys = some (decide (xs.length + ys.length ≤ 40)) := by
  unfold impl_Project_few.f
  rw [w64 (by omega) (by omega)]
  by_cases h : xs.length + ys.length ≤ 40
  · rw [decide_eq_true (by omega), decide_eq_true h]
  · rw [decide_eq_false (by omega), decide_eq_false h]

end Go.Proofs.Ythdadohmomhchaa.Pure

namespace Go.Proofs.Ythdadohmomhchaa.Pure
open Go.RowKit Go.Proofs.Ythdadohmomhchaa.F Go.Proofs.YthdadohmomhchaaW.PrintWords Go.Proofs.YthdadohmomhchaaW.PrintLast Go.Proofs.YthdadohmomhchaaW.PrintMore Go.Proofs.YthdadohmomhchaaB
set_option linter.unusedVariables false
set_option linter.unusedSimpArgs false
theorem impl_isYear_f (a : Int) : impl_isYear.f a = some (inB a 1901 2099) := by
  simp only [impl_isYear.f, impl_in_f, Option.bind_some]

end Go.Proofs.Ythdadohmomhchaa.Pure

namespace Go.Proofs.Ythdadohmomhchaa.Pure
open Go.RowKit Go.Proofs.Ythdadohmomhchaa.F Go.Proofs.YthdadohmomhchaaW.PrintWords Go.Proofs.YthdadohmomhchaaW.PrintLast Go.Proofs.YthdadohmomhchaaW.PrintMore Go.Proofs.YthdadohmomhchaaB
set_option linter.unusedVariables false
set_option linter.unusedSimpArgs false
def risB (most : Int) : Option Int → List Int → Bool
  | _, [] => true
  | p, y :: ys => inB y 0 most && (match p with | none => true | some q => decide (q < y)) && risB most (some y) ys
def prevOf (xs : List Int) (m : Nat) : Option Int := if m = 0 then none else some (xs.getD (m - 1) 0)
theorem prevOf_succ {xs ys : List Int} {y : Int} {m : Nat} (h : xs.drop m = y :: ys) : prevOf xs (m + 1) = some y := by
  unfold prevOf
  rw [if_neg (by omega), Nat.add_sub_cancel, (drop_cons h).2.1]
def risesB (l : List Int) (most : Int) : Bool := risB most none l
theorem rdI {xs ys : List Int} {y : Int} {m : Nat} (h : xs.drop m = y :: ys) : rd xs (m : Int) = y := (drop_cons h).2.1 _

end Go.Proofs.Ythdadohmomhchaa.Pure

namespace Go.Proofs.Ythdadohmomhchaa.Pure
open Go.RowKit Go.Proofs.Ythdadohmomhchaa.F Go.Proofs.YthdadohmomhchaaW.PrintWords Go.Proofs.YthdadohmomhchaaW.PrintLast Go.Proofs.YthdadohmomhchaaW.PrintMore Go.Proofs.YthdadohmomhchaaB
set_option linter.unusedVariables false
set_option linter.unusedSimpArgs false
theorem impl_rising_l0 (xs : List Int) (a : Int) (hx : xs.length ≤ 9223372036854775807) : ∀ (ys : List Int) (m : Nat), xs.drop m = ys →
    Ev (fun k => impl_rising.l0 k xs a xs xs.length m) (risB a (prevOf xs m) ys)
  | [], m, h => by
    have := drop_nil h
    exact ev_step (fun _ => rfl) (ev_neg (by omega) (ev_now rfl))
  | y :: ys, m, h => by
    obtain ⟨hm, _, hd⟩ := drop_cons h
    refine ev_step (fun _ => rfl) (ev_pos (by omega) (ev_pos (by omega) (ev_pos (by omega) ?_)))
    rw [rdI h, w64 (x := (m : Int) + 1) (by omega) (by omega), w64 (x := (m : Int) - 1) (by omega) (by omega)]
    refine ev_some (impl_in_f _ _ _) ?_
    have ih := impl_rising_l0 xs a hx ys (m + 1) hd
    rw [prevOf_succ h] at ih
    unfold risB
    cases inB y 0 a
    · exact ev_neg (by simp) (ev_now (by simp))
    refine ev_pos rfl ?_
    by_cases h0 : m = 0
    · subst h0
      exact ev_neg (by omega) (ev_eq ih (by simp [prevOf]))
    · refine ev_pos (by omega) (ev_pos (by omega) (ev_pos (by omega) ?_))
      have e : rd xs ((m : Int) - 1) = xs.getD (m - 1) 0 := by unfold rd; congr 1; omega
      rw [e]
      unfold prevOf
      rw [if_neg h0]
      refine ev_ite (fun hc => ev_now ?_) (fun hc => ev_eq ih ?_)
      · have : ¬ (xs.getD (m - 1) 0 < y) := by omega
        simp [-List.getD_eq_getElem?_getD, this]
      · have : xs.getD (m - 1) 0 < y := by omega
        simp [-List.getD_eq_getElem?_getD, this]
theorem impl_rising_f (xs : List Int) (a : Int) (hx : xs.length ≤ 9223372036854775807) : Ev (fun k => impl_rising.f k xs a) (risesB xs a) := impl_rising_l0 xs a hx xs 0 rfl

end Go.Proofs.Ythdadohmomhchaa.Pure

namespace Go.Proofs.Ythdadohmomhchaa.Pure
open Go.RowKit Go.Proofs.Ythdadohmomhchaa.F Go.Proofs.YthdadohmomhchaaW.PrintWords Go.Proofs.YthdadohmomhchaaW.PrintLast Go.Proofs.YthdadohmomhchaaW.PrintMore Go.Proofs.YthdadohmomhchaaB
set_option linter.unusedVariables false
set_option linter.unusedSimpArgs false
def projB (a b c d e : Int) (xs ys : List Int) : Bool := dialB a b c d && inB e 1901 2099 && (risesB xs 1439 && risesB ys 11) && decide (xs.length + ys.length ≤ 40)

end Go.Proofs.Ythdadohmomhchaa.Pure

namespace Go.Proofs.Ythdadohmomhchaa.Pure
open Go.RowKit Go.Proofs.Ythdadohmomhchaa.F Go.Proofs.YthdadohmomhchaaW.PrintWords Go.Proofs.YthdadohmomhchaaW.PrintLast Go.Proofs.YthdadohmomhchaaW.PrintMore Go.Proofs.YthdadohmomhchaaB
set_option linter.unusedVariables false
set_option linter.unusedSimpArgs false
theorem impl_IsProject_f (a b c d e : Int) (xs ys : List Int) (hx : xs.length ≤ 4611686018427387903) (hy : ys.length ≤ 4611686018427387903) : Ev (fun k => impl_IsProject.f k a b c d e xs ys) (projB a b c d e xs ys) := by
  unfold projB
  refine ev_some (impl_IsDial_f a b c d) ?_
  cases dialB a b c d
  · exact ev_neg (by simp) (ev_now (by simp))
  refine ev_pos rfl (ev_some (impl_isYear_f _) ?_)
  cases inB e 1901 2099
  · exact ev_neg (by simp) (ev_now (by simp))
  refine ev_pos rfl (ev_bind (impl_rising_f xs 1439 (by omega)) ?_)
  cases risesB xs 1439
  · exact ev_neg (by simp) (ev_now (by simp))
  refine ev_pos rfl (ev_bind (impl_rising_f ys 11 (by omega)) ?_)
  cases risesB ys 11
  · exact ev_neg (by simp) (ev_now (by simp))
  refine ev_pos rfl (ev_some (impl_Project_few_f _ _ _ _ _ _ _ hx hy) (ev_now (by simp)))

end Go.Proofs.Ythdadohmomhchaa.Pure

namespace Go.Proofs.Ythdadohmomhchaa.Pure
open Go.RowKit Go.Proofs.Ythdadohmomhchaa.F Go.Proofs.YthdadohmomhchaaW.PrintWords Go.Proofs.YthdadohmomhchaaW.PrintLast Go.Proofs.YthdadohmomhchaaW.PrintMore Go.Proofs.YthdadohmomhchaaB
set_option linter.unusedVariables false
set_option linter.unusedSimpArgs false
def pjB (x : S63) : Bool := projB x.f0.f0 x.f0.f1.f0 x.f0.f1.f1 x.f0.f2 x.f1 x.f2 x.f3
def parB (m : Nat) (p : Int) : Bool := if m = 0 then p == -1 else inB p 0 (m - 1)
def histFrom (m : Nat) : List S131 → Bool
  | [] => true
  | y :: ys => parB m y.f0 && pjB y.f1 && histFrom (m + 1) ys
theorem histFrom_cons (m : Nat) (y : S131) (ys : List S131) : histFrom m (y :: ys) = (parB m y.f0 && pjB y.f1 && histFrom (m + 1) ys) := rfl
def histB (l : List S131) : Bool := histFrom 0 l && decide (l.length ≤ 12)
theorem rdV {xs ys : List S131} {y : S131} {m : Nat} (h : xs.drop m = y :: ys) : rd_T131 xs (m : Int) = y := (drop_cons h).2.1 _
theorem len12 (l : List S131) : decide ((l.length : Int) ≤ 12) = decide (l.length ≤ 12) := by
  by_cases h : l.length ≤ 12
  · rw [decide_eq_true (by omega), decide_eq_true h]
  · rw [decide_eq_false (by omega), decide_eq_false h]

end Go.Proofs.Ythdadohmomhchaa.Pure

namespace Go.Proofs.Ythdadohmomhchaa.Pure
open Go.RowKit Go.Proofs.Ythdadohmomhchaa.F Go.Proofs.YthdadohmomhchaaW.PrintWords Go.Proofs.YthdadohmomhchaaW.PrintLast Go.Proofs.YthdadohmomhchaaW.PrintMore Go.Proofs.YthdadohmomhchaaB
set_option linter.unusedVariables false
set_option linter.unusedSimpArgs false
theorem impl_IsHistory_l0 (xs : List S131) (hx : xs.length ≤ 9223372036854775807) (hi : ∀ x ∈ xs, x.f1.f2.length ≤ 1048576 ∧ x.f1.f3.length ≤ 1048576) : ∀ (ys : List S131) (m : Nat), xs.drop m = ys →
    Ev (fun k => impl_IsHistory.l0 k xs xs xs.length m) (histFrom m ys && decide (xs.length ≤ 12))
  | [], m, h => by
    have := drop_nil h
    exact ev_step (fun _ => rfl) (ev_neg (by omega) (ev_now (by rw [len12]; rfl)))
  | y :: ys, m, h => by
    obtain ⟨hm, _, hd⟩ := drop_cons h
    obtain ⟨e1, e2⟩ := hi y (List.mem_of_mem_drop (by rw [h]; exact List.mem_cons_self))
    have ih := impl_IsHistory_l0 xs hx hi ys (m + 1) hd
    have hp := impl_IsProject_f y.f1.f0.f0 y.f1.f0.f1.f0 y.f1.f0.f1.f1 y.f1.f0.f2 y.f1.f1 y.f1.f2 y.f1.f3 (by omega) (by omega)
    refine ev_step (fun _ => rfl) (ev_pos (by omega) (ev_pos (by omega) (ev_pos (by omega) ?_)))
    rw [rdV h, w64 (x := (m : Int) + 1) (by omega) (by omega), w64 (x := (m : Int) - 1) (by omega) (by omega), histFrom_cons]
    change Ev _ (pjB y.f1) at hp
    by_cases h0 : m = 0
    · subst h0
      refine ev_neg (by omega) ?_
      rw [show parB 0 y.f0 = (y.f0 == -1) from rfl]
      refine ev_ite (fun hq => ?_) (fun hq => ev_now ?_)
      · refine ev_bind hp ?_
        cases pjB y.f1
        · exact ev_neg (by simp) (ev_now (by simp))
        · exact ev_pos rfl (ev_eq ih (by simp [hq]))
      · simp [hq]
    · refine ev_pos (by omega) (ev_some (impl_in_f _ _ _) ?_)
      rw [show parB m y.f0 = inB y.f0 0 (m - 1) from if_neg h0]
      cases inB y.f0 0 (m - 1)
      · exact ev_neg (by simp) (ev_now (by simp))
      refine ev_pos rfl (ev_bind hp ?_)
      cases pjB y.f1
      · exact ev_neg (by simp) (ev_now (by simp))
      · exact ev_pos rfl (ev_eq ih (by simp))
theorem impl_IsHistory_f (xs : List S131) (hx : xs.length ≤ 9223372036854775807) (hi : ∀ x ∈ xs, x.f1.f2.length ≤ 1048576 ∧ x.f1.f3.length ≤ 1048576) : Ev (fun k => impl_IsHistory.f k xs) (histB xs) := impl_IsHistory_l0 xs hx hi xs 0 rfl

end Go.Proofs.Ythdadohmomhchaa.Pure

namespace Go.Proofs.Ythdadohmomhchaa.Pure
open Go.RowKit Go.Proofs.Ythdadohmomhchaa.F Go.Proofs.YthdadohmomhchaaW.PrintWords Go.Proofs.YthdadohmomhchaaW.PrintLast Go.Proofs.YthdadohmomhchaaW.PrintMore Go.Proofs.YthdadohmomhchaaB
set_option linter.unusedVariables false
set_option linter.unusedSimpArgs false
theorem find_congr {p q : Int → Bool} : ∀ {l : List Int}, (∀ x ∈ l, p x = q x) → l.find? p = l.find? q
  | [], _ => rfl
  | y :: ys, h => by
    have h1 := h y List.mem_cons_self
    have h2 := find_congr (l := ys) (fun x hx => h x (List.mem_cons_of_mem _ hx))
    cases hq : q y
    · rw [List.find?_cons_of_neg (by rw [h1, hq]; simp), List.find?_cons_of_neg (by rw [hq]; simp), h2]
    · rw [List.find?_cons_of_pos (by rw [h1, hq]), List.find?_cons_of_pos hq]
/-- The parent of a version. -/
def par (xs : List S131) (a : Int) : Int := (rd_T131 xs a).f0
theorem histFrom_at : ∀ (ys : List S131) (m j : Nat) (z : S131), histFrom m ys = true → j < ys.length → parB (m + j) (ys.getD j z).f0 = true
  | [], m, j, z, _, h => absurd h (Nat.not_lt_zero _)
  | y :: ys, m, 0, z, h, _ => by
    rw [histFrom_cons] at h
    simp only [Bool.and_eq_true] at h
    exact h.1.1
  | y :: ys, m, j + 1, z, h, hj => by
    rw [histFrom_cons] at h
    simp only [Bool.and_eq_true] at h
    have := histFrom_at ys (m + 1) j z h.2 (by simpa using hj)
    rw [show m + (j + 1) = m + 1 + j by omega]
    exact this
theorem hist_len {xs : List S131} (h : histB xs = true) : xs.length ≤ 12 := by
  unfold histB at h
  simp only [Bool.and_eq_true, decide_eq_true_eq] at h
  exact h.2
theorem par_lt {xs : List S131} (h : histB xs = true) (a : Int) (h0 : 0 ≤ a) (h1 : a < xs.length) : -1 ≤ par xs a ∧ par xs a < a ∧ (0 < a → 0 ≤ par xs a) := by
  unfold histB at h
  simp only [Bool.and_eq_true, decide_eq_true_eq] at h
  have h2 := histFrom_at xs 0 a.toNat z131 h.1 (by omega)
  rw [Nat.zero_add] at h2
  have h3 : parB a.toNat (par xs a) = true := h2
  generalize par xs a = p at *
  unfold parB at h3
  split at h3
  · rename_i hz
    have : p = -1 := by simpa using h3
    omega
  · unfold inB at h3
    have := of_decide_eq_true h3
    omega
def anc (xs : List S131) : Nat → Int → List Int
  | 0, _ => []
  | d + 1, a => if 0 ≤ a then a :: anc xs d (par xs a) else []
theorem anc_pos (xs : List S131) (d : Nat) {a : Int} (h : 0 ≤ a) : anc xs (d + 1) a = a :: anc xs d (par xs a) := if_pos h
theorem anc_neg (xs : List S131) (d : Nat) {a : Int} (h : ¬ 0 ≤ a) : anc xs (d + 1) a = [] := if_neg h
theorem anc_length (xs : List S131) : ∀ (d : Nat) (a : Int), (anc xs d a).length ≤ d
  | 0, _ => Nat.le_refl _
  | d + 1, a => by
    by_cases h : 0 ≤ a
    · rw [anc_pos xs d h, List.length_cons]
      have := anc_length xs d (par xs a)
      omega
    · rw [anc_neg xs d h]
      exact Nat.zero_le _
theorem anc_le {xs : List S131} (hh : histB xs = true) : ∀ (d : Nat) (a x : Int), a < xs.length → x ∈ anc xs d a → 0 ≤ x ∧ x ≤ a
  | 0, _, _, _, h => absurd h List.not_mem_nil
  | d + 1, a, x, hl, h => by
    by_cases h0 : 0 ≤ a
    · rw [anc_pos xs d h0] at h
      rcases List.mem_cons.1 h with h | h
      · omega
      · have hp := par_lt hh a h0 hl
        have := anc_le hh d (par xs a) x (by omega) h
        omega
    · rw [anc_neg xs d h0] at h
      exact absurd h List.not_mem_nil
/-- More rounds change nothing. -/
theorem anc_more {xs : List S131} (hh : histB xs = true) : ∀ (d d' : Nat) (a : Int), a < xs.length → a < d → a < d' → anc xs d a = anc xs d' a
  | 0, 0, _, _, _, _ => rfl
  | 0, d' + 1, a, _, h, _ => (anc_neg xs d' (by omega)).symm
  | d + 1, 0, a, _, _, h => anc_neg xs d (by omega)
  | d + 1, d' + 1, a, hl, h, h' => by
    by_cases h0 : 0 ≤ a
    · have hp := par_lt hh a h0 hl
      rw [anc_pos xs d h0, anc_pos xs d' h0, anc_more hh d d' (par xs a) (by omega) (by omega) (by omega)]
    · rw [anc_neg xs d h0, anc_neg xs d' h0]
def com (xs : List S131) : Nat → Int → Int → Int
  | 0, a, _ => a
  | d + 1, a, b => if a = b then a else if a > b then com xs d (par xs a) b else com xs d a (par xs b)
theorem com_find {xs : List S131} (hh : histB xs = true) : ∀ (d : Nat) (a b : Int), 0 ≤ a → 0 ≤ b → a < xs.length → b < xs.length → a + b < d → (anc xs 13 a).find? (fun x => decide (x ∈ anc xs 13 b)) = some (com xs d a b)
  | 0, a, b, ha, hb, _, _, h => by omega
  | d + 1, a, b, ha, hb, la, lb, h => by
    have hl := hist_len hh
    have pa := par_lt hh a ha la
    have pb := par_lt hh b hb lb
    have ea : anc xs 13 a = a :: anc xs 13 (par xs a) := by rw [anc_pos xs 12 ha, anc_more hh 12 13 (par xs a) (by omega) (by omega) (by omega)]
    have eb : anc xs 13 b = b :: anc xs 13 (par xs b) := by rw [anc_pos xs 12 hb, anc_more hh 12 13 (par xs b) (by omega) (by omega) (by omega)]
    show _ = some (if a = b then a else if a > b then com xs d (par xs a) b else com xs d a (par xs b))
    by_cases h1 : a = b
    · subst h1
      rw [if_pos rfl]
      rw [ea]
      exact List.find?_cons_of_pos (by simp)
    rw [if_neg h1]
    by_cases h2 : a > b
    · rw [if_pos h2, ea]
      have hn : ¬ a ∈ anc xs 13 b := fun hm => by have := anc_le hh 13 b a lb hm; omega
      rw [List.find?_cons_of_neg (by simpa using hn)]
      exact com_find hh d (par xs a) b (pa.2.2 (by omega)) hb (by omega) lb (by omega)
    · rw [if_neg h2, ← com_find hh d a (par xs b) ha (pb.2.2 (by omega)) la (by omega) (by omega)]
      refine find_congr ?_
      intro x hx
      have hxa := anc_le hh 13 a x la hx
      rw [eb]
      have : ¬ x = b := by omega
      simp [this]
def codeH (xs : List S131) (is : List Int) : Int := if histB xs = true then (if is.all (fun i => inB i 0 (xs.length - 1)) = true then 0 else 2) else 1
theorem codeH_zero {xs : List S131} {is : List Int} (h : codeH xs is = 0) : histB xs = true ∧ ∀ i ∈ is, 0 ≤ i ∧ i < xs.length := by
  unfold codeH at h
  split at h
  · rename_i hh
    split at h
    · rename_i ha
      refine ⟨hh, fun i hi => ?_⟩
      have := List.all_eq_true.1 ha i hi
      unfold inB at this
      have := of_decide_eq_true this
      omega
    · cases h
  · cases h
/-- A small list of versions. -/
def smallV (xs : List S131) : Prop := xs.length ≤ 1048576 ∧ ∀ x ∈ xs, x.f1.f2.length ≤ 1048576 ∧ x.f1.f3.length ≤ 1048576
def resAnc (xs : List S131) (a : Int) : List Int × Int := if codeH xs [a] = 0 then (anc xs 13 a, 0) else ([], codeH xs [a])
def resCom (xs : List S131) (a b : Int) : Int × Int := if codeH xs [a, b] = 0 then (com xs 25 a b, 0) else (0, codeH xs [a, b])

end Go.Proofs.Ythdadohmomhchaa.Pure

namespace Go.Proofs.Ythdadohmomhchaa.Pure
open Go.RowKit Go.Proofs.Ythdadohmomhchaa.F Go.Proofs.YthdadohmomhchaaW.PrintWords Go.Proofs.YthdadohmomhchaaW.PrintLast Go.Proofs.YthdadohmomhchaaW.PrintMore Go.Proofs.YthdadohmomhchaaB
set_option linter.unusedVariables false
set_option linter.unusedSimpArgs false
theorem impl_historical_l0 (xs : List S131) (hx : xs.length ≤ 1048576) (is : List Int) (hi : is.length ≤ 1000) : ∀ (ys : List Int) (m : Nat), is.drop m = ys →
    Ev (fun k => impl_historical.l0 k xs is is.length m) (if ys.all (fun i => inB i 0 (xs.length - 1)) = true then 0 else 2)
  | [], m, h => by
    have := drop_nil h
    exact ev_step (fun _ => rfl) (ev_neg (by omega) (ev_now rfl))
  | y :: ys, m, h => by
    obtain ⟨hm, _, hd⟩ := drop_cons h
    have e : rd is (m : Int) = y := (drop_cons h).2.1 _
    refine ev_step (fun _ => rfl) (ev_pos (by omega) (ev_pos (by omega) (ev_pos (by omega) ?_)))
    rw [e, w64 (x := (m : Int) + 1) (by omega) (by omega), w64 (by omega) (by omega)]
    refine ev_some (impl_in_f _ _ _) ?_
    have ih := impl_historical_l0 xs hx is hi ys (m + 1) hd
    rw [List.all_cons]
    cases inB y 0 ((xs.length : Int) - 1)
    · exact ev_neg (by simp) (ev_now rfl)
    · exact ev_pos rfl (ev_eq ih (by rw [Bool.true_and]))
theorem impl_historical_f (xs : List S131) (hx : smallV xs) (is : List Int) (hi : is.length ≤ 1000) : Ev (fun k => impl_historical.f k xs is) (codeH xs is) := by
  have hx1 := hx.1
  refine ev_bind (impl_IsHistory_f xs (by omega) hx.2) ?_
  unfold codeH
  cases histB xs
  · exact ev_neg (by simp) (ev_now rfl)
  · exact ev_pos rfl (ev_eq (impl_historical_l0 xs hx1 is hi is 0 rfl) rfl)

end Go.Proofs.Ythdadohmomhchaa.Pure

namespace Go.Proofs.Ythdadohmomhchaa.Pure
open Go.RowKit Go.Proofs.Ythdadohmomhchaa.F Go.Proofs.YthdadohmomhchaaW.PrintWords Go.Proofs.YthdadohmomhchaaW.PrintLast Go.Proofs.YthdadohmomhchaaW.PrintMore Go.Proofs.YthdadohmomhchaaB
set_option linter.unusedVariables false
set_option linter.unusedSimpArgs false
theorem impl_CommonVersion_l0 (xs : List S131) (hh : histB xs = true) : ∀ (d : Nat) (a b : Int), 0 ≤ a → 0 ≤ b → a < xs.length → b < xs.length → a + b < d → Ev (fun k => impl_CommonVersion.l0 k xs a b) (com xs d a b, 0)
  | 0, a, b, ha, hb, _, _, h => by omega
  | d + 1, a, b, ha, hb, la, lb, h => by
    have pa := par_lt hh a ha la
    have pb := par_lt hh b hb lb
    show Ev _ ((if a = b then a else if a > b then com xs d (par xs a) b else com xs d a (par xs b)), 0)
    refine ev_step (fun _ => rfl) (ev_ite (fun h1 => ev_now ?_) (fun h1 => ev_ite (fun h2 => ev_pos ha (ev_pos la ?_)) (fun h2 => ev_pos hb (ev_pos lb ?_))))
    · rw [if_pos h1]
    · rw [if_neg h1, if_pos h2]
      exact impl_CommonVersion_l0 xs hh d (par xs a) b (pa.2.2 (by omega)) hb (by omega) lb (by omega)
    · rw [if_neg h1, if_neg h2]
      exact impl_CommonVersion_l0 xs hh d a (par xs b) ha (pb.2.2 (by omega)) la (by omega) (by omega)
theorem impl_CommonVersion_f (xs : List S131) (hx : smallV xs) (a b : Int) : Ev (fun k => impl_CommonVersion.f k xs a b) (resCom xs a b) := by
  refine ev_bind (impl_historical_f xs hx [a, b] (by simp)) ?_
  unfold resCom
  refine ev_ite (fun h => ?_) (fun h => ?_)
  · rw [if_pos h]
    obtain ⟨hh, hi⟩ := codeH_zero h
    have h1 := hi a (by simp)
    have h2 := hi b (by simp)
    have hl := hist_len hh
    exact impl_CommonVersion_l0 xs hh 25 a b h1.1 h2.1 h1.2 h2.2 (by omega)
  · rw [if_neg h]
    exact ev_now rfl

end Go.Proofs.Ythdadohmomhchaa.Pure

namespace Go.Proofs.Ythdadohmomhchaa.Pure
open Go.RowKit Go.Proofs.Ythdadohmomhchaa.F Go.Proofs.YthdadohmomhchaaW.PrintWords Go.Proofs.YthdadohmomhchaaW.PrintLast Go.Proofs.YthdadohmomhchaaW.PrintMore Go.Proofs.YthdadohmomhchaaB
set_option linter.unusedVariables false
set_option linter.unusedSimpArgs false
theorem laws_eqInt64S_l0 (xs : List Int) (hx : xs.length ≤ 9223372036854775807) : ∀ (ys : List Int) (m : Nat), xs.drop m = ys →
    Ev (fun k => laws_eqInt64S.l0 k xs xs m) true
  | [], m, h => by
    have := drop_nil h
    exact ev_step (fun _ => rfl) (ev_neg (by omega) (ev_now rfl))
  | y :: ys, m, h => by
    obtain ⟨hm, _, hd⟩ := drop_cons h
    refine ev_step (fun _ => rfl) (ev_pos (by omega) (ev_pos (by omega) (ev_pos (by omega) ?_)))
    rw [w64 (by omega) (by omega)]
    exact ev_pos rfl (laws_eqInt64S_l0 xs hx ys (m + 1) hd)
theorem laws_eqInt64S_f (xs : List Int) (hx : xs.length ≤ 9223372036854775807) : Ev (fun k => laws_eqInt64S.f k xs xs) true := ev_pos rfl (laws_eqInt64S_l0 xs hx xs 0 rfl)

end Go.Proofs.Ythdadohmomhchaa.Pure

namespace Go.Proofs.Ythdadohmomhchaa.Pure
open Go.RowKit Go.Proofs.Ythdadohmomhchaa.F Go.Proofs.YthdadohmomhchaaW.PrintWords Go.Proofs.YthdadohmomhchaaW.PrintLast Go.Proofs.YthdadohmomhchaaW.PrintMore Go.Proofs.YthdadohmomhchaaB
set_option linter.unusedVariables false
set_option linter.unusedSimpArgs false
theorem laws_eqProject_f (a b c d e : Int) (xs ys : List Int) (hx : xs.length ≤ 9223372036854775807) (hy : ys.length ≤ 9223372036854775807) : Ev (fun k => laws_eqProject.f k a b c d e xs ys a b c d e xs ys) true := by
  refine ev_some (a := true) (by simp [laws_eqDial.f, laws_eqWall.f]) (ev_pos rfl (ev_pos rfl ?_))
  exact ev_bind (laws_eqInt64S_f xs hx) (ev_pos rfl (ev_bind (laws_eqInt64S_f ys hy) (ev_pos rfl (ev_now rfl))))

end Go.Proofs.Ythdadohmomhchaa.Pure

namespace Go.Proofs.Ythdadohmomhchaa.Pure
open Go.RowKit Go.Proofs.Ythdadohmomhchaa.F Go.Proofs.YthdadohmomhchaaW.PrintWords Go.Proofs.YthdadohmomhchaaW.PrintLast Go.Proofs.YthdadohmomhchaaW.PrintMore Go.Proofs.YthdadohmomhchaaB
set_option linter.unusedVariables false
set_option linter.unusedSimpArgs false
theorem laws_eqVersionS_f (xs : List S131) (hx : xs.length ≤ 9223372036854775807) (hi : ∀ x ∈ xs, x.f1.f2.length ≤ 1048576 ∧ x.f1.f3.length ≤ 1048576) : Ev (fun k => laws_eqVersionS.f k xs xs) true :=
  ev_pos rfl (ev_eqs (z := z131) (F := laws_eqVersionS.l0) (fun k x y => laws_eqVersion.f k x.f0 x.f1.f0.f0 x.f1.f0.f1.f0 x.f1.f0.f1.f1 x.f1.f0.f2 x.f1.f1 x.f1.f2 x.f1.f3 y.f0 y.f1.f0.f0 y.f1.f0.f1.f0 y.f1.f0.f1.f1 y.f1.f0.f2 y.f1.f1 y.f1.f2 y.f1.f3) (fun _ _ _ _ => rfl) xs hx (fun x hm => ev_pos rfl (ev_bind (laws_eqProject_f _ _ _ _ _ _ _ (by have := hi x hm; omega) (by have := hi x hm; omega)) (ev_pos rfl (ev_now rfl)))) xs 0 rfl)

end Go.Proofs.Ythdadohmomhchaa.Pure

namespace Go.Proofs.Ythdadohmomhchaa.Pure
open Go.RowKit Go.Proofs.Ythdadohmomhchaa.F Go.Proofs.YthdadohmomhchaaW.PrintWords Go.Proofs.YthdadohmomhchaaW.PrintLast Go.Proofs.YthdadohmomhchaaW.PrintMore Go.Proofs.YthdadohmomhchaaB
set_option linter.unusedVariables false
set_option linter.unusedSimpArgs false
theorem laws_szInt64S_f (xs : List Int) (a : Int) (h0 : 0 ≤ a) (h1 : a ≤ 1048576) (hx : xs.length ≤ 9223372036854775807) : laws_szInt64S.f xs a = some (if a < xs.length then -1 else a - xs.length) := by
  unfold laws_szInt64S.f
  rw [w64 (by omega) (by omega)]
  by_cases h : a < xs.length
  · rw [if_pos (by omega), if_pos h]
  · rw [if_neg (by omega), if_neg h]

end Go.Proofs.Ythdadohmomhchaa.Pure

namespace Go.Proofs.Ythdadohmomhchaa.Pure
open Go.RowKit Go.Proofs.Ythdadohmomhchaa.F Go.Proofs.YthdadohmomhchaaW.PrintWords Go.Proofs.YthdadohmomhchaaW.PrintLast Go.Proofs.YthdadohmomhchaaW.PrintMore Go.Proofs.YthdadohmomhchaaB
set_option linter.unusedVariables false
set_option linter.unusedSimpArgs false
theorem laws_szProject_f (a b c d e : Int) (xs ys : List Int) (n : Int) (h0 : 0 ≤ n) (h1 : n ≤ 1048576) (hx : xs.length ≤ 9223372036854775807) (hy : ys.length ≤ 9223372036854775807) :
    laws_szProject.f a b c d e xs ys n = some (if n < xs.length + ys.length then -1 else n - (xs.length + ys.length)) := by
  unfold laws_szProject.f
  rw [laws_szInt64S_f xs n h0 h1 hx, Option.bind_some]
  by_cases h : n < xs.length
  · rw [if_pos h, if_pos (by omega), if_pos (by omega)]
  · rw [if_neg h, if_neg (by omega), laws_szInt64S_f ys _ (by omega) (by omega) hy, Option.bind_some]
    by_cases h2 : n - xs.length < ys.length
    · rw [if_pos h2, if_pos (by omega), if_pos (by omega)]
    · rw [if_neg h2, if_neg (by omega), if_neg (by omega)]
      congr 1
      omega

end Go.Proofs.Ythdadohmomhchaa.Pure

namespace Go.Proofs.Ythdadohmomhchaa.Pure
open Go.RowKit Go.Proofs.Ythdadohmomhchaa.F Go.Proofs.YthdadohmomhchaaW.PrintWords Go.Proofs.YthdadohmomhchaaW.PrintLast Go.Proofs.YthdadohmomhchaaW.PrintMore Go.Proofs.YthdadohmomhchaaB
set_option linter.unusedVariables false
set_option linter.unusedSimpArgs false
def szVersion (x : S128) : Nat := x.f1.f2.length + x.f1.f3.length
theorem laws_szVersionS_f (xs : List S128) (a : Int) (h0 : 0 ≤ a) (h1 : a ≤ 1048576) (hx : xs.length ≤ 9223372036854775807) (hi : ∀ x ∈ xs, x.f1.f2.length ≤ 9223372036854775807 ∧ x.f1.f3.length ≤ 9223372036854775807) :
    Ev (fun k => laws_szVersionS.f k xs a) (if a < xs.length + total szVersion xs then -1 else a - (xs.length + total szVersion xs)) :=
  ev_sizes (z := z128) (F := laws_szVersionS.l0) (fun _ x a => laws_szVersion.f x.f0 x.f1.f0.f0 x.f1.f0.f1.f0 x.f1.f0.f1.f1 x.f1.f0.f2 x.f1.f1 x.f1.f2 x.f1.f3 a) (fun _ _ _ _ => rfl) szVersion xs hx (fun x hm a g0 g1 => by
    obtain ⟨e1, e2⟩ := hi x hm
    refine ev_now ?_
    unfold laws_szVersion.f szVersion
    rw [laws_szProject_f _ _ _ _ _ _ _ a g0 g1 e1 e2, Option.bind_some]
    by_cases h : a < x.f1.f2.length + x.f1.f3.length
    · rw [if_pos h, if_pos (by omega), if_pos (by omega)]
    · rw [if_neg h, if_neg (by omega), if_neg (by omega)]
      congr 1) a h0 h1
theorem szVersion_small (xs : List S128) (h : ¬ (1048576 : Int) < xs.length + total szVersion xs) : xs.length ≤ 1048576 ∧ ∀ x ∈ xs, x.f1.f2.length ≤ 1048576 ∧ x.f1.f3.length ≤ 1048576 := by
  refine ⟨by omega, fun x hx => ?_⟩
  have := total_mem (size := szVersion) hx
  unfold szVersion at this h
  omega

end Go.Proofs.Ythdadohmomhchaa.Pure

namespace Go.Proofs.Ythdadohmomhchaa.Pure
open Go.RowKit Go.Proofs.Ythdadohmomhchaa.F Go.Proofs.YthdadohmomhchaaW.PrintWords Go.Proofs.YthdadohmomhchaaW.PrintLast Go.Proofs.YthdadohmomhchaaW.PrintMore Go.Proofs.YthdadohmomhchaaB
set_option linter.unusedVariables false
set_option linter.unusedSimpArgs false
theorem laws_toInt64S_l0 (xs : List Int) (hx : xs.length ≤ 9223372036854775807) : ∀ (ys : List Int) (m : Nat) (out : List Int), xs.drop m = ys → out.length = xs.length → out.take m = xs.take m →
    Ev (fun k => laws_toInt64S.l0 k xs out m) xs
  | [], m, out, h, hl, ht => by
    have := drop_nil h
    refine ev_step (fun _ => rfl) (ev_neg (by omega) (ev_now ?_))
    rw [List.take_of_length_le (by omega), List.take_of_length_le this] at ht
    rw [ht]
  | y :: ys, m, out, h, hl, ht => by
    obtain ⟨hm, _, hd⟩ := drop_cons h
    refine ev_step (fun _ => rfl) (ev_pos (by omega) (ev_pos (by omega) (ev_pos (by omega) ?_)))
    rw [rdI h, w64 (by omega) (by omega)]
    refine laws_toInt64S_l0 xs hx ys (m + 1) _ hd (by rw [List.length_set, hl]) ?_
    rw [take_snoc h, ← ht, Int.toNat_natCast, List.set_eq_take_append_cons_drop, if_pos (by omega), List.take_append, List.take_of_length_le (by rw [List.length_take]; omega), List.length_take, show m + 1 - min m out.length = 1 by omega]
    rfl
theorem laws_toInt64S_f (xs : List Int) (hx : xs.length ≤ 1048576) : Ev (fun k => laws_toInt64S.f k xs) xs := by
  refine ev_pos (by omega) (ev_pos (by omega) ?_)
  exact laws_toInt64S_l0 xs (by omega) xs 0 _ rfl (by simp) rfl

end Go.Proofs.Ythdadohmomhchaa.Pure

namespace Go.Proofs.Ythdadohmomhchaa.Pure
open Go.RowKit Go.Proofs.Ythdadohmomhchaa.F Go.Proofs.YthdadohmomhchaaW.PrintWords Go.Proofs.YthdadohmomhchaaW.PrintLast Go.Proofs.YthdadohmomhchaaW.PrintMore Go.Proofs.YthdadohmomhchaaB
set_option linter.unusedVariables false
set_option linter.unusedSimpArgs false
theorem laws_toProject_f (a b c d e : Int) (xs ys : List Int) (hx : xs.length ≤ 1048576) (hy : ys.length ≤ 1048576) : Ev (fun k => laws_toProject.f k a b c d e xs ys) (a, b, c, d, e, xs, ys) := by
  refine ev_some (a := (a, b, c, d)) rfl (ev_bind (laws_toInt64S_f xs hx) (ev_bind (laws_toInt64S_f ys hy) (ev_now rfl)))

end Go.Proofs.Ythdadohmomhchaa.Pure
