/-
  A part of the proof of FnExactAncestorsOf: contracts of the Go functions that it reaches, and plain statements on what they come to; each says its own conditions.
-/
import Derived.Test.YtgpdjpololkhbaaKFnExactAncestorsOf1

namespace Go.Proofs.Ytgpdjpololkhbaa.F
open Go.RowKit Go.Proofs.YtgpdjpololkhbaaW.PrintWords Go.Proofs.YtgpdjpololkhbaaW.PrintLast Go.Proofs.YtgpdjpololkhbaaW.PrintMore
attribute [local go_sem] max2_int min2_int max_two min_two max_three min_three max_four min_four   -- for this text's walks alone
set_option linter.unusedVariables false
set_option linter.unusedSimpArgs false

/-! ### impl_IsProject: function 108 -/
def impl_IsProject.f (k : Nat) (a0_0 : Int) (a0_1 : Int) (a0_2 : Int) (a0_3 : Int) (a0_4 : Int) (l0_5 : List Int) (l0_6 : List Int) : Option (Bool) := (impl_IsDial.f a0_0 a0_1 a0_2 a0_3).bind fun t436 => (if t436 = true then ((impl_isYear.f a0_4).bind fun t437 => (if t437 = true then ((impl_rising.f k l0_5 1439).bind fun t438 => (if t438 = true then ((impl_rising.f k l0_6 11).bind fun t439 => (if t439 = true then ((impl_Project_few.f a0_0 a0_1 a0_2 a0_3 a0_4 l0_5 l0_6).bind fun t440 => (some t440)) else (some false))) else (some false))) else (some false))) else (some false))
theorem impl_IsProject.mono : ∀ a0 a1 a2 a3 a4 a5 a6 k, LeO (impl_IsProject.f k a0 a1 a2 a3 a4 a5 a6) (impl_IsProject.f (k + 1) a0 a1 a2 a3 a4 a5 a6) := by
  intro a0 a1 a2 a3 a4 a5 a6 k
  unfold impl_IsProject.f
  repeat' first
      | (with_reducible exact impl_rising.mono _ _ _)
      | (with_reducible exact LeO.refl _)
      | (with_reducible exact LeO.none _)
      | (with_reducible refine LeO.ite ?_ ?_)
      | (with_reducible refine LeO.bind ?_ (fun _ => ?_))
      | exact impl_rising.mono _ _ _
      | exact LeO.none _
      | refine LeO.ite ?_ ?_
      | refine LeO.bind ?_ (fun _ => ?_)
set_option maxHeartbeats 8000000 in
set_option maxRecDepth 100000 in
theorem impl_IsProject.calls (k : Nat) (a0_0 : Int) (a0_1 : Int) (a0_2 : Int) (a0_3 : Int) (a0_4 : Int) (A0_5 : Option Addr) (c0_5 : Nat) (l0_5 : List Int) (A0_6 : Option Addr) (c0_6 : Nat) (l0_6 : List Int) (r : Bool) (w : World) (hr0_5 : Kd.C (Kd.int .i64) w A0_5 l0_5.length l0_5) (hc0_5 : l0_5.length ≤ c0_5) (hr0_6 : Kd.C (Kd.int .i64) w A0_6 l0_6.length l0_6) (hc0_6 : l0_6.length ≤ c0_6) (h : impl_IsProject.f k a0_0 a0_1 a0_2 a0_3 a0_4 l0_5 l0_6 = some r) :
    Calls Try.prog 108 #[.agg #[.int .i64 a0_0, .int .i64 a0_1, .int .i64 a0_2, .int .i64 a0_3, .int .i64 a0_4, .slice A0_5 l0_5.length c0_5, .slice A0_6 l0_6.length c0_6]] w fun e w' => e = .returned (.bool r) ∧ Below w.heap.size w w' := by
  have hu69 := Try.underlying69
  have hu67 := Try.underlying67
  have HR0_5 := Aside0.mk hr0_5
  have HC0_5 := Aside0.mk hc0_5
  clear hr0_5 hc0_5
  have HR0_6 := Aside0.mk hr0_6
  have HC0_6 := Aside0.mk hc0_6
  clear hr0_6 hc0_6
  have HB := Aside0.mk (Below.refl w.heap.size w)
  have H : ((impl_IsDial.f a0_0 a0_1 a0_2 a0_3).bind fun t436 => (if t436 = true then ((impl_isYear.f a0_4).bind fun t437 => (if t437 = true then ((impl_rising.f k l0_5 1439).bind fun t438 => (if t438 = true then ((impl_rising.f k l0_6 11).bind fun t439 => (if t439 = true then ((impl_Project_few.f a0_0 a0_1 a0_2 a0_3 a0_4 l0_5 l0_6).bind fun t440 => (some t440)) else (some false))) else (some false))) else (some false))) else (some false))) = some r := h
  clear h
  replace H := Option.bind_eq_some_iff.mp H
  obtain ⟨t436, A20, H⟩ := H
  replace H : (if t436 = true then ((impl_isYear.f a0_4).bind fun t437 => (if t437 = true then ((impl_rising.f k l0_5 1439).bind fun t438 => (if t438 = true then ((impl_rising.f k l0_6 11).bind fun t439 => (if t439 = true then ((impl_Project_few.f a0_0 a0_1 a0_2 a0_3 a0_4 l0_5 l0_6).bind fun t440 => (some t440)) else (some false))) else (some false))) else (some false))) else (some false)) = some r := H
  have A2 := Aside0.mk A20
  clear A20
  by_cases c3 : t436 = true
  · subst c3
    have H1 : ((impl_isYear.f a0_4).bind fun t437 => (if t437 = true then ((impl_rising.f k l0_5 1439).bind fun t438 => (if t438 = true then ((impl_rising.f k l0_6 11).bind fun t439 => (if t439 = true then ((impl_Project_few.f a0_0 a0_1 a0_2 a0_3 a0_4 l0_5 l0_6).bind fun t440 => (some t440)) else (some false))) else (some false))) else (some false))) = some r := by rw [if_pos rfl] at H; exact H
    clear H
    have H := H1
    clear H1
    replace H := Option.bind_eq_some_iff.mp H
    obtain ⟨t437, A40, H⟩ := H
    replace H : (if t437 = true then ((impl_rising.f k l0_5 1439).bind fun t438 => (if t438 = true then ((impl_rising.f k l0_6 11).bind fun t439 => (if t439 = true then ((impl_Project_few.f a0_0 a0_1 a0_2 a0_3 a0_4 l0_5 l0_6).bind fun t440 => (some t440)) else (some false))) else (some false))) else (some false)) = some r := H
    have A4 := Aside0.mk A40
    clear A40
    by_cases c5 : t437 = true
    · subst c5
      have H1 : ((impl_rising.f k l0_5 1439).bind fun t438 => (if t438 = true then ((impl_rising.f k l0_6 11).bind fun t439 => (if t439 = true then ((impl_Project_few.f a0_0 a0_1 a0_2 a0_3 a0_4 l0_5 l0_6).bind fun t440 => (some t440)) else (some false))) else (some false))) = some r := by rw [if_pos rfl] at H; exact H
      clear H
      have H := H1
      clear H1
      replace H := Option.bind_eq_some_iff.mp H
      obtain ⟨t438, A60, H⟩ := H
      replace H : (if t438 = true then ((impl_rising.f k l0_6 11).bind fun t439 => (if t439 = true then ((impl_Project_few.f a0_0 a0_1 a0_2 a0_3 a0_4 l0_5 l0_6).bind fun t440 => (some t440)) else (some false))) else (some false)) = some r := H
      have A6 := Aside0.mk A60
      clear A60
      by_cases c7 : t438 = true
      · subst c7
        have H1 : ((impl_rising.f k l0_6 11).bind fun t439 => (if t439 = true then ((impl_Project_few.f a0_0 a0_1 a0_2 a0_3 a0_4 l0_5 l0_6).bind fun t440 => (some t440)) else (some false))) = some r := by rw [if_pos rfl] at H; exact H
        clear H
        have H := H1
        clear H1
        replace H := Option.bind_eq_some_iff.mp H
        obtain ⟨t439, A80, H⟩ := H
        replace H : (if t439 = true then ((impl_Project_few.f a0_0 a0_1 a0_2 a0_3 a0_4 l0_5 l0_6).bind fun t440 => (some t440)) else (some false)) = some r := H
        have A8 := Aside0.mk A80
        clear A80
        by_cases c9 : t439 = true
        · subst c9
          have H1 : ((impl_Project_few.f a0_0 a0_1 a0_2 a0_3 a0_4 l0_5 l0_6).bind fun t440 => (some t440)) = some r := by rw [if_pos rfl] at H; exact H
          clear H
          have H := H1
          clear H1
          replace H := Option.bind_eq_some_iff.mp H
          obtain ⟨t440, A100, H⟩ := H
          replace H : (some t440) = some r := H
          have A10 := Aside0.mk A100
          clear A100
          obtain rfl := Option.some.inj H
          go_enter Try.func108, Try.ntmps108
          go_wp2_with (first | ((with_reducible refine gate_dst (N := 1) rfl ?_); refine box_event ?hg (N := 1) ?hd (cs := #[.int .i64 a0_0, .int .i64 a0_1, .int .i64 a0_2, .int .i64 a0_3, .int .i64 a0_4, .slice A0_5 l0_5.length c0_5, .slice A0_6 l0_6.length c0_6]) (t := 69) ?hr ?_; (case hd => rfl); (case hg => rfl); (case hr => first | (go_simp; done) | (go_simp; rfl)); intro gb435 hg w11 hbox hb; have n0_ := Aside0.mk (below_step (by repeat (first | (with_reducible first | exact HB.out | apply below_alloc | apply pw_below_drewN | apply below_drew1) | exact HB.out)) hb); have n1_ := Aside0.mk (hbox); have n2_ := Aside0.mk ((by rw [hg]; exact (below_size (by repeat (first | (with_reducible first | exact HB.out | apply below_alloc | apply pw_below_drewN | apply below_drew1) | exact HB.out))) : w.heap.size ≤ gb435)); have n3_ := Aside0.mk ((by rw [hg]; exact (below_size (by repeat (first | (with_reducible first | exact HB.out | apply below_alloc | apply pw_below_drewN | apply below_drew1) | exact HB.out))) : w.heap.size ≤ gb435)); clear HB; have HB := n0_; have BK435 := n1_; have GW435 := n2_; have GE435 := n3_; clear n0_ n1_ n2_ n3_; clear hb hbox hg; have hcz12_0 : w11.cell? ⟨gb435, 0, none⟩ = some (.int .i64 a0_0) := (blk_cell BK435.out 0).trans rfl; have hcz12_1 : w11.cell? ⟨gb435, 1, none⟩ = some (.int .i64 a0_1) := (blk_cell BK435.out 1).trans rfl; have hcz12_2 : w11.cell? ⟨gb435, 2, none⟩ = some (.int .i64 a0_2) := (blk_cell BK435.out 2).trans rfl; have hcz12_3 : w11.cell? ⟨gb435, 3, none⟩ = some (.int .i64 a0_3) := (blk_cell BK435.out 3).trans rfl; have hcz12_4 : w11.cell? ⟨gb435, 4, none⟩ = some (.int .i64 a0_4) := (blk_cell BK435.out 4).trans rfl; have hcz12_5 : w11.cell? ⟨gb435, 5, none⟩ = some (.slice A0_5 l0_5.length c0_5) := (blk_cell BK435.out 5).trans rfl; have hcz12_6 : w11.cell? ⟨gb435, 6, none⟩ = some (.slice A0_6 l0_6.length c0_6) := (blk_cell BK435.out 6).trans rfl; have hfz12_0 := blk_frozen BK435.out 0; have hfz12_1 := blk_frozen BK435.out 1; have hfz12_2 := blk_frozen BK435.out 2; have hfz12_3 := blk_frozen BK435.out 3; have hfz12_4 := blk_frozen BK435.out 4; have hfz12_5 := blk_frozen BK435.out 5; have hfz12_6 := blk_frozen BK435.out 6) | ((with_reducible refine gate_callee (f := 153) rfl ?_); refine goesL_ (some 5) rfl rfl Try.func153 (by kernel_rfl) rfl #[.agg #[.int .i64 a0_0, .int .i64 a0_1, .int .i64 a0_2, .int .i64 a0_3]] rfl (by (try simp only [List.map_toArray, List.map_cons, List.map_nil]); first | done | rfl | (simp only [List.length_drop, List.length_take]; rfl)) ?_; (with_reducible refine (impl_IsDial.calls a0_0 a0_1 a0_2 a0_3 true _ A2.out).mono ?_); rintro e w13 ⟨rfl, hb⟩; refine ⟨_, rfl, ?_⟩; have n0_ := Aside0.mk (blk_below (g := gb435) (o := .cells #[.int .i64 a0_0, .int .i64 a0_1, .int .i64 a0_2, .int .i64 a0_3, .int .i64 a0_4, .slice A0_5 l0_5.length c0_5, .slice A0_6 l0_6.length c0_6] 69 (0, 0)) (by (with_reducible repeat (first | refine blk_drewN ?_ _ | refine blk_drew ?_ | refine blk_alloc ?_ _)); exact BK435.out) hb); have n1_ := Aside0.mk (below_step (by repeat (first | (with_reducible first | exact HB.out | apply below_alloc | apply pw_below_drewN | apply below_drew1 | refine below_set ?_ GE435.out) | exact HB.out)) hb); clear BK435; clear HB; have BK435 := n0_; have HB := n1_; clear n0_ n1_; (try clear hb); (try clear hb2); (try clear hk); (try clear hi); have hcz14_0 : w13.cell? ⟨gb435, 0, none⟩ = some (.int .i64 a0_0) := (blk_cell BK435.out 0).trans rfl; have hcz14_1 : w13.cell? ⟨gb435, 1, none⟩ = some (.int .i64 a0_1) := (blk_cell BK435.out 1).trans rfl; have hcz14_2 : w13.cell? ⟨gb435, 2, none⟩ = some (.int .i64 a0_2) := (blk_cell BK435.out 2).trans rfl; have hcz14_3 : w13.cell? ⟨gb435, 3, none⟩ = some (.int .i64 a0_3) := (blk_cell BK435.out 3).trans rfl; have hcz14_4 : w13.cell? ⟨gb435, 4, none⟩ = some (.int .i64 a0_4) := (blk_cell BK435.out 4).trans rfl; have hcz14_5 : w13.cell? ⟨gb435, 5, none⟩ = some (.slice A0_5 l0_5.length c0_5) := (blk_cell BK435.out 5).trans rfl; have hcz14_6 : w13.cell? ⟨gb435, 6, none⟩ = some (.slice A0_6 l0_6.length c0_6) := (blk_cell BK435.out 6).trans rfl; have hfz14_0 := blk_frozen BK435.out 0; have hfz14_1 := blk_frozen BK435.out 1; have hfz14_2 := blk_frozen BK435.out 2; have hfz14_3 := blk_frozen BK435.out 3; have hfz14_4 := blk_frozen BK435.out 4; have hfz14_5 := blk_frozen BK435.out 5; have hfz14_6 := blk_frozen BK435.out 6) | (go_at_call 154; (with_reducible refine (impl_isYear.calls a0_4 true _ A4.out).mono ?_); rintro e w' ⟨rfl, ⟨nd, rfl⟩⟩) | (go_at_call 155; (with_reducible refine (impl_rising.calls k _ _ l0_5 1439 true _ ?side1 ?side2 A6.out).mono ?_); (case side1 => repeat (first | exact (Kd.C_below HR0_5.out (by repeat (first | (with_reducible first | exact HB.out | apply below_alloc | apply pw_below_drewN | apply below_drew1 | refine below_set ?_ GE435.out) | exact HB.out))) | (with_reducible refine Kd.C_alloc ?_ _) | (with_reducible refine Kd.C_drewN ?_ _) | (with_reducible refine Kd.C_drew ?_))); (case side2 => exact HC0_5.out); rintro e w' ⟨rfl, ⟨nd, rfl⟩⟩) | (go_at_call 155; (with_reducible refine (impl_rising.calls k _ _ l0_6 11 true _ ?side1 ?side2 A8.out).mono ?_); (case side1 => repeat (first | exact (Kd.C_below HR0_6.out (by repeat (first | (with_reducible first | exact HB.out | apply below_alloc | apply pw_below_drewN | apply below_drew1 | refine below_set ?_ GE435.out) | exact HB.out))) | (with_reducible refine Kd.C_alloc ?_ _) | (with_reducible refine Kd.C_drewN ?_ _) | (with_reducible refine Kd.C_drew ?_))); (case side2 => exact HC0_6.out); rintro e w' ⟨rfl, ⟨nd, rfl⟩⟩) | (go_at_call 156; (with_reducible refine (impl_Project_few.calls a0_0 a0_1 a0_2 a0_3 a0_4 _ _ l0_5 _ _ l0_6 t440 _ ?side1 ?side2 ?side3 ?side4 A10.out).mono ?_); (case side1 => repeat (first | exact (Kd.C_below HR0_5.out (by repeat (first | (with_reducible first | exact HB.out | apply below_alloc | apply pw_below_drewN | apply below_drew1 | refine below_set ?_ GE435.out) | exact HB.out))) | (with_reducible refine Kd.C_alloc ?_ _) | (with_reducible refine Kd.C_drewN ?_ _) | (with_reducible refine Kd.C_drew ?_))); (case side2 => exact HC0_5.out); (case side3 => repeat (first | exact (Kd.C_below HR0_6.out (by repeat (first | (with_reducible first | exact HB.out | apply below_alloc | apply pw_below_drewN | apply below_drew1 | refine below_set ?_ GE435.out) | exact HB.out))) | (with_reducible refine Kd.C_alloc ?_ _) | (with_reducible refine Kd.C_drewN ?_ _) | (with_reducible refine Kd.C_drew ?_))); (case side4 => exact HC0_6.out); rintro e w15 ⟨rfl, hb⟩; have n0_ := Aside0.mk (blk_below (g := gb435) (o := .cells #[.int .i64 a0_0, .int .i64 a0_1, .int .i64 a0_2, .int .i64 a0_3, .int .i64 a0_4, .slice A0_5 l0_5.length c0_5, .slice A0_6 l0_6.length c0_6] 69 (0, 0)) (by (with_reducible repeat (first | refine blk_drewN ?_ _ | refine blk_drew ?_ | refine blk_alloc ?_ _)); exact BK435.out) hb); have n1_ := Aside0.mk (below_step (by repeat (first | (with_reducible first | exact HB.out | apply below_alloc | apply pw_below_drewN | apply below_drew1 | refine below_set ?_ GE435.out) | exact HB.out)) hb); clear BK435; clear HB; have BK435 := n0_; have HB := n1_; clear n0_ n1_; (try clear hb); (try clear hb2); (try clear hk); (try clear hi)))
          go_ret
          exact ⟨by first | rfl | (simp [errW_none, errW_some] <;> rfl) | (simp [*, errW_none, errW_some] <;> rfl), by repeat (first | (with_reducible first | exact HB.out | apply below_alloc | apply pw_below_drewN | apply below_drew1 | refine below_set ?_ GE435.out) | exact HB.out)⟩
        · replace c9 := Bool.eq_false_iff.mpr c9
          subst c9
          have H1 : (some false) = some r := by rw [if_neg (show ¬ (false = true) by decide)] at H; exact H
          clear H
          have H := H1
          clear H1
          obtain rfl := Option.some.inj H
          go_enter Try.func108, Try.ntmps108
          go_wp2_with (first | ((with_reducible refine gate_dst (N := 1) rfl ?_); refine box_event ?hg (N := 1) ?hd (cs := #[.int .i64 a0_0, .int .i64 a0_1, .int .i64 a0_2, .int .i64 a0_3, .int .i64 a0_4, .slice A0_5 l0_5.length c0_5, .slice A0_6 l0_6.length c0_6]) (t := 69) ?hr ?_; (case hd => rfl); (case hg => rfl); (case hr => first | (go_simp; done) | (go_simp; rfl)); intro gb435 hg w16 hbox hb; have n0_ := Aside0.mk (below_step (by repeat (first | (with_reducible first | exact HB.out | apply below_alloc | apply pw_below_drewN | apply below_drew1) | exact HB.out)) hb); have n1_ := Aside0.mk (hbox); have n2_ := Aside0.mk ((by rw [hg]; exact (below_size (by repeat (first | (with_reducible first | exact HB.out | apply below_alloc | apply pw_below_drewN | apply below_drew1) | exact HB.out))) : w.heap.size ≤ gb435)); have n3_ := Aside0.mk ((by rw [hg]; exact (below_size (by repeat (first | (with_reducible first | exact HB.out | apply below_alloc | apply pw_below_drewN | apply below_drew1) | exact HB.out))) : w.heap.size ≤ gb435)); clear HB; have HB := n0_; have BK435 := n1_; have GW435 := n2_; have GE435 := n3_; clear n0_ n1_ n2_ n3_; clear hb hbox hg; have hcz17_0 : w16.cell? ⟨gb435, 0, none⟩ = some (.int .i64 a0_0) := (blk_cell BK435.out 0).trans rfl; have hcz17_1 : w16.cell? ⟨gb435, 1, none⟩ = some (.int .i64 a0_1) := (blk_cell BK435.out 1).trans rfl; have hcz17_2 : w16.cell? ⟨gb435, 2, none⟩ = some (.int .i64 a0_2) := (blk_cell BK435.out 2).trans rfl; have hcz17_3 : w16.cell? ⟨gb435, 3, none⟩ = some (.int .i64 a0_3) := (blk_cell BK435.out 3).trans rfl; have hcz17_4 : w16.cell? ⟨gb435, 4, none⟩ = some (.int .i64 a0_4) := (blk_cell BK435.out 4).trans rfl; have hcz17_5 : w16.cell? ⟨gb435, 5, none⟩ = some (.slice A0_5 l0_5.length c0_5) := (blk_cell BK435.out 5).trans rfl; have hcz17_6 : w16.cell? ⟨gb435, 6, none⟩ = some (.slice A0_6 l0_6.length c0_6) := (blk_cell BK435.out 6).trans rfl; have hfz17_0 := blk_frozen BK435.out 0; have hfz17_1 := blk_frozen BK435.out 1; have hfz17_2 := blk_frozen BK435.out 2; have hfz17_3 := blk_frozen BK435.out 3; have hfz17_4 := blk_frozen BK435.out 4; have hfz17_5 := blk_frozen BK435.out 5; have hfz17_6 := blk_frozen BK435.out 6) | ((with_reducible refine gate_callee (f := 153) rfl ?_); refine goesL_ (some 5) rfl rfl Try.func153 (by kernel_rfl) rfl #[.agg #[.int .i64 a0_0, .int .i64 a0_1, .int .i64 a0_2, .int .i64 a0_3]] rfl (by (try simp only [List.map_toArray, List.map_cons, List.map_nil]); first | done | rfl | (simp only [List.length_drop, List.length_take]; rfl)) ?_; (with_reducible refine (impl_IsDial.calls a0_0 a0_1 a0_2 a0_3 true _ A2.out).mono ?_); rintro e w18 ⟨rfl, hb⟩; refine ⟨_, rfl, ?_⟩; have n0_ := Aside0.mk (blk_below (g := gb435) (o := .cells #[.int .i64 a0_0, .int .i64 a0_1, .int .i64 a0_2, .int .i64 a0_3, .int .i64 a0_4, .slice A0_5 l0_5.length c0_5, .slice A0_6 l0_6.length c0_6] 69 (0, 0)) (by (with_reducible repeat (first | refine blk_drewN ?_ _ | refine blk_drew ?_ | refine blk_alloc ?_ _)); exact BK435.out) hb); have n1_ := Aside0.mk (below_step (by repeat (first | (with_reducible first | exact HB.out | apply below_alloc | apply pw_below_drewN | apply below_drew1 | refine below_set ?_ GE435.out) | exact HB.out)) hb); clear BK435; clear HB; have BK435 := n0_; have HB := n1_; clear n0_ n1_; (try clear hb); (try clear hb2); (try clear hk); (try clear hi); have hcz19_0 : w18.cell? ⟨gb435, 0, none⟩ = some (.int .i64 a0_0) := (blk_cell BK435.out 0).trans rfl; have hcz19_1 : w18.cell? ⟨gb435, 1, none⟩ = some (.int .i64 a0_1) := (blk_cell BK435.out 1).trans rfl; have hcz19_2 : w18.cell? ⟨gb435, 2, none⟩ = some (.int .i64 a0_2) := (blk_cell BK435.out 2).trans rfl; have hcz19_3 : w18.cell? ⟨gb435, 3, none⟩ = some (.int .i64 a0_3) := (blk_cell BK435.out 3).trans rfl; have hcz19_4 : w18.cell? ⟨gb435, 4, none⟩ = some (.int .i64 a0_4) := (blk_cell BK435.out 4).trans rfl; have hcz19_5 : w18.cell? ⟨gb435, 5, none⟩ = some (.slice A0_5 l0_5.length c0_5) := (blk_cell BK435.out 5).trans rfl; have hcz19_6 : w18.cell? ⟨gb435, 6, none⟩ = some (.slice A0_6 l0_6.length c0_6) := (blk_cell BK435.out 6).trans rfl; have hfz19_0 := blk_frozen BK435.out 0; have hfz19_1 := blk_frozen BK435.out 1; have hfz19_2 := blk_frozen BK435.out 2; have hfz19_3 := blk_frozen BK435.out 3; have hfz19_4 := blk_frozen BK435.out 4; have hfz19_5 := blk_frozen BK435.out 5; have hfz19_6 := blk_frozen BK435.out 6) | (go_at_call 154; (with_reducible refine (impl_isYear.calls a0_4 true _ A4.out).mono ?_); rintro e w' ⟨rfl, ⟨nd, rfl⟩⟩) | (go_at_call 155; (with_reducible refine (impl_rising.calls k _ _ l0_5 1439 true _ ?side1 ?side2 A6.out).mono ?_); (case side1 => repeat (first | exact (Kd.C_below HR0_5.out (by repeat (first | (with_reducible first | exact HB.out | apply below_alloc | apply pw_below_drewN | apply below_drew1 | refine below_set ?_ GE435.out) | exact HB.out))) | (with_reducible refine Kd.C_alloc ?_ _) | (with_reducible refine Kd.C_drewN ?_ _) | (with_reducible refine Kd.C_drew ?_))); (case side2 => exact HC0_5.out); rintro e w' ⟨rfl, ⟨nd, rfl⟩⟩) | (go_at_call 155; (with_reducible refine (impl_rising.calls k _ _ l0_6 11 false _ ?side1 ?side2 A8.out).mono ?_); (case side1 => repeat (first | exact (Kd.C_below HR0_6.out (by repeat (first | (with_reducible first | exact HB.out | apply below_alloc | apply pw_below_drewN | apply below_drew1 | refine below_set ?_ GE435.out) | exact HB.out))) | (with_reducible refine Kd.C_alloc ?_ _) | (with_reducible refine Kd.C_drewN ?_ _) | (with_reducible refine Kd.C_drew ?_))); (case side2 => exact HC0_6.out); rintro e w' ⟨rfl, ⟨nd, rfl⟩⟩))
          go_ret
          exact ⟨by first | rfl | (simp [errW_none, errW_some] <;> rfl) | (simp [*, errW_none, errW_some] <;> rfl), by repeat (first | (with_reducible first | exact HB.out | apply below_alloc | apply pw_below_drewN | apply below_drew1 | refine below_set ?_ GE435.out) | exact HB.out)⟩
      · replace c7 := Bool.eq_false_iff.mpr c7
        subst c7
        have H1 : (some false) = some r := by rw [if_neg (show ¬ (false = true) by decide)] at H; exact H
        clear H
        have H := H1
        clear H1
        obtain rfl := Option.some.inj H
        go_enter Try.func108, Try.ntmps108
        go_wp2_with (first | ((with_reducible refine gate_dst (N := 1) rfl ?_); refine box_event ?hg (N := 1) ?hd (cs := #[.int .i64 a0_0, .int .i64 a0_1, .int .i64 a0_2, .int .i64 a0_3, .int .i64 a0_4, .slice A0_5 l0_5.length c0_5, .slice A0_6 l0_6.length c0_6]) (t := 69) ?hr ?_; (case hd => rfl); (case hg => rfl); (case hr => first | (go_simp; done) | (go_simp; rfl)); intro gb435 hg w20 hbox hb; have n0_ := Aside0.mk (below_step (by repeat (first | (with_reducible first | exact HB.out | apply below_alloc | apply pw_below_drewN | apply below_drew1) | exact HB.out)) hb); have n1_ := Aside0.mk (hbox); have n2_ := Aside0.mk ((by rw [hg]; exact (below_size (by repeat (first | (with_reducible first | exact HB.out | apply below_alloc | apply pw_below_drewN | apply below_drew1) | exact HB.out))) : w.heap.size ≤ gb435)); have n3_ := Aside0.mk ((by rw [hg]; exact (below_size (by repeat (first | (with_reducible first | exact HB.out | apply below_alloc | apply pw_below_drewN | apply below_drew1) | exact HB.out))) : w.heap.size ≤ gb435)); clear HB; have HB := n0_; have BK435 := n1_; have GW435 := n2_; have GE435 := n3_; clear n0_ n1_ n2_ n3_; clear hb hbox hg; have hcz21_0 : w20.cell? ⟨gb435, 0, none⟩ = some (.int .i64 a0_0) := (blk_cell BK435.out 0).trans rfl; have hcz21_1 : w20.cell? ⟨gb435, 1, none⟩ = some (.int .i64 a0_1) := (blk_cell BK435.out 1).trans rfl; have hcz21_2 : w20.cell? ⟨gb435, 2, none⟩ = some (.int .i64 a0_2) := (blk_cell BK435.out 2).trans rfl; have hcz21_3 : w20.cell? ⟨gb435, 3, none⟩ = some (.int .i64 a0_3) := (blk_cell BK435.out 3).trans rfl; have hcz21_4 : w20.cell? ⟨gb435, 4, none⟩ = some (.int .i64 a0_4) := (blk_cell BK435.out 4).trans rfl; have hcz21_5 : w20.cell? ⟨gb435, 5, none⟩ = some (.slice A0_5 l0_5.length c0_5) := (blk_cell BK435.out 5).trans rfl; have hcz21_6 : w20.cell? ⟨gb435, 6, none⟩ = some (.slice A0_6 l0_6.length c0_6) := (blk_cell BK435.out 6).trans rfl; have hfz21_0 := blk_frozen BK435.out 0; have hfz21_1 := blk_frozen BK435.out 1; have hfz21_2 := blk_frozen BK435.out 2; have hfz21_3 := blk_frozen BK435.out 3; have hfz21_4 := blk_frozen BK435.out 4; have hfz21_5 := blk_frozen BK435.out 5; have hfz21_6 := blk_frozen BK435.out 6) | ((with_reducible refine gate_callee (f := 153) rfl ?_); refine goesL_ (some 5) rfl rfl Try.func153 (by kernel_rfl) rfl #[.agg #[.int .i64 a0_0, .int .i64 a0_1, .int .i64 a0_2, .int .i64 a0_3]] rfl (by (try simp only [List.map_toArray, List.map_cons, List.map_nil]); first | done | rfl | (simp only [List.length_drop, List.length_take]; rfl)) ?_; (with_reducible refine (impl_IsDial.calls a0_0 a0_1 a0_2 a0_3 true _ A2.out).mono ?_); rintro e w22 ⟨rfl, hb⟩; refine ⟨_, rfl, ?_⟩; have n0_ := Aside0.mk (blk_below (g := gb435) (o := .cells #[.int .i64 a0_0, .int .i64 a0_1, .int .i64 a0_2, .int .i64 a0_3, .int .i64 a0_4, .slice A0_5 l0_5.length c0_5, .slice A0_6 l0_6.length c0_6] 69 (0, 0)) (by (with_reducible repeat (first | refine blk_drewN ?_ _ | refine blk_drew ?_ | refine blk_alloc ?_ _)); exact BK435.out) hb); have n1_ := Aside0.mk (below_step (by repeat (first | (with_reducible first | exact HB.out | apply below_alloc | apply pw_below_drewN | apply below_drew1 | refine below_set ?_ GE435.out) | exact HB.out)) hb); clear BK435; clear HB; have BK435 := n0_; have HB := n1_; clear n0_ n1_; (try clear hb); (try clear hb2); (try clear hk); (try clear hi); have hcz23_0 : w22.cell? ⟨gb435, 0, none⟩ = some (.int .i64 a0_0) := (blk_cell BK435.out 0).trans rfl; have hcz23_1 : w22.cell? ⟨gb435, 1, none⟩ = some (.int .i64 a0_1) := (blk_cell BK435.out 1).trans rfl; have hcz23_2 : w22.cell? ⟨gb435, 2, none⟩ = some (.int .i64 a0_2) := (blk_cell BK435.out 2).trans rfl; have hcz23_3 : w22.cell? ⟨gb435, 3, none⟩ = some (.int .i64 a0_3) := (blk_cell BK435.out 3).trans rfl; have hcz23_4 : w22.cell? ⟨gb435, 4, none⟩ = some (.int .i64 a0_4) := (blk_cell BK435.out 4).trans rfl; have hcz23_5 : w22.cell? ⟨gb435, 5, none⟩ = some (.slice A0_5 l0_5.length c0_5) := (blk_cell BK435.out 5).trans rfl; have hcz23_6 : w22.cell? ⟨gb435, 6, none⟩ = some (.slice A0_6 l0_6.length c0_6) := (blk_cell BK435.out 6).trans rfl; have hfz23_0 := blk_frozen BK435.out 0; have hfz23_1 := blk_frozen BK435.out 1; have hfz23_2 := blk_frozen BK435.out 2; have hfz23_3 := blk_frozen BK435.out 3; have hfz23_4 := blk_frozen BK435.out 4; have hfz23_5 := blk_frozen BK435.out 5; have hfz23_6 := blk_frozen BK435.out 6) | (go_at_call 154; (with_reducible refine (impl_isYear.calls a0_4 true _ A4.out).mono ?_); rintro e w' ⟨rfl, ⟨nd, rfl⟩⟩) | (go_at_call 155; (with_reducible refine (impl_rising.calls k _ _ l0_5 1439 false _ ?side1 ?side2 A6.out).mono ?_); (case side1 => repeat (first | exact (Kd.C_below HR0_5.out (by repeat (first | (with_reducible first | exact HB.out | apply below_alloc | apply pw_below_drewN | apply below_drew1 | refine below_set ?_ GE435.out) | exact HB.out))) | (with_reducible refine Kd.C_alloc ?_ _) | (with_reducible refine Kd.C_drewN ?_ _) | (with_reducible refine Kd.C_drew ?_))); (case side2 => exact HC0_5.out); rintro e w' ⟨rfl, ⟨nd, rfl⟩⟩))
        go_ret
        exact ⟨by first | rfl | (simp [errW_none, errW_some] <;> rfl) | (simp [*, errW_none, errW_some] <;> rfl), by repeat (first | (with_reducible first | exact HB.out | apply below_alloc | apply pw_below_drewN | apply below_drew1 | refine below_set ?_ GE435.out) | exact HB.out)⟩
    · replace c5 := Bool.eq_false_iff.mpr c5
      subst c5
      have H1 : (some false) = some r := by rw [if_neg (show ¬ (false = true) by decide)] at H; exact H
      clear H
      have H := H1
      clear H1
      obtain rfl := Option.some.inj H
      go_enter Try.func108, Try.ntmps108
      go_wp2_with (first | ((with_reducible refine gate_dst (N := 1) rfl ?_); refine box_event ?hg (N := 1) ?hd (cs := #[.int .i64 a0_0, .int .i64 a0_1, .int .i64 a0_2, .int .i64 a0_3, .int .i64 a0_4, .slice A0_5 l0_5.length c0_5, .slice A0_6 l0_6.length c0_6]) (t := 69) ?hr ?_; (case hd => rfl); (case hg => rfl); (case hr => first | (go_simp; done) | (go_simp; rfl)); intro gb435 hg w24 hbox hb; have n0_ := Aside0.mk (below_step (by repeat (first | (with_reducible first | exact HB.out | apply below_alloc | apply pw_below_drewN | apply below_drew1) | exact HB.out)) hb); have n1_ := Aside0.mk (hbox); have n2_ := Aside0.mk ((by rw [hg]; exact (below_size (by repeat (first | (with_reducible first | exact HB.out | apply below_alloc | apply pw_below_drewN | apply below_drew1) | exact HB.out))) : w.heap.size ≤ gb435)); have n3_ := Aside0.mk ((by rw [hg]; exact (below_size (by repeat (first | (with_reducible first | exact HB.out | apply below_alloc | apply pw_below_drewN | apply below_drew1) | exact HB.out))) : w.heap.size ≤ gb435)); clear HB; have HB := n0_; have BK435 := n1_; have GW435 := n2_; have GE435 := n3_; clear n0_ n1_ n2_ n3_; clear hb hbox hg; have hcz25_0 : w24.cell? ⟨gb435, 0, none⟩ = some (.int .i64 a0_0) := (blk_cell BK435.out 0).trans rfl; have hcz25_1 : w24.cell? ⟨gb435, 1, none⟩ = some (.int .i64 a0_1) := (blk_cell BK435.out 1).trans rfl; have hcz25_2 : w24.cell? ⟨gb435, 2, none⟩ = some (.int .i64 a0_2) := (blk_cell BK435.out 2).trans rfl; have hcz25_3 : w24.cell? ⟨gb435, 3, none⟩ = some (.int .i64 a0_3) := (blk_cell BK435.out 3).trans rfl; have hcz25_4 : w24.cell? ⟨gb435, 4, none⟩ = some (.int .i64 a0_4) := (blk_cell BK435.out 4).trans rfl; have hcz25_5 : w24.cell? ⟨gb435, 5, none⟩ = some (.slice A0_5 l0_5.length c0_5) := (blk_cell BK435.out 5).trans rfl; have hcz25_6 : w24.cell? ⟨gb435, 6, none⟩ = some (.slice A0_6 l0_6.length c0_6) := (blk_cell BK435.out 6).trans rfl; have hfz25_0 := blk_frozen BK435.out 0; have hfz25_1 := blk_frozen BK435.out 1; have hfz25_2 := blk_frozen BK435.out 2; have hfz25_3 := blk_frozen BK435.out 3; have hfz25_4 := blk_frozen BK435.out 4; have hfz25_5 := blk_frozen BK435.out 5; have hfz25_6 := blk_frozen BK435.out 6) | ((with_reducible refine gate_callee (f := 153) rfl ?_); refine goesL_ (some 5) rfl rfl Try.func153 (by kernel_rfl) rfl #[.agg #[.int .i64 a0_0, .int .i64 a0_1, .int .i64 a0_2, .int .i64 a0_3]] rfl (by (try simp only [List.map_toArray, List.map_cons, List.map_nil]); first | done | rfl | (simp only [List.length_drop, List.length_take]; rfl)) ?_; (with_reducible refine (impl_IsDial.calls a0_0 a0_1 a0_2 a0_3 true _ A2.out).mono ?_); rintro e w26 ⟨rfl, hb⟩; refine ⟨_, rfl, ?_⟩; have n0_ := Aside0.mk (blk_below (g := gb435) (o := .cells #[.int .i64 a0_0, .int .i64 a0_1, .int .i64 a0_2, .int .i64 a0_3, .int .i64 a0_4, .slice A0_5 l0_5.length c0_5, .slice A0_6 l0_6.length c0_6] 69 (0, 0)) (by (with_reducible repeat (first | refine blk_drewN ?_ _ | refine blk_drew ?_ | refine blk_alloc ?_ _)); exact BK435.out) hb); have n1_ := Aside0.mk (below_step (by repeat (first | (with_reducible first | exact HB.out | apply below_alloc | apply pw_below_drewN | apply below_drew1 | refine below_set ?_ GE435.out) | exact HB.out)) hb); clear BK435; clear HB; have BK435 := n0_; have HB := n1_; clear n0_ n1_; (try clear hb); (try clear hb2); (try clear hk); (try clear hi); have hcz27_0 : w26.cell? ⟨gb435, 0, none⟩ = some (.int .i64 a0_0) := (blk_cell BK435.out 0).trans rfl; have hcz27_1 : w26.cell? ⟨gb435, 1, none⟩ = some (.int .i64 a0_1) := (blk_cell BK435.out 1).trans rfl; have hcz27_2 : w26.cell? ⟨gb435, 2, none⟩ = some (.int .i64 a0_2) := (blk_cell BK435.out 2).trans rfl; have hcz27_3 : w26.cell? ⟨gb435, 3, none⟩ = some (.int .i64 a0_3) := (blk_cell BK435.out 3).trans rfl; have hcz27_4 : w26.cell? ⟨gb435, 4, none⟩ = some (.int .i64 a0_4) := (blk_cell BK435.out 4).trans rfl; have hcz27_5 : w26.cell? ⟨gb435, 5, none⟩ = some (.slice A0_5 l0_5.length c0_5) := (blk_cell BK435.out 5).trans rfl; have hcz27_6 : w26.cell? ⟨gb435, 6, none⟩ = some (.slice A0_6 l0_6.length c0_6) := (blk_cell BK435.out 6).trans rfl; have hfz27_0 := blk_frozen BK435.out 0; have hfz27_1 := blk_frozen BK435.out 1; have hfz27_2 := blk_frozen BK435.out 2; have hfz27_3 := blk_frozen BK435.out 3; have hfz27_4 := blk_frozen BK435.out 4; have hfz27_5 := blk_frozen BK435.out 5; have hfz27_6 := blk_frozen BK435.out 6) | (go_at_call 154; (with_reducible refine (impl_isYear.calls a0_4 false _ A4.out).mono ?_); rintro e w' ⟨rfl, ⟨nd, rfl⟩⟩))
      go_ret
      exact ⟨by first | rfl | (simp [errW_none, errW_some] <;> rfl) | (simp [*, errW_none, errW_some] <;> rfl), by repeat (first | (with_reducible first | exact HB.out | apply below_alloc | apply pw_below_drewN | apply below_drew1 | refine below_set ?_ GE435.out) | exact HB.out)⟩
  · replace c3 := Bool.eq_false_iff.mpr c3
    subst c3
    have H1 : (some false) = some r := by rw [if_neg (show ¬ (false = true) by decide)] at H; exact H
    clear H
    have H := H1
    clear H1
    obtain rfl := Option.some.inj H
    go_enter Try.func108, Try.ntmps108
    go_wp2_with (first | ((with_reducible refine gate_dst (N := 1) rfl ?_); refine box_event ?hg (N := 1) ?hd (cs := #[.int .i64 a0_0, .int .i64 a0_1, .int .i64 a0_2, .int .i64 a0_3, .int .i64 a0_4, .slice A0_5 l0_5.length c0_5, .slice A0_6 l0_6.length c0_6]) (t := 69) ?hr ?_; (case hd => rfl); (case hg => rfl); (case hr => first | (go_simp; done) | (go_simp; rfl)); intro gb435 hg w28 hbox hb; have n0_ := Aside0.mk (below_step (by repeat (first | (with_reducible first | exact HB.out | apply below_alloc | apply pw_below_drewN | apply below_drew1) | exact HB.out)) hb); have n1_ := Aside0.mk (hbox); have n2_ := Aside0.mk ((by rw [hg]; exact (below_size (by repeat (first | (with_reducible first | exact HB.out | apply below_alloc | apply pw_below_drewN | apply below_drew1) | exact HB.out))) : w.heap.size ≤ gb435)); have n3_ := Aside0.mk ((by rw [hg]; exact (below_size (by repeat (first | (with_reducible first | exact HB.out | apply below_alloc | apply pw_below_drewN | apply below_drew1) | exact HB.out))) : w.heap.size ≤ gb435)); clear HB; have HB := n0_; have BK435 := n1_; have GW435 := n2_; have GE435 := n3_; clear n0_ n1_ n2_ n3_; clear hb hbox hg; have hcz29_0 : w28.cell? ⟨gb435, 0, none⟩ = some (.int .i64 a0_0) := (blk_cell BK435.out 0).trans rfl; have hcz29_1 : w28.cell? ⟨gb435, 1, none⟩ = some (.int .i64 a0_1) := (blk_cell BK435.out 1).trans rfl; have hcz29_2 : w28.cell? ⟨gb435, 2, none⟩ = some (.int .i64 a0_2) := (blk_cell BK435.out 2).trans rfl; have hcz29_3 : w28.cell? ⟨gb435, 3, none⟩ = some (.int .i64 a0_3) := (blk_cell BK435.out 3).trans rfl; have hcz29_4 : w28.cell? ⟨gb435, 4, none⟩ = some (.int .i64 a0_4) := (blk_cell BK435.out 4).trans rfl; have hcz29_5 : w28.cell? ⟨gb435, 5, none⟩ = some (.slice A0_5 l0_5.length c0_5) := (blk_cell BK435.out 5).trans rfl; have hcz29_6 : w28.cell? ⟨gb435, 6, none⟩ = some (.slice A0_6 l0_6.length c0_6) := (blk_cell BK435.out 6).trans rfl; have hfz29_0 := blk_frozen BK435.out 0; have hfz29_1 := blk_frozen BK435.out 1; have hfz29_2 := blk_frozen BK435.out 2; have hfz29_3 := blk_frozen BK435.out 3; have hfz29_4 := blk_frozen BK435.out 4; have hfz29_5 := blk_frozen BK435.out 5; have hfz29_6 := blk_frozen BK435.out 6) | ((with_reducible refine gate_callee (f := 153) rfl ?_); refine goesL_ (some 5) rfl rfl Try.func153 (by kernel_rfl) rfl #[.agg #[.int .i64 a0_0, .int .i64 a0_1, .int .i64 a0_2, .int .i64 a0_3]] rfl (by (try simp only [List.map_toArray, List.map_cons, List.map_nil]); first | done | rfl | (simp only [List.length_drop, List.length_take]; rfl)) ?_; (with_reducible refine (impl_IsDial.calls a0_0 a0_1 a0_2 a0_3 false _ A2.out).mono ?_); rintro e w30 ⟨rfl, hb⟩; refine ⟨_, rfl, ?_⟩; have n0_ := Aside0.mk (blk_below (g := gb435) (o := .cells #[.int .i64 a0_0, .int .i64 a0_1, .int .i64 a0_2, .int .i64 a0_3, .int .i64 a0_4, .slice A0_5 l0_5.length c0_5, .slice A0_6 l0_6.length c0_6] 69 (0, 0)) (by (with_reducible repeat (first | refine blk_drewN ?_ _ | refine blk_drew ?_ | refine blk_alloc ?_ _)); exact BK435.out) hb); have n1_ := Aside0.mk (below_step (by repeat (first | (with_reducible first | exact HB.out | apply below_alloc | apply pw_below_drewN | apply below_drew1 | refine below_set ?_ GE435.out) | exact HB.out)) hb); clear BK435; clear HB; have BK435 := n0_; have HB := n1_; clear n0_ n1_; (try clear hb); (try clear hb2); (try clear hk); (try clear hi)))
    go_ret
    exact ⟨by first | rfl | (simp [errW_none, errW_some] <;> rfl) | (simp [*, errW_none, errW_some] <;> rfl), by repeat (first | (with_reducible first | exact HB.out | apply below_alloc | apply pw_below_drewN | apply below_drew1 | refine below_set ?_ GE435.out) | exact HB.out)⟩

end Go.Proofs.Ytgpdjpololkhbaa.F

namespace Go.Proofs.Ytgpdjpololkhbaa.F
open Go.RowKit Go.Proofs.YtgpdjpololkhbaaW.PrintWords Go.Proofs.YtgpdjpololkhbaaW.PrintLast Go.Proofs.YtgpdjpololkhbaaW.PrintMore
attribute [local go_sem] max2_int min2_int max_two min_two max_three min_three max_four min_four   -- for this text's walks alone
set_option linter.unusedVariables false
set_option linter.unusedSimpArgs false

/-! ### impl_IsHistory: function 141 -/
def impl_IsHistory.l0 : Nat → List (S130) → List (S130) → Int → Int → Option (Bool)
  | 0, _, _, _, _ => none
  | k + 1, x0, x6, x7, x8 => if x8 < x7 then (if 0 ≤ x8 then (if x8 < (x6.length : Int) then (if x8 > 0 then ((impl_in.f ((rd_T130 x6 x8).f0) 0 (wrap64 (x8 - 1))).bind fun t443 => (if t443 = true then ((impl_IsProject.f k ((rd_T130 x6 x8).f1.f0.f0) ((rd_T130 x6 x8).f1.f0.f1.f0) ((rd_T130 x6 x8).f1.f0.f1.f1) ((rd_T130 x6 x8).f1.f0.f2) ((rd_T130 x6 x8).f1.f1) ((rd_T130 x6 x8).f1.f2) ((rd_T130 x6 x8).f1.f3)).bind fun t444 => (if t444 = true then (impl_IsHistory.l0 k x0 x6 x7 (wrap64 (x8 + 1))) else (some false))) else (some false))) else (if (((rd_T130 x6 x8).f0) = (-1)) then ((impl_IsProject.f k ((rd_T130 x6 x8).f1.f0.f0) ((rd_T130 x6 x8).f1.f0.f1.f0) ((rd_T130 x6 x8).f1.f0.f1.f1) ((rd_T130 x6 x8).f1.f0.f2) ((rd_T130 x6 x8).f1.f1) ((rd_T130 x6 x8).f1.f2) ((rd_T130 x6 x8).f1.f3)).bind fun t445 => (if t445 = true then (impl_IsHistory.l0 k x0 x6 x7 (wrap64 (x8 + 1))) else (some false))) else (some false))) else (none)) else (none)) else (some (decide ((x0.length : Int) ≤ 12)))
def impl_IsHistory.f (k : Nat) (l0 : List (S130)) : Option (Bool) := impl_IsHistory.l0 k l0 l0 (l0.length : Int) 0
theorem impl_IsHistory.mono_l : ∀ k, (∀ y0 y1 y2 y3, LeO (impl_IsHistory.l0 k y0 y1 y2 y3) (impl_IsHistory.l0 (k + 1) y0 y1 y2 y3))
  | 0 => fun _ _ _ _ r h => by simp [impl_IsHistory.l0] at h
  | k + 1 => by
    have ih0 := impl_IsHistory.mono_l k
    · intro y0 y1 y2 y3
      unfold impl_IsHistory.l0
      repeat' first
      | (with_reducible exact ih0 _ _ _ _)
      | (with_reducible exact impl_IsProject.mono _ _ _ _ _ _ _ _)
      | (with_reducible exact LeO.refl _)
      | (with_reducible exact LeO.none _)
      | (with_reducible refine LeO.ite ?_ ?_)
      | (with_reducible refine LeO.bind ?_ (fun _ => ?_))
      | exact ih0 _ _ _ _
      | exact impl_IsProject.mono _ _ _ _ _ _ _ _
      | exact LeO.none _
      | refine LeO.ite ?_ ?_
      | refine LeO.bind ?_ (fun _ => ?_)
theorem impl_IsHistory.mono : ∀ a0 k, LeO (impl_IsHistory.f k a0) (impl_IsHistory.f (k + 1) a0) := by
  intro a0 k
  have ih0 := impl_IsHistory.mono_l k
  unfold impl_IsHistory.f
  repeat' first
      | (with_reducible exact ih0 _ _ _ _)
      | (with_reducible exact impl_IsProject.mono _ _ _ _ _ _ _ _)
      | (with_reducible exact LeO.refl _)
      | (with_reducible exact LeO.none _)
      | (with_reducible refine LeO.ite ?_ ?_)
      | (with_reducible refine LeO.bind ?_ (fun _ => ?_))
      | exact ih0 _ _ _ _
      | exact impl_IsProject.mono _ _ _ _ _ _ _ _
      | exact LeO.none _
      | refine LeO.ite ?_ ?_
      | refine LeO.bind ?_ (fun _ => ?_)
set_option maxHeartbeats 8000000 in
set_option maxRecDepth 100000 in
theorem impl_IsHistory.calls (k : Nat) (A0 : Option Addr) (c0 : Nat) (l0 : List (S130)) (r : Bool) (w : World) (hr0 : Kd.C k130 w A0 l0.length l0) (hc0 : l0.length ≤ c0) (h : impl_IsHistory.f k l0 = some r) :
    Calls Try.prog 141 #[.slice A0 l0.length c0] w fun e w' => e = .returned (.bool r) ∧ Below w.heap.size w w' := by
  have hu130 := Try.underlying130
  have hu69 := Try.underlying69
  have HR0 := Aside0.mk hr0
  have HC0 := Aside0.mk hc0
  clear hr0 hc0
  have HB := Aside0.mk (Below.refl w.heap.size w)
  have H : (impl_IsHistory.l0 k l0 l0 (l0.length : Int) 0) = some r := h
  clear h
  have H' := Aside0.mk H
  clear H
  go_enter Try.func141, Try.ntmps141
  go_wp2
  go_loopg [8] k (fun kq v8 w' => ∃ (x8_1 : Int), v8 = .int .i64 x8_1 ∧ Aside0 (impl_IsHistory.l0 kq l0 l0 (l0.length : Int) x8_1 = some r) ∧ Aside0 (kq ≤ k) ∧ Aside0 (Below w.heap.size w w'))
  case atStart => exact ⟨(0), (by first | rfl | (simp; done) | (simp [*]; done)), H', ⟨Nat.le_refl _⟩, ⟨by repeat (first | (with_reducible first | exact HB.out | apply below_alloc | apply pw_below_drewN | apply below_drew1) | exact HB.out)⟩⟩
  case round =>
    clear H'
    try clear c1
    obtain ⟨x8_1, rfl, HA, HK1, HB⟩ := hrel
    cases gk with
    | zero => exact absurd HA.out (by simp [impl_IsHistory.l0])
    | succ k1 =>
      have H := HA.out
      clear HA
      simp only [impl_IsHistory.l0] at H
      by_cases c2 : x8_1 < (l0.length : Int)
      · rw [if_pos c2] at H
        have c2b0 : decide (x8_1 < (l0.length : Int)) = true := decide_eq_true c2
        clear c2
        by_cases c3 : 0 ≤ x8_1
        · rw [if_pos c3] at H
          have c3b0 : decide (0 ≤ x8_1) = true := decide_eq_true c3
          clear c3
          by_cases c4 : x8_1 < (l0.length : Int)
          · rw [if_pos c4] at H
            have c4b0 : decide (x8_1 < (l0.length : Int)) = true := decide_eq_true c4
            clear c4
            by_cases c5 : x8_1 > 0
            · rw [if_pos c5] at H
              have c5b0 : decide (0 < x8_1) = true := decide_eq_true c5
              clear c5
              replace H := Option.bind_eq_some_iff.mp H
              obtain ⟨t443, A60, H⟩ := H
              replace H : (if t443 = true then ((impl_IsProject.f k1 ((rd_T130 l0 x8_1).f1.f0.f0) ((rd_T130 l0 x8_1).f1.f0.f1.f0) ((rd_T130 l0 x8_1).f1.f0.f1.f1) ((rd_T130 l0 x8_1).f1.f0.f2) ((rd_T130 l0 x8_1).f1.f1) ((rd_T130 l0 x8_1).f1.f2) ((rd_T130 l0 x8_1).f1.f3)).bind fun t444 => (if t444 = true then (impl_IsHistory.l0 k1 l0 l0 (l0.length : Int) (wrap64 (x8_1 + 1))) else (some false))) else (some false)) = some r := H
              have A6 := Aside0.mk A60
              clear A60
              by_cases c7 : t443 = true
              · subst c7
                have H1 : ((impl_IsProject.f k1 ((rd_T130 l0 x8_1).f1.f0.f0) ((rd_T130 l0 x8_1).f1.f0.f1.f0) ((rd_T130 l0 x8_1).f1.f0.f1.f1) ((rd_T130 l0 x8_1).f1.f0.f2) ((rd_T130 l0 x8_1).f1.f1) ((rd_T130 l0 x8_1).f1.f2) ((rd_T130 l0 x8_1).f1.f3)).bind fun t444 => (if t444 = true then (impl_IsHistory.l0 k1 l0 l0 (l0.length : Int) (wrap64 (x8_1 + 1))) else (some false))) = some r := by rw [if_pos rfl] at H; exact H
                clear H
                have H := H1
                clear H1
                replace H := Option.bind_eq_some_iff.mp H
                obtain ⟨t444, A80, H⟩ := H
                replace H : (if t444 = true then (impl_IsHistory.l0 k1 l0 l0 (l0.length : Int) (wrap64 (x8_1 + 1))) else (some false)) = some r := H
                have A8 := Aside0.mk A80
                clear A80
                by_cases c9 : t444 = true
                · subst c9
                  have H1 : (impl_IsHistory.l0 k1 l0 l0 (l0.length : Int) (wrap64 (x8_1 + 1))) = some r := by rw [if_pos rfl] at H; exact H
                  clear H
                  have H := H1
                  clear H1
                  have H' := Aside0.mk H
                  clear H
                  have p441 : 0 ≤ (x8_1 : Int) := of_decide_eq_true (by first | (with_reducible assumption) | assumption)
                  have q441 : x8_1 < (l0.length : Int) := of_decide_eq_true (by first | (with_reducible assumption) | assumption)
                  obtain ⟨ad441, A441_6, c441_6, A441_7, c441_7, e441, hx441_0, hx441_1, hx441_2, hx441_3, hx441_4, hx441_5, hx441_6, hx441_7, hl441_6, hi441_6, hl441_7, hi441_7⟩ := at_T130 HR0.out x8_1 p441 q441
                  cases e441
                  replace hx441_0 := (HB.out.cell (World.block_lt_of_cell? w _ hx441_0)).trans hx441_0
                  replace hx441_1 := (HB.out.cell (World.block_lt_of_cell? w _ hx441_1)).trans hx441_1
                  replace hx441_2 := (HB.out.cell (World.block_lt_of_cell? w _ hx441_2)).trans hx441_2
                  replace hx441_3 := (HB.out.cell (World.block_lt_of_cell? w _ hx441_3)).trans hx441_3
                  replace hx441_4 := (HB.out.cell (World.block_lt_of_cell? w _ hx441_4)).trans hx441_4
                  replace hx441_5 := (HB.out.cell (World.block_lt_of_cell? w _ hx441_5)).trans hx441_5
                  replace hx441_6 := (HB.out.cell (World.block_lt_of_cell? w _ hx441_6)).trans hx441_6
                  replace hx441_7 := (HB.out.cell (World.block_lt_of_cell? w _ hx441_7)).trans hx441_7
                  have HR441_6 := Aside0.mk hi441_6
                  have HC441_6 := Aside0.mk hl441_6
                  clear hi441_6 hl441_6
                  have HR441_7 := Aside0.mk hi441_7
                  have HC441_7 := Aside0.mk hl441_7
                  clear hi441_7 hl441_7
                  replace p441 := eq_true p441
                  replace q441 := eq_true q441
                  go_wp2_with (first | ((with_reducible refine gate_dst (N := 4) rfl ?_); refine box_event ?hg (N := 4) ?hd (cs := #[.int .i64 0, .int .i64 0, .int .i64 0, .int .i64 0, .int .i64 0, .int .i64 0, .slice none 0 0, .slice none 0 0]) (t := 130) ?hr ?_; (case hd => rfl); (case hg => rfl); (case hr => first | (go_simp; done) | (go_simp; rfl)); intro gb442 hg w10 hbox hb; have n0_ := Aside0.mk (below_step (by repeat (first | (with_reducible first | exact HB.out | apply below_alloc | apply pw_below_drewN | apply below_drew1) | exact HB.out)) hb); have n1_ := Aside0.mk (hbox); have n2_ := Aside0.mk ((by rw [hg]; exact (below_size (by repeat (first | (with_reducible first | exact HB.out | apply below_alloc | apply pw_below_drewN | apply below_drew1) | exact HB.out))) : w.heap.size ≤ gb442)); have n3_ := Aside0.mk ((by rw [hg]; exact (below_size (by repeat (first | (with_reducible first | exact HB.out | apply below_alloc | apply pw_below_drewN | apply below_drew1) | exact HB.out))) : w.heap.size ≤ gb442)); clear HB; have HB := n0_; have BK442 := n1_; have GW442 := n2_; have GE442 := n3_; clear n0_ n1_ n2_ n3_; clear hb hbox hg; have hcz11_0 : w10.cell? ⟨gb442, 0, none⟩ = some (.int .i64 0) := (blk_cell BK442.out 0).trans rfl; have hcz11_1 : w10.cell? ⟨gb442, 1, none⟩ = some (.int .i64 0) := (blk_cell BK442.out 1).trans rfl; have hcz11_2 : w10.cell? ⟨gb442, 2, none⟩ = some (.int .i64 0) := (blk_cell BK442.out 2).trans rfl; have hcz11_3 : w10.cell? ⟨gb442, 3, none⟩ = some (.int .i64 0) := (blk_cell BK442.out 3).trans rfl; have hcz11_4 : w10.cell? ⟨gb442, 4, none⟩ = some (.int .i64 0) := (blk_cell BK442.out 4).trans rfl; have hcz11_5 : w10.cell? ⟨gb442, 5, none⟩ = some (.int .i64 0) := (blk_cell BK442.out 5).trans rfl; have hcz11_6 : w10.cell? ⟨gb442, 6, none⟩ = some (.slice none 0 0) := (blk_cell BK442.out 6).trans rfl; have hcz11_7 : w10.cell? ⟨gb442, 7, none⟩ = some (.slice none 0 0) := (blk_cell BK442.out 7).trans rfl; have hfz11_0 := blk_frozen BK442.out 0; have hfz11_1 := blk_frozen BK442.out 1; have hfz11_2 := blk_frozen BK442.out 2; have hfz11_3 := blk_frozen BK442.out 3; have hfz11_4 := blk_frozen BK442.out 4; have hfz11_5 := blk_frozen BK442.out 5; have hfz11_6 := blk_frozen BK442.out 6; have hfz11_7 := blk_frozen BK442.out 7) | ((with_reducible refine gate_callee (f := 92) rfl ?_); refine goesL_ (some 22) rfl rfl Try.func92 (by kernel_rfl) rfl #[.int .i64 ((rd_T130 l0 x8_1).f0), .int .i64 0, .int .i64 (wrap64 (x8_1 - 1))] rfl (by (try simp only [List.map_toArray, List.map_cons, List.map_nil]); first | done | rfl | (simp only [List.length_drop, List.length_take]; rfl)) ?_; (with_reducible refine (impl_in.calls ((rd_T130 l0 x8_1).f0) 0 (wrap64 (x8_1 - 1)) true _ A6.out).mono ?_); rintro e w' ⟨rfl, ⟨nd, rfl⟩⟩; refine ⟨_, rfl, ?_⟩) | (go_at_call 108; (with_reducible refine (impl_IsProject.calls k1 ((rd_T130 l0 x8_1).f1.f0.f0) ((rd_T130 l0 x8_1).f1.f0.f1.f0) ((rd_T130 l0 x8_1).f1.f0.f1.f1) ((rd_T130 l0 x8_1).f1.f0.f2) ((rd_T130 l0 x8_1).f1.f1) _ _ ((rd_T130 l0 x8_1).f1.f2) _ _ ((rd_T130 l0 x8_1).f1.f3) true _ ?side1 ?side2 ?side3 ?side4 A8.out).mono ?_); (case side1 => exact Kd.C_below HR441_6.out (by repeat (first | (with_reducible first | exact HB.out | apply below_alloc | apply pw_below_drewN | apply below_drew1 | refine below_set ?_ GE442.out) | exact HB.out))); (case side2 => exact HC441_6.out); (case side3 => exact Kd.C_below HR441_7.out (by repeat (first | (with_reducible first | exact HB.out | apply below_alloc | apply pw_below_drewN | apply below_drew1 | refine below_set ?_ GE442.out) | exact HB.out))); (case side4 => exact HC441_7.out); rintro e w12 ⟨rfl, hb⟩; have n0_ := Aside0.mk (blk_below (g := gb442) (o := .cells #[.int .i64 ((rd_T130 l0 x8_1).f0), .int .i64 ((rd_T130 l0 x8_1).f1.f0.f0), .int .i64 ((rd_T130 l0 x8_1).f1.f0.f1.f0), .int .i64 ((rd_T130 l0 x8_1).f1.f0.f1.f1), .int .i64 ((rd_T130 l0 x8_1).f1.f0.f2), .int .i64 ((rd_T130 l0 x8_1).f1.f1), .slice A441_6 ((rd_T130 l0 x8_1).f1.f2).length c441_6, .slice A441_7 ((rd_T130 l0 x8_1).f1.f3).length c441_7] 130 (0, 0)) (by (with_reducible repeat (first | refine blk_drewN ?_ _ | refine blk_drew ?_ | refine blk_alloc ?_ _)); refine blk_put (cs := #[.int .i64 ((rd_T130 l0 x8_1).f0), .int .i64 ((rd_T130 l0 x8_1).f1.f0.f0), .int .i64 ((rd_T130 l0 x8_1).f1.f0.f1.f0), .int .i64 ((rd_T130 l0 x8_1).f1.f0.f1.f1), .int .i64 ((rd_T130 l0 x8_1).f1.f0.f2), .int .i64 ((rd_T130 l0 x8_1).f1.f1), .slice A441_6 ((rd_T130 l0 x8_1).f1.f2).length c441_6, .slice none 0 0]) ?_ 7 _ rfl; (with_reducible repeat (first | refine blk_drewN ?_ _ | refine blk_drew ?_ | refine blk_alloc ?_ _)); refine blk_put (cs := #[.int .i64 ((rd_T130 l0 x8_1).f0), .int .i64 ((rd_T130 l0 x8_1).f1.f0.f0), .int .i64 ((rd_T130 l0 x8_1).f1.f0.f1.f0), .int .i64 ((rd_T130 l0 x8_1).f1.f0.f1.f1), .int .i64 ((rd_T130 l0 x8_1).f1.f0.f2), .int .i64 ((rd_T130 l0 x8_1).f1.f1), .slice none 0 0, .slice none 0 0]) ?_ 6 _ rfl; (with_reducible repeat (first | refine blk_drewN ?_ _ | refine blk_drew ?_ | refine blk_alloc ?_ _)); refine blk_put (cs := #[.int .i64 ((rd_T130 l0 x8_1).f0), .int .i64 ((rd_T130 l0 x8_1).f1.f0.f0), .int .i64 ((rd_T130 l0 x8_1).f1.f0.f1.f0), .int .i64 ((rd_T130 l0 x8_1).f1.f0.f1.f1), .int .i64 ((rd_T130 l0 x8_1).f1.f0.f2), .int .i64 0, .slice none 0 0, .slice none 0 0]) ?_ 5 _ rfl; (with_reducible repeat (first | refine blk_drewN ?_ _ | refine blk_drew ?_ | refine blk_alloc ?_ _)); refine blk_put (cs := #[.int .i64 ((rd_T130 l0 x8_1).f0), .int .i64 ((rd_T130 l0 x8_1).f1.f0.f0), .int .i64 ((rd_T130 l0 x8_1).f1.f0.f1.f0), .int .i64 ((rd_T130 l0 x8_1).f1.f0.f1.f1), .int .i64 0, .int .i64 0, .slice none 0 0, .slice none 0 0]) ?_ 4 _ rfl; (with_reducible repeat (first | refine blk_drewN ?_ _ | refine blk_drew ?_ | refine blk_alloc ?_ _)); refine blk_put (cs := #[.int .i64 ((rd_T130 l0 x8_1).f0), .int .i64 ((rd_T130 l0 x8_1).f1.f0.f0), .int .i64 ((rd_T130 l0 x8_1).f1.f0.f1.f0), .int .i64 0, .int .i64 0, .int .i64 0, .slice none 0 0, .slice none 0 0]) ?_ 3 _ rfl; (with_reducible repeat (first | refine blk_drewN ?_ _ | refine blk_drew ?_ | refine blk_alloc ?_ _)); refine blk_put (cs := #[.int .i64 ((rd_T130 l0 x8_1).f0), .int .i64 ((rd_T130 l0 x8_1).f1.f0.f0), .int .i64 0, .int .i64 0, .int .i64 0, .int .i64 0, .slice none 0 0, .slice none 0 0]) ?_ 2 _ rfl; (with_reducible repeat (first | refine blk_drewN ?_ _ | refine blk_drew ?_ | refine blk_alloc ?_ _)); refine blk_put (cs := #[.int .i64 ((rd_T130 l0 x8_1).f0), .int .i64 0, .int .i64 0, .int .i64 0, .int .i64 0, .int .i64 0, .slice none 0 0, .slice none 0 0]) ?_ 1 _ rfl; (with_reducible repeat (first | refine blk_drewN ?_ _ | refine blk_drew ?_ | refine blk_alloc ?_ _)); refine blk_put (cs := #[.int .i64 0, .int .i64 0, .int .i64 0, .int .i64 0, .int .i64 0, .int .i64 0, .slice none 0 0, .slice none 0 0]) ?_ 0 _ rfl; (with_reducible repeat (first | refine blk_drewN ?_ _ | refine blk_drew ?_ | refine blk_alloc ?_ _)); exact BK442.out) hb); have n1_ := Aside0.mk (below_step (by repeat (first | (with_reducible first | exact HB.out | apply below_alloc | apply pw_below_drewN | apply below_drew1 | refine below_set ?_ GE442.out) | exact HB.out)) hb); clear BK442; clear HB; have BK442 := n0_; have HB := n1_; clear n0_ n1_; (try clear hb); (try clear hb2); (try clear hk); (try clear hi)))
                  go_roundg k1
                  case measure => have := HK1.out; omega
                  case rel => exact ⟨(wrap64 (x8_1 + 1)), (by first | rfl | (simp; done) | (simp [*]; done)), H', ⟨by have := HK1.out; omega⟩, ⟨by repeat (first | (with_reducible first | exact HB.out | apply below_alloc | apply pw_below_drewN | apply below_drew1 | refine below_set ?_ GE442.out) | exact HB.out)⟩⟩
                · replace c9 := Bool.eq_false_iff.mpr c9
                  subst c9
                  have H1 : (some false) = some r := by rw [if_neg (show ¬ (false = true) by decide)] at H; exact H
                  clear H
                  have H := H1
                  clear H1
                  obtain rfl := Option.some.inj H
                  have p441 : 0 ≤ (x8_1 : Int) := of_decide_eq_true (by first | (with_reducible assumption) | assumption)
                  have q441 : x8_1 < (l0.length : Int) := of_decide_eq_true (by first | (with_reducible assumption) | assumption)
                  obtain ⟨ad441, A441_6, c441_6, A441_7, c441_7, e441, hx441_0, hx441_1, hx441_2, hx441_3, hx441_4, hx441_5, hx441_6, hx441_7, hl441_6, hi441_6, hl441_7, hi441_7⟩ := at_T130 HR0.out x8_1 p441 q441
                  cases e441
                  replace hx441_0 := (HB.out.cell (World.block_lt_of_cell? w _ hx441_0)).trans hx441_0
                  replace hx441_1 := (HB.out.cell (World.block_lt_of_cell? w _ hx441_1)).trans hx441_1
                  replace hx441_2 := (HB.out.cell (World.block_lt_of_cell? w _ hx441_2)).trans hx441_2
                  replace hx441_3 := (HB.out.cell (World.block_lt_of_cell? w _ hx441_3)).trans hx441_3
                  replace hx441_4 := (HB.out.cell (World.block_lt_of_cell? w _ hx441_4)).trans hx441_4
                  replace hx441_5 := (HB.out.cell (World.block_lt_of_cell? w _ hx441_5)).trans hx441_5
                  replace hx441_6 := (HB.out.cell (World.block_lt_of_cell? w _ hx441_6)).trans hx441_6
                  replace hx441_7 := (HB.out.cell (World.block_lt_of_cell? w _ hx441_7)).trans hx441_7
                  have HR441_6 := Aside0.mk hi441_6
                  have HC441_6 := Aside0.mk hl441_6
                  clear hi441_6 hl441_6
                  have HR441_7 := Aside0.mk hi441_7
                  have HC441_7 := Aside0.mk hl441_7
                  clear hi441_7 hl441_7
                  replace p441 := eq_true p441
                  replace q441 := eq_true q441
                  go_wp2_with (first | ((with_reducible refine gate_dst (N := 4) rfl ?_); refine box_event ?hg (N := 4) ?hd (cs := #[.int .i64 0, .int .i64 0, .int .i64 0, .int .i64 0, .int .i64 0, .int .i64 0, .slice none 0 0, .slice none 0 0]) (t := 130) ?hr ?_; (case hd => rfl); (case hg => rfl); (case hr => first | (go_simp; done) | (go_simp; rfl)); intro gb442 hg w13 hbox hb; have n0_ := Aside0.mk (below_step (by repeat (first | (with_reducible first | exact HB.out | apply below_alloc | apply pw_below_drewN | apply below_drew1) | exact HB.out)) hb); have n1_ := Aside0.mk (hbox); have n2_ := Aside0.mk ((by rw [hg]; exact (below_size (by repeat (first | (with_reducible first | exact HB.out | apply below_alloc | apply pw_below_drewN | apply below_drew1) | exact HB.out))) : w.heap.size ≤ gb442)); have n3_ := Aside0.mk ((by rw [hg]; exact (below_size (by repeat (first | (with_reducible first | exact HB.out | apply below_alloc | apply pw_below_drewN | apply below_drew1) | exact HB.out))) : w.heap.size ≤ gb442)); clear HB; have HB := n0_; have BK442 := n1_; have GW442 := n2_; have GE442 := n3_; clear n0_ n1_ n2_ n3_; clear hb hbox hg; have hcz14_0 : w13.cell? ⟨gb442, 0, none⟩ = some (.int .i64 0) := (blk_cell BK442.out 0).trans rfl; have hcz14_1 : w13.cell? ⟨gb442, 1, none⟩ = some (.int .i64 0) := (blk_cell BK442.out 1).trans rfl; have hcz14_2 : w13.cell? ⟨gb442, 2, none⟩ = some (.int .i64 0) := (blk_cell BK442.out 2).trans rfl; have hcz14_3 : w13.cell? ⟨gb442, 3, none⟩ = some (.int .i64 0) := (blk_cell BK442.out 3).trans rfl; have hcz14_4 : w13.cell? ⟨gb442, 4, none⟩ = some (.int .i64 0) := (blk_cell BK442.out 4).trans rfl; have hcz14_5 : w13.cell? ⟨gb442, 5, none⟩ = some (.int .i64 0) := (blk_cell BK442.out 5).trans rfl; have hcz14_6 : w13.cell? ⟨gb442, 6, none⟩ = some (.slice none 0 0) := (blk_cell BK442.out 6).trans rfl; have hcz14_7 : w13.cell? ⟨gb442, 7, none⟩ = some (.slice none 0 0) := (blk_cell BK442.out 7).trans rfl; have hfz14_0 := blk_frozen BK442.out 0; have hfz14_1 := blk_frozen BK442.out 1; have hfz14_2 := blk_frozen BK442.out 2; have hfz14_3 := blk_frozen BK442.out 3; have hfz14_4 := blk_frozen BK442.out 4; have hfz14_5 := blk_frozen BK442.out 5; have hfz14_6 := blk_frozen BK442.out 6; have hfz14_7 := blk_frozen BK442.out 7) | ((with_reducible refine gate_callee (f := 92) rfl ?_); refine goesL_ (some 22) rfl rfl Try.func92 (by kernel_rfl) rfl #[.int .i64 ((rd_T130 l0 x8_1).f0), .int .i64 0, .int .i64 (wrap64 (x8_1 - 1))] rfl (by (try simp only [List.map_toArray, List.map_cons, List.map_nil]); first | done | rfl | (simp only [List.length_drop, List.length_take]; rfl)) ?_; (with_reducible refine (impl_in.calls ((rd_T130 l0 x8_1).f0) 0 (wrap64 (x8_1 - 1)) true _ A6.out).mono ?_); rintro e w' ⟨rfl, ⟨nd, rfl⟩⟩; refine ⟨_, rfl, ?_⟩) | (go_at_call 108; (with_reducible refine (impl_IsProject.calls k1 ((rd_T130 l0 x8_1).f1.f0.f0) ((rd_T130 l0 x8_1).f1.f0.f1.f0) ((rd_T130 l0 x8_1).f1.f0.f1.f1) ((rd_T130 l0 x8_1).f1.f0.f2) ((rd_T130 l0 x8_1).f1.f1) _ _ ((rd_T130 l0 x8_1).f1.f2) _ _ ((rd_T130 l0 x8_1).f1.f3) false _ ?side1 ?side2 ?side3 ?side4 A8.out).mono ?_); (case side1 => exact Kd.C_below HR441_6.out (by repeat (first | (with_reducible first | exact HB.out | apply below_alloc | apply pw_below_drewN | apply below_drew1 | refine below_set ?_ GE442.out) | exact HB.out))); (case side2 => exact HC441_6.out); (case side3 => exact Kd.C_below HR441_7.out (by repeat (first | (with_reducible first | exact HB.out | apply below_alloc | apply pw_below_drewN | apply below_drew1 | refine below_set ?_ GE442.out) | exact HB.out))); (case side4 => exact HC441_7.out); rintro e w15 ⟨rfl, hb⟩; have n0_ := Aside0.mk (blk_below (g := gb442) (o := .cells #[.int .i64 ((rd_T130 l0 x8_1).f0), .int .i64 ((rd_T130 l0 x8_1).f1.f0.f0), .int .i64 ((rd_T130 l0 x8_1).f1.f0.f1.f0), .int .i64 ((rd_T130 l0 x8_1).f1.f0.f1.f1), .int .i64 ((rd_T130 l0 x8_1).f1.f0.f2), .int .i64 ((rd_T130 l0 x8_1).f1.f1), .slice A441_6 ((rd_T130 l0 x8_1).f1.f2).length c441_6, .slice A441_7 ((rd_T130 l0 x8_1).f1.f3).length c441_7] 130 (0, 0)) (by (with_reducible repeat (first | refine blk_drewN ?_ _ | refine blk_drew ?_ | refine blk_alloc ?_ _)); refine blk_put (cs := #[.int .i64 ((rd_T130 l0 x8_1).f0), .int .i64 ((rd_T130 l0 x8_1).f1.f0.f0), .int .i64 ((rd_T130 l0 x8_1).f1.f0.f1.f0), .int .i64 ((rd_T130 l0 x8_1).f1.f0.f1.f1), .int .i64 ((rd_T130 l0 x8_1).f1.f0.f2), .int .i64 ((rd_T130 l0 x8_1).f1.f1), .slice A441_6 ((rd_T130 l0 x8_1).f1.f2).length c441_6, .slice none 0 0]) ?_ 7 _ rfl; (with_reducible repeat (first | refine blk_drewN ?_ _ | refine blk_drew ?_ | refine blk_alloc ?_ _)); refine blk_put (cs := #[.int .i64 ((rd_T130 l0 x8_1).f0), .int .i64 ((rd_T130 l0 x8_1).f1.f0.f0), .int .i64 ((rd_T130 l0 x8_1).f1.f0.f1.f0), .int .i64 ((rd_T130 l0 x8_1).f1.f0.f1.f1), .int .i64 ((rd_T130 l0 x8_1).f1.f0.f2), .int .i64 ((rd_T130 l0 x8_1).f1.f1), .slice none 0 0, .slice none 0 0]) ?_ 6 _ rfl; (with_reducible repeat (first | refine blk_drewN ?_ _ | refine blk_drew ?_ | refine blk_alloc ?_ _)); refine blk_put (cs := #[.int .i64 ((rd_T130 l0 x8_1).f0), .int .i64 ((rd_T130 l0 x8_1).f1.f0.f0), .int .i64 ((rd_T130 l0 x8_1).f1.f0.f1.f0), .int .i64 ((rd_T130 l0 x8_1).f1.f0.f1.f1), .int .i64 ((rd_T130 l0 x8_1).f1.f0.f2), .int .i64 0, .slice none 0 0, .slice none 0 0]) ?_ 5 _ rfl; (with_reducible repeat (first | refine blk_drewN ?_ _ | refine blk_drew ?_ | refine blk_alloc ?_ _)); refine blk_put (cs := #[.int .i64 ((rd_T130 l0 x8_1).f0), .int .i64 ((rd_T130 l0 x8_1).f1.f0.f0), .int .i64 ((rd_T130 l0 x8_1).f1.f0.f1.f0), .int .i64 ((rd_T130 l0 x8_1).f1.f0.f1.f1), .int .i64 0, .int .i64 0, .slice none 0 0, .slice none 0 0]) ?_ 4 _ rfl; (with_reducible repeat (first | refine blk_drewN ?_ _ | refine blk_drew ?_ | refine blk_alloc ?_ _)); refine blk_put (cs := #[.int .i64 ((rd_T130 l0 x8_1).f0), .int .i64 ((rd_T130 l0 x8_1).f1.f0.f0), .int .i64 ((rd_T130 l0 x8_1).f1.f0.f1.f0), .int .i64 0, .int .i64 0, .int .i64 0, .slice none 0 0, .slice none 0 0]) ?_ 3 _ rfl; (with_reducible repeat (first | refine blk_drewN ?_ _ | refine blk_drew ?_ | refine blk_alloc ?_ _)); refine blk_put (cs := #[.int .i64 ((rd_T130 l0 x8_1).f0), .int .i64 ((rd_T130 l0 x8_1).f1.f0.f0), .int .i64 0, .int .i64 0, .int .i64 0, .int .i64 0, .slice none 0 0, .slice none 0 0]) ?_ 2 _ rfl; (with_reducible repeat (first | refine blk_drewN ?_ _ | refine blk_drew ?_ | refine blk_alloc ?_ _)); refine blk_put (cs := #[.int .i64 ((rd_T130 l0 x8_1).f0), .int .i64 0, .int .i64 0, .int .i64 0, .int .i64 0, .int .i64 0, .slice none 0 0, .slice none 0 0]) ?_ 1 _ rfl; (with_reducible repeat (first | refine blk_drewN ?_ _ | refine blk_drew ?_ | refine blk_alloc ?_ _)); refine blk_put (cs := #[.int .i64 0, .int .i64 0, .int .i64 0, .int .i64 0, .int .i64 0, .int .i64 0, .slice none 0 0, .slice none 0 0]) ?_ 0 _ rfl; (with_reducible repeat (first | refine blk_drewN ?_ _ | refine blk_drew ?_ | refine blk_alloc ?_ _)); exact BK442.out) hb); have n1_ := Aside0.mk (below_step (by repeat (first | (with_reducible first | exact HB.out | apply below_alloc | apply pw_below_drewN | apply below_drew1 | refine below_set ?_ GE442.out) | exact HB.out)) hb); clear BK442; clear HB; have BK442 := n0_; have HB := n1_; clear n0_ n1_; (try clear hb); (try clear hb2); (try clear hk); (try clear hi)))
                  go_ret
                  exact ⟨by first | rfl | (simp [errW_none, errW_some] <;> rfl) | (simp [*, errW_none, errW_some] <;> rfl), by repeat (first | (with_reducible first | exact HB.out | apply below_alloc | apply pw_below_drewN | apply below_drew1 | refine below_set ?_ GE442.out) | exact HB.out)⟩
              · replace c7 := Bool.eq_false_iff.mpr c7
                subst c7
                have H1 : (some false) = some r := by rw [if_neg (show ¬ (false = true) by decide)] at H; exact H
                clear H
                have H := H1
                clear H1
                obtain rfl := Option.some.inj H
                have p441 : 0 ≤ (x8_1 : Int) := of_decide_eq_true (by first | (with_reducible assumption) | assumption)
                have q441 : x8_1 < (l0.length : Int) := of_decide_eq_true (by first | (with_reducible assumption) | assumption)
                obtain ⟨ad441, A441_6, c441_6, A441_7, c441_7, e441, hx441_0, hx441_1, hx441_2, hx441_3, hx441_4, hx441_5, hx441_6, hx441_7, hl441_6, hi441_6, hl441_7, hi441_7⟩ := at_T130 HR0.out x8_1 p441 q441
                cases e441
                replace hx441_0 := (HB.out.cell (World.block_lt_of_cell? w _ hx441_0)).trans hx441_0
                replace hx441_1 := (HB.out.cell (World.block_lt_of_cell? w _ hx441_1)).trans hx441_1
                replace hx441_2 := (HB.out.cell (World.block_lt_of_cell? w _ hx441_2)).trans hx441_2
                replace hx441_3 := (HB.out.cell (World.block_lt_of_cell? w _ hx441_3)).trans hx441_3
                replace hx441_4 := (HB.out.cell (World.block_lt_of_cell? w _ hx441_4)).trans hx441_4
                replace hx441_5 := (HB.out.cell (World.block_lt_of_cell? w _ hx441_5)).trans hx441_5
                replace hx441_6 := (HB.out.cell (World.block_lt_of_cell? w _ hx441_6)).trans hx441_6
                replace hx441_7 := (HB.out.cell (World.block_lt_of_cell? w _ hx441_7)).trans hx441_7
                have HR441_6 := Aside0.mk hi441_6
                have HC441_6 := Aside0.mk hl441_6
                clear hi441_6 hl441_6
                have HR441_7 := Aside0.mk hi441_7
                have HC441_7 := Aside0.mk hl441_7
                clear hi441_7 hl441_7
                replace p441 := eq_true p441
                replace q441 := eq_true q441
                go_wp2_with (first | ((with_reducible refine gate_dst (N := 4) rfl ?_); refine box_event ?hg (N := 4) ?hd (cs := #[.int .i64 0, .int .i64 0, .int .i64 0, .int .i64 0, .int .i64 0, .int .i64 0, .slice none 0 0, .slice none 0 0]) (t := 130) ?hr ?_; (case hd => rfl); (case hg => rfl); (case hr => first | (go_simp; done) | (go_simp; rfl)); intro gb442 hg w16 hbox hb; have n0_ := Aside0.mk (below_step (by repeat (first | (with_reducible first | exact HB.out | apply below_alloc | apply pw_below_drewN | apply below_drew1) | exact HB.out)) hb); have n1_ := Aside0.mk (hbox); have n2_ := Aside0.mk ((by rw [hg]; exact (below_size (by repeat (first | (with_reducible first | exact HB.out | apply below_alloc | apply pw_below_drewN | apply below_drew1) | exact HB.out))) : w.heap.size ≤ gb442)); have n3_ := Aside0.mk ((by rw [hg]; exact (below_size (by repeat (first | (with_reducible first | exact HB.out | apply below_alloc | apply pw_below_drewN | apply below_drew1) | exact HB.out))) : w.heap.size ≤ gb442)); clear HB; have HB := n0_; have BK442 := n1_; have GW442 := n2_; have GE442 := n3_; clear n0_ n1_ n2_ n3_; clear hb hbox hg; have hcz17_0 : w16.cell? ⟨gb442, 0, none⟩ = some (.int .i64 0) := (blk_cell BK442.out 0).trans rfl; have hcz17_1 : w16.cell? ⟨gb442, 1, none⟩ = some (.int .i64 0) := (blk_cell BK442.out 1).trans rfl; have hcz17_2 : w16.cell? ⟨gb442, 2, none⟩ = some (.int .i64 0) := (blk_cell BK442.out 2).trans rfl; have hcz17_3 : w16.cell? ⟨gb442, 3, none⟩ = some (.int .i64 0) := (blk_cell BK442.out 3).trans rfl; have hcz17_4 : w16.cell? ⟨gb442, 4, none⟩ = some (.int .i64 0) := (blk_cell BK442.out 4).trans rfl; have hcz17_5 : w16.cell? ⟨gb442, 5, none⟩ = some (.int .i64 0) := (blk_cell BK442.out 5).trans rfl; have hcz17_6 : w16.cell? ⟨gb442, 6, none⟩ = some (.slice none 0 0) := (blk_cell BK442.out 6).trans rfl; have hcz17_7 : w16.cell? ⟨gb442, 7, none⟩ = some (.slice none 0 0) := (blk_cell BK442.out 7).trans rfl; have hfz17_0 := blk_frozen BK442.out 0; have hfz17_1 := blk_frozen BK442.out 1; have hfz17_2 := blk_frozen BK442.out 2; have hfz17_3 := blk_frozen BK442.out 3; have hfz17_4 := blk_frozen BK442.out 4; have hfz17_5 := blk_frozen BK442.out 5; have hfz17_6 := blk_frozen BK442.out 6; have hfz17_7 := blk_frozen BK442.out 7) | ((with_reducible refine gate_callee (f := 92) rfl ?_); refine goesL_ (some 22) rfl rfl Try.func92 (by kernel_rfl) rfl #[.int .i64 ((rd_T130 l0 x8_1).f0), .int .i64 0, .int .i64 (wrap64 (x8_1 - 1))] rfl (by (try simp only [List.map_toArray, List.map_cons, List.map_nil]); first | done | rfl | (simp only [List.length_drop, List.length_take]; rfl)) ?_; (with_reducible refine (impl_in.calls ((rd_T130 l0 x8_1).f0) 0 (wrap64 (x8_1 - 1)) false _ A6.out).mono ?_); rintro e w' ⟨rfl, ⟨nd, rfl⟩⟩; refine ⟨_, rfl, ?_⟩))
                go_ret
                exact ⟨by first | rfl | (simp [errW_none, errW_some] <;> rfl) | (simp [*, errW_none, errW_some] <;> rfl), by repeat (first | (with_reducible first | exact HB.out | apply below_alloc | apply pw_below_drewN | apply below_drew1 | refine below_set ?_ GE442.out) | exact HB.out)⟩
            · rw [if_neg c5] at H
              have c5b0 : decide (0 < x8_1) = false := decide_eq_false c5
              clear c5
              by_cases c18 : (((rd_T130 l0 x8_1).f0) = (-1))
              · rw [if_pos c18] at H
                have c18b0 : (((rd_T130 l0 x8_1).f0) == (-1)) = true := beq_iff_eq.mpr c18
                have c18b1 : (((rd_T130 l0 x8_1).f0) != (-1)) = false := bne_eq_false_iff_eq.mpr c18
                clear c18
                replace H := Option.bind_eq_some_iff.mp H
                obtain ⟨t445, A190, H⟩ := H
                replace H : (if t445 = true then (impl_IsHistory.l0 k1 l0 l0 (l0.length : Int) (wrap64 (x8_1 + 1))) else (some false)) = some r := H
                have A19 := Aside0.mk A190
                clear A190
                by_cases c20 : t445 = true
                · subst c20
                  have H1 : (impl_IsHistory.l0 k1 l0 l0 (l0.length : Int) (wrap64 (x8_1 + 1))) = some r := by rw [if_pos rfl] at H; exact H
                  clear H
                  have H := H1
                  clear H1
                  have H' := Aside0.mk H
                  clear H
                  have p441 : 0 ≤ (x8_1 : Int) := of_decide_eq_true (by first | (with_reducible assumption) | assumption)
                  have q441 : x8_1 < (l0.length : Int) := of_decide_eq_true (by first | (with_reducible assumption) | assumption)
                  obtain ⟨ad441, A441_6, c441_6, A441_7, c441_7, e441, hx441_0, hx441_1, hx441_2, hx441_3, hx441_4, hx441_5, hx441_6, hx441_7, hl441_6, hi441_6, hl441_7, hi441_7⟩ := at_T130 HR0.out x8_1 p441 q441
                  cases e441
                  replace hx441_0 := (HB.out.cell (World.block_lt_of_cell? w _ hx441_0)).trans hx441_0
                  replace hx441_1 := (HB.out.cell (World.block_lt_of_cell? w _ hx441_1)).trans hx441_1
                  replace hx441_2 := (HB.out.cell (World.block_lt_of_cell? w _ hx441_2)).trans hx441_2
                  replace hx441_3 := (HB.out.cell (World.block_lt_of_cell? w _ hx441_3)).trans hx441_3
                  replace hx441_4 := (HB.out.cell (World.block_lt_of_cell? w _ hx441_4)).trans hx441_4
                  replace hx441_5 := (HB.out.cell (World.block_lt_of_cell? w _ hx441_5)).trans hx441_5
                  replace hx441_6 := (HB.out.cell (World.block_lt_of_cell? w _ hx441_6)).trans hx441_6
                  replace hx441_7 := (HB.out.cell (World.block_lt_of_cell? w _ hx441_7)).trans hx441_7
                  have HR441_6 := Aside0.mk hi441_6
                  have HC441_6 := Aside0.mk hl441_6
                  clear hi441_6 hl441_6
                  have HR441_7 := Aside0.mk hi441_7
                  have HC441_7 := Aside0.mk hl441_7
                  clear hi441_7 hl441_7
                  replace p441 := eq_true p441
                  replace q441 := eq_true q441
                  go_wp2_with (first | ((with_reducible refine gate_dst (N := 4) rfl ?_); refine box_event ?hg (N := 4) ?hd (cs := #[.int .i64 0, .int .i64 0, .int .i64 0, .int .i64 0, .int .i64 0, .int .i64 0, .slice none 0 0, .slice none 0 0]) (t := 130) ?hr ?_; (case hd => rfl); (case hg => rfl); (case hr => first | (go_simp; done) | (go_simp; rfl)); intro gb442 hg w21 hbox hb; have n0_ := Aside0.mk (below_step (by repeat (first | (with_reducible first | exact HB.out | apply below_alloc | apply pw_below_drewN | apply below_drew1) | exact HB.out)) hb); have n1_ := Aside0.mk (hbox); have n2_ := Aside0.mk ((by rw [hg]; exact (below_size (by repeat (first | (with_reducible first | exact HB.out | apply below_alloc | apply pw_below_drewN | apply below_drew1) | exact HB.out))) : w.heap.size ≤ gb442)); have n3_ := Aside0.mk ((by rw [hg]; exact (below_size (by repeat (first | (with_reducible first | exact HB.out | apply below_alloc | apply pw_below_drewN | apply below_drew1) | exact HB.out))) : w.heap.size ≤ gb442)); clear HB; have HB := n0_; have BK442 := n1_; have GW442 := n2_; have GE442 := n3_; clear n0_ n1_ n2_ n3_; clear hb hbox hg; have hcz22_0 : w21.cell? ⟨gb442, 0, none⟩ = some (.int .i64 0) := (blk_cell BK442.out 0).trans rfl; have hcz22_1 : w21.cell? ⟨gb442, 1, none⟩ = some (.int .i64 0) := (blk_cell BK442.out 1).trans rfl; have hcz22_2 : w21.cell? ⟨gb442, 2, none⟩ = some (.int .i64 0) := (blk_cell BK442.out 2).trans rfl; have hcz22_3 : w21.cell? ⟨gb442, 3, none⟩ = some (.int .i64 0) := (blk_cell BK442.out 3).trans rfl; have hcz22_4 : w21.cell? ⟨gb442, 4, none⟩ = some (.int .i64 0) := (blk_cell BK442.out 4).trans rfl; have hcz22_5 : w21.cell? ⟨gb442, 5, none⟩ = some (.int .i64 0) := (blk_cell BK442.out 5).trans rfl; have hcz22_6 : w21.cell? ⟨gb442, 6, none⟩ = some (.slice none 0 0) := (blk_cell BK442.out 6).trans rfl; have hcz22_7 : w21.cell? ⟨gb442, 7, none⟩ = some (.slice none 0 0) := (blk_cell BK442.out 7).trans rfl; have hfz22_0 := blk_frozen BK442.out 0; have hfz22_1 := blk_frozen BK442.out 1; have hfz22_2 := blk_frozen BK442.out 2; have hfz22_3 := blk_frozen BK442.out 3; have hfz22_4 := blk_frozen BK442.out 4; have hfz22_5 := blk_frozen BK442.out 5; have hfz22_6 := blk_frozen BK442.out 6; have hfz22_7 := blk_frozen BK442.out 7) | (go_at_call 108; (with_reducible refine (impl_IsProject.calls k1 ((rd_T130 l0 x8_1).f1.f0.f0) ((rd_T130 l0 x8_1).f1.f0.f1.f0) ((rd_T130 l0 x8_1).f1.f0.f1.f1) ((rd_T130 l0 x8_1).f1.f0.f2) ((rd_T130 l0 x8_1).f1.f1) _ _ ((rd_T130 l0 x8_1).f1.f2) _ _ ((rd_T130 l0 x8_1).f1.f3) true _ ?side1 ?side2 ?side3 ?side4 A19.out).mono ?_); (case side1 => exact Kd.C_below HR441_6.out (by repeat (first | (with_reducible first | exact HB.out | apply below_alloc | apply pw_below_drewN | apply below_drew1 | refine below_set ?_ GE442.out) | exact HB.out))); (case side2 => exact HC441_6.out); (case side3 => exact Kd.C_below HR441_7.out (by repeat (first | (with_reducible first | exact HB.out | apply below_alloc | apply pw_below_drewN | apply below_drew1 | refine below_set ?_ GE442.out) | exact HB.out))); (case side4 => exact HC441_7.out); rintro e w23 ⟨rfl, hb⟩; have n0_ := Aside0.mk (blk_below (g := gb442) (o := .cells #[.int .i64 ((rd_T130 l0 x8_1).f0), .int .i64 ((rd_T130 l0 x8_1).f1.f0.f0), .int .i64 ((rd_T130 l0 x8_1).f1.f0.f1.f0), .int .i64 ((rd_T130 l0 x8_1).f1.f0.f1.f1), .int .i64 ((rd_T130 l0 x8_1).f1.f0.f2), .int .i64 ((rd_T130 l0 x8_1).f1.f1), .slice A441_6 ((rd_T130 l0 x8_1).f1.f2).length c441_6, .slice A441_7 ((rd_T130 l0 x8_1).f1.f3).length c441_7] 130 (0, 0)) (by (with_reducible repeat (first | refine blk_drewN ?_ _ | refine blk_drew ?_ | refine blk_alloc ?_ _)); refine blk_put (cs := #[.int .i64 ((rd_T130 l0 x8_1).f0), .int .i64 ((rd_T130 l0 x8_1).f1.f0.f0), .int .i64 ((rd_T130 l0 x8_1).f1.f0.f1.f0), .int .i64 ((rd_T130 l0 x8_1).f1.f0.f1.f1), .int .i64 ((rd_T130 l0 x8_1).f1.f0.f2), .int .i64 ((rd_T130 l0 x8_1).f1.f1), .slice A441_6 ((rd_T130 l0 x8_1).f1.f2).length c441_6, .slice none 0 0]) ?_ 7 _ rfl; (with_reducible repeat (first | refine blk_drewN ?_ _ | refine blk_drew ?_ | refine blk_alloc ?_ _)); refine blk_put (cs := #[.int .i64 ((rd_T130 l0 x8_1).f0), .int .i64 ((rd_T130 l0 x8_1).f1.f0.f0), .int .i64 ((rd_T130 l0 x8_1).f1.f0.f1.f0), .int .i64 ((rd_T130 l0 x8_1).f1.f0.f1.f1), .int .i64 ((rd_T130 l0 x8_1).f1.f0.f2), .int .i64 ((rd_T130 l0 x8_1).f1.f1), .slice none 0 0, .slice none 0 0]) ?_ 6 _ rfl; (with_reducible repeat (first | refine blk_drewN ?_ _ | refine blk_drew ?_ | refine blk_alloc ?_ _)); refine blk_put (cs := #[.int .i64 ((rd_T130 l0 x8_1).f0), .int .i64 ((rd_T130 l0 x8_1).f1.f0.f0), .int .i64 ((rd_T130 l0 x8_1).f1.f0.f1.f0), .int .i64 ((rd_T130 l0 x8_1).f1.f0.f1.f1), .int .i64 ((rd_T130 l0 x8_1).f1.f0.f2), .int .i64 0, .slice none 0 0, .slice none 0 0]) ?_ 5 _ rfl; (with_reducible repeat (first | refine blk_drewN ?_ _ | refine blk_drew ?_ | refine blk_alloc ?_ _)); refine blk_put (cs := #[.int .i64 ((rd_T130 l0 x8_1).f0), .int .i64 ((rd_T130 l0 x8_1).f1.f0.f0), .int .i64 ((rd_T130 l0 x8_1).f1.f0.f1.f0), .int .i64 ((rd_T130 l0 x8_1).f1.f0.f1.f1), .int .i64 0, .int .i64 0, .slice none 0 0, .slice none 0 0]) ?_ 4 _ rfl; (with_reducible repeat (first | refine blk_drewN ?_ _ | refine blk_drew ?_ | refine blk_alloc ?_ _)); refine blk_put (cs := #[.int .i64 ((rd_T130 l0 x8_1).f0), .int .i64 ((rd_T130 l0 x8_1).f1.f0.f0), .int .i64 ((rd_T130 l0 x8_1).f1.f0.f1.f0), .int .i64 0, .int .i64 0, .int .i64 0, .slice none 0 0, .slice none 0 0]) ?_ 3 _ rfl; (with_reducible repeat (first | refine blk_drewN ?_ _ | refine blk_drew ?_ | refine blk_alloc ?_ _)); refine blk_put (cs := #[.int .i64 ((rd_T130 l0 x8_1).f0), .int .i64 ((rd_T130 l0 x8_1).f1.f0.f0), .int .i64 0, .int .i64 0, .int .i64 0, .int .i64 0, .slice none 0 0, .slice none 0 0]) ?_ 2 _ rfl; (with_reducible repeat (first | refine blk_drewN ?_ _ | refine blk_drew ?_ | refine blk_alloc ?_ _)); refine blk_put (cs := #[.int .i64 ((rd_T130 l0 x8_1).f0), .int .i64 0, .int .i64 0, .int .i64 0, .int .i64 0, .int .i64 0, .slice none 0 0, .slice none 0 0]) ?_ 1 _ rfl; (with_reducible repeat (first | refine blk_drewN ?_ _ | refine blk_drew ?_ | refine blk_alloc ?_ _)); refine blk_put (cs := #[.int .i64 0, .int .i64 0, .int .i64 0, .int .i64 0, .int .i64 0, .int .i64 0, .slice none 0 0, .slice none 0 0]) ?_ 0 _ rfl; (with_reducible repeat (first | refine blk_drewN ?_ _ | refine blk_drew ?_ | refine blk_alloc ?_ _)); exact BK442.out) hb); have n1_ := Aside0.mk (below_step (by repeat (first | (with_reducible first | exact HB.out | apply below_alloc | apply pw_below_drewN | apply below_drew1 | refine below_set ?_ GE442.out) | exact HB.out)) hb); clear BK442; clear HB; have BK442 := n0_; have HB := n1_; clear n0_ n1_; (try clear hb); (try clear hb2); (try clear hk); (try clear hi)))
                  go_roundg k1
                  case measure => have := HK1.out; omega
                  case rel => exact ⟨(wrap64 (x8_1 + 1)), (by first | rfl | (simp; done) | (simp [*]; done)), H', ⟨by have := HK1.out; omega⟩, ⟨by repeat (first | (with_reducible first | exact HB.out | apply below_alloc | apply pw_below_drewN | apply below_drew1 | refine below_set ?_ GE442.out) | exact HB.out)⟩⟩
                · replace c20 := Bool.eq_false_iff.mpr c20
                  subst c20
                  have H1 : (some false) = some r := by rw [if_neg (show ¬ (false = true) by decide)] at H; exact H
                  clear H
                  have H := H1
                  clear H1
                  obtain rfl := Option.some.inj H
                  have p441 : 0 ≤ (x8_1 : Int) := of_decide_eq_true (by first | (with_reducible assumption) | assumption)
                  have q441 : x8_1 < (l0.length : Int) := of_decide_eq_true (by first | (with_reducible assumption) | assumption)
                  obtain ⟨ad441, A441_6, c441_6, A441_7, c441_7, e441, hx441_0, hx441_1, hx441_2, hx441_3, hx441_4, hx441_5, hx441_6, hx441_7, hl441_6, hi441_6, hl441_7, hi441_7⟩ := at_T130 HR0.out x8_1 p441 q441
                  cases e441
                  replace hx441_0 := (HB.out.cell (World.block_lt_of_cell? w _ hx441_0)).trans hx441_0
                  replace hx441_1 := (HB.out.cell (World.block_lt_of_cell? w _ hx441_1)).trans hx441_1
                  replace hx441_2 := (HB.out.cell (World.block_lt_of_cell? w _ hx441_2)).trans hx441_2
                  replace hx441_3 := (HB.out.cell (World.block_lt_of_cell? w _ hx441_3)).trans hx441_3
                  replace hx441_4 := (HB.out.cell (World.block_lt_of_cell? w _ hx441_4)).trans hx441_4
                  replace hx441_5 := (HB.out.cell (World.block_lt_of_cell? w _ hx441_5)).trans hx441_5
                  replace hx441_6 := (HB.out.cell (World.block_lt_of_cell? w _ hx441_6)).trans hx441_6
                  replace hx441_7 := (HB.out.cell (World.block_lt_of_cell? w _ hx441_7)).trans hx441_7
                  have HR441_6 := Aside0.mk hi441_6
                  have HC441_6 := Aside0.mk hl441_6
                  clear hi441_6 hl441_6
                  have HR441_7 := Aside0.mk hi441_7
                  have HC441_7 := Aside0.mk hl441_7
                  clear hi441_7 hl441_7
                  replace p441 := eq_true p441
                  replace q441 := eq_true q441
                  go_wp2_with (first | ((with_reducible refine gate_dst (N := 4) rfl ?_); refine box_event ?hg (N := 4) ?hd (cs := #[.int .i64 0, .int .i64 0, .int .i64 0, .int .i64 0, .int .i64 0, .int .i64 0, .slice none 0 0, .slice none 0 0]) (t := 130) ?hr ?_; (case hd => rfl); (case hg => rfl); (case hr => first | (go_simp; done) | (go_simp; rfl)); intro gb442 hg w24 hbox hb; have n0_ := Aside0.mk (below_step (by repeat (first | (with_reducible first | exact HB.out | apply below_alloc | apply pw_below_drewN | apply below_drew1) | exact HB.out)) hb); have n1_ := Aside0.mk (hbox); have n2_ := Aside0.mk ((by rw [hg]; exact (below_size (by repeat (first | (with_reducible first | exact HB.out | apply below_alloc | apply pw_below_drewN | apply below_drew1) | exact HB.out))) : w.heap.size ≤ gb442)); have n3_ := Aside0.mk ((by rw [hg]; exact (below_size (by repeat (first | (with_reducible first | exact HB.out | apply below_alloc | apply pw_below_drewN | apply below_drew1) | exact HB.out))) : w.heap.size ≤ gb442)); clear HB; have HB := n0_; have BK442 := n1_; have GW442 := n2_; have GE442 := n3_; clear n0_ n1_ n2_ n3_; clear hb hbox hg; have hcz25_0 : w24.cell? ⟨gb442, 0, none⟩ = some (.int .i64 0) := (blk_cell BK442.out 0).trans rfl; have hcz25_1 : w24.cell? ⟨gb442, 1, none⟩ = some (.int .i64 0) := (blk_cell BK442.out 1).trans rfl; have hcz25_2 : w24.cell? ⟨gb442, 2, none⟩ = some (.int .i64 0) := (blk_cell BK442.out 2).trans rfl; have hcz25_3 : w24.cell? ⟨gb442, 3, none⟩ = some (.int .i64 0) := (blk_cell BK442.out 3).trans rfl; have hcz25_4 : w24.cell? ⟨gb442, 4, none⟩ = some (.int .i64 0) := (blk_cell BK442.out 4).trans rfl; have hcz25_5 : w24.cell? ⟨gb442, 5, none⟩ = some (.int .i64 0) := (blk_cell BK442.out 5).trans rfl; have hcz25_6 : w24.cell? ⟨gb442, 6, none⟩ = some (.slice none 0 0) := (blk_cell BK442.out 6).trans rfl; have hcz25_7 : w24.cell? ⟨gb442, 7, none⟩ = some (.slice none 0 0) := (blk_cell BK442.out 7).trans rfl; have hfz25_0 := blk_frozen BK442.out 0; have hfz25_1 := blk_frozen BK442.out 1; have hfz25_2 := blk_frozen BK442.out 2; have hfz25_3 := blk_frozen BK442.out 3; have hfz25_4 := blk_frozen BK442.out 4; have hfz25_5 := blk_frozen BK442.out 5; have hfz25_6 := blk_frozen BK442.out 6; have hfz25_7 := blk_frozen BK442.out 7) | (go_at_call 108; (with_reducible refine (impl_IsProject.calls k1 ((rd_T130 l0 x8_1).f1.f0.f0) ((rd_T130 l0 x8_1).f1.f0.f1.f0) ((rd_T130 l0 x8_1).f1.f0.f1.f1) ((rd_T130 l0 x8_1).f1.f0.f2) ((rd_T130 l0 x8_1).f1.f1) _ _ ((rd_T130 l0 x8_1).f1.f2) _ _ ((rd_T130 l0 x8_1).f1.f3) false _ ?side1 ?side2 ?side3 ?side4 A19.out).mono ?_); (case side1 => exact Kd.C_below HR441_6.out (by repeat (first | (with_reducible first | exact HB.out | apply below_alloc | apply pw_below_drewN | apply below_drew1 | refine below_set ?_ GE442.out) | exact HB.out))); (case side2 => exact HC441_6.out); (case side3 => exact Kd.C_below HR441_7.out (by repeat (first | (with_reducible first | exact HB.out | apply below_alloc | apply pw_below_drewN | apply below_drew1 | refine below_set ?_ GE442.out) | exact HB.out))); (case side4 => exact HC441_7.out); rintro e w26 ⟨rfl, hb⟩; have n0_ := Aside0.mk (blk_below (g := gb442) (o := .cells #[.int .i64 ((rd_T130 l0 x8_1).f0), .int .i64 ((rd_T130 l0 x8_1).f1.f0.f0), .int .i64 ((rd_T130 l0 x8_1).f1.f0.f1.f0), .int .i64 ((rd_T130 l0 x8_1).f1.f0.f1.f1), .int .i64 ((rd_T130 l0 x8_1).f1.f0.f2), .int .i64 ((rd_T130 l0 x8_1).f1.f1), .slice A441_6 ((rd_T130 l0 x8_1).f1.f2).length c441_6, .slice A441_7 ((rd_T130 l0 x8_1).f1.f3).length c441_7] 130 (0, 0)) (by (with_reducible repeat (first | refine blk_drewN ?_ _ | refine blk_drew ?_ | refine blk_alloc ?_ _)); refine blk_put (cs := #[.int .i64 ((rd_T130 l0 x8_1).f0), .int .i64 ((rd_T130 l0 x8_1).f1.f0.f0), .int .i64 ((rd_T130 l0 x8_1).f1.f0.f1.f0), .int .i64 ((rd_T130 l0 x8_1).f1.f0.f1.f1), .int .i64 ((rd_T130 l0 x8_1).f1.f0.f2), .int .i64 ((rd_T130 l0 x8_1).f1.f1), .slice A441_6 ((rd_T130 l0 x8_1).f1.f2).length c441_6, .slice none 0 0]) ?_ 7 _ rfl; (with_reducible repeat (first | refine blk_drewN ?_ _ | refine blk_drew ?_ | refine blk_alloc ?_ _)); refine blk_put (cs := #[.int .i64 ((rd_T130 l0 x8_1).f0), .int .i64 ((rd_T130 l0 x8_1).f1.f0.f0), .int .i64 ((rd_T130 l0 x8_1).f1.f0.f1.f0), .int .i64 ((rd_T130 l0 x8_1).f1.f0.f1.f1), .int .i64 ((rd_T130 l0 x8_1).f1.f0.f2), .int .i64 ((rd_T130 l0 x8_1).f1.f1), .slice none 0 0, .slice none 0 0]) ?_ 6 _ rfl; (with_reducible repeat (first | refine blk_drewN ?_ _ | refine blk_drew ?_ | refine blk_alloc ?_ _)); refine blk_put (cs := #[.int .i64 ((rd_T130 l0 x8_1).f0), .int .i64 ((rd_T130 l0 x8_1).f1.f0.f0), .int .i64 ((rd_T130 l0 x8_1).f1.f0.f1.f0), .int .i64 ((rd_T130 l0 x8_1).f1.f0.f1.f1), .int .i64 ((rd_T130 l0 x8_1).f1.f0.f2), .int .i64 0, .slice none 0 0, .slice none 0 0]) ?_ 5 _ rfl; (with_reducible repeat (first | refine blk_drewN ?_ _ | refine blk_drew ?_ | refine blk_alloc ?_ _)); refine blk_put (cs := #[.int .i64 ((rd_T130 l0 x8_1).f0), .int .i64 ((rd_T130 l0 x8_1).f1.f0.f0), .int .i64 ((rd_T130 l0 x8_1).f1.f0.f1.f0), .int .i64 ((rd_T130 l0 x8_1).f1.f0.f1.f1), .int .i64 0, .int .i64 0, .slice none 0 0, .slice none 0 0]) ?_ 4 _ rfl; (with_reducible repeat (first | refine blk_drewN ?_ _ | refine blk_drew ?_ | refine blk_alloc ?_ _)); refine blk_put (cs := #[.int .i64 ((rd_T130 l0 x8_1).f0), .int .i64 ((rd_T130 l0 x8_1).f1.f0.f0), .int .i64 ((rd_T130 l0 x8_1).f1.f0.f1.f0), .int .i64 0, .int .i64 0, .int .i64 0, .slice none 0 0, .slice none 0 0]) ?_ 3 _ rfl; (with_reducible repeat (first | refine blk_drewN ?_ _ | refine blk_drew ?_ | refine blk_alloc ?_ _)); refine blk_put (cs := #[.int .i64 ((rd_T130 l0 x8_1).f0), .int .i64 ((rd_T130 l0 x8_1).f1.f0.f0), .int .i64 0, .int .i64 0, .int .i64 0, .int .i64 0, .slice none 0 0, .slice none 0 0]) ?_ 2 _ rfl; (with_reducible repeat (first | refine blk_drewN ?_ _ | refine blk_drew ?_ | refine blk_alloc ?_ _)); refine blk_put (cs := #[.int .i64 ((rd_T130 l0 x8_1).f0), .int .i64 0, .int .i64 0, .int .i64 0, .int .i64 0, .int .i64 0, .slice none 0 0, .slice none 0 0]) ?_ 1 _ rfl; (with_reducible repeat (first | refine blk_drewN ?_ _ | refine blk_drew ?_ | refine blk_alloc ?_ _)); refine blk_put (cs := #[.int .i64 0, .int .i64 0, .int .i64 0, .int .i64 0, .int .i64 0, .int .i64 0, .slice none 0 0, .slice none 0 0]) ?_ 0 _ rfl; (with_reducible repeat (first | refine blk_drewN ?_ _ | refine blk_drew ?_ | refine blk_alloc ?_ _)); exact BK442.out) hb); have n1_ := Aside0.mk (below_step (by repeat (first | (with_reducible first | exact HB.out | apply below_alloc | apply pw_below_drewN | apply below_drew1 | refine below_set ?_ GE442.out) | exact HB.out)) hb); clear BK442; clear HB; have BK442 := n0_; have HB := n1_; clear n0_ n1_; (try clear hb); (try clear hb2); (try clear hk); (try clear hi)))
                  go_ret
                  exact ⟨by first | rfl | (simp [errW_none, errW_some] <;> rfl) | (simp [*, errW_none, errW_some] <;> rfl), by repeat (first | (with_reducible first | exact HB.out | apply below_alloc | apply pw_below_drewN | apply below_drew1 | refine below_set ?_ GE442.out) | exact HB.out)⟩
              · rw [if_neg c18] at H
                have c18b0 : (((rd_T130 l0 x8_1).f0) == (-1)) = false := beq_eq_false_iff_ne.mpr c18
                have c18b1 : (((rd_T130 l0 x8_1).f0) != (-1)) = true := bne_iff_ne.mpr c18
                obtain rfl := Option.some.inj H
                have p441 : 0 ≤ (x8_1 : Int) := of_decide_eq_true (by first | (with_reducible assumption) | assumption)
                have q441 : x8_1 < (l0.length : Int) := of_decide_eq_true (by first | (with_reducible assumption) | assumption)
                obtain ⟨ad441, A441_6, c441_6, A441_7, c441_7, e441, hx441_0, hx441_1, hx441_2, hx441_3, hx441_4, hx441_5, hx441_6, hx441_7, hl441_6, hi441_6, hl441_7, hi441_7⟩ := at_T130 HR0.out x8_1 p441 q441
                cases e441
                replace hx441_0 := (HB.out.cell (World.block_lt_of_cell? w _ hx441_0)).trans hx441_0
                replace hx441_1 := (HB.out.cell (World.block_lt_of_cell? w _ hx441_1)).trans hx441_1
                replace hx441_2 := (HB.out.cell (World.block_lt_of_cell? w _ hx441_2)).trans hx441_2
                replace hx441_3 := (HB.out.cell (World.block_lt_of_cell? w _ hx441_3)).trans hx441_3
                replace hx441_4 := (HB.out.cell (World.block_lt_of_cell? w _ hx441_4)).trans hx441_4
                replace hx441_5 := (HB.out.cell (World.block_lt_of_cell? w _ hx441_5)).trans hx441_5
                replace hx441_6 := (HB.out.cell (World.block_lt_of_cell? w _ hx441_6)).trans hx441_6
                replace hx441_7 := (HB.out.cell (World.block_lt_of_cell? w _ hx441_7)).trans hx441_7
                have HR441_6 := Aside0.mk hi441_6
                have HC441_6 := Aside0.mk hl441_6
                clear hi441_6 hl441_6
                have HR441_7 := Aside0.mk hi441_7
                have HC441_7 := Aside0.mk hl441_7
                clear hi441_7 hl441_7
                replace p441 := eq_true p441
                replace q441 := eq_true q441
                go_wp2_with (first | ((with_reducible refine gate_dst (N := 4) rfl ?_); refine box_event ?hg (N := 4) ?hd (cs := #[.int .i64 0, .int .i64 0, .int .i64 0, .int .i64 0, .int .i64 0, .int .i64 0, .slice none 0 0, .slice none 0 0]) (t := 130) ?hr ?_; (case hd => rfl); (case hg => rfl); (case hr => first | (go_simp; done) | (go_simp; rfl)); intro gb442 hg w27 hbox hb; have n0_ := Aside0.mk (below_step (by repeat (first | (with_reducible first | exact HB.out | apply below_alloc | apply pw_below_drewN | apply below_drew1) | exact HB.out)) hb); have n1_ := Aside0.mk (hbox); have n2_ := Aside0.mk ((by rw [hg]; exact (below_size (by repeat (first | (with_reducible first | exact HB.out | apply below_alloc | apply pw_below_drewN | apply below_drew1) | exact HB.out))) : w.heap.size ≤ gb442)); have n3_ := Aside0.mk ((by rw [hg]; exact (below_size (by repeat (first | (with_reducible first | exact HB.out | apply below_alloc | apply pw_below_drewN | apply below_drew1) | exact HB.out))) : w.heap.size ≤ gb442)); clear HB; have HB := n0_; have BK442 := n1_; have GW442 := n2_; have GE442 := n3_; clear n0_ n1_ n2_ n3_; clear hb hbox hg; have hcz28_0 : w27.cell? ⟨gb442, 0, none⟩ = some (.int .i64 0) := (blk_cell BK442.out 0).trans rfl; have hcz28_1 : w27.cell? ⟨gb442, 1, none⟩ = some (.int .i64 0) := (blk_cell BK442.out 1).trans rfl; have hcz28_2 : w27.cell? ⟨gb442, 2, none⟩ = some (.int .i64 0) := (blk_cell BK442.out 2).trans rfl; have hcz28_3 : w27.cell? ⟨gb442, 3, none⟩ = some (.int .i64 0) := (blk_cell BK442.out 3).trans rfl; have hcz28_4 : w27.cell? ⟨gb442, 4, none⟩ = some (.int .i64 0) := (blk_cell BK442.out 4).trans rfl; have hcz28_5 : w27.cell? ⟨gb442, 5, none⟩ = some (.int .i64 0) := (blk_cell BK442.out 5).trans rfl; have hcz28_6 : w27.cell? ⟨gb442, 6, none⟩ = some (.slice none 0 0) := (blk_cell BK442.out 6).trans rfl; have hcz28_7 : w27.cell? ⟨gb442, 7, none⟩ = some (.slice none 0 0) := (blk_cell BK442.out 7).trans rfl; have hfz28_0 := blk_frozen BK442.out 0; have hfz28_1 := blk_frozen BK442.out 1; have hfz28_2 := blk_frozen BK442.out 2; have hfz28_3 := blk_frozen BK442.out 3; have hfz28_4 := blk_frozen BK442.out 4; have hfz28_5 := blk_frozen BK442.out 5; have hfz28_6 := blk_frozen BK442.out 6; have hfz28_7 := blk_frozen BK442.out 7))
                go_ret
                exact ⟨by first | rfl | (simp [errW_none, errW_some] <;> rfl) | (simp [*, errW_none, errW_some] <;> rfl), by repeat (first | (with_reducible first | exact HB.out | apply below_alloc | apply pw_below_drewN | apply below_drew1 | refine below_set ?_ GE442.out) | exact HB.out)⟩
          · rw [if_neg c4] at H
            exact absurd H (by simp)
        · rw [if_neg c3] at H
          exact absurd H (by simp)
      · rw [if_neg c2] at H
        have c2b0 : decide (x8_1 < (l0.length : Int)) = false := decide_eq_false c2
        clear c2
        obtain rfl := Option.some.inj H
        go_wp2
        go_ret
        exact ⟨by first | rfl | (simp [errW_none, errW_some] <;> rfl) | (simp [*, errW_none, errW_some] <;> rfl), by repeat (first | (with_reducible first | exact HB.out | apply below_alloc | apply pw_below_drewN | apply below_drew1) | exact HB.out)⟩

end Go.Proofs.Ytgpdjpololkhbaa.F

namespace Go.Proofs.Ytgpdjpololkhbaa.F
open Go.RowKit Go.Proofs.YtgpdjpololkhbaaW.PrintWords Go.Proofs.YtgpdjpololkhbaaW.PrintLast Go.Proofs.YtgpdjpololkhbaaW.PrintMore
attribute [local go_sem] max2_int min2_int max_two min_two max_three min_three max_four min_four   -- for this text's walks alone
set_option linter.unusedVariables false
set_option linter.unusedSimpArgs false

/-! ### impl_historical: function 85 -/
def impl_historical.l0 : Nat → List (S130) → List Int → Int → Int → Option (Int)
  | 0, _, _, _, _ => none
  | k + 1, x0, x10, x11, x12 => if x12 < x11 then (if 0 ≤ x12 then (if x12 < (x10.length : Int) then ((impl_in.f (rd x10 x12) 0 (wrap64 ((x0.length : Int) - 1))).bind fun t448 => (if t448 = true then (impl_historical.l0 k x0 x10 x11 (wrap64 (x12 + 1))) else (some 2))) else (none)) else (none)) else (some 0)
def impl_historical.f (k : Nat) (l0 : List (S130)) (l1 : List Int) : Option (Int) := (impl_IsHistory.f k l0).bind fun t446 => (if t446 = true then (impl_historical.l0 k l0 l1 (l1.length : Int) 0) else (some 1))
theorem impl_historical.mono_l : ∀ k, (∀ y0 y1 y2 y3, LeO (impl_historical.l0 k y0 y1 y2 y3) (impl_historical.l0 (k + 1) y0 y1 y2 y3))
  | 0 => fun _ _ _ _ r h => by simp [impl_historical.l0] at h
  | k + 1 => by
    have ih0 := impl_historical.mono_l k
    · intro y0 y1 y2 y3
      unfold impl_historical.l0
      repeat' first
      | (with_reducible exact ih0 _ _ _ _)
      | (with_reducible exact impl_IsHistory.mono _ _)
      | (with_reducible exact LeO.refl _)
      | (with_reducible exact LeO.none _)
      | (with_reducible refine LeO.ite ?_ ?_)
      | (with_reducible refine LeO.bind ?_ (fun _ => ?_))
      | exact ih0 _ _ _ _
      | exact impl_IsHistory.mono _ _
      | exact LeO.none _
      | refine LeO.ite ?_ ?_
      | refine LeO.bind ?_ (fun _ => ?_)
theorem impl_historical.mono : ∀ a0 a1 k, LeO (impl_historical.f k a0 a1) (impl_historical.f (k + 1) a0 a1) := by
  intro a0 a1 k
  have ih0 := impl_historical.mono_l k
  unfold impl_historical.f
  repeat' first
      | (with_reducible exact ih0 _ _ _ _)
      | (with_reducible exact impl_IsHistory.mono _ _)
      | (with_reducible exact LeO.refl _)
      | (with_reducible exact LeO.none _)
      | (with_reducible refine LeO.ite ?_ ?_)
      | (with_reducible refine LeO.bind ?_ (fun _ => ?_))
      | exact ih0 _ _ _ _
      | exact impl_IsHistory.mono _ _
      | exact LeO.none _
      | refine LeO.ite ?_ ?_
      | refine LeO.bind ?_ (fun _ => ?_)
set_option maxHeartbeats 8000000 in
set_option maxRecDepth 100000 in
theorem impl_historical.calls (k : Nat) (A0 : Option Addr) (c0 : Nat) (l0 : List (S130)) (A1 : Option Addr) (c1 : Nat) (l1 : List Int) (r : Int) (w : World) (hr0 : Kd.C k130 w A0 l0.length l0) (hc0 : l0.length ≤ c0) (hr1 : Kd.C (Kd.int .i64) w A1 l1.length l1) (hc1 : l1.length ≤ c1) (h : impl_historical.f k l0 l1 = some r) :
    Calls Try.prog 85 #[.slice A0 l0.length c0, .slice A1 l1.length c1] w fun e w' => e = .returned (.int .i64 r) ∧ Below w.heap.size w w' := by
  have HR0 := Aside0.mk hr0
  have HC0 := Aside0.mk hc0
  clear hr0 hc0
  have HR1 := Aside0.mk hr1
  have HC1 := Aside0.mk hc1
  clear hr1 hc1
  have HB := Aside0.mk (Below.refl w.heap.size w)
  have H : ((impl_IsHistory.f k l0).bind fun t446 => (if t446 = true then (impl_historical.l0 k l0 l1 (l1.length : Int) 0) else (some 1))) = some r := h
  clear h
  replace H := Option.bind_eq_some_iff.mp H
  obtain ⟨t446, A30, H⟩ := H
  replace H : (if t446 = true then (impl_historical.l0 k l0 l1 (l1.length : Int) 0) else (some 1)) = some r := H
  have A3 := Aside0.mk A30
  clear A30
  by_cases c4 : t446 = true
  · subst c4
    have H1 : (impl_historical.l0 k l0 l1 (l1.length : Int) 0) = some r := by rw [if_pos rfl] at H; exact H
    clear H
    have H := H1
    clear H1
    have H' := Aside0.mk H
    clear H
    go_enter Try.func85, Try.ntmps85
    go_wp2_with (first | ((with_reducible refine gate_callee (f := 141) rfl ?_); refine goesL_ (some 8) rfl rfl Try.func141 (by kernel_rfl) rfl #[.slice A0 l0.length c0] rfl (by (try simp only [List.map_toArray, List.map_cons, List.map_nil]); first | done | rfl | (simp only [List.length_drop, List.length_take]; rfl)) ?_; (with_reducible refine (impl_IsHistory.calls k _ _ l0 true _ ?side1 ?side2 A3.out).mono ?_); (case side1 => repeat (first | exact HR0.out | (with_reducible refine Kd.C_alloc ?_ _) | (with_reducible refine Kd.C_drewN ?_ _) | (with_reducible refine Kd.C_drew ?_))); (case side2 => exact HC0.out); rintro e w5 ⟨rfl, hb⟩; refine ⟨_, rfl, ?_⟩; have n0_ := Aside0.mk (below_step (by repeat (first | (with_reducible first | exact HB.out | apply below_alloc | apply pw_below_drewN | apply below_drew1) | exact HB.out)) hb); clear HB; have HB := n0_; clear n0_; (try clear hb); (try clear hb2); (try clear hk); (try clear hi)))
    go_loopg [12] k (fun kq v12 w' => ∃ (x12_1 : Int), v12 = .int .i64 x12_1 ∧ Aside0 (impl_historical.l0 kq l0 l1 (l1.length : Int) x12_1 = some r) ∧ Aside0 (kq ≤ k) ∧ Aside0 (Below w.heap.size w w'))
    case atStart => exact ⟨(0), (by first | rfl | (simp; done) | (simp [*]; done)), H', ⟨Nat.le_refl _⟩, ⟨by repeat (first | (with_reducible first | exact HB.out | apply below_alloc | apply pw_below_drewN | apply below_drew1) | exact HB.out)⟩⟩
    case round =>
      clear H'
      try clear c1
      try clear p2
      try clear c4
      obtain ⟨x12_1, rfl, HA, HK1, HB⟩ := hrel
      cases gk with
      | zero => exact absurd HA.out (by simp [impl_historical.l0])
      | succ k1 =>
        have H := HA.out
        clear HA
        simp only [impl_historical.l0] at H
        by_cases c6 : x12_1 < (l1.length : Int)
        · rw [if_pos c6] at H
          have c6b0 : decide (x12_1 < (l1.length : Int)) = true := decide_eq_true c6
          clear c6
          by_cases c7 : 0 ≤ x12_1
          · rw [if_pos c7] at H
            have c7b0 : decide (0 ≤ x12_1) = true := decide_eq_true c7
            clear c7
            by_cases c8 : x12_1 < (l1.length : Int)
            · rw [if_pos c8] at H
              have c8b0 : decide (x12_1 < (l1.length : Int)) = true := decide_eq_true c8
              clear c8
              replace H := Option.bind_eq_some_iff.mp H
              obtain ⟨t448, A90, H⟩ := H
              replace H : (if t448 = true then (impl_historical.l0 k1 l0 l1 (l1.length : Int) (wrap64 (x12_1 + 1))) else (some 2)) = some r := H
              have A9 := Aside0.mk A90
              clear A90
              by_cases c10 : t448 = true
              · subst c10
                have H1 : (impl_historical.l0 k1 l0 l1 (l1.length : Int) (wrap64 (x12_1 + 1))) = some r := by rw [if_pos rfl] at H; exact H
                clear H
                have H := H1
                clear H1
                have H' := Aside0.mk H
                clear H
                have p447 : 0 ≤ (x12_1 : Int) := of_decide_eq_true (by first | (with_reducible assumption) | assumption)
                have q447 : x12_1 < (l1.length : Int) := of_decide_eq_true (by first | (with_reducible assumption) | assumption)
                obtain ⟨ad447, e447, hx447_0⟩ := Kd.at_int HR1.out x12_1 p447 q447
                cases e447
                replace hx447_0 := (HB.out.cell (World.block_lt_of_cell? w _ hx447_0)).trans hx447_0
                replace p447 := eq_true p447
                replace q447 := eq_true q447
                go_wp2_with (first | ((with_reducible refine gate_callee (f := 92) rfl ?_); refine goesL_ (some 20) rfl rfl Try.func92 (by kernel_rfl) rfl #[.int .i64 (rd l1 x12_1), .int .i64 0, .int .i64 (wrap64 ((l0.length : Int) - 1))] rfl (by (try simp only [List.map_toArray, List.map_cons, List.map_nil]); first | done | rfl | (simp only [List.length_drop, List.length_take]; rfl)) ?_; (with_reducible refine (impl_in.calls (rd l1 x12_1) 0 (wrap64 ((l0.length : Int) - 1)) true _ A9.out).mono ?_); rintro e w' ⟨rfl, ⟨nd, rfl⟩⟩; refine ⟨_, rfl, ?_⟩))
                go_roundg k1
                case measure => have := HK1.out; omega
                case rel => exact ⟨(wrap64 (x12_1 + 1)), (by first | rfl | (simp; done) | (simp [*]; done)), H', ⟨by have := HK1.out; omega⟩, ⟨by repeat (first | (with_reducible first | exact HB.out | apply below_alloc | apply pw_below_drewN | apply below_drew1) | exact HB.out)⟩⟩
              · replace c10 := Bool.eq_false_iff.mpr c10
                subst c10
                have H1 : (some 2) = some r := by rw [if_neg (show ¬ (false = true) by decide)] at H; exact H
                clear H
                have H := H1
                clear H1
                obtain rfl := Option.some.inj H
                have p447 : 0 ≤ (x12_1 : Int) := of_decide_eq_true (by first | (with_reducible assumption) | assumption)
                have q447 : x12_1 < (l1.length : Int) := of_decide_eq_true (by first | (with_reducible assumption) | assumption)
                obtain ⟨ad447, e447, hx447_0⟩ := Kd.at_int HR1.out x12_1 p447 q447
                cases e447
                replace hx447_0 := (HB.out.cell (World.block_lt_of_cell? w _ hx447_0)).trans hx447_0
                replace p447 := eq_true p447
                replace q447 := eq_true q447
                go_wp2_with (first | ((with_reducible refine gate_callee (f := 92) rfl ?_); refine goesL_ (some 20) rfl rfl Try.func92 (by kernel_rfl) rfl #[.int .i64 (rd l1 x12_1), .int .i64 0, .int .i64 (wrap64 ((l0.length : Int) - 1))] rfl (by (try simp only [List.map_toArray, List.map_cons, List.map_nil]); first | done | rfl | (simp only [List.length_drop, List.length_take]; rfl)) ?_; (with_reducible refine (impl_in.calls (rd l1 x12_1) 0 (wrap64 ((l0.length : Int) - 1)) false _ A9.out).mono ?_); rintro e w' ⟨rfl, ⟨nd, rfl⟩⟩; refine ⟨_, rfl, ?_⟩))
                go_ret
                exact ⟨by first | rfl | (simp [errW_none, errW_some] <;> rfl) | (simp [*, errW_none, errW_some] <;> rfl), by repeat (first | (with_reducible first | exact HB.out | apply below_alloc | apply pw_below_drewN | apply below_drew1) | exact HB.out)⟩
            · rw [if_neg c8] at H
              exact absurd H (by simp)
          · rw [if_neg c7] at H
            exact absurd H (by simp)
        · rw [if_neg c6] at H
          have c6b0 : decide (x12_1 < (l1.length : Int)) = false := decide_eq_false c6
          clear c6
          obtain rfl := Option.some.inj H
          go_wp2
          go_ret
          exact ⟨by first | rfl | (simp [errW_none, errW_some] <;> rfl) | (simp [*, errW_none, errW_some] <;> rfl), by repeat (first | (with_reducible first | exact HB.out | apply below_alloc | apply pw_below_drewN | apply below_drew1) | exact HB.out)⟩
  · replace c4 := Bool.eq_false_iff.mpr c4
    subst c4
    have H1 : (some 1) = some r := by rw [if_neg (show ¬ (false = true) by decide)] at H; exact H
    clear H
    have H := H1
    clear H1
    obtain rfl := Option.some.inj H
    go_enter Try.func85, Try.ntmps85
    go_wp2_with (first | ((with_reducible refine gate_callee (f := 141) rfl ?_); refine goesL_ (some 8) rfl rfl Try.func141 (by kernel_rfl) rfl #[.slice A0 l0.length c0] rfl (by (try simp only [List.map_toArray, List.map_cons, List.map_nil]); first | done | rfl | (simp only [List.length_drop, List.length_take]; rfl)) ?_; (with_reducible refine (impl_IsHistory.calls k _ _ l0 false _ ?side1 ?side2 A3.out).mono ?_); (case side1 => repeat (first | exact HR0.out | (with_reducible refine Kd.C_alloc ?_ _) | (with_reducible refine Kd.C_drewN ?_ _) | (with_reducible refine Kd.C_drew ?_))); (case side2 => exact HC0.out); rintro e w11 ⟨rfl, hb⟩; refine ⟨_, rfl, ?_⟩; have n0_ := Aside0.mk (below_step (by repeat (first | (with_reducible first | exact HB.out | apply below_alloc | apply pw_below_drewN | apply below_drew1) | exact HB.out)) hb); clear HB; have HB := n0_; clear n0_; (try clear hb); (try clear hb2); (try clear hk); (try clear hi)))
    go_ret
    exact ⟨by first | rfl | (simp [errW_none, errW_some] <;> rfl) | (simp [*, errW_none, errW_some] <;> rfl), by repeat (first | (with_reducible first | exact HB.out | apply below_alloc | apply pw_below_drewN | apply below_drew1) | exact HB.out)⟩

end Go.Proofs.Ytgpdjpololkhbaa.F

namespace Go.Proofs.Ytgpdjpololkhbaa.F
open Go.RowKit Go.Proofs.YtgpdjpololkhbaaW.PrintWords Go.Proofs.YtgpdjpololkhbaaW.PrintLast Go.Proofs.YtgpdjpololkhbaaW.PrintMore
attribute [local go_sem] max2_int min2_int max_two min_two max_three min_three max_four min_four   -- for this text's walks alone
set_option linter.unusedVariables false
set_option linter.unusedSimpArgs false

/-! ### impl_ancestors: function 86 -/
def impl_ancestors.l0 : Nat → List (S130) → Int → List Int → Option (List Int)
  | 0, _, _, _ => none
  | k + 1, x0, x1, x5 => if x1 ≥ 0 then (if x5.length < 17592186044416 then (if 0 ≤ x1 then (if x1 < (x0.length : Int) then (impl_ancestors.l0 k x0 ((rd_T130 x0 x1).f0) (x5 ++ [x1])) else (none)) else (none)) else (none)) else (some x5)
def impl_ancestors.f (k : Nat) (l0 : List (S130)) (a1 : Int) : Option (List Int) := impl_ancestors.l0 k l0 a1 (([] : List Int))
theorem impl_ancestors.mono_l : ∀ k, (∀ y0 y1 y2, LeO (impl_ancestors.l0 k y0 y1 y2) (impl_ancestors.l0 (k + 1) y0 y1 y2))
  | 0 => fun _ _ _ r h => by simp [impl_ancestors.l0] at h
  | k + 1 => by
    have ih0 := impl_ancestors.mono_l k
    · intro y0 y1 y2
      unfold impl_ancestors.l0
      repeat' first
      | (with_reducible exact ih0 _ _ _)
      | (with_reducible exact LeO.refl _)
      | (with_reducible exact LeO.none _)
      | (with_reducible refine LeO.ite ?_ ?_)
      | (with_reducible refine LeO.bind ?_ (fun _ => ?_))
      | exact ih0 _ _ _
      | exact LeO.none _
      | refine LeO.ite ?_ ?_
      | refine LeO.bind ?_ (fun _ => ?_)
theorem impl_ancestors.mono : ∀ a0 a1 k, LeO (impl_ancestors.f k a0 a1) (impl_ancestors.f (k + 1) a0 a1) := by
  intro a0 a1 k
  have ih0 := impl_ancestors.mono_l k
  unfold impl_ancestors.f
  repeat' first
      | (with_reducible exact ih0 _ _ _)
      | (with_reducible exact LeO.refl _)
      | (with_reducible exact LeO.none _)
      | (with_reducible refine LeO.ite ?_ ?_)
      | (with_reducible refine LeO.bind ?_ (fun _ => ?_))
      | exact ih0 _ _ _
      | exact LeO.none _
      | refine LeO.ite ?_ ?_
      | refine LeO.bind ?_ (fun _ => ?_)
set_option maxHeartbeats 8000000 in
set_option maxRecDepth 100000 in
theorem impl_ancestors.calls (k : Nat) (A0 : Option Addr) (c0 : Nat) (l0 : List (S130)) (a1 : Int) (r : List Int) (w : World) (hr0 : Kd.C k130 w A0 l0.length l0) (hc0 : l0.length ≤ c0) (h : impl_ancestors.f k l0 a1 = some r) :
    Calls Try.prog 86 #[.slice A0 l0.length c0, .int .i64 a1] w fun e w' => ∃ v0_ : Value, e = .returned (v0_) ∧ Kd.R (Kd.int .i64) 2 w' w.heap.size (fun _ => True) v0_ r ∧ Below w.heap.size w w' := by
  have HR0 := Aside0.mk hr0
  have HC0 := Aside0.mk hc0
  clear hr0 hc0
  have HB := Aside0.mk (Below.refl w.heap.size w)
  have H : (impl_ancestors.l0 k l0 a1 (([] : List Int))) = some r := h
  clear h
  obtain ⟨y449, hy449⟩ : ∃ y_ : List Int, y_ = (([] : List Int)) := ⟨_, rfl⟩
  replace H : (impl_ancestors.l0 k l0 a1 y449) = some r := by first | (rw [hy449]; with_reducible exact H) | (have H2_ := (Option.bind_some _ _).symm.trans H; rw [hy449]; with_reducible exact H2_) | (have H2_ := (Option.bind_some _ _).symm.trans H; with_reducible exact H2_) | with_reducible exact H | (rw [hy449]; exact H) | exact H
  have Ny449 := Aside0.mk hy449
  clear hy449
  have H' := Aside0.mk H
  clear H
  go_enter Try.func86, Try.ntmps86
  go_wp2_with (first | ((with_reducible refine gate_dst (N := 6) rfl ?_); refine Kd.R_lit (Kd.int .i64) _ 2 ?hg (N := 6) ?hd (xs := ([] : List Int)) (inner := []) (ok := fun _ => True) (okp := fun _ => True) ?hr ?hp (fun _ hk => hk) trivial (Below.refl _ _) (Nat.le_refl _) (by simp) ?_; (case hd => rfl); (case hg => rfl); (case hr => first | (go_simp; done) | (go_simp; rfl)); (case hp => exact (Reps.none _ _)); intro v450 w3 ho4 hb hg_ hnew_; clear hg_ hnew_; (first | rw [← Ny449.out] at ho4 | (simp only [Int.reduceToNat] at ho4; rw [← Ny449.out] at ho4)); have n0_ := Aside0.mk (Kd.R_lower ho4 (below_size (by repeat (first | (with_reducible first | exact HB.out | apply below_alloc | apply pw_below_drewN | apply below_drew1) | exact HB.out)))); have n1_ := Aside0.mk (below_step (by repeat (first | (with_reducible first | exact HB.out | apply below_alloc | apply pw_below_drewN | apply below_drew1) | exact HB.out)) hb); clear HB; have HO451 := n0_; have HB := n1_; clear n0_ n1_; clear hb ho4))
  go_loopg [1, 5] k (fun kq v1 v5 w' => ∃ (x1_1 : Int) (x5_1 : List Int), v1 = .int .i64 x1_1 ∧ Aside0 (impl_ancestors.l0 kq l0 x1_1 x5_1 = some r) ∧ Aside0 (kq ≤ k) ∧ Aside0 (Kd.R (Kd.int .i64) 2 w' w.heap.size (fun _ => True) v5 x5_1) ∧ Aside0 (Below w.heap.size w w'))
  case atStart => exact ⟨(a1), (y449), (by first | rfl | (simp; done) | (simp [*]; done)), H', ⟨Nat.le_refl _⟩, ⟨by (with_reducible repeat (first | apply Kd.R_alloc | apply Kd.R_drewN | apply Kd.R_drew)); exact HO451.out⟩, ⟨by repeat (first | (with_reducible first | exact HB.out | apply below_alloc | apply pw_below_drewN | apply below_drew1) | exact HB.out)⟩⟩
  case round =>
    clear H'
    try clear p2
    obtain ⟨x1_1, x5_1, rfl, HA, HK1, HO_5, HB⟩ := hrel
    cases gk with
    | zero => exact absurd HA.out (by simp [impl_ancestors.l0])
    | succ k1 =>
      have H := HA.out
      clear HA
      simp only [impl_ancestors.l0] at H
      by_cases c5 : x1_1 ≥ 0
      · rw [if_pos c5] at H
        have c5b0 : decide (0 ≤ x1_1) = true := decide_eq_true c5
        clear c5
        by_cases c6 : x5_1.length < 17592186044416
        · rw [if_pos c6] at H
          have LMc6 := Aside0.mk c6
          clear c6
          obtain ⟨y452, hy452⟩ : ∃ y_ : List Int, y_ = (x5_1 ++ [x1_1]) := ⟨_, rfl⟩
          replace H : (if 0 ≤ x1_1 then (if x1_1 < (l0.length : Int) then (impl_ancestors.l0 k1 l0 ((rd_T130 l0 x1_1).f0) y452) else (none)) else (none)) = some r := by first | (rw [hy452]; with_reducible exact H) | (have H2_ := (Option.bind_some _ _).symm.trans H; rw [hy452]; with_reducible exact H2_) | (have H2_ := (Option.bind_some _ _).symm.trans H; with_reducible exact H2_) | with_reducible exact H | (rw [hy452]; exact H) | exact H
          have Ny452 := Aside0.mk hy452
          clear hy452
          by_cases c7 : 0 ≤ x1_1
          · rw [if_pos c7] at H
            have c7b0 : decide (0 ≤ x1_1) = true := decide_eq_true c7
            clear c7
            by_cases c8 : x1_1 < (l0.length : Int)
            · rw [if_pos c8] at H
              have c8b0 : decide (x1_1 < (l0.length : Int)) = true := decide_eq_true c8
              clear c8
              have H' := Aside0.mk H
              clear H
              go_wp2_with (first | ((with_reducible refine gate_builtin (b := .append) (xs := #[.tmp 14, .tmp 16]) rfl ?_); at_builtin; refine Kd.R_append (Kd.int .i64) (w0 := w) w.heap.size rfl (.tmp 14) (.tmp 16) 24 2 (.int .i64 0) 8 rfl Try.underlying24 info2 rfl (by decide) (by omega) u5 x5_1 x1_1 [.int .i64 x1_1] (fun _ => True) (fun _ => False) rfl rfl ?aP (fun _ hk => hk.elim) ?aF ?aO ?aB ?aS ?aL ?_; (case aP => exact rfl); (case aB => exact (by repeat (first | (with_reducible first | exact HB.out | apply below_alloc | apply pw_below_drewN | apply below_drew1) | exact HB.out))); (case aF => exact (fun _ _ => trivial)); (case aO => exact (by (with_reducible repeat (first | apply Kd.R_alloc | apply Kd.R_drewN | apply Kd.R_drew)); exact HO_5.out)); (case aS => exact (below_size (by repeat (first | (with_reducible first | exact HB.out | apply below_alloc | apply pw_below_drewN | apply below_drew1) | exact HB.out)))); (case aL => have := LMc6.out; omega); intro v453 w9 ho hb hg hat; rw [← Ny452.out] at ho; have n0_ := Aside0.mk (hb); have n1_ := Aside0.mk (ho); clear HB; clear HO_5; have HB := n0_; have HO454 := n1_; clear n0_ n1_; clear ho hb hg hat; have p455 : 0 ≤ (x1_1 : Int) := of_decide_eq_true (by first | (with_reducible assumption) | assumption); have q455 : x1_1 < (l0.length : Int) := of_decide_eq_true (by first | (with_reducible assumption) | assumption); obtain ⟨ad455, A455_6, c455_6, A455_7, c455_7, e455, hx455_0, hx455_1, hx455_2, hx455_3, hx455_4, hx455_5, hx455_6, hx455_7, hl455_6, hi455_6, hl455_7, hi455_7⟩ := at_T130 HR0.out x1_1 p455 q455; cases e455; replace hx455_0 := (HB.out.cell (World.block_lt_of_cell? w _ hx455_0)).trans hx455_0; replace hx455_1 := (HB.out.cell (World.block_lt_of_cell? w _ hx455_1)).trans hx455_1; replace hx455_2 := (HB.out.cell (World.block_lt_of_cell? w _ hx455_2)).trans hx455_2; replace hx455_3 := (HB.out.cell (World.block_lt_of_cell? w _ hx455_3)).trans hx455_3; replace hx455_4 := (HB.out.cell (World.block_lt_of_cell? w _ hx455_4)).trans hx455_4; replace hx455_5 := (HB.out.cell (World.block_lt_of_cell? w _ hx455_5)).trans hx455_5; replace hx455_6 := (HB.out.cell (World.block_lt_of_cell? w _ hx455_6)).trans hx455_6; replace hx455_7 := (HB.out.cell (World.block_lt_of_cell? w _ hx455_7)).trans hx455_7; have HR455_6 := Aside0.mk hi455_6; have HC455_6 := Aside0.mk hl455_6; clear hi455_6 hl455_6; have HR455_7 := Aside0.mk hi455_7; have HC455_7 := Aside0.mk hl455_7; clear hi455_7 hl455_7; replace p455 := eq_true p455; replace q455 := eq_true q455))
              go_roundg k1
              case measure => have := HK1.out; omega
              case rel => exact ⟨((rd_T130 l0 x1_1).f0), (y452), (by first | rfl | (simp; done) | (simp [*]; done)), H', ⟨by have := HK1.out; omega⟩, ⟨by (with_reducible repeat (first | apply Kd.R_alloc | apply Kd.R_drewN | apply Kd.R_drew)); exact HO454.out⟩, ⟨by repeat (first | (with_reducible first | exact HB.out | apply below_alloc | apply pw_below_drewN | apply below_drew1) | exact HB.out)⟩⟩
            · rw [if_neg c8] at H
              exact absurd H (by simp)
          · rw [if_neg c7] at H
            exact absurd H (by simp)
        · rw [if_neg c6] at H
          exact absurd H (by simp)
      · rw [if_neg c5] at H
        have c5b0 : decide (0 ≤ x1_1) = false := decide_eq_false c5
        clear c5
        obtain rfl := Option.some.inj H
        go_wp2
        go_ret
        exact ⟨_, by first | rfl | (simp [errW_none, errW_some] <;> rfl) | (simp [*, errW_none, errW_some] <;> rfl), by (with_reducible repeat (first | apply Kd.R_alloc | apply Kd.R_drewN | apply Kd.R_drew)); exact HO_5.out, by repeat (first | (with_reducible first | exact HB.out | apply below_alloc | apply pw_below_drewN | apply below_drew1) | exact HB.out)⟩

end Go.Proofs.Ytgpdjpololkhbaa.F

namespace Go.Proofs.Ytgpdjpololkhbaa.F
open Go.RowKit Go.Proofs.YtgpdjpololkhbaaW.PrintWords Go.Proofs.YtgpdjpololkhbaaW.PrintLast Go.Proofs.YtgpdjpololkhbaaW.PrintMore
attribute [local go_sem] max2_int min2_int max_two min_two max_three min_three max_four min_four   -- for this text's walks alone
set_option linter.unusedVariables false
set_option linter.unusedSimpArgs false

/-! ### impl_AncestorsOf: function 27 -/
def impl_AncestorsOf.f (k : Nat) (l0 : List (S130)) (a1 : Int) : Option (List Int × Int) := (impl_historical.f k l0 (([a1] : List Int))).bind fun t459 => (if t459 = 0 then ((impl_ancestors.f k l0 a1).bind fun t460 => (some (t460, 0))) else (some (([] : List Int), t459)))
theorem impl_AncestorsOf.mono : ∀ a0 a1 k, LeO (impl_AncestorsOf.f k a0 a1) (impl_AncestorsOf.f (k + 1) a0 a1) := by
  intro a0 a1 k
  unfold impl_AncestorsOf.f
  repeat' first
      | (with_reducible exact impl_ancestors.mono _ _ _)
      | (with_reducible exact impl_historical.mono _ _ _)
      | (with_reducible exact LeO.refl _)
      | (with_reducible exact LeO.none _)
      | (with_reducible refine LeO.ite ?_ ?_)
      | (with_reducible refine LeO.bind ?_ (fun _ => ?_))
      | exact impl_ancestors.mono _ _ _
      | exact impl_historical.mono _ _ _
      | exact LeO.none _
      | refine LeO.ite ?_ ?_
      | refine LeO.bind ?_ (fun _ => ?_)
set_option maxHeartbeats 8000000 in
set_option maxRecDepth 100000 in
theorem impl_AncestorsOf.calls (k : Nat) (A0 : Option Addr) (c0 : Nat) (l0 : List (S130)) (a1 : Int) (r1 : List Int) (r2 : Int) (w : World) (hr0 : Kd.C k130 w A0 l0.length l0) (hc0 : l0.length ≤ c0) (h : impl_AncestorsOf.f k l0 a1 = some (r1, r2)) :
    Calls Try.prog 27 #[.slice A0 l0.length c0, .int .i64 a1] w fun e w' => ∃ v0_ : Value, e = .returned (.tuple #[v0_, .int .i64 r2]) ∧ Kd.R (Kd.int .i64) 2 w' w.heap.size (fun _ => True) v0_ r1 ∧ Below w.heap.size w w' := by
  have HR0 := Aside0.mk hr0
  have HC0 := Aside0.mk hc0
  clear hr0 hc0
  have HB := Aside0.mk (Below.refl w.heap.size w)
  have H : ((impl_historical.f k l0 (([a1] : List Int))).bind fun t459 => (if t459 = 0 then ((impl_ancestors.f k l0 a1).bind fun t460 => (some (t460, 0))) else (some (([] : List Int), t459)))) = some (r1, r2) := h
  clear h
  obtain ⟨y456, hy456⟩ : ∃ y_ : List Int, y_ = (([a1] : List Int)) := ⟨_, rfl⟩
  replace H : ((impl_historical.f k l0 y456).bind fun t459 => (if t459 = 0 then ((impl_ancestors.f k l0 a1).bind fun t460 => (some (t460, 0))) else (some (([] : List Int), t459)))) = some (r1, r2) := by first | (rw [hy456]; with_reducible exact H) | (have H2_ := (Option.bind_some _ _).symm.trans H; rw [hy456]; with_reducible exact H2_) | (have H2_ := (Option.bind_some _ _).symm.trans H; with_reducible exact H2_) | with_reducible exact H | (rw [hy456]; exact H) | exact H
  have Ny456 := Aside0.mk hy456
  clear hy456
  replace H := Option.bind_eq_some_iff.mp H
  obtain ⟨t459, A30, H⟩ := H
  replace H : (if t459 = 0 then ((impl_ancestors.f k l0 a1).bind fun t460 => (some (t460, 0))) else (some (([] : List Int), t459))) = some (r1, r2) := H
  have A3 := Aside0.mk A30
  clear A30
  by_cases c4 : t459 = 0
  · rw [if_pos c4] at H
    have c4b0 : (t459 == 0) = true := beq_iff_eq.mpr c4
    have c4b1 : (t459 != 0) = false := bne_eq_false_iff_eq.mpr c4
    clear c4
    replace H := Option.bind_eq_some_iff.mp H
    obtain ⟨t460, A50, H⟩ := H
    replace H : (some (t460, 0)) = some (r1, r2) := H
    have A5 := Aside0.mk A50
    clear A50
    simp only [Option.some.injEq, Prod.mk.injEq] at H
    obtain ⟨rfl, rfl⟩ := H
    go_enter Try.func27, Try.ntmps27
    go_wp2_with (first | ((with_reducible refine gate_dst (N := 9) rfl ?_); refine Kd.R_lit (Kd.int .i64) _ 2 ?hg (N := 9) ?hd (xs := ([a1] : List Int)) (inner := [.int .i64 a1]) (ok := fun _ => True) (okp := fun _ => True) ?hr ?hp (fun _ hk => hk) trivial (Below.refl _ _) (Nat.le_refl _) (by simp) ?_; (case hd => rfl); (case hg => rfl); (case hr => first | (go_simp; done) | (go_simp; rfl)); (case hp => exact (Reps.one (show Kd.M (Kd.int .i64) _ _ _ a1 [.int .i64 a1] from rfl) (Reps.none _ _))); intro v457 w6 ho7 hb hg_ hnew_; clear hg_ hnew_; (first | rw [← Ny456.out] at ho7 | (simp only [Int.reduceToNat] at ho7; rw [← Ny456.out] at ho7)); have n0_ := Aside0.mk (Kd.R_lower ho7 (below_size (by repeat (first | (with_reducible first | exact HB.out | apply below_alloc | apply pw_below_drewN | apply below_drew1) | exact HB.out)))); have n1_ := Aside0.mk (below_step (by repeat (first | (with_reducible first | exact HB.out | apply below_alloc | apply pw_below_drewN | apply below_drew1) | exact HB.out)) hb); clear HB; have HO458 := n0_; have HB := n1_; clear n0_ n1_; clear hb ho7; obtain ⟨Ao8, co8, eo8⟩ := Kd.R_slice HO458.out; subst eo8) | ((with_reducible refine gate_callee (f := 85) rfl ?_); refine goesL_ (some 10) rfl rfl Try.func85 (by kernel_rfl) rfl #[.slice A0 l0.length c0, .slice Ao8 y456.length co8] rfl (by (try simp only [List.map_toArray, List.map_cons, List.map_nil]); first | done | rfl | (simp only [List.length_drop, List.length_take]; rfl)) ?_; (with_reducible refine (impl_historical.calls k _ _ l0 _ _ y456 t459 _ ?side1 ?side2 ?side3 ?side4 A3.out).mono ?_); (case side1 => repeat (first | exact (Kd.C_below HR0.out HB.out) | (with_reducible refine Kd.C_alloc ?_ _) | (with_reducible refine Kd.C_drewN ?_ _) | (with_reducible refine Kd.C_drew ?_))); (case side2 => exact HC0.out); (case side3 => repeat (first | exact (Kd.R_reads' HO458.out).2.2 | (with_reducible refine Kd.C_alloc ?_ _) | (with_reducible refine Kd.C_drewN ?_ _) | (with_reducible refine Kd.C_drew ?_))); (case side4 => exact (Kd.R_reads' HO458.out).2.1); rintro e w9 ⟨rfl, hb⟩; refine ⟨_, rfl, ?_⟩; have n0_ := Aside0.mk (Kd.R_below (by (with_reducible repeat (first | apply Kd.R_alloc | apply Kd.R_drewN | apply Kd.R_drew)); exact HO458.out) hb); have n1_ := Aside0.mk (below_step (by repeat (first | (with_reducible first | exact HB.out | apply below_alloc | apply pw_below_drewN | apply below_drew1) | exact HB.out)) hb); clear HO458; clear HB; have HO458 := n0_; have HB := n1_; clear n0_ n1_; (try clear hb); (try clear hb2); (try clear hk); (try clear hi)) | ((with_reducible refine gate_callee (f := 86) rfl ?_); refine goesL_ (some 16) rfl rfl Try.func86 (by kernel_rfl) rfl #[.slice A0 l0.length c0, .int .i64 a1] rfl (by (try simp only [List.map_toArray, List.map_cons, List.map_nil]); first | done | rfl | (simp only [List.length_drop, List.length_take]; rfl)) ?_; (with_reducible refine (impl_ancestors.calls k _ _ l0 a1 t460 _ ?side1 ?side2 A5.out).mono ?_); (case side1 => repeat (first | exact (Kd.C_below HR0.out HB.out) | (with_reducible refine Kd.C_alloc ?_ _) | (with_reducible refine Kd.C_drewN ?_ _) | (with_reducible refine Kd.C_drew ?_))); (case side2 => exact HC0.out); rintro e w10 ⟨v461, rfl, ho0, hb⟩; refine ⟨_, rfl, ?_⟩; have n0_ := Aside0.mk (Kd.R_elder' (by (with_reducible repeat (first | apply Kd.R_alloc | apply Kd.R_drewN | apply Kd.R_drew)); exact HO458.out) (Kd.R_base ho0) hb); have n1_ := Aside0.mk (Kd.R_lower (Kd.R_new' ho0 (Kd.R_lt (by (with_reducible repeat (first | apply Kd.R_alloc | apply Kd.R_drewN | apply Kd.R_drew)); exact HO458.out))) (below_size (by repeat (first | (with_reducible first | exact HB.out | apply below_alloc | apply pw_below_drewN | apply below_drew1) | exact HB.out)))); have n2_ := Aside0.mk (below_step (by repeat (first | (with_reducible first | exact HB.out | apply below_alloc | apply pw_below_drewN | apply below_drew1) | exact HB.out)) hb); clear HO458; clear HB; have HO458 := n0_; have HO462 := n1_; have HB := n2_; clear n0_ n1_ n2_; (try clear hb); (try clear hb2); (try clear hk); (try clear hi); (try clear ho0)))
    go_ret2
    exact ⟨_, by first | rfl | (simp [errW_none, errW_some] <;> rfl) | (simp [*, errW_none, errW_some] <;> rfl), by (with_reducible repeat (first | apply Kd.R_alloc | apply Kd.R_drewN | apply Kd.R_drew)); exact Kd.R_mono HO462.out (fun _ hk => trivial), by repeat (first | (with_reducible first | exact HB.out | apply below_alloc | apply pw_below_drewN | apply below_drew1) | exact HB.out)⟩
  · rw [if_neg c4] at H
    have c4b0 : (t459 == 0) = false := beq_eq_false_iff_ne.mpr c4
    have c4b1 : (t459 != 0) = true := bne_iff_ne.mpr c4
    simp only [Option.some.injEq, Prod.mk.injEq] at H
    obtain ⟨rfl, rfl⟩ := H
    go_enter Try.func27, Try.ntmps27
    go_wp2_with (first | ((with_reducible refine gate_dst (N := 9) rfl ?_); refine Kd.R_lit (Kd.int .i64) _ 2 ?hg (N := 9) ?hd (xs := ([a1] : List Int)) (inner := [.int .i64 a1]) (ok := fun _ => True) (okp := fun _ => True) ?hr ?hp (fun _ hk => hk) trivial (Below.refl _ _) (Nat.le_refl _) (by simp) ?_; (case hd => rfl); (case hg => rfl); (case hr => first | (go_simp; done) | (go_simp; rfl)); (case hp => exact (Reps.one (show Kd.M (Kd.int .i64) _ _ _ a1 [.int .i64 a1] from rfl) (Reps.none _ _))); intro v457 w11 ho12 hb hg_ hnew_; clear hg_ hnew_; (first | rw [← Ny456.out] at ho12 | (simp only [Int.reduceToNat] at ho12; rw [← Ny456.out] at ho12)); have n0_ := Aside0.mk (Kd.R_lower ho12 (below_size (by repeat (first | (with_reducible first | exact HB.out | apply below_alloc | apply pw_below_drewN | apply below_drew1) | exact HB.out)))); have n1_ := Aside0.mk (below_step (by repeat (first | (with_reducible first | exact HB.out | apply below_alloc | apply pw_below_drewN | apply below_drew1) | exact HB.out)) hb); clear HB; have HO458 := n0_; have HB := n1_; clear n0_ n1_; clear hb ho12; obtain ⟨Ao13, co13, eo13⟩ := Kd.R_slice HO458.out; subst eo13) | ((with_reducible refine gate_callee (f := 85) rfl ?_); refine goesL_ (some 10) rfl rfl Try.func85 (by kernel_rfl) rfl #[.slice A0 l0.length c0, .slice Ao13 y456.length co13] rfl (by (try simp only [List.map_toArray, List.map_cons, List.map_nil]); first | done | rfl | (simp only [List.length_drop, List.length_take]; rfl)) ?_; (with_reducible refine (impl_historical.calls k _ _ l0 _ _ y456 t459 _ ?side1 ?side2 ?side3 ?side4 A3.out).mono ?_); (case side1 => repeat (first | exact (Kd.C_below HR0.out HB.out) | (with_reducible refine Kd.C_alloc ?_ _) | (with_reducible refine Kd.C_drewN ?_ _) | (with_reducible refine Kd.C_drew ?_))); (case side2 => exact HC0.out); (case side3 => repeat (first | exact (Kd.R_reads' HO458.out).2.2 | (with_reducible refine Kd.C_alloc ?_ _) | (with_reducible refine Kd.C_drewN ?_ _) | (with_reducible refine Kd.C_drew ?_))); (case side4 => exact (Kd.R_reads' HO458.out).2.1); rintro e w14 ⟨rfl, hb⟩; refine ⟨_, rfl, ?_⟩; have n0_ := Aside0.mk (Kd.R_below (by (with_reducible repeat (first | apply Kd.R_alloc | apply Kd.R_drewN | apply Kd.R_drew)); exact HO458.out) hb); have n1_ := Aside0.mk (below_step (by repeat (first | (with_reducible first | exact HB.out | apply below_alloc | apply pw_below_drewN | apply below_drew1) | exact HB.out)) hb); clear HO458; clear HB; have HO458 := n0_; have HB := n1_; clear n0_ n1_; (try clear hb); (try clear hb2); (try clear hk); (try clear hi)))
    go_ret2
    exact ⟨_, by first | rfl | (simp [errW_none, errW_some] <;> rfl) | (simp [*, errW_none, errW_some] <;> rfl), by first | exact Kd.R_nil _ _ _ _ _ | exact Kd.N_nil _ _ _ _ _ | exact Kd.V_nil _ _ _ _ _ | exact Kd.Q_nil _ _ _ _ _ | exact Kd.S_nil _ _ _ _ _, by repeat (first | (with_reducible first | exact HB.out | apply below_alloc | apply pw_below_drewN | apply below_drew1) | exact HB.out)⟩

end Go.Proofs.Ytgpdjpololkhbaa.F

namespace Go.Proofs.Ytgpdjpololkhbaa.Pure
open Go.RowKit Go.Proofs.Ytgpdjpololkhbaa.F Go.Proofs.YtgpdjpololkhbaaW.PrintWords Go.Proofs.YtgpdjpololkhbaaW.PrintLast Go.Proofs.YtgpdjpololkhbaaW.PrintMore Go.Proofs.YtgpdjpololkhbaaB
set_option linter.unusedVariables false
set_option linter.unusedSimpArgs false
def dialB (a b c d : Int) : Bool := inB a (-324000) 324000 && (inB b 0 1295999 && inB c (-324000) 324000) && inB d 1 10000

end Go.Proofs.Ytgpdjpololkhbaa.Pure

namespace Go.Proofs.Ytgpdjpololkhbaa.Pure
open Go.RowKit Go.Proofs.Ytgpdjpololkhbaa.F Go.Proofs.YtgpdjpololkhbaaW.PrintWords Go.Proofs.YtgpdjpololkhbaaW.PrintLast Go.Proofs.YtgpdjpololkhbaaW.PrintMore Go.Proofs.YtgpdjpololkhbaaB
set_option linter.unusedVariables false
set_option linter.unusedSimpArgs false
def risB (most : Int) : Option Int → List Int → Bool
  | _, [] => true
  | p, y :: ys => inB y 0 most && (match p with | none => true | some q => decide (q < y)) && risB most (some y) ys
def prevOf (xs : List Int) (m : Nat) : Option Int := if m = 0 then none else some (xs.getD (m - 1) 0)
theorem prevOf_succ {xs ys : List Int} {y : Int} {m : Nat} (h : xs.drop m = y :: ys) : prevOf xs (m + 1) = some y := by
  unfold prevOf
  rw [if_neg (by omega), Nat.add_sub_cancel, (drop_cons h).2.1]
def risesB (l : List Int) (most : Int) : Bool := risB most none l
theorem rdI {xs ys : List Int} {y : Int} {m : Nat} (h : xs.drop m = y :: ys) : rd xs (m : Int) = y := (drop_cons h).2.1 _

end Go.Proofs.Ytgpdjpololkhbaa.Pure

namespace Go.Proofs.Ytgpdjpololkhbaa.Pure
open Go.RowKit Go.Proofs.Ytgpdjpololkhbaa.F Go.Proofs.YtgpdjpololkhbaaW.PrintWords Go.Proofs.YtgpdjpololkhbaaW.PrintLast Go.Proofs.YtgpdjpololkhbaaW.PrintMore Go.Proofs.YtgpdjpololkhbaaB
set_option linter.unusedVariables false
set_option linter.unusedSimpArgs false
def projB (a b c d e : Int) (xs ys : List Int) : Bool := dialB a b c d && inB e 1901 2099 && (risesB xs 1439 && risesB ys 11) && decide (xs.length + ys.length ≤ 40)

end Go.Proofs.Ytgpdjpololkhbaa.Pure

namespace Go.Proofs.Ytgpdjpololkhbaa.Pure
open Go.RowKit Go.Proofs.Ytgpdjpololkhbaa.F Go.Proofs.YtgpdjpololkhbaaW.PrintWords Go.Proofs.YtgpdjpololkhbaaW.PrintLast Go.Proofs.YtgpdjpololkhbaaW.PrintMore Go.Proofs.YtgpdjpololkhbaaB
set_option linter.unusedVariables false
set_option linter.unusedSimpArgs false
def pjB (x : S69) : Bool := projB x.f0.f0 x.f0.f1.f0 x.f0.f1.f1 x.f0.f2 x.f1 x.f2 x.f3
def parB (m : Nat) (p : Int) : Bool := if m = 0 then p == -1 else inB p 0 (m - 1)
def histFrom (m : Nat) : List S130 → Bool
  | [] => true
  | y :: ys => parB m y.f0 && pjB y.f1 && histFrom (m + 1) ys
theorem histFrom_cons (m : Nat) (y : S130) (ys : List S130) : histFrom m (y :: ys) = (parB m y.f0 && pjB y.f1 && histFrom (m + 1) ys) := rfl
def histB (l : List S130) : Bool := histFrom 0 l && decide (l.length ≤ 12)
theorem rdV {xs ys : List S130} {y : S130} {m : Nat} (h : xs.drop m = y :: ys) : rd_T130 xs (m : Int) = y := (drop_cons h).2.1 _
theorem len12 (l : List S130) : decide ((l.length : Int) ≤ 12) = decide (l.length ≤ 12) := by
  by_cases h : l.length ≤ 12
  · rw [decide_eq_true (by omega), decide_eq_true h]
  · rw [decide_eq_false (by omega), decide_eq_false h]

end Go.Proofs.Ytgpdjpololkhbaa.Pure

namespace Go.Proofs.Ytgpdjpololkhbaa.Pure
open Go.RowKit Go.Proofs.Ytgpdjpololkhbaa.F Go.Proofs.YtgpdjpololkhbaaW.PrintWords Go.Proofs.YtgpdjpololkhbaaW.PrintLast Go.Proofs.YtgpdjpololkhbaaW.PrintMore Go.Proofs.YtgpdjpololkhbaaB
set_option linter.unusedVariables false
set_option linter.unusedSimpArgs false
theorem find_congr {p q : Int → Bool} : ∀ {l : List Int}, (∀ x ∈ l, p x = q x) → l.find? p = l.find? q
  | [], _ => rfl
  | y :: ys, h => by
    have h1 := h y List.mem_cons_self
    have h2 := find_congr (l := ys) (fun x hx => h x (List.mem_cons_of_mem _ hx))
    cases hq : q y
    · rw [List.find?_cons_of_neg (by rw [h1, hq]; simp), List.find?_cons_of_neg (by rw [hq]; simp), h2]
    · rw [List.find?_cons_of_pos (by rw [h1, hq]), List.find?_cons_of_pos hq]
/-- The parent of a version. -/
def par (xs : List S130) (a : Int) : Int := (rd_T130 xs a).f0
theorem histFrom_at : ∀ (ys : List S130) (m j : Nat) (z : S130), histFrom m ys = true → j < ys.length → parB (m + j) (ys.getD j z).f0 = true
  | [], m, j, z, _, h => absurd h (Nat.not_lt_zero _)
  | y :: ys, m, 0, z, h, _ => by
    rw [histFrom_cons] at h
    simp only [Bool.and_eq_true] at h
    exact h.1.1
  | y :: ys, m, j + 1, z, h, hj => by
    rw [histFrom_cons] at h
    simp only [Bool.and_eq_true] at h
    have := histFrom_at ys (m + 1) j z h.2 (by simpa using hj)
    rw [show m + (j + 1) = m + 1 + j by omega]
    exact this
theorem hist_len {xs : List S130} (h : histB xs = true) : xs.length ≤ 12 := by
  unfold histB at h
  simp only [Bool.and_eq_true, decide_eq_true_eq] at h
  exact h.2
theorem par_lt {xs : List S130} (h : histB xs = true) (a : Int) (h0 : 0 ≤ a) (h1 : a < xs.length) : -1 ≤ par xs a ∧ par xs a < a ∧ (0 < a → 0 ≤ par xs a) := by
  unfold histB at h
  simp only [Bool.and_eq_true, decide_eq_true_eq] at h
  have h2 := histFrom_at xs 0 a.toNat z130 h.1 (by omega)
  rw [Nat.zero_add] at h2
  have h3 : parB a.toNat (par xs a) = true := h2
  generalize par xs a = p at *
  unfold parB at h3
  split at h3
  · rename_i hz
    have : p = -1 := by simpa using h3
    omega
  · unfold inB at h3
    have := of_decide_eq_true h3
    omega
def anc (xs : List S130) : Nat → Int → List Int
  | 0, _ => []
  | d + 1, a => if 0 ≤ a then a :: anc xs d (par xs a) else []
theorem anc_pos (xs : List S130) (d : Nat) {a : Int} (h : 0 ≤ a) : anc xs (d + 1) a = a :: anc xs d (par xs a) := if_pos h
theorem anc_neg (xs : List S130) (d : Nat) {a : Int} (h : ¬ 0 ≤ a) : anc xs (d + 1) a = [] := if_neg h
theorem anc_length (xs : List S130) : ∀ (d : Nat) (a : Int), (anc xs d a).length ≤ d
  | 0, _ => Nat.le_refl _
  | d + 1, a => by
    by_cases h : 0 ≤ a
    · rw [anc_pos xs d h, List.length_cons]
      have := anc_length xs d (par xs a)
      omega
    · rw [anc_neg xs d h]
      exact Nat.zero_le _
theorem anc_le {xs : List S130} (hh : histB xs = true) : ∀ (d : Nat) (a x : Int), a < xs.length → x ∈ anc xs d a → 0 ≤ x ∧ x ≤ a
  | 0, _, _, _, h => absurd h List.not_mem_nil
  | d + 1, a, x, hl, h => by
    by_cases h0 : 0 ≤ a
    · rw [anc_pos xs d h0] at h
      rcases List.mem_cons.1 h with h | h
      · omega
      · have hp := par_lt hh a h0 hl
        have := anc_le hh d (par xs a) x (by omega) h
        omega
    · rw [anc_neg xs d h0] at h
      exact absurd h List.not_mem_nil
/-- More rounds change nothing. -/
theorem anc_more {xs : List S130} (hh : histB xs = true) : ∀ (d d' : Nat) (a : Int), a < xs.length → a < d → a < d' → anc xs d a = anc xs d' a
  | 0, 0, _, _, _, _ => rfl
  | 0, d' + 1, a, _, h, _ => (anc_neg xs d' (by omega)).symm
  | d + 1, 0, a, _, _, h => anc_neg xs d (by omega)
  | d + 1, d' + 1, a, hl, h, h' => by
    by_cases h0 : 0 ≤ a
    · have hp := par_lt hh a h0 hl
      rw [anc_pos xs d h0, anc_pos xs d' h0, anc_more hh d d' (par xs a) (by omega) (by omega) (by omega)]
    · rw [anc_neg xs d h0, anc_neg xs d' h0]
def com (xs : List S130) : Nat → Int → Int → Int
  | 0, a, _ => a
  | d + 1, a, b => if a = b then a else if a > b then com xs d (par xs a) b else com xs d a (par xs b)
theorem com_find {xs : List S130} (hh : histB xs = true) : ∀ (d : Nat) (a b : Int), 0 ≤ a → 0 ≤ b → a < xs.length → b < xs.length → a + b < d → (anc xs 13 a).find? (fun x => decide (x ∈ anc xs 13 b)) = some (com xs d a b)
  | 0, a, b, ha, hb, _, _, h => by omega
  | d + 1, a, b, ha, hb, la, lb, h => by
    have hl := hist_len hh
    have pa := par_lt hh a ha la
    have pb := par_lt hh b hb lb
    have ea : anc xs 13 a = a :: anc xs 13 (par xs a) := by rw [anc_pos xs 12 ha, anc_more hh 12 13 (par xs a) (by omega) (by omega) (by omega)]
    have eb : anc xs 13 b = b :: anc xs 13 (par xs b) := by rw [anc_pos xs 12 hb, anc_more hh 12 13 (par xs b) (by omega) (by omega) (by omega)]
    show _ = some (if a = b then a else if a > b then com xs d (par xs a) b else com xs d a (par xs b))
    by_cases h1 : a = b
    · subst h1
      rw [if_pos rfl]
      rw [ea]
      exact List.find?_cons_of_pos (by simp)
    rw [if_neg h1]
    by_cases h2 : a > b
    · rw [if_pos h2, ea]
      have hn : ¬ a ∈ anc xs 13 b := fun hm => by have := anc_le hh 13 b a lb hm; omega
      rw [List.find?_cons_of_neg (by simpa using hn)]
      exact com_find hh d (par xs a) b (pa.2.2 (by omega)) hb (by omega) lb (by omega)
    · rw [if_neg h2, ← com_find hh d a (par xs b) ha (pb.2.2 (by omega)) la (by omega) (by omega)]
      refine find_congr ?_
      intro x hx
      have hxa := anc_le hh 13 a x la hx
      rw [eb]
      have : ¬ x = b := by omega
      simp [this]
def codeH (xs : List S130) (is : List Int) : Int := if histB xs = true then (if is.all (fun i => inB i 0 (xs.length - 1)) = true then 0 else 2) else 1
theorem codeH_zero {xs : List S130} {is : List Int} (h : codeH xs is = 0) : histB xs = true ∧ ∀ i ∈ is, 0 ≤ i ∧ i < xs.length := by
  unfold codeH at h
  split at h
  · rename_i hh
    split at h
    · rename_i ha
      refine ⟨hh, fun i hi => ?_⟩
      have := List.all_eq_true.1 ha i hi
      unfold inB at this
      have := of_decide_eq_true this
      omega
    · cases h
  · cases h
/-- A small list of versions. -/
def smallV (xs : List S130) : Prop := xs.length ≤ 1048576 ∧ ∀ x ∈ xs, x.f1.f2.length ≤ 1048576 ∧ x.f1.f3.length ≤ 1048576
def resAnc (xs : List S130) (a : Int) : List Int × Int := if codeH xs [a] = 0 then (anc xs 13 a, 0) else ([], codeH xs [a])
def resCom (xs : List S130) (a b : Int) : Int × Int := if codeH xs [a, b] = 0 then (com xs 25 a b, 0) else (0, codeH xs [a, b])

end Go.Proofs.Ytgpdjpololkhbaa.Pure

namespace Go.Proofs.Ytgpdjpololkhbaa.Pure
open Go.RowKit Go.Proofs.Ytgpdjpololkhbaa.F Go.Proofs.YtgpdjpololkhbaaW.PrintWords Go.Proofs.YtgpdjpololkhbaaW.PrintLast Go.Proofs.YtgpdjpololkhbaaW.PrintMore Go.Proofs.YtgpdjpololkhbaaB
set_option linter.unusedVariables false
set_option linter.unusedSimpArgs false
theorem impl_ancestors_l0 (xs : List S130) (hh : histB xs = true) : ∀ (d : Nat) (a : Int) (out : List Int), -1 ≤ a → a < xs.length → a < d → out.length + d ≤ 1000 →
    Ev (fun k => impl_ancestors.l0 k xs a out) (out ++ anc xs d a)
  | 0, a, out, h0, h1, h2, ho => by
    refine ev_step (fun _ => rfl) (ev_neg (by omega) (ev_now ?_))
    rw [show anc xs 0 a = [] from rfl, List.append_nil]
  | d + 1, a, out, h0, h1, h2, ho => by
    by_cases h : 0 ≤ a
    · have hp := par_lt hh a h h1
      refine ev_step (fun _ => rfl) (ev_pos h (ev_pos (by omega) (ev_pos h (ev_pos h1 ?_))))
      rw [anc_pos xs d h]
      refine ev_eq (impl_ancestors_l0 xs hh d (par xs a) (out ++ [a]) hp.1 (by omega) (by omega) (by simp; omega)) ?_
      rw [List.append_assoc]
      rfl
    · refine ev_step (fun _ => rfl) (ev_neg h (ev_now ?_))
      rw [anc_neg xs d h, List.append_nil]
theorem impl_ancestors_f (xs : List S130) (hh : histB xs = true) (a : Int) (h0 : 0 ≤ a) (h1 : a < xs.length) : Ev (fun k => impl_ancestors.f k xs a) (anc xs 13 a) :=
  impl_ancestors_l0 xs hh 13 a [] (by omega) h1 (by have := hist_len hh; omega) (by simp)

end Go.Proofs.Ytgpdjpololkhbaa.Pure

namespace Go.Proofs.Ytgpdjpololkhbaa.Pure
open Go.RowKit Go.Proofs.Ytgpdjpololkhbaa.F Go.Proofs.YtgpdjpololkhbaaW.PrintWords Go.Proofs.YtgpdjpololkhbaaW.PrintLast Go.Proofs.YtgpdjpololkhbaaW.PrintMore Go.Proofs.YtgpdjpololkhbaaB
set_option linter.unusedVariables false
set_option linter.unusedSimpArgs false
theorem impl_in_f (a b c : Int) : impl_in.f a b c = some (inB a b c) := inB_if a b c

end Go.Proofs.Ytgpdjpololkhbaa.Pure

namespace Go.Proofs.Ytgpdjpololkhbaa.Pure
open Go.RowKit Go.Proofs.Ytgpdjpololkhbaa.F Go.Proofs.YtgpdjpololkhbaaW.PrintWords Go.Proofs.YtgpdjpololkhbaaW.PrintLast Go.Proofs.YtgpdjpololkhbaaW.PrintMore Go.Proofs.YtgpdjpololkhbaaB
set_option linter.unusedVariables false
set_option linter.unusedSimpArgs false
theorem impl_IsWall_f (a b : Int) : impl_IsWall.f a b = some (inB a 0 1295999 && inB b (-324000) 324000) := by
  simp only [impl_IsWall.f, impl_in_f, Option.bind_some]
  cases inB a 0 1295999 <;> simp

end Go.Proofs.Ytgpdjpololkhbaa.Pure

namespace Go.Proofs.Ytgpdjpololkhbaa.Pure
open Go.RowKit Go.Proofs.Ytgpdjpololkhbaa.F Go.Proofs.YtgpdjpololkhbaaW.PrintWords Go.Proofs.YtgpdjpololkhbaaW.PrintLast Go.Proofs.YtgpdjpololkhbaaW.PrintMore Go.Proofs.YtgpdjpololkhbaaB
set_option linter.unusedVariables false
set_option linter.unusedSimpArgs false
theorem impl_isHeight_f (a : Int) : impl_isHeight.f a = some (inB a 1 10000) := by
  simp only [impl_isHeight.f, impl_in_f, Option.bind_some]

end Go.Proofs.Ytgpdjpololkhbaa.Pure

namespace Go.Proofs.Ytgpdjpololkhbaa.Pure
open Go.RowKit Go.Proofs.Ytgpdjpololkhbaa.F Go.Proofs.YtgpdjpololkhbaaW.PrintWords Go.Proofs.YtgpdjpololkhbaaW.PrintLast Go.Proofs.YtgpdjpololkhbaaW.PrintMore Go.Proofs.YtgpdjpololkhbaaB
set_option linter.unusedVariables false
set_option linter.unusedSimpArgs false
theorem impl_isLatitude_f (a : Int) : impl_isLatitude.f a = some (inB a (-324000) 324000) := by
  simp only [impl_isLatitude.f, impl_in_f, Option.bind_some]

end Go.Proofs.Ytgpdjpololkhbaa.Pure

namespace Go.Proofs.Ytgpdjpololkhbaa.Pure
open Go.RowKit Go.Proofs.Ytgpdjpololkhbaa.F Go.Proofs.YtgpdjpololkhbaaW.PrintWords Go.Proofs.YtgpdjpololkhbaaW.PrintLast Go.Proofs.YtgpdjpololkhbaaW.PrintMore Go.Proofs.YtgpdjpololkhbaaB
set_option linter.unusedVariables false
set_option linter.unusedSimpArgs false
theorem impl_IsDial_f (a b c d : Int) : impl_IsDial.f a b c d = some (dialB a b c d) := by
  simp only [impl_IsDial.f, impl_isLatitude_f, impl_IsWall_f, impl_isHeight_f, Option.bind_some, dialB]
  cases inB a (-324000) 324000 <;> cases (inB b 0 1295999 && inB c (-324000) 324000) <;> simp

end Go.Proofs.Ytgpdjpololkhbaa.Pure

namespace Go.Proofs.Ytgpdjpololkhbaa.Pure
open Go.RowKit Go.Proofs.Ytgpdjpololkhbaa.F Go.Proofs.YtgpdjpololkhbaaW.PrintWords Go.Proofs.YtgpdjpololkhbaaW.PrintLast Go.Proofs.YtgpdjpololkhbaaW.PrintMore Go.Proofs.YtgpdjpololkhbaaB
set_option linter.unusedVariables false
set_option linter.unusedSimpArgs false
theorem impl_Project_few_f (a b c d e : Int) (xs ys : List Int) (hx : xs.length ≤ 4611686018427387903) (hy : ys.length ≤ 4611686018427387903) : impl_Project_few.f a b c d e xs ys = some (decide (xs.length + ys.length ≤ 40)) := by
  unfold impl_Project_few.f
  rw [w64 (by omega) (by omega)]
  by_cases h : xs.length + ys.length ≤ 40
  · rw [decide_eq_true (by omega), decide_eq_true h]
  · rw [decide_eq_false (by omega), decide_eq_false h]

end Go.Proofs.Ytgpdjpololkhbaa.Pure

namespace Go.Proofs.Ytgpdjpololkhbaa.Pure
open Go.RowKit Go.Proofs.Ytgpdjpololkhbaa.F Go.Proofs.YtgpdjpololkhbaaW.PrintWords Go.Proofs.YtgpdjpololkhbaaW.PrintLast Go.Proofs.YtgpdjpololkhbaaW.PrintMore Go.Proofs.YtgpdjpololkhbaaB
set_option linter.unusedVariables false
set_option linter.unusedSimpArgs false
theorem impl_isYear_f (a : Int) : impl_isYear.f a = some (inB a 1901 2099) := by
  simp only [impl_isYear.f, impl_in_f, Option.bind_some]

end Go.Proofs.Ytgpdjpololkhbaa.Pure

namespace Go.Proofs.Ytgpdjpololkhbaa.Pure
open Go.RowKit Go.Proofs.Ytgpdjpololkhbaa.F Go.Proofs.YtgpdjpololkhbaaW.PrintWords Go.Proofs.YtgpdjpololkhbaaW.PrintLast Go.Proofs.YtgpdjpololkhbaaW.PrintMore Go.Proofs.YtgpdjpololkhbaaB
set_option linter.unusedVariables false
set_option linter.unusedSimpArgs false
theorem impl_rising_l0 (xs : List Int) (a : Int) (hx : xs.length ≤ 9223372036854775807) : ∀ (ys : List Int) (m : Nat), xs.drop m = ys →
    Ev (fun k => impl_rising.l0 k xs a xs xs.length m) (risB a (prevOf xs m) ys)
  | [], m, h => by
    have := drop_nil h
    exact ev_step (fun _ => rfl) (ev_neg (by omega) (ev_now rfl))
  | y :: ys, m, h => by
    obtain ⟨hm, _, hd⟩ := drop_cons h
    refine ev_step (fun _ => rfl) (ev_pos (by omega) (ev_pos (by omega) (ev_pos (by omega) ?_)))
    rw [rdI h, w64 (x := (m : Int) + 1) (by omega) (by omega), w64 (x := (m : Int) - 1) (by omega) (by omega)]
    refine ev_some (impl_in_f _ _ _) ?_
    have ih := impl_rising_l0 xs a hx ys (m + 1) hd
    rw [prevOf_succ h] at ih
    unfold risB
    cases inB y 0 a
    · exact ev_neg (by simp) (ev_now (by simp))
    refine ev_pos rfl ?_
    by_cases h0 : m = 0
    · subst h0
      exact ev_neg (by omega) (ev_eq ih (by simp [prevOf]))
    · refine ev_pos (by omega) (ev_pos (by omega) (ev_pos (by omega) ?_))
      have e : rd xs ((m : Int) - 1) = xs.getD (m - 1) 0 := by unfold rd; congr 1; omega
      rw [e]
      unfold prevOf
      rw [if_neg h0]
      refine ev_ite (fun hc => ev_now ?_) (fun hc => ev_eq ih ?_)
      · have : ¬ (xs.getD (m - 1) 0 < y) := by omega
        simp [-List.getD_eq_getElem?_getD, this]
      · have : xs.getD (m - 1) 0 < y := by omega
        simp [-List.getD_eq_getElem?_getD, this]
theorem impl_rising_f (xs : List Int) (a : Int) (hx : xs.length ≤ 9223372036854775807) : Ev (fun k => impl_rising.f k xs a) (risesB xs a) := impl_rising_l0 xs a hx xs 0 rfl

end Go.Proofs.Ytgpdjpololkhbaa.Pure

namespace Go.Proofs.Ytgpdjpololkhbaa.Pure
open Go.RowKit Go.Proofs.Ytgpdjpololkhbaa.F Go.Proofs.YtgpdjpololkhbaaW.PrintWords Go.Proofs.YtgpdjpololkhbaaW.PrintLast Go.Proofs.YtgpdjpololkhbaaW.PrintMore Go.Proofs.YtgpdjpololkhbaaB
set_option linter.unusedVariables false
set_option linter.unusedSimpArgs false
theorem impl_IsProject_f (a b c d e : Int) (xs ys : List Int) (hx : xs.length ≤ 4611686018427387903) (hy : ys.length ≤ 4611686018427387903) : Ev (fun k => impl_IsProject.f k a b c d e xs ys) (projB a b c d e xs ys) := by
  unfold projB
  refine ev_some (impl_IsDial_f a b c d) ?_
  cases dialB a b c d
  · exact ev_neg (by simp) (ev_now (by simp))
  refine ev_pos rfl (ev_some (impl_isYear_f _) ?_)
  cases inB e 1901 2099
  · exact ev_neg (by simp) (ev_now (by simp))
  refine ev_pos rfl (ev_bind (impl_rising_f xs 1439 (by omega)) ?_)
  cases risesB xs 1439
  · exact ev_neg (by simp) (ev_now (by simp))
  refine ev_pos rfl (ev_bind (impl_rising_f ys 11 (by omega)) ?_)
  cases risesB ys 11
  · exact ev_neg (by simp) (ev_now (by simp))
  refine ev_pos rfl (ev_some (impl_Project_few_f _ _ _ _ _ _ _ hx hy) (ev_now (by simp)))

end Go.Proofs.Ytgpdjpololkhbaa.Pure
