/-
  A part of the proof of FnExactPlotTime: contracts of the Go functions that it reaches, and plain statements on what they come to; each says its own conditions.
-/
import Derived.Deep.Slices
import Derived.ChangeArms
import Derived.Test.YtgpdjpololkhbaaKFnExactPlotTime5

namespace Go.Proofs.Ytgpdjpololkhbaa.F
open Go.RowKit Go.Proofs.YtgpdjpololkhbaaW.PrintWords Go.Proofs.YtgpdjpololkhbaaW.PrintLast Go.Proofs.YtgpdjpololkhbaaW.PrintMore
attribute [local go_sem] max2_int min2_int max_two min_two max_three min_three max_four min_four   -- for this text's walks alone
set_option linter.unusedVariables false
set_option linter.unusedSimpArgs false

/-! ### laws_FnExactPlotTime: function 10 -/
def laws_FnExactPlotTime.f (k : Nat) (l0 : List (S139)) (a1 : Int) (a2 : Int) (a3 : Int) : Option (Bool) := (laws_szCommandS.f l0 1048576).bind fun t1003 => (if t1003 < 0 then (some true) else ((laws_toCommandS.f k l0).bind fun t1004 => ((spec_PlotTime.f k t1004 a1 a2 a3).bind fun bt1007 => ((laws_toCommandS.f k l0).bind fun t1009 => ((impl_PlotTime.f k t1009 a1 a2 a3).bind fun bt1012 => (if bt1012.1 = bt1007.1 then (if bt1012.2 = bt1007.2 then ((laws_toCommandS.f k l0).bind fun t1014 => ((laws_eqCommandS.f k t1009 t1014).bind fun t1017 => (if t1017 = true then (some true) else (none)))) else (none)) else (none)))))))
theorem laws_FnExactPlotTime.mono : ∀ a0 a1 a2 a3 k, LeO (laws_FnExactPlotTime.f k a0 a1 a2 a3) (laws_FnExactPlotTime.f (k + 1) a0 a1 a2 a3) := by
  intro a0 a1 a2 a3 k
  unfold laws_FnExactPlotTime.f
  repeat' first
      | (with_reducible exact impl_PlotTime.mono _ _ _ _ _)
      | (with_reducible exact laws_eqCommandS.mono _ _ _)
      | (with_reducible exact laws_toCommandS.mono _ _)
      | (with_reducible exact spec_PlotTime.mono _ _ _ _ _)
      | (with_reducible exact LeO.refl _)
      | (with_reducible exact LeO.none _)
      | (with_reducible refine LeO.ite ?_ ?_)
      | (with_reducible refine LeO.bind ?_ (fun _ => ?_))
      | exact impl_PlotTime.mono _ _ _ _ _
      | exact laws_eqCommandS.mono _ _ _
      | exact laws_toCommandS.mono _ _
      | exact spec_PlotTime.mono _ _ _ _ _
      | exact LeO.none _
      | refine LeO.ite ?_ ?_
      | refine LeO.bind ?_ (fun _ => ?_)
set_option maxHeartbeats 8000000 in
set_option maxRecDepth 100000 in
theorem laws_FnExactPlotTime.calls (k : Nat) (A0 : Option Addr) (c0 : Nat) (l0 : List (S139)) (a1 : Int) (a2 : Int) (a3 : Int) (r : Bool) (w : World) (hr0 : Kd.C k139 w A0 l0.length l0) (hc0 : l0.length ≤ c0) (h : laws_FnExactPlotTime.f k l0 a1 a2 a3 = some r) :
    Calls Try.prog 10 #[.slice A0 l0.length c0, .int .i64 a1, .int .i64 a2, .int .i64 a3] w fun e w' => e = .returned (.bool r) ∧ Below w.heap.size w w' := by
  have HR0 := Aside0.mk hr0
  have HC0 := Aside0.mk hc0
  clear hr0 hc0
  have HB := Aside0.mk (Below.refl w.heap.size w)
  have H : ((laws_szCommandS.f l0 1048576).bind fun t1003 => (if t1003 < 0 then (some true) else ((laws_toCommandS.f k l0).bind fun t1004 => ((spec_PlotTime.f k t1004 a1 a2 a3).bind fun bt1007 => ((laws_toCommandS.f k l0).bind fun t1009 => ((impl_PlotTime.f k t1009 a1 a2 a3).bind fun bt1012 => (if bt1012.1 = bt1007.1 then (if bt1012.2 = bt1007.2 then ((laws_toCommandS.f k l0).bind fun t1014 => ((laws_eqCommandS.f k t1009 t1014).bind fun t1017 => (if t1017 = true then (some true) else (none)))) else (none)) else (none)))))))) = some r := h
  clear h
  replace H := Option.bind_eq_some_iff.mp H
  obtain ⟨t1003, A50, H⟩ := H
  replace H : (if t1003 < 0 then (some true) else ((laws_toCommandS.f k l0).bind fun t1004 => ((spec_PlotTime.f k t1004 a1 a2 a3).bind fun bt1007 => ((laws_toCommandS.f k l0).bind fun t1009 => ((impl_PlotTime.f k t1009 a1 a2 a3).bind fun bt1012 => (if bt1012.1 = bt1007.1 then (if bt1012.2 = bt1007.2 then ((laws_toCommandS.f k l0).bind fun t1014 => ((laws_eqCommandS.f k t1009 t1014).bind fun t1017 => (if t1017 = true then (some true) else (none)))) else (none)) else (none))))))) = some r := H
  have A5 := Aside0.mk A50
  clear A50
  by_cases c6 : t1003 < 0
  · rw [if_pos c6] at H
    have c6b0 : decide (t1003 < 0) = true := decide_eq_true c6
    clear c6
    obtain rfl := Option.some.inj H
    go_enter Try.func10, Try.ntmps10
    go_wp2_with (first | ((with_reducible refine gate_callee (f := 30) rfl ?_); refine goesL_ (some 17) rfl rfl Try.func30 (by kernel_rfl) rfl #[.slice A0 l0.length c0, .int .i64 1048576] rfl (by (try simp only [List.map_toArray, List.map_cons, List.map_nil]); first | done | rfl | (simp only [List.length_drop, List.length_take]; rfl)) ?_; (with_reducible refine (laws_szCommandS.calls _ _ l0 1048576 t1003 _ ?side1 ?side2 A5.out).mono ?_); (case side1 => repeat (first | exact HR0.out | (with_reducible refine Kd.C_alloc ?_ _) | (with_reducible refine Kd.C_drewN ?_ _) | (with_reducible refine Kd.C_drew ?_))); (case side2 => exact HC0.out); rintro e w' ⟨rfl, ⟨nd, rfl⟩⟩; refine ⟨_, rfl, ?_⟩))
    go_ret
    exact ⟨by first | rfl | (simp [errW_none, errW_some] <;> rfl) | (simp [*, errW_none, errW_some] <;> rfl), by repeat (first | (with_reducible first | exact HB.out | apply below_alloc | apply pw_below_drewN | apply below_drew1) | exact HB.out)⟩
  · rw [if_neg c6] at H
    have c6b0 : decide (t1003 < 0) = false := decide_eq_false c6
    clear c6
    replace H := Option.bind_eq_some_iff.mp H
    obtain ⟨t1004, A70, H⟩ := H
    replace H : ((spec_PlotTime.f k t1004 a1 a2 a3).bind fun bt1007 => ((laws_toCommandS.f k l0).bind fun t1009 => ((impl_PlotTime.f k t1009 a1 a2 a3).bind fun bt1012 => (if bt1012.1 = bt1007.1 then (if bt1012.2 = bt1007.2 then ((laws_toCommandS.f k l0).bind fun t1014 => ((laws_eqCommandS.f k t1009 t1014).bind fun t1017 => (if t1017 = true then (some true) else (none)))) else (none)) else (none))))) = some r := H
    have A7 := Aside0.mk A70
    clear A70
    replace H := Option.bind_eq_some_iff.mp H
    obtain ⟨⟨t1007, t1008⟩, A80, H⟩ := H
    replace H : ((laws_toCommandS.f k l0).bind fun t1009 => ((impl_PlotTime.f k t1009 a1 a2 a3).bind fun bt1012 => (if bt1012.1 = t1007 then (if bt1012.2 = t1008 then ((laws_toCommandS.f k l0).bind fun t1014 => ((laws_eqCommandS.f k t1009 t1014).bind fun t1017 => (if t1017 = true then (some true) else (none)))) else (none)) else (none)))) = some r := H
    have A8 := Aside0.mk A80
    clear A80
    replace H := Option.bind_eq_some_iff.mp H
    obtain ⟨t1009, A90, H⟩ := H
    replace H : ((impl_PlotTime.f k t1009 a1 a2 a3).bind fun bt1012 => (if bt1012.1 = t1007 then (if bt1012.2 = t1008 then ((laws_toCommandS.f k l0).bind fun t1014 => ((laws_eqCommandS.f k t1009 t1014).bind fun t1017 => (if t1017 = true then (some true) else (none)))) else (none)) else (none))) = some r := H
    have A9 := Aside0.mk A90
    clear A90
    replace H := Option.bind_eq_some_iff.mp H
    obtain ⟨⟨t1012, t1013⟩, A100, H⟩ := H
    replace H : (if t1012 = t1007 then (if t1013 = t1008 then ((laws_toCommandS.f k l0).bind fun t1014 => ((laws_eqCommandS.f k t1009 t1014).bind fun t1017 => (if t1017 = true then (some true) else (none)))) else (none)) else (none)) = some r := H
    have A10 := Aside0.mk A100
    clear A100
    by_cases c11 : t1012 = t1007
    · rw [if_pos c11] at H
      have c11b0 : (t1012 == t1007) = true := beq_iff_eq.mpr c11
      have c11b1 : (t1012 != t1007) = false := bne_eq_false_iff_eq.mpr c11
      clear c11
      by_cases c12 : t1013 = t1008
      · rw [if_pos c12] at H
        have c12b0 : (t1013 == t1008) = true := beq_iff_eq.mpr c12
        have c12b1 : (t1013 != t1008) = false := bne_eq_false_iff_eq.mpr c12
        clear c12
        replace H := Option.bind_eq_some_iff.mp H
        obtain ⟨t1014, A130, H⟩ := H
        replace H : ((laws_eqCommandS.f k t1009 t1014).bind fun t1017 => (if t1017 = true then (some true) else (none))) = some r := H
        have A13 := Aside0.mk A130
        clear A130
        replace H := Option.bind_eq_some_iff.mp H
        obtain ⟨t1017, A140, H⟩ := H
        replace H : (if t1017 = true then (some true) else (none)) = some r := H
        have A14 := Aside0.mk A140
        clear A140
        by_cases c15 : t1017 = true
        · subst c15
          have H1 : (some true) = some r := by rw [if_pos rfl] at H; exact H
          clear H
          have H := H1
          clear H1
          obtain rfl := Option.some.inj H
          go_enter Try.func10, Try.ntmps10
          go_wp2_with (first | ((with_reducible refine gate_callee (f := 30) rfl ?_); refine goesL_ (some 17) rfl rfl Try.func30 (by kernel_rfl) rfl #[.slice A0 l0.length c0, .int .i64 1048576] rfl (by (try simp only [List.map_toArray, List.map_cons, List.map_nil]); first | done | rfl | (simp only [List.length_drop, List.length_take]; rfl)) ?_; (with_reducible refine (laws_szCommandS.calls _ _ l0 1048576 t1003 _ ?side1 ?side2 A5.out).mono ?_); (case side1 => repeat (first | exact HR0.out | (with_reducible refine Kd.C_alloc ?_ _) | (with_reducible refine Kd.C_drewN ?_ _) | (with_reducible refine Kd.C_drew ?_))); (case side2 => exact HC0.out); rintro e w' ⟨rfl, ⟨nd, rfl⟩⟩; refine ⟨_, rfl, ?_⟩) | ((with_reducible refine gate_callee (f := 32) rfl ?_); refine goesL_ (some 22) rfl rfl Try.func32 (by kernel_rfl) rfl #[.slice A0 l0.length c0] rfl (by (try simp only [List.map_toArray, List.map_cons, List.map_nil]); first | done | rfl | (simp only [List.length_drop, List.length_take]; rfl)) ?_; (with_reducible refine (laws_toCommandS.calls k _ _ l0 t1004 _ ?side1 ?side2 A7.out).mono ?_); (case side1 => repeat (first | exact HR0.out | (with_reducible refine Kd.C_alloc ?_ _) | (with_reducible refine Kd.C_drewN ?_ _) | (with_reducible refine Kd.C_drew ?_))); (case side2 => exact HC0.out); rintro e w16 ⟨v1005, rfl, ho0, hb⟩; refine ⟨_, rfl, ?_⟩; have n0_ := Aside0.mk (Kd.R_lower ho0 (below_size (by repeat (first | (with_reducible first | exact HB.out | apply below_alloc | apply pw_below_drewN | apply below_drew1) | exact HB.out)))); have n1_ := Aside0.mk (below_step (by repeat (first | (with_reducible first | exact HB.out | apply below_alloc | apply pw_below_drewN | apply below_drew1) | exact HB.out)) hb); clear HB; have HO1006 := n0_; have HB := n1_; clear n0_ n1_; (try clear hb); (try clear hb2); (try clear hk); (try clear hi); (try clear ho0); obtain ⟨Ao17, co17, eo17⟩ := Kd.R_slice HO1006.out; subst eo17) | ((with_reducible refine gate_callee (f := 53) rfl ?_); refine goesL_ (some 26) rfl rfl Try.func53 (by kernel_rfl) rfl #[.slice Ao17 t1004.length co17, .int .i64 a1, .int .i64 a2, .int .i64 a3] rfl (by (try simp only [List.map_toArray, List.map_cons, List.map_nil]); first | done | rfl | (simp only [List.length_drop, List.length_take]; rfl)) ?_; (with_reducible refine (spec_PlotTime.calls k _ _ t1004 a1 a2 a3 t1007 t1008 _ ?side1 ?side2 A8.out).mono ?_); (case side1 => repeat (first | exact (Kd.R_reads' HO1006.out).2.2 | (with_reducible refine Kd.C_alloc ?_ _) | (with_reducible refine Kd.C_drewN ?_ _) | (with_reducible refine Kd.C_drew ?_))); (case side2 => exact (Kd.R_reads' HO1006.out).2.1); rintro e w18 ⟨rfl, hb⟩; refine ⟨_, rfl, ?_⟩; have n0_ := Aside0.mk (Kd.R_below (by (with_reducible repeat (first | apply Kd.R_alloc | apply Kd.R_drewN | apply Kd.R_drew)); exact HO1006.out) hb); have n1_ := Aside0.mk (below_step (by repeat (first | (with_reducible first | exact HB.out | apply below_alloc | apply pw_below_drewN | apply below_drew1) | exact HB.out)) hb); clear HO1006; clear HB; have HO1006 := n0_; have HB := n1_; clear n0_ n1_; (try clear hb); (try clear hb2); (try clear hk); (try clear hi)) | ((with_reducible refine gate_callee (f := 32) rfl ?_); refine goesL_ (some 30) rfl rfl Try.func32 (by kernel_rfl) rfl #[.slice A0 l0.length c0] rfl (by (try simp only [List.map_toArray, List.map_cons, List.map_nil]); first | done | rfl | (simp only [List.length_drop, List.length_take]; rfl)) ?_; (with_reducible refine (laws_toCommandS.calls k _ _ l0 t1009 _ ?side1 ?side2 A9.out).mono ?_); (case side1 => repeat (first | exact (Kd.C_below HR0.out HB.out) | (with_reducible refine Kd.C_alloc ?_ _) | (with_reducible refine Kd.C_drewN ?_ _) | (with_reducible refine Kd.C_drew ?_))); (case side2 => exact HC0.out); rintro e w19 ⟨v1010, rfl, ho0, hb⟩; refine ⟨_, rfl, ?_⟩; have n0_ := Aside0.mk (Kd.R_elder' (by (with_reducible repeat (first | apply Kd.R_alloc | apply Kd.R_drewN | apply Kd.R_drew)); exact HO1006.out) (Kd.R_base ho0) hb); have n1_ := Aside0.mk (Kd.R_lower (Kd.R_new' ho0 (Kd.R_lt (by (with_reducible repeat (first | apply Kd.R_alloc | apply Kd.R_drewN | apply Kd.R_drew)); exact HO1006.out))) (below_size (by repeat (first | (with_reducible first | exact HB.out | apply below_alloc | apply pw_below_drewN | apply below_drew1) | exact HB.out)))); have n2_ := Aside0.mk (below_step (by repeat (first | (with_reducible first | exact HB.out | apply below_alloc | apply pw_below_drewN | apply below_drew1) | exact HB.out)) hb); clear HO1006; clear HB; have HO1006 := n0_; have HO1011 := n1_; have HB := n2_; clear n0_ n1_ n2_; (try clear hb); (try clear hb2); (try clear hk); (try clear hi); (try clear ho0); obtain ⟨Ao20, co20, eo20⟩ := Kd.R_slice HO1011.out; subst eo20) | ((with_reducible refine gate_callee (f := 54) rfl ?_); refine goesL_ (some 36) rfl rfl Try.func54 (by kernel_rfl) rfl #[.slice Ao20 t1009.length co20, .int .i64 a1, .int .i64 a2, .int .i64 a3] rfl (by (try simp only [List.map_toArray, List.map_cons, List.map_nil]); first | done | rfl | (simp only [List.length_drop, List.length_take]; rfl)) ?_; (with_reducible refine (impl_PlotTime.calls k _ _ t1009 a1 a2 a3 t1012 t1013 _ ?side1 ?side2 A10.out).mono ?_); (case side1 => repeat (first | exact (Kd.R_reads' HO1011.out).2.2 | (with_reducible refine Kd.C_alloc ?_ _) | (with_reducible refine Kd.C_drewN ?_ _) | (with_reducible refine Kd.C_drew ?_))); (case side2 => exact (Kd.R_reads' HO1011.out).2.1); rintro e w21 ⟨rfl, hb⟩; refine ⟨_, rfl, ?_⟩; have n0_ := Aside0.mk (Kd.R_below (by (with_reducible repeat (first | apply Kd.R_alloc | apply Kd.R_drewN | apply Kd.R_drew)); exact HO1006.out) hb); have n1_ := Aside0.mk (Kd.R_below (by (with_reducible repeat (first | apply Kd.R_alloc | apply Kd.R_drewN | apply Kd.R_drew)); exact HO1011.out) hb); have n2_ := Aside0.mk (below_step (by repeat (first | (with_reducible first | exact HB.out | apply below_alloc | apply pw_below_drewN | apply below_drew1) | exact HB.out)) hb); clear HO1006; clear HO1011; clear HB; have HO1006 := n0_; have HO1011 := n1_; have HB := n2_; clear n0_ n1_ n2_; (try clear hb); (try clear hb2); (try clear hk); (try clear hi)) | ((with_reducible refine gate_callee (f := 32) rfl ?_); refine goesL_ (some 49) rfl rfl Try.func32 (by kernel_rfl) rfl #[.slice A0 l0.length c0] rfl (by (try simp only [List.map_toArray, List.map_cons, List.map_nil]); first | done | rfl | (simp only [List.length_drop, List.length_take]; rfl)) ?_; (with_reducible refine (laws_toCommandS.calls k _ _ l0 t1014 _ ?side1 ?side2 A13.out).mono ?_); (case side1 => repeat (first | exact (Kd.C_below HR0.out HB.out) | (with_reducible refine Kd.C_alloc ?_ _) | (with_reducible refine Kd.C_drewN ?_ _) | (with_reducible refine Kd.C_drew ?_))); (case side2 => exact HC0.out); rintro e w22 ⟨v1015, rfl, ho0, hb⟩; refine ⟨_, rfl, ?_⟩; have n0_ := Aside0.mk (Kd.R_elder' (by (with_reducible repeat (first | apply Kd.R_alloc | apply Kd.R_drewN | apply Kd.R_drew)); exact HO1006.out) (Kd.R_base ho0) hb); have n1_ := Aside0.mk (Kd.R_elder' (by (with_reducible repeat (first | apply Kd.R_alloc | apply Kd.R_drewN | apply Kd.R_drew)); exact HO1011.out) (Kd.R_base ho0) hb); have n2_ := Aside0.mk (Kd.R_lower (Kd.R_new' (Kd.R_new' ho0 (Kd.R_lt (by (with_reducible repeat (first | apply Kd.R_alloc | apply Kd.R_drewN | apply Kd.R_drew)); exact HO1006.out))) (Kd.R_lt (by (with_reducible repeat (first | apply Kd.R_alloc | apply Kd.R_drewN | apply Kd.R_drew)); exact HO1011.out))) (below_size (by repeat (first | (with_reducible first | exact HB.out | apply below_alloc | apply pw_below_drewN | apply below_drew1) | exact HB.out)))); have n3_ := Aside0.mk (below_step (by repeat (first | (with_reducible first | exact HB.out | apply below_alloc | apply pw_below_drewN | apply below_drew1) | exact HB.out)) hb); clear HO1006; clear HO1011; clear HB; have HO1006 := n0_; have HO1011 := n1_; have HO1016 := n2_; have HB := n3_; clear n0_ n1_ n2_ n3_; (try clear hb); (try clear hb2); (try clear hk); (try clear hi); (try clear ho0); obtain ⟨Ao23, co23, eo23⟩ := Kd.R_slice HO1016.out; subst eo23) | ((with_reducible refine gate_callee (f := 35) rfl ?_); refine goesL_ (some 50) rfl rfl Try.func35 (by kernel_rfl) rfl #[.slice Ao20 t1009.length co20, .slice Ao23 t1014.length co23] rfl (by (try simp only [List.map_toArray, List.map_cons, List.map_nil]); first | done | rfl | (simp only [List.length_drop, List.length_take]; rfl)) ?_; (with_reducible refine (laws_eqCommandS.calls k _ _ t1009 _ _ t1014 true _ ?side1 ?side2 ?side3 ?side4 A14.out).mono ?_); (case side1 => repeat (first | exact (Kd.R_reads' HO1011.out).2.2 | (with_reducible refine Kd.C_alloc ?_ _) | (with_reducible refine Kd.C_drewN ?_ _) | (with_reducible refine Kd.C_drew ?_))); (case side2 => exact (Kd.R_reads' HO1011.out).2.1); (case side3 => repeat (first | exact (Kd.R_reads' HO1016.out).2.2 | (with_reducible refine Kd.C_alloc ?_ _) | (with_reducible refine Kd.C_drewN ?_ _) | (with_reducible refine Kd.C_drew ?_))); (case side4 => exact (Kd.R_reads' HO1016.out).2.1); rintro e w24 ⟨rfl, hb⟩; refine ⟨_, rfl, ?_⟩; have n0_ := Aside0.mk (Kd.R_below (by (with_reducible repeat (first | apply Kd.R_alloc | apply Kd.R_drewN | apply Kd.R_drew)); exact HO1006.out) hb); have n1_ := Aside0.mk (Kd.R_below (by (with_reducible repeat (first | apply Kd.R_alloc | apply Kd.R_drewN | apply Kd.R_drew)); exact HO1011.out) hb); have n2_ := Aside0.mk (Kd.R_below (by (with_reducible repeat (first | apply Kd.R_alloc | apply Kd.R_drewN | apply Kd.R_drew)); exact HO1016.out) hb); have n3_ := Aside0.mk (below_step (by repeat (first | (with_reducible first | exact HB.out | apply below_alloc | apply pw_below_drewN | apply below_drew1) | exact HB.out)) hb); clear HO1006; clear HO1011; clear HO1016; clear HB; have HO1006 := n0_; have HO1011 := n1_; have HO1016 := n2_; have HB := n3_; clear n0_ n1_ n2_ n3_; (try clear hb); (try clear hb2); (try clear hk); (try clear hi)))
          go_ret
          exact ⟨by first | rfl | (simp [errW_none, errW_some] <;> rfl) | (simp [*, errW_none, errW_some] <;> rfl), by repeat (first | (with_reducible first | exact HB.out | apply below_alloc | apply pw_below_drewN | apply below_drew1) | exact HB.out)⟩
        · replace c15 := Bool.eq_false_iff.mpr c15
          subst c15
          have H1 : (none) = some r := by rw [if_neg (show ¬ (false = true) by decide)] at H; exact H
          clear H
          have H := H1
          clear H1
          exact absurd H (by simp)
      · rw [if_neg c12] at H
        exact absurd H (by simp)
    · rw [if_neg c11] at H
      exact absurd H (by simp)

end Go.Proofs.Ytgpdjpololkhbaa.F

namespace Go.Proofs.YtgpdjpololkhbaaO
open Go.RowKit Go.Proofs.YtgpdjpololkhbaaW.PrintWords
set_option linter.unusedVariables false

/-- What reads as data of type t is told by the kind d, and what it tells is G. -/
def Opens {H α : Type} (enc : TypeId × Value → H) (P : Program) (w : World) (d : Kd α) (t : TypeId) (G : α → Prop) : Prop :=
  ∀ (spare : Nat → Bool) (held : Bool) (base fuel : Nat) (cs : List Value) (x : DataW H × List MemPlace),
    DataW.trod enc P w base spare held fuel t cs = some x → ∃ a, d.K w a cs ∧ G a

section
variable {H α β : Type} {enc : TypeId × Value → H} {P : Program} {w : World}

theorem opens_int {t : TypeId} {k : IntKind} (ht : P.underlying t = some (.int k)) : Opens enc P w (Kd.int k) t (fun n => (Lit.int k n).wf = true) := by
  intro spare held base fuel cs x h
  obtain ⟨n, rfl, _, hw⟩ := DataW.trod_int ht h
  exact ⟨n, rfl, hw⟩

theorem opens_bool {t : TypeId} (ht : P.underlying t = some .bool) : Opens enc P w Kd.bool t (fun _ => True) := by
  intro spare held base fuel cs x h
  obtain ⟨n, rfl, _⟩ := DataW.trod_bool ht h
  exact ⟨n, rfl, trivial⟩

theorem opens_string {t : TypeId} (ht : P.underlying t = some .string) : Opens enc P w Kd.string t (fun s => s.size ≤ maxLen) := by
  intro spare held base fuel cs x h
  obtain ⟨n, rfl, _, hw⟩ := DataW.trod_string ht h
  exact ⟨n, rfl, hw⟩

theorem choose_list {p : Nat → α → Prop} : ∀ n, (∀ i, i < n → ∃ x, p i x) → ∃ l : List α, l.length = n ∧ ∀ i x, l[i]? = some x → p i x
  | 0, _ => ⟨[], rfl, fun i x h => by simp at h⟩
  | n + 1, h => by
    obtain ⟨l, hl, hp⟩ := choose_list n (fun i hi => h i (by omega))
    obtain ⟨x, hx⟩ := h n (by omega)
    refine ⟨l ++ [x], by simp [hl], fun i y hy => ?_⟩
    rcases Nat.lt_or_ge i n with hi | hi
    · rw [List.getElem?_append_left (by omega)] at hy
      exact hp i y hy
    · rw [List.getElem?_append_right (by omega), hl] at hy
      have : i - n = 0 := by
        rcases Nat.eq_zero_or_pos (i - n) with h0 | h0
        · exact h0
        · rw [List.getElem?_eq_none (by simp; omega)] at hy
          cases hy
      rw [this] at hy
      have : i = n := by omega
      subst this
      simp at hy
      exact hy ▸ hx

/-- A slice: its elements. -/
theorem opens_row {t e : TypeId} {d : Kd α} {G : α → Prop} (ht : P.underlying t = some (.slice e)) (hs : P.cellsOf e = d.sz) (he : Opens enc P w d e G)
    {spare : Nat → Bool} {held : Bool} {base fuel : Nat} {cs : List Value} {x : DataW H × List MemPlace} (h : DataW.trod enc P w base spare held fuel t cs = some x) :
    ∃ (A : Option Addr) (xs : List α) (c : Nat), cs = [.slice A xs.length c] ∧ xs.length ≤ c ∧ c ≤ maxLen ∧ d.C w A xs.length xs ∧ ∀ a ∈ xs, G a := by
  rcases Go.Deep.open_slice ht h with ⟨rfl, _⟩ | ⟨a, len, cap, m, n, D, Pl, rfl, hb, hl, hm, hmm, _, hx⟩
  · exact ⟨none, [], 0, rfl, Nat.le_refl _, by unfold maxLen; omega, ⟨rfl, by simp, fun h => absurd h (by simp)⟩, fun a ha => by simp at ha⟩
  · have hlm : len ≤ m := by rw [hmm]; split <;> omega
    obtain ⟨xs, hxl, hxs⟩ := choose_list (p := fun i (b : α) => (∃ c, c.length = d.sz ∧ d.K w b c ∧ ∀ j u, c[j]? = some u → w.cell? (a.add (i * d.sz + j)) = some u) ∧ G b) len (fun i hi => by
      obtain ⟨cs', h1, h2⟩ := hx i (by omega)
      obtain ⟨_, hcl, hc⟩ := World.cells?_some h1
      obtain ⟨b, hK, hG⟩ := he _ _ _ _ _ _ h2
      refine ⟨b, ⟨cs', by rw [hcl, hs], hK, fun j u hj => ?_⟩, hG⟩
      have hjl : j < P.cellsOf e := by rw [← hcl]; exact (List.getElem?_eq_some_iff.1 hj).1
      have := hc j hjl
      rw [hs] at this
      rw [hj] at this
      rw [← this, Go.Deep.add_add])
    subst hxl
    refine ⟨some a, xs, cap, rfl, hl, hm, ⟨rfl, by unfold maxLen at hm; omega, fun _ => ⟨a, rfl, fun j p hj => (hxs j p hj).1⟩⟩, fun b hb => ?_⟩
    obtain ⟨i, hi, rfl⟩ := List.getElem_of_mem hb
    exact (hxs i _ (List.getElem?_eq_getElem hi)).2

theorem opens_slice {t e e' : TypeId} {d : Kd α} {G : α → Prop} (ht : P.underlying t = some (.slice e)) (hs : P.cellsOf e = d.sz) (he : Opens enc P w d e G) :
    Opens enc P w (Kd.slice e' d) t (fun xs => xs.length ≤ maxLen ∧ ∀ a ∈ xs, G a) := by
  intro spare held base fuel cs x h
  obtain ⟨A, xs, c, rfl, hl, hm, hC, hG⟩ := opens_row ht hs he h
  exact ⟨xs, ⟨A, c, rfl, hl, hC⟩, by omega, hG⟩

/-- The fields of a struct from offset o on. -/
def OpensF (enc : TypeId × Value → H) (P : Program) (w : World) (d : Kd α) (fs : List Field) (o : Nat) (G : α → Prop) : Prop :=
  ∀ (spare : Nat → Bool) (held : Bool) (base fuel : Nat) (cs : List Value), cs.length = o + d.sz →
    (∀ f ∈ fs, ∃ x, DataW.trod enc P w base spare held fuel f.type ((cs.drop f.offset).take (P.cellsOf f.type)) = some x) → ∃ a, d.K w a (cs.drop o) ∧ G a

theorem opensF_last {d : Kd α} {f : Field} {o : Nat} {G : α → Prop} (ho : f.offset = o) (hs : P.cellsOf f.type = d.sz) (h : Opens enc P w d f.type G) : OpensF enc P w d [f] o G := by
  intro spare held base fuel cs hl hf
  obtain ⟨x, hx⟩ := hf f (List.mem_singleton.2 rfl)
  rw [ho, hs, List.take_of_length_le (by rw [List.length_drop]; omega)] at hx
  exact h _ _ _ _ _ _ hx

theorem opensF_cons {d : Kd α} {d' : Kd β} {f : Field} {fs : List Field} {o : Nat} {G : α → Prop} {G' : β → Prop} (ho : f.offset = o) (hs : P.cellsOf f.type = d.sz) (h : Opens enc P w d f.type G)
    (hr : OpensF enc P w d' fs (o + d.sz) G') : OpensF enc P w (Kd.pair d d') (f :: fs) o (fun x => G x.1 ∧ G' x.2) := by
  intro spare held base fuel cs hl hf
  have hl' : cs.length = o + (d.sz + d'.sz) := hl
  obtain ⟨x, hx⟩ := hf f List.mem_cons_self
  rw [ho, hs] at hx
  obtain ⟨a, hK, hG⟩ := h _ _ _ _ _ _ hx
  obtain ⟨b, hK', hG'⟩ := hr spare held base fuel cs (by omega) (fun g hg => hf g (List.mem_cons_of_mem _ hg))
  refine ⟨(a, b), ⟨_, _, ?_, hK, hK'⟩, hG, hG'⟩
  rw [← List.drop_drop, List.take_append_drop]

/-- A struct by its fields, as a Lean structure: f takes it apart, g puts it together. -/
theorem opens_struct {t : TypeId} {fs : Array Field} {d : Kd α} {G : α → Prop} (ht : P.underlying t = some (.struct fs)) (hs : P.cellsOf t = d.sz) (f : β → α) (g : α → β) (hfg : ∀ a, f (g a) = a) (h : OpensF enc P w d fs.toList 0 G) :
    Opens enc P w (Kd.iso d f) t (fun b => G (f b)) := by
  intro spare held base fuel cs x hx
  obtain ⟨xs, n, rfl, _, hl, hxl, hf⟩ := DataW.trod_struct ht hx
  obtain ⟨a, hK, hG⟩ := h spare held base n cs (by rw [hl, hs]; omega) (fun z hz => by
    obtain ⟨i, hi, rfl⟩ := List.getElem_of_mem hz
    have hi' : i < fs.size := by simpa using hi
    refine ⟨xs[i]'(by omega), ?_⟩
    rw [Array.getElem_toList]
    rw [hf i _ (Array.getElem?_eq_getElem hi'), List.getElem?_eq_getElem (by omega)])
  refine ⟨g a, ?_, by show G (f (g a)); rw [hfg]; exact hG⟩
  show d.K w (f (g a)) cs
  rw [hfg]
  exact hK

theorem Opens.mono {d : Kd α} {t : TypeId} {G G' : α → Prop} (h : Opens enc P w d t G) (hg : ∀ a, G a → G' a) : Opens enc P w d t G' := by
  intro spare held base fuel cs x hx
  obtain ⟨a, hK, hG⟩ := h _ _ _ _ _ _ hx
  exact ⟨a, hK, hg a hG⟩
end
end Go.Proofs.YtgpdjpololkhbaaO

namespace Go.Proofs.Ytgpdjpololkhbaa.F
open Go.RowKit Go.Proofs.YtgpdjpololkhbaaW.PrintWords Go.Proofs.YtgpdjpololkhbaaO
set_option linter.unusedVariables false

def g2 (x : Int) : Prop := (Lit.int .i64 x).wf = true
def g87 (x : S87) : Prop := ((Lit.int .i64 x.f0).wf = true) ∧ ((Lit.int .i64 x.f1).wf = true)
theorem o87 {H : Type} {enc : TypeId × Value → H} {w : World} : Opens enc Try.prog w k87 87 g87 := (opens_struct (β := S87) Try.underlying87 (by kernel_rfl) (fun x => (x.f0, x.f1)) (fun p => ⟨p.1, p.2⟩) (fun _ => rfl) (opensF_cons rfl (by kernel_rfl) (opens_int Try.underlying2) (opensF_last rfl (by kernel_rfl) (opens_int Try.underlying2)))).mono (fun _ h => h)
def g104 (x : (List S87)) : Prop := x.length ≤ maxLen ∧ ∀ y ∈ x, g87 y
def g106 (x : S106) : Prop := ((Lit.int .i64 x.f0).wf = true) ∧ (x.f1.length ≤ maxLen ∧ ∀ y ∈ x.f1, g87 y)
theorem o106 {H : Type} {enc : TypeId × Value → H} {w : World} : Opens enc Try.prog w k106 106 g106 := (opens_struct (β := S106) Try.underlying106 (by kernel_rfl) (fun x => (x.f0, x.f1)) (fun p => ⟨p.1, p.2⟩) (fun _ => rfl) (opensF_cons rfl (by kernel_rfl) (opens_int Try.underlying2) (opensF_last rfl (by kernel_rfl) (opens_slice (e' := 87) Try.underlying104 (by kernel_rfl) o87)))).mono (fun _ h => h)
def g58 (x : S58) : Prop := ((Lit.int .i64 x.f0).wf = true) ∧ ((Lit.int .i64 x.f1).wf = true)
theorem o58 {H : Type} {enc : TypeId × Value → H} {w : World} : Opens enc Try.prog w k58 58 g58 := (opens_struct (β := S58) Try.underlying58 (by kernel_rfl) (fun x => (x.f0, x.f1)) (fun p => ⟨p.1, p.2⟩) (fun _ => rfl) (opensF_cons rfl (by kernel_rfl) (opens_int Try.underlying2) (opensF_last rfl (by kernel_rfl) (opens_int Try.underlying2)))).mono (fun _ h => h)
def g60 (x : S60) : Prop := ((Lit.int .i64 x.f0).wf = true) ∧ (g58 x.f1) ∧ ((Lit.int .i64 x.f2).wf = true)
theorem o60 {H : Type} {enc : TypeId × Value → H} {w : World} : Opens enc Try.prog w k60 60 g60 := (opens_struct (β := S60) Try.underlying60 (by kernel_rfl) (fun x => (x.f0, x.f1, x.f2)) (fun p => ⟨p.1, p.2.1, p.2.2⟩) (fun _ => rfl) (opensF_cons rfl (by kernel_rfl) (opens_int Try.underlying2) (opensF_cons rfl (by kernel_rfl) o58 (opensF_last rfl (by kernel_rfl) (opens_int Try.underlying2))))).mono (fun _ h => h)
def g24 (x : (List Int)) : Prop := x.length ≤ maxLen ∧ ∀ y ∈ x, g2 y
def g62 (x : S62) : Prop := (g60 x.f0) ∧ ((Lit.int .i64 x.f1).wf = true) ∧ (x.f2.length ≤ maxLen ∧ ∀ y ∈ x.f2, g2 y) ∧ (x.f3.length ≤ maxLen ∧ ∀ y ∈ x.f3, g2 y)
theorem o62 {H : Type} {enc : TypeId × Value → H} {w : World} : Opens enc Try.prog w k62 62 g62 := (opens_struct (β := S62) Try.underlying62 (by kernel_rfl) (fun x => (x.f0, x.f1, x.f2, x.f3)) (fun p => ⟨p.1, p.2.1, p.2.2.1, p.2.2.2⟩) (fun _ => rfl) (opensF_cons rfl (by kernel_rfl) o60 (opensF_cons rfl (by kernel_rfl) (opens_int Try.underlying2) (opensF_cons rfl (by kernel_rfl) (opens_slice (e' := 2) Try.underlying24 (by kernel_rfl) (opens_int Try.underlying2)) (opensF_last rfl (by kernel_rfl) (opens_slice (e' := 2) Try.underlying24 (by kernel_rfl) (opens_int Try.underlying2))))))).mono (fun _ h => h)
def g126 (x : S126) : Prop := ((Lit.int .i64 x.f0).wf = true) ∧ (g62 x.f1)
theorem o126 {H : Type} {enc : TypeId × Value → H} {w : World} : Opens enc Try.prog w k126 126 g126 := (opens_struct (β := S126) Try.underlying126 (by kernel_rfl) (fun x => (x.f0, x.f1)) (fun p => ⟨p.1, p.2⟩) (fun _ => rfl) (opensF_cons rfl (by kernel_rfl) (opens_int Try.underlying2) (opensF_last rfl (by kernel_rfl) o62))).mono (fun _ h => h)
def g5 (x : Int) : Prop := (Lit.int .u8 x).wf = true
def g139 (x : S139) : Prop := ((Lit.int .u8 x.f0).wf = true) ∧ ((Lit.int .i64 x.f1).wf = true) ∧ ((Lit.int .i64 x.f2).wf = true)
theorem o139 {H : Type} {enc : TypeId × Value → H} {w : World} : Opens enc Try.prog w k139 139 g139 := (opens_struct (β := S139) Try.underlying139 (by kernel_rfl) (fun x => (x.f0, x.f1, x.f2)) (fun p => ⟨p.1, p.2.1, p.2.2⟩) (fun _ => rfl) (opensF_cons rfl (by kernel_rfl) (opens_int Try.underlying5) (opensF_cons rfl (by kernel_rfl) (opens_int Try.underlying2) (opensF_last rfl (by kernel_rfl) (opens_int Try.underlying2))))).mono (fun _ h => h)
def g169 (x : S169) : Prop := ((Lit.int .i64 x.f0).wf = true) ∧ ((Lit.int .i64 x.f1).wf = true) ∧ (x.f2.length ≤ maxLen ∧ ∀ y ∈ x.f2, g87 y)
theorem o169 {H : Type} {enc : TypeId × Value → H} {w : World} : Opens enc Try.prog w k169 169 g169 := (opens_struct (β := S169) Try.underlying169 (by kernel_rfl) (fun x => (x.f0, x.f1, x.f2)) (fun p => ⟨p.1, p.2.1, p.2.2⟩) (fun _ => rfl) (opensF_cons rfl (by kernel_rfl) (opens_int Try.underlying2) (opensF_cons rfl (by kernel_rfl) (opens_int Try.underlying2) (opensF_last rfl (by kernel_rfl) (opens_slice (e' := 87) Try.underlying104 (by kernel_rfl) o87))))).mono (fun _ h => h)
theorem p62 {H : Type} {enc : TypeId × Value → H} {w : World} : Opens enc Try.prog w (Kd.iso (Kd.pair (Kd.iso (Kd.pair (Kd.int .i64) (Kd.pair (Kd.iso (Kd.pair (Kd.int .i64) (Kd.int .i64)) (fun x : (Int × Int) => x)) (Kd.int .i64))) (fun x : (Int × (Int × Int) × Int) => x)) (Kd.pair (Kd.int .i64) (Kd.pair (Kd.slice 2 (Kd.int .i64)) (Kd.slice 2 (Kd.int .i64))))) (fun x : ((Int × (Int × Int) × Int) × Int × (List Int) × (List Int)) => x)) 62 (fun x => (((Lit.int .i64 x.1.1).wf = true) ∧ (((Lit.int .i64 x.1.2.1.1).wf = true) ∧ ((Lit.int .i64 x.1.2.1.2).wf = true)) ∧ ((Lit.int .i64 x.1.2.2).wf = true)) ∧ ((Lit.int .i64 x.2.1).wf = true) ∧ (x.2.2.1.length ≤ maxLen ∧ ∀ y ∈ x.2.2.1, g2 y) ∧ (x.2.2.2.length ≤ maxLen ∧ ∀ y ∈ x.2.2.2, g2 y)) := (opens_struct (β := ((Int × (Int × Int) × Int) × Int × (List Int) × (List Int))) Try.underlying62 (by kernel_rfl) (fun x => x) (fun x => x) (fun _ => rfl) (opensF_cons rfl (by kernel_rfl) (opens_struct (β := (Int × (Int × Int) × Int)) Try.underlying60 (by kernel_rfl) (fun x => x) (fun x => x) (fun _ => rfl) (opensF_cons rfl (by kernel_rfl) (opens_int Try.underlying2) (opensF_cons rfl (by kernel_rfl) (opens_struct (β := (Int × Int)) Try.underlying58 (by kernel_rfl) (fun x => x) (fun x => x) (fun _ => rfl) (opensF_cons rfl (by kernel_rfl) (opens_int Try.underlying2) (opensF_last rfl (by kernel_rfl) (opens_int Try.underlying2)))) (opensF_last rfl (by kernel_rfl) (opens_int Try.underlying2))))) (opensF_cons rfl (by kernel_rfl) (opens_int Try.underlying2) (opensF_cons rfl (by kernel_rfl) (opens_slice (e' := 2) Try.underlying24 (by kernel_rfl) (opens_int Try.underlying2)) (opensF_last rfl (by kernel_rfl) (opens_slice (e' := 2) Try.underlying24 (by kernel_rfl) (opens_int Try.underlying2))))))).mono (fun _ h => h)
theorem p87 {H : Type} {enc : TypeId × Value → H} {w : World} : Opens enc Try.prog w (Kd.iso (Kd.pair (Kd.int .i64) (Kd.int .i64)) (fun x : (Int × Int) => x)) 87 (fun x => ((Lit.int .i64 x.1).wf = true) ∧ ((Lit.int .i64 x.2).wf = true)) := (opens_struct (β := (Int × Int)) Try.underlying87 (by kernel_rfl) (fun x => x) (fun x => x) (fun _ => rfl) (opensF_cons rfl (by kernel_rfl) (opens_int Try.underlying2) (opensF_last rfl (by kernel_rfl) (opens_int Try.underlying2)))).mono (fun _ h => h)
end Go.Proofs.Ytgpdjpololkhbaa.F

namespace Go.Proofs.Ytgpdjpololkhbaa.Pure
open Go.RowKit Go.Proofs.Ytgpdjpololkhbaa.F Go.Proofs.YtgpdjpololkhbaaW.PrintWords Go.Proofs.YtgpdjpololkhbaaW.PrintLast Go.Proofs.YtgpdjpololkhbaaW.PrintMore Go.Proofs.YtgpdjpololkhbaaB
set_option linter.unusedVariables false
set_option linter.unusedSimpArgs false
theorem impl_in_f (a b c : Int) : impl_in.f a b c = some (inB a b c) := inB_if a b c

end Go.Proofs.Ytgpdjpololkhbaa.Pure

namespace Go.Proofs.Ytgpdjpololkhbaa.Pure
open Go.RowKit Go.Proofs.Ytgpdjpololkhbaa.F Go.Proofs.YtgpdjpololkhbaaW.PrintWords Go.Proofs.YtgpdjpololkhbaaW.PrintLast Go.Proofs.YtgpdjpololkhbaaW.PrintMore Go.Proofs.YtgpdjpololkhbaaB
set_option linter.unusedVariables false
set_option linter.unusedSimpArgs false
theorem impl_isPen_f (a : Int) : impl_isPen.f a = some (inB a 1 8) := by
  simp only [impl_isPen.f, impl_in_f, Option.bind_some]

end Go.Proofs.Ytgpdjpololkhbaa.Pure

namespace Go.Proofs.Ytgpdjpololkhbaa.Pure
open Go.RowKit Go.Proofs.Ytgpdjpololkhbaa.F Go.Proofs.YtgpdjpololkhbaaW.PrintWords Go.Proofs.YtgpdjpololkhbaaW.PrintLast Go.Proofs.YtgpdjpololkhbaaW.PrintMore Go.Proofs.YtgpdjpololkhbaaB
set_option linter.unusedVariables false
set_option linter.unusedSimpArgs false
theorem impl_isSpot_f (a : Int) : impl_isSpot.f a = some (inB a (-1000000) 1000000) := by
  simp only [impl_isSpot.f, impl_in_f, Option.bind_some]

end Go.Proofs.Ytgpdjpololkhbaa.Pure

namespace Go.Proofs.Ytgpdjpololkhbaa.Pure
open Go.RowKit Go.Proofs.Ytgpdjpololkhbaa.F Go.Proofs.YtgpdjpololkhbaaW.PrintWords Go.Proofs.YtgpdjpololkhbaaW.PrintLast Go.Proofs.YtgpdjpololkhbaaW.PrintMore Go.Proofs.YtgpdjpololkhbaaB
set_option linter.unusedVariables false
set_option linter.unusedSimpArgs false
def isC (a b c : Int) : Bool := if a = 80 then inB b 1 8 && c == 0 else if a = 85 ∨ a = 68 then inB b (-1000000) 1000000 && inB c (-1000000) 1000000 else false
def isCm (x : S137) : Bool := isC x.f0 x.f1 x.f2
def codeC (l : List S137) : Int := if l.all isCm = true then (if 400 < l.length then 3 else 0) else 1
theorem rdC {xs ys : List S137} {y : S137} {m : Nat} (h : xs.drop m = y :: ys) : rd_T137 xs (m : Int) = y := (drop_cons h).2.1 _

end Go.Proofs.Ytgpdjpololkhbaa.Pure

namespace Go.Proofs.Ytgpdjpololkhbaa.Pure
open Go.RowKit Go.Proofs.Ytgpdjpololkhbaa.F Go.Proofs.YtgpdjpololkhbaaW.PrintWords Go.Proofs.YtgpdjpololkhbaaW.PrintLast Go.Proofs.YtgpdjpololkhbaaW.PrintMore Go.Proofs.YtgpdjpololkhbaaB
set_option linter.unusedVariables false
set_option linter.unusedSimpArgs false
theorem impl_isCommand_f (a b c : Int) : Ev (fun k => impl_isCommand.f k a b c) (isC a b c) := by
  refine ⟨1, fun k hk => ?_⟩
  obtain ⟨k, rfl⟩ : ∃ m, k = m + 1 := ⟨k - 1, by omega⟩
  simp only [impl_isCommand.f, impl_isCommand.j0, impl_isPen_f, impl_isSpot_f, Option.bind_some, isC]
  by_cases h : a = 80
  · simp only [if_pos h]
    cases inB b 1 8 <;> simp
  · simp only [if_neg h]
    by_cases h1 : a = 85 <;> by_cases h2 : a = 68 <;> cases inB b (-1000000) 1000000 <;> simp [h1, h2]

end Go.Proofs.Ytgpdjpololkhbaa.Pure

namespace Go.Proofs.Ytgpdjpololkhbaa.Pure
open Go.RowKit Go.Proofs.Ytgpdjpololkhbaa.F Go.Proofs.YtgpdjpololkhbaaW.PrintWords Go.Proofs.YtgpdjpololkhbaaW.PrintLast Go.Proofs.YtgpdjpololkhbaaW.PrintMore Go.Proofs.YtgpdjpololkhbaaB
set_option linter.unusedVariables false
set_option linter.unusedSimpArgs false
theorem impl_areCommands_l0 (xs : List S137) (hx : xs.length ≤ 9223372036854775807) : ∀ (ys : List S137) (m : Nat), xs.drop m = ys →
    Ev (fun k => impl_areCommands.l0 k xs xs.length m) (ys.all isCm)
  | [], m, h => by
    have := drop_nil h
    exact ev_step (fun _ => rfl) (ev_neg (by omega) (ev_now rfl))
  | y :: ys, m, h => by
    obtain ⟨hm, _, hd⟩ := drop_cons h
    refine ev_step (fun _ => rfl) (ev_pos (by omega) (ev_pos (by omega) (ev_pos (by omega) ?_)))
    rw [rdC h, w64 (by omega) (by omega)]
    refine ev_bind (impl_isCommand_f _ _ _) ?_
    rw [List.all_cons, show isC y.f0 y.f1 y.f2 = isCm y from rfl]
    cases hc : isCm y
    · exact ev_neg (by simp) (ev_now (by simp))
    · refine ev_pos rfl (ev_eq (impl_areCommands_l0 xs hx ys (m + 1) hd) (by simp))
theorem impl_areCommands_f (xs : List S137) (hx : xs.length ≤ 9223372036854775807) : Ev (fun k => impl_areCommands.f k xs) (xs.all isCm) := impl_areCommands_l0 xs hx xs 0 rfl

end Go.Proofs.Ytgpdjpololkhbaa.Pure

namespace Go.Proofs.Ytgpdjpololkhbaa.Pure
open Go.RowKit Go.Proofs.Ytgpdjpololkhbaa.F Go.Proofs.YtgpdjpololkhbaaW.PrintWords Go.Proofs.YtgpdjpololkhbaaW.PrintLast Go.Proofs.YtgpdjpololkhbaaW.PrintMore Go.Proofs.YtgpdjpololkhbaaB
set_option linter.unusedVariables false
set_option linter.unusedSimpArgs false
theorem impl_program_f (xs : List S137) (hx : xs.length ≤ 9223372036854775807) : Ev (fun k => impl_program.f k xs) (codeC xs) := by
  refine ev_bind (impl_areCommands_f xs hx) ?_
  unfold codeC
  cases xs.all isCm
  · exact ev_neg (by simp) (ev_now (by simp))
  · refine ev_pos rfl (ev_now ?_)
    by_cases h : 400 < xs.length
    · rw [if_pos (by omega), if_pos rfl, if_pos h]
    · rw [if_neg (by omega), if_pos rfl, if_neg h]

end Go.Proofs.Ytgpdjpololkhbaa.Pure

namespace Go.Proofs.Ytgpdjpololkhbaa.Pure
open Go.RowKit Go.Proofs.Ytgpdjpololkhbaa.F Go.Proofs.YtgpdjpololkhbaaW.PrintWords Go.Proofs.YtgpdjpololkhbaaW.PrintLast Go.Proofs.YtgpdjpololkhbaaW.PrintMore Go.Proofs.YtgpdjpololkhbaaB
set_option linter.unusedVariables false
set_option linter.unusedSimpArgs false
def countC (l : List S137) (a : Int) : Int := (l.filter (fun x => decide (x.f0 = a))).length
theorem countC_le (l : List S137) (a : Int) : 0 ≤ countC l a ∧ countC l a ≤ l.length := ⟨by unfold countC; omega, by unfold countC; have := List.length_filter_le (fun x : S137 => decide (x.f0 = a)) l; omega⟩
theorem countC_cons (y : S137) (l : List S137) (a : Int) : countC (y :: l) a = countC l a + if y.f0 = a then 1 else 0 := by
  unfold countC
  by_cases h : y.f0 = a <;> simp [h]
def resCount (l : List S137) (a : Int) : Int × Int := if codeC l = 0 then (countC l a, 0) else (0, codeC l)

end Go.Proofs.Ytgpdjpololkhbaa.Pure

namespace Go.Proofs.Ytgpdjpololkhbaa.Pure
open Go.RowKit Go.Proofs.Ytgpdjpololkhbaa.F Go.Proofs.YtgpdjpololkhbaaW.PrintWords Go.Proofs.YtgpdjpololkhbaaW.PrintLast Go.Proofs.YtgpdjpololkhbaaW.PrintMore Go.Proofs.YtgpdjpololkhbaaB
set_option linter.unusedVariables false
set_option linter.unusedSimpArgs false
theorem impl_CountKind_l0 (xs : List S137) (a : Int) (hx : xs.length ≤ 4611686018427387904) : ∀ (ys : List S137) (m : Nat) (c : Int), xs.drop m = ys → 0 ≤ c → c ≤ m →
    Ev (fun k => impl_CountKind.l0 k a c xs xs.length m) (c + countC ys a, 0)
  | [], m, c, h, h0, h1 => by
    have := drop_nil h
    refine ev_step (fun _ => rfl) (ev_neg (by omega) (ev_now ?_))
    simp [countC]
  | y :: ys, m, c, h, h0, h1 => by
    obtain ⟨hm, _, hd⟩ := drop_cons h
    refine ev_step (fun _ => rfl) (ev_pos (by omega) (ev_pos (by omega) (ev_pos (by omega) ?_)))
    rw [rdC h, w64 (x := (m : Int) + 1) (by omega) (by omega), w64 (x := c + 1) (by omega) (by omega)]
    rw [countC_cons]
    refine ev_ite (fun hc => ?_) (fun hc => ?_)
    · rw [if_pos hc]
      exact ev_eq (impl_CountKind_l0 xs a hx ys (m + 1) (c + 1) hd (by omega) (by omega)) (by congr 1; omega)
    · rw [if_neg hc]
      exact ev_eq (impl_CountKind_l0 xs a hx ys (m + 1) c hd (by omega) (by omega)) (by simp)
theorem impl_CountKind_f (xs : List S137) (a : Int) (hx : xs.length ≤ 4611686018427387904) : Ev (fun k => impl_CountKind.f k xs a) (resCount xs a) := by
  refine ev_bind (impl_program_f xs (by omega)) ?_
  unfold resCount
  refine ev_ite (fun h => ?_) (fun h => ?_)
  · rw [if_pos h]
    exact ev_eq (impl_CountKind_l0 xs a hx xs 0 0 rfl (by omega) (by omega)) (by congr 1; omega)
  · rw [if_neg h]
    exact ev_now rfl

end Go.Proofs.Ytgpdjpololkhbaa.Pure

namespace Go.Proofs.Ytgpdjpololkhbaa.Pure
open Go.RowKit Go.Proofs.Ytgpdjpololkhbaa.F Go.Proofs.YtgpdjpololkhbaaW.PrintWords Go.Proofs.YtgpdjpololkhbaaW.PrintLast Go.Proofs.YtgpdjpololkhbaaW.PrintMore Go.Proofs.YtgpdjpololkhbaaB
set_option linter.unusedVariables false
set_option linter.unusedSimpArgs false
def plotB (a b c : Int) (d : Bool) : Bool := inB a (-1000000) 1000000 && inB b (-1000000) 1000000 && inB c 0 8 && !(d && c == 0)
/-- The plotter after a command, and whether it may be. -/
def stepM (a b c : Int) (d : Bool) (k x y : Int) : Int × Int × Int × Bool × Bool := if k = 80 then (a, b, x, false, true) else if k = 85 then (x, y, c, false, true) else (x, y, c, true, decide (c > 0))

end Go.Proofs.Ytgpdjpololkhbaa.Pure

namespace Go.Proofs.Ytgpdjpololkhbaa.Pure
open Go.RowKit Go.Proofs.Ytgpdjpololkhbaa.F Go.Proofs.YtgpdjpololkhbaaW.PrintWords Go.Proofs.YtgpdjpololkhbaaW.PrintLast Go.Proofs.YtgpdjpololkhbaaW.PrintMore Go.Proofs.YtgpdjpololkhbaaB
set_option linter.unusedVariables false
set_option linter.unusedSimpArgs false
theorem impl_Plotter_step_f (a b c : Int) (d : Bool) (k x y : Int) : impl_Plotter_step.f a b c d k x y = some (stepM a b c d k x y) := by
  unfold impl_Plotter_step.f stepM
  split <;> (try rfl)
  split <;> rfl

end Go.Proofs.Ytgpdjpololkhbaa.Pure

namespace Go.Proofs.Ytgpdjpololkhbaa.Pure
open Go.RowKit Go.Proofs.Ytgpdjpololkhbaa.F Go.Proofs.YtgpdjpololkhbaaW.PrintWords Go.Proofs.YtgpdjpololkhbaaW.PrintLast Go.Proofs.YtgpdjpololkhbaaW.PrintMore Go.Proofs.YtgpdjpololkhbaaB
set_option linter.unusedVariables false
set_option linter.unusedSimpArgs false
theorem half_mid (a b : Int) (h0 : 0 ≤ a) (h1 : a ≤ b) (h2 : b ≤ 2000000001) : wrap64 (Int.tdiv (wrap64 (a + b)) 2) = (a + b) / 2 := by
  rw [w64 (x := a + b) (by omega) (by omega), Int.tdiv_eq_ediv_of_nonneg (by omega), w64 (by omega) (by omega)]
theorem sq_le (m : Int) (h0 : 0 ≤ m) (h1 : m ≤ 2000000001) : wrap64 (m * m) = m * m := by
  have h2 : m * m ≤ 2000000001 * 2000000001 := Int.mul_le_mul h1 h1 h0 (by omega)
  have h3 : 0 ≤ m * m := Int.mul_nonneg h0 h0
  exact w64 (by omega) (by omega)
theorem spec_l01Root_l0 (n : Int) : ∀ (d : Nat) (a b : Int), (b - a).toNat ≤ d → 0 ≤ a → a < b → b ≤ 2000000001 →
    ∃ r, Ev (fun k => spec_l01Root.l0 k n a b) r ∧ a ≤ r ∧ r < b ∧ (a * a ≤ n → r * r ≤ n) ∧ (n < b * b → n < (r + 1) * (r + 1))
  | 0, a, b, hd, h0, h1, h2 => by omega
  | d + 1, a, b, hd, h0, h1, h2 => by
    by_cases h : b - a > 1
    · have hm := half_mid a b h0 (by omega) h2
      have hs := sq_le ((a + b) / 2) (by omega) (by omega)
      by_cases hc : ((a + b) / 2) * ((a + b) / 2) ≤ n
      · obtain ⟨r, hr, g1, g2, g3, g4⟩ := spec_l01Root_l0 n d ((a + b) / 2) b (by omega) (by omega) (by omega) h2
        refine ⟨r, ?_, by omega, g2, fun _ => g3 hc, g4⟩
        refine ev_step (fun _ => rfl) (ev_pos (by rw [w64 (by omega) (by omega)]; exact h) ?_)
        rw [hm, hs]
        exact ev_pos hc hr
      · obtain ⟨r, hr, g1, g2, g3, g4⟩ := spec_l01Root_l0 n d a ((a + b) / 2) (by omega) h0 (by omega) (by omega)
        refine ⟨r, ?_, g1, by omega, g3, fun _ => g4 (by omega)⟩
        refine ev_step (fun _ => rfl) (ev_pos (by rw [w64 (by omega) (by omega)]; exact h) ?_)
        rw [hm, hs]
        exact ev_neg hc hr
    · refine ⟨a, ev_step (fun _ => rfl) (ev_neg (by rw [w64 (by omega) (by omega)]; exact h) (ev_now rfl)), Int.le_refl _, h1, fun h => h, fun hn => ?_⟩
      rw [show a + 1 = b by omega]
      exact hn
theorem root_ex (n : Int) : ∃ r, Ev (fun k => spec_l01Root.f k n) r ∧ 0 ≤ r ∧ r ≤ 2000000000 ∧ (0 ≤ n → r * r ≤ n) ∧ (n < 2000000001 * 2000000001 → n < (r + 1) * (r + 1)) := by
  obtain ⟨r, h1, h2, h3, h4, h5⟩ := spec_l01Root_l0 n 2000000001 0 2000000001 (by omega) (by omega) (by omega) (by omega)
  exact ⟨r, h1, h2, by omega, fun h => h4 (by omega), h5⟩
noncomputable def rootM (n : Int) : Int := Classical.choose (root_ex n)
theorem rootM_spec (n : Int) : 0 ≤ rootM n ∧ rootM n ≤ 2000000000 ∧ (0 ≤ n → rootM n * rootM n ≤ n) ∧ (n < 2000000001 * 2000000001 → n < (rootM n + 1) * (rootM n + 1)) := (Classical.choose_spec (root_ex n)).2
theorem spec_l01Root_f (n : Int) : Ev (fun k => spec_l01Root.f k n) (rootM n) := (Classical.choose_spec (root_ex n)).1

end Go.Proofs.Ytgpdjpololkhbaa.Pure

namespace Go.Proofs.Ytgpdjpololkhbaa.Pure
open Go.RowKit Go.Proofs.Ytgpdjpololkhbaa.F Go.Proofs.YtgpdjpololkhbaaW.PrintWords Go.Proofs.YtgpdjpololkhbaaW.PrintLast Go.Proofs.YtgpdjpololkhbaaW.PrintMore Go.Proofs.YtgpdjpololkhbaaB
set_option linter.unusedVariables false
set_option linter.unusedSimpArgs false
theorem impl_root_same : ∀ (k : Nat) (n a b : Int), impl_root.l0 k n a b = spec_l01Root.l0 k n a b
  | 0, _, _, _ => rfl
  | k + 1, n, a, b => by
    simp only [impl_root.l0, spec_l01Root.l0, impl_root_same k]
theorem impl_root_f (n : Int) : Ev (fun k => impl_root.f k n) (rootM n) := by
  obtain ⟨K, h⟩ := spec_l01Root_f n
  exact ⟨K, fun k hk => (impl_root_same k n 0 2000000001).trans (h k hk)⟩

end Go.Proofs.Ytgpdjpololkhbaa.Pure

namespace Go.Proofs.Ytgpdjpololkhbaa.Pure
open Go.RowKit Go.Proofs.Ytgpdjpololkhbaa.F Go.Proofs.YtgpdjpololkhbaaW.PrintWords Go.Proofs.YtgpdjpololkhbaaW.PrintLast Go.Proofs.YtgpdjpololkhbaaW.PrintMore Go.Proofs.YtgpdjpololkhbaaB
set_option linter.unusedVariables false
set_option linter.unusedSimpArgs false
def sqM (a b c d : Int) : Int := wrap64 ((wrap64 ((wrap64 (a - c)) * (wrap64 (a - c)))) + (wrap64 ((wrap64 (b - d)) * (wrap64 (b - d)))))
noncomputable def distM (a b c d : Int) : Int := rootM (sqM a b c d)
noncomputable def idleM (t a b : Int) : List S110 → Int
  | [] => t
  | y :: ys => idleM (wrap64 (t + distM a b (rd_T90 y.f1 0).f0 (rd_T90 y.f1 0).f1)) (rd_T90 y.f1 (y.f1.length - 1)).f0 (rd_T90 y.f1 (y.f1.length - 1)).f1 ys

end Go.Proofs.Ytgpdjpololkhbaa.Pure

namespace Go.Proofs.Ytgpdjpololkhbaa.Pure
open Go.RowKit Go.Proofs.Ytgpdjpololkhbaa.F Go.Proofs.YtgpdjpololkhbaaW.PrintWords Go.Proofs.YtgpdjpololkhbaaW.PrintLast Go.Proofs.YtgpdjpololkhbaaW.PrintMore Go.Proofs.YtgpdjpololkhbaaB
set_option linter.unusedVariables false
set_option linter.unusedSimpArgs false
theorem impl_distance_f (a b c d : Int) : Ev (fun k => impl_distance.f k a b c d) (distM a b c d) := ev_some rfl (ev_bind (impl_root_f _) (ev_now rfl))

end Go.Proofs.Ytgpdjpololkhbaa.Pure

namespace Go.Proofs.Ytgpdjpololkhbaa.Pure
open Go.RowKit Go.Proofs.Ytgpdjpololkhbaa.F Go.Proofs.YtgpdjpololkhbaaW.PrintWords Go.Proofs.YtgpdjpololkhbaaW.PrintLast Go.Proofs.YtgpdjpololkhbaaW.PrintMore Go.Proofs.YtgpdjpololkhbaaB
set_option linter.unusedVariables false
set_option linter.unusedSimpArgs false
def lineN (k a b x y : Int) (line : List S90) : List S90 := if k = 68 then (if (line.length : Int) = 0 then [⟨a, b⟩] else line) ++ [⟨x, y⟩] else line
def upN (k up way : Int) : Int := if k = 68 then up else wrap64 (up + way)
def dnN (k dn way : Int) : Int := if k = 68 then wrap64 (dn + way) else dn
def pensN (k p : Int) : Int := if k = 80 then wrap64 (p + 1) else p
/-- Whether a stroke is at its end: there is one, and no D follows. -/
def endB (line : List S90) : List S137 → Bool
  | [] => decide (0 < line.length)
  | z :: _ => decide (0 < line.length) && !decide (z.f0 = 68)
/-- What commands do: the plotter, the strokes, the ways up and down, the pens, the code. -/
noncomputable def runM : List S137 → Int → Int → Int → Bool → List S90 → List S110 → Int → Int → Int → Int × Int × Int × Bool × List S110 × Int × Int × Int × Int
  | [], a, b, c, d, _, st, up, dn, p => (a, b, c, d, st, up, dn, p, 0)
  | y :: ys, a, b, c, d, line, st, up, dn, p =>
    if (stepM a b c d y.f0 y.f1 y.f2).2.2.2.2 = true then
      runM ys (stepM a b c d y.f0 y.f1 y.f2).1 (stepM a b c d y.f0 y.f1 y.f2).2.1 (stepM a b c d y.f0 y.f1 y.f2).2.2.1 (stepM a b c d y.f0 y.f1 y.f2).2.2.2.1
        (if endB (lineN y.f0 a b (stepM a b c d y.f0 y.f1 y.f2).1 (stepM a b c d y.f0 y.f1 y.f2).2.1 line) ys = true then [] else lineN y.f0 a b (stepM a b c d y.f0 y.f1 y.f2).1 (stepM a b c d y.f0 y.f1 y.f2).2.1 line)
        (if endB (lineN y.f0 a b (stepM a b c d y.f0 y.f1 y.f2).1 (stepM a b c d y.f0 y.f1 y.f2).2.1 line) ys = true then st ++ [⟨c, lineN y.f0 a b (stepM a b c d y.f0 y.f1 y.f2).1 (stepM a b c d y.f0 y.f1 y.f2).2.1 line⟩] else st)
        (upN y.f0 up (distM a b (stepM a b c d y.f0 y.f1 y.f2).1 (stepM a b c d y.f0 y.f1 y.f2).2.1)) (dnN y.f0 dn (distM a b (stepM a b c d y.f0 y.f1 y.f2).1 (stepM a b c d y.f0 y.f1 y.f2).2.1)) (pensN y.f0 p)
    else (0, 0, 0, false, [], 0, 0, 0, 5)
theorem runM_cons (y : S137) (ys : List S137) (a b c : Int) (d : Bool) (line : List S90) (st : List S110) (up dn p : Int) (s : Int × Int × Int × Bool × Bool) (hs : stepM a b c d y.f0 y.f1 y.f2 = s) :
    runM (y :: ys) a b c d line st up dn p = if s.2.2.2.2 = true then runM ys s.1 s.2.1 s.2.2.1 s.2.2.2.1 (if endB (lineN y.f0 a b s.1 s.2.1 line) ys = true then [] else lineN y.f0 a b s.1 s.2.1 line) (if endB (lineN y.f0 a b s.1 s.2.1 line) ys = true then st ++ [⟨c, lineN y.f0 a b s.1 s.2.1 line⟩] else st) (upN y.f0 up (distM a b s.1 s.2.1)) (dnN y.f0 dn (distM a b s.1 s.2.1)) (pensN y.f0 p) else (0, 0, 0, false, [], 0, 0, 0, 5) := by
  subst hs
  rfl
noncomputable def allM (xs : List S137) : Int × Int × Int × Bool × List S110 × Int × Int × Int × Int := if codeC xs = 0 then runM xs 0 0 0 false [] [] 0 0 0 else (0, 0, 0, false, [], 0, 0, 0, codeC xs)

end Go.Proofs.Ytgpdjpololkhbaa.Pure

namespace Go.Proofs.Ytgpdjpololkhbaa.Pure
open Go.RowKit Go.Proofs.Ytgpdjpololkhbaa.F Go.Proofs.YtgpdjpololkhbaaW.PrintWords Go.Proofs.YtgpdjpololkhbaaW.PrintLast Go.Proofs.YtgpdjpololkhbaaW.PrintMore Go.Proofs.YtgpdjpololkhbaaB
set_option linter.unusedVariables false
set_option linter.unusedSimpArgs false
/-- The ways of the plotter up and down, and whether all commands may be. -/
noncomputable def travM : List S137 → Int → Int → Int → Bool → Int → Int → Int × Int × Bool
  | [], _, _, _, _, u, n => (u, n, true)
  | y :: ys, a, b, c, d, u, n => if (stepM a b c d y.f0 y.f1 y.f2).2.2.2.2 = true then travM ys (stepM a b c d y.f0 y.f1 y.f2).1 (stepM a b c d y.f0 y.f1 y.f2).2.1 (stepM a b c d y.f0 y.f1 y.f2).2.2.1 (stepM a b c d y.f0 y.f1 y.f2).2.2.2.1 (upN y.f0 u (distM a b (stepM a b c d y.f0 y.f1 y.f2).1 (stepM a b c d y.f0 y.f1 y.f2).2.1)) (dnN y.f0 n (distM a b (stepM a b c d y.f0 y.f1 y.f2).1 (stepM a b c d y.f0 y.f1 y.f2).2.1)) else (u, n, false)
theorem travM_cons (y : S137) (ys : List S137) (a b c : Int) (d : Bool) (u n : Int) (s : Int × Int × Int × Bool × Bool) (hs : stepM a b c d y.f0 y.f1 y.f2 = s) : travM (y :: ys) a b c d u n = if s.2.2.2.2 = true then travM ys s.1 s.2.1 s.2.2.1 s.2.2.2.1 (upN y.f0 u (distM a b s.1 s.2.1)) (dnN y.f0 n (distM a b s.1 s.2.1)) else (u, n, false) := by
  subst hs
  rfl
/-- A run tells the ways and how many pens; it stops where the ways do. -/
theorem runM_trav : ∀ (ys : List S137) (a b c : Int) (d : Bool) (line : List S90) (st : List S110) (up dn p : Int), 0 ≤ p → p + ys.length ≤ 4611686018427387904 →
    ((travM ys a b c d up dn).2.2 = true ∧ (runM ys a b c d line st up dn p).2.2.2.2.2.2.2.2 = 0 ∧ (runM ys a b c d line st up dn p).2.2.2.2.2.1 = (travM ys a b c d up dn).1 ∧ (runM ys a b c d line st up dn p).2.2.2.2.2.2.1 = (travM ys a b c d up dn).2.1 ∧ (runM ys a b c d line st up dn p).2.2.2.2.2.2.2.1 = p + countC ys 80) ∨
    ((travM ys a b c d up dn).2.2 = false ∧ runM ys a b c d line st up dn p = (0, 0, 0, false, [], 0, 0, 0, 5))
  | [], a, b, c, d, line, st, up, dn, p, _, _ => .inl ⟨rfl, rfl, rfl, rfl, by simp [runM, countC]⟩
  | y :: ys, a, b, c, d, line, st, up, dn, p, h0, h1 => by
    generalize hs : stepM a b c d y.f0 y.f1 y.f2 = s
    rw [travM_cons y ys a b c d up dn s hs, runM_cons y ys a b c d line st up dn p s hs]
    simp only [List.length_cons] at h1
    by_cases h : s.2.2.2.2 = true
    · rw [if_pos h, if_pos h]
      have hp : 0 ≤ pensN y.f0 p ∧ pensN y.f0 p + ys.length ≤ 4611686018427387904 ∧ pensN y.f0 p + countC ys 80 = p + countC (y :: ys) 80 := by
        unfold pensN
        rw [countC_cons]
        split
        · rw [w64 (x := p + 1) (by omega) (by omega)]
          omega
        · omega
      rw [← hp.2.2]
      exact runM_trav ys _ _ _ _ _ _ _ _ _ hp.1 hp.2.1
    · rw [if_neg h, if_neg h]
      exact .inr ⟨rfl, rfl⟩
theorem isCm_kind {y : S137} (h : isCm y = true) : y.f0 = 80 ∨ y.f0 = 85 ∨ y.f0 = 68 := by
  unfold isCm isC at h
  by_cases h1 : y.f0 = 80
  · exact .inl h1
  · by_cases h2 : y.f0 = 85 ∨ y.f0 = 68
    · exact .inr h2
    · rw [if_neg h1, if_neg h2] at h
      cases h
noncomputable def resTravel (xs : List S137) : Int × Int × Int := if codeC xs = 0 then (if (travM xs 0 0 0 false 0 0).2.2 = true then ((travM xs 0 0 0 false 0 0).1, (travM xs 0 0 0 false 0 0).2.1, 0) else (0, 0, 5)) else (0, 0, codeC xs)
def ceilM (a b : Int) : Int := wrap64 (-(if Int.tmod (wrap64 (-a)) b < 0 then wrap64 (wrap64 (Int.tdiv (wrap64 (-a)) b) - 1) else wrap64 (Int.tdiv (wrap64 (-a)) b)))
noncomputable def resTime (xs : List S137) (a1 a2 a3 : Int) : Int × Int := if codeC xs = 0 then (if inB a1 1 1000000 = true ∧ inB a2 1 1000000 = true ∧ inB a3 0 1000000 = true then (if (travM xs 0 0 0 false 0 0).2.2 = true then (wrap64 (wrap64 (ceilM (travM xs 0 0 0 false 0 0).1 a1 + ceilM (travM xs 0 0 0 false 0 0).2.1 a2) + wrap64 (countC xs 80 * a3)), 0) else (0, 5)) else (0, 2)) else (0, codeC xs)
theorem codeC_all {xs : List S137} (h : codeC xs = 0) : ∀ y ∈ xs, isCm y = true := by
  unfold codeC at h
  split at h
  · rename_i ha
    exact List.all_eq_true.1 ha
  · cases h
theorem codeC_not5 (xs : List S137) : codeC xs ≠ 5 := by
  unfold codeC
  split
  · split <;> decide
  · decide

end Go.Proofs.Ytgpdjpololkhbaa.Pure

namespace Go.Proofs.Ytgpdjpololkhbaa.Pure
open Go.RowKit Go.Proofs.Ytgpdjpololkhbaa.F Go.Proofs.YtgpdjpololkhbaaW.PrintWords Go.Proofs.YtgpdjpololkhbaaW.PrintLast Go.Proofs.YtgpdjpololkhbaaW.PrintMore Go.Proofs.YtgpdjpololkhbaaB
set_option linter.unusedVariables false
set_option linter.unusedSimpArgs false
theorem impl_travel_go : ∀ (ys : List S137) (a b c : Int) (d : Bool) (u n : Int), (∀ y ∈ ys, isCm y = true) → Ev (fun k => impl_travel.go k ys a b c d u n) (travM ys a b c d u n)
  | [], a, b, c, d, u, n, _ => ev_now rfl
  | y :: ys, a, b, c, d, u, n, hv => by
    generalize hs : stepM a b c d y.f0 y.f1 y.f2 = s
    rw [travM_cons y ys a b c d u n s hs]
    have hk := isCm_kind (hv y List.mem_cons_self)
    have hd : s.2.2.2.2 = true → (s.2.2.2.1 = true ↔ y.f0 = 68) := fun _ => by
      rw [← hs]
      unfold stepM
      rcases hk with h | h | h <;> simp [h]
    show Ev (fun k => (impl_Plotter_step.f a b c d y.f0 y.f1 y.f2).bind fun s => if s.2.2.2.2 = true then (impl_distance.f k a b s.1 s.2.1).bind fun t => (if s.2.2.2.1 = true then impl_travel.go k ys s.1 s.2.1 s.2.2.1 s.2.2.2.1 u (wrap64 (n + t)) else impl_travel.go k ys s.1 s.2.1 s.2.2.1 s.2.2.2.1 (wrap64 (u + t)) n) else some (u, n, false)) _
    refine ev_some ((impl_Plotter_step_f a b c d y.f0 y.f1 y.f2).trans (congrArg some hs)) (ev_ite (fun h => ?_) (fun h => ?_))
    · rw [if_pos h]
      refine ev_bind (impl_distance_f a b s.1 s.2.1) (ev_ite (fun hq => ?_) (fun hq => ?_))
      · have h68 := (hd h).1 hq
        rw [show upN y.f0 u (distM a b s.1 s.2.1) = u from if_pos h68, show dnN y.f0 n (distM a b s.1 s.2.1) = wrap64 (n + distM a b s.1 s.2.1) from if_pos h68]
        exact impl_travel_go ys _ _ _ _ _ _ (fun z hz => hv z (List.mem_cons_of_mem _ hz))
      · have h68 : ¬ y.f0 = 68 := fun h6 => hq ((hd h).2 h6)
        rw [show upN y.f0 u (distM a b s.1 s.2.1) = wrap64 (u + distM a b s.1 s.2.1) from if_neg h68, show dnN y.f0 n (distM a b s.1 s.2.1) = n from if_neg h68]
        exact impl_travel_go ys _ _ _ _ _ _ (fun z hz => hv z (List.mem_cons_of_mem _ hz))
    · rw [if_neg h]
      exact ev_now rfl
theorem impl_travel_f (xs : List S137) (hv : ∀ y ∈ xs, isCm y = true) : Ev (fun k => impl_travel.f k xs) (travM xs 0 0 0 false 0 0) := impl_travel_go xs 0 0 0 false 0 0 hv

end Go.Proofs.Ytgpdjpololkhbaa.Pure

namespace Go.Proofs.Ytgpdjpololkhbaa.F
open Go.RowKit Go.Proofs.YtgpdjpololkhbaaW.PrintWords Go.Proofs.YtgpdjpololkhbaaW.PrintLast Go.Proofs.YtgpdjpololkhbaaW.PrintMore
attribute [local go_sem] max2_int min2_int max_two min_two max_three min_three max_four min_four   -- for this text's walks alone
set_option linter.unusedVariables false
set_option linter.unusedSimpArgs false

/-! ### laws_markPointS: function 80 -/
def laws_markPointS.l0 : Nat → List (S90) → Int → Int → Option (Int × (List (S90)))
  | 0, _, _, _ => none
  | k + 1, x0, x1, x5 => if x5 < (x0.length : Int) then (if 0 ≤ x5 then ((some (x0.set (x5 : Int).toNat (⟨x1, (rd_T90 x0 x5).f1⟩ : S90) : List (S90))).bind fun y290 => (laws_markPointS.l0 k (y290.set (x5 : Int).toNat (⟨(rd_T90 y290 x5).f0, wrap64 (x1 + 1)⟩ : S90)) (wrap64 ((wrap64 (x1 + 1)) + 1)) (wrap64 (x5 + 1)))) else (none)) else (some (x1, x0))
def laws_markPointS.f (k : Nat) (l0 : List (S90)) (a1 : Int) : Option (Int × (List (S90))) := laws_markPointS.l0 k l0 a1 0
theorem laws_markPointS.mono_l : ∀ k, (∀ y0 y1 y2, LeO (laws_markPointS.l0 k y0 y1 y2) (laws_markPointS.l0 (k + 1) y0 y1 y2))
  | 0 => fun _ _ _ r h => by simp [laws_markPointS.l0] at h
  | k + 1 => by
    have ih0 := laws_markPointS.mono_l k
    · intro y0 y1 y2
      unfold laws_markPointS.l0
      repeat' first
      | (with_reducible exact ih0 _ _ _)
      | (with_reducible exact LeO.refl _)
      | (with_reducible exact LeO.none _)
      | (with_reducible refine LeO.ite ?_ ?_)
      | (with_reducible refine LeO.bind ?_ (fun _ => ?_))
      | exact ih0 _ _ _
      | exact LeO.none _
      | refine LeO.ite ?_ ?_
      | refine LeO.bind ?_ (fun _ => ?_)
theorem laws_markPointS.mono : ∀ a0 a1 k, LeO (laws_markPointS.f k a0 a1) (laws_markPointS.f (k + 1) a0 a1) := by
  intro a0 a1 k
  have ih0 := laws_markPointS.mono_l k
  unfold laws_markPointS.f
  repeat' first
      | (with_reducible exact ih0 _ _ _)
      | (with_reducible exact LeO.refl _)
      | (with_reducible exact LeO.none _)
      | (with_reducible refine LeO.ite ?_ ?_)
      | (with_reducible refine LeO.bind ?_ (fun _ => ?_))
      | exact ih0 _ _ _
      | exact LeO.none _
      | refine LeO.ite ?_ ?_
      | refine LeO.bind ?_ (fun _ => ?_)
set_option maxHeartbeats 8000000 in
set_option maxRecDepth 100000 in
theorem laws_markPointS.calls (k : Nat) (P0_ : Nat → Prop) (u9000_ : Value) (l0 : List (S90)) (a1 : Int) (r1 : Int) (r2 : List (S90)) (w0 w : World) (hB : Below w0.heap.size w0 w) (ho0 : Kd.R k90 90 w w0.heap.size P0_ u9000_ l0) (h : laws_markPointS.f k l0 a1 = some (r1, r2)) :
    Calls Try.prog 80 #[u9000_, .int .i64 a1] w fun e w' => e = .returned (.int .i64 r1) ∧ Kd.R k90 90 w' w0.heap.size (fun k_ => (P0_ k_ ∨ w.heap.size ≤ k_)) u9000_ r2 ∧ Below w0.heap.size w0 w' ∧ Kept w w' (fun k_ => P0_ k_) := by
  have HO0 := Aside0.mk (show Kd.R k90 90 w w0.heap.size (fun k_ => (P0_ k_ ∨ w.heap.size ≤ k_)) u9000_ l0 from Kd.R_mono ho0 (fun k_ hk => (.inl hk)))
  have HK := Aside0.mk (Kept.refl w (fun k_ => P0_ k_))
  have HW0 := Aside0.mk hB.size
  have HB := Aside0.mk hB
  clear hB
  have H : (laws_markPointS.l0 k l0 a1 0) = some (r1, r2) := h
  clear h
  have H' := Aside0.mk H
  clear H
  go_enter Try.func80, Try.ntmps80
  go_wp2
  go_loopg [1, 5] k (fun kq v1 v5 w' => ∃ (x0_1 : List (S90)) (x1_1 : Int) (x5_1 : Int), v1 = .int .i64 x1_1 ∧ v5 = .int .i64 x5_1 ∧ Aside0 (laws_markPointS.l0 kq x0_1 x1_1 x5_1 = some (r1, r2)) ∧ Aside0 (kq ≤ k) ∧ Aside0 (Kd.R k90 90 w' w0.heap.size (fun k_ => (P0_ k_ ∨ w.heap.size ≤ k_)) u9000_ x0_1) ∧ Aside0 (Kept w w' (fun k_ => P0_ k_)) ∧ Aside0 (Below w0.heap.size w0 w'))
  case atStart => exact ⟨(l0), (a1), (0), (by first | rfl | (simp; done) | (simp [*]; done)), (by first | rfl | (simp; done) | (simp [*]; done)), H', ⟨Nat.le_refl _⟩, ⟨by (with_reducible repeat (first | apply Kd.R_alloc | apply Kd.R_drewN | apply Kd.R_drew)); exact HO0.out⟩, ⟨by repeat (first | (with_reducible first | exact HK.out | apply Kept.alloc | apply Kept.drewN | apply Kept.drew) | exact HK.out)⟩, ⟨by repeat (first | (with_reducible first | exact HB.out | apply below_alloc | apply pw_below_drewN | apply below_drew1) | exact HB.out)⟩⟩
  case round =>
    clear H'
    try clear p2
    obtain ⟨x0_1, x1_1, x5_1, rfl, rfl, HA, HK1, HO_0, HK, HB⟩ := hrel
    cases gk with
    | zero => exact absurd HA.out (by simp [laws_markPointS.l0])
    | succ k1 =>
      have H := HA.out
      clear HA
      simp only [laws_markPointS.l0] at H
      by_cases c3 : x5_1 < (x0_1.length : Int)
      · rw [if_pos c3] at H
        have c3b0 : decide (x5_1 < (x0_1.length : Int)) = true := decide_eq_true c3
        clear c3
        by_cases c4 : 0 ≤ x5_1
        · rw [if_pos c4] at H
          have c4b0 : decide (0 ≤ x5_1) = true := decide_eq_true c4
          clear c4
          obtain ⟨y290, hy290⟩ : ∃ y_ : List (S90), y_ = (x0_1.set (x5_1 : Int).toNat (⟨x1_1, (rd_T90 x0_1 x5_1).f1⟩ : S90)) := ⟨_, rfl⟩
          replace H : (laws_markPointS.l0 k1 (y290.set (x5_1 : Int).toNat (⟨(rd_T90 y290 x5_1).f0, wrap64 (x1_1 + 1)⟩ : S90)) (wrap64 ((wrap64 (x1_1 + 1)) + 1)) (wrap64 (x5_1 + 1))) = some (r1, r2) := by first | (rw [hy290]; with_reducible exact H) | (have H2_ := (Option.bind_some _ _).symm.trans H; rw [hy290]; with_reducible exact H2_) | (have H2_ := (Option.bind_some _ _).symm.trans H; with_reducible exact H2_) | with_reducible exact H | (rw [hy290]; exact H) | exact H
          have Ny290 := Aside0.mk hy290
          clear hy290
          obtain ⟨y291, hy291⟩ : ∃ y_ : List (S90), y_ = (y290.set (x5_1 : Int).toNat (⟨(rd_T90 y290 x5_1).f0, wrap64 (x1_1 + 1)⟩ : S90)) := ⟨_, rfl⟩
          replace H : (laws_markPointS.l0 k1 y291 (wrap64 ((wrap64 (x1_1 + 1)) + 1)) (wrap64 (x5_1 + 1))) = some (r1, r2) := by first | (rw [hy291]; with_reducible exact H) | (have H2_ := (Option.bind_some _ _).symm.trans H; rw [hy291]; with_reducible exact H2_) | (have H2_ := (Option.bind_some _ _).symm.trans H; with_reducible exact H2_) | with_reducible exact H | (rw [hy291]; exact H) | exact H
          have Ny291 := Aside0.mk hy291
          clear hy291
          have H' := Aside0.mk H
          clear H
          obtain ⟨Ao7, co7, eo7⟩ := Kd.R_slice HO_0.out
          subst eo7
          have p5 : 0 ≤ (x5_1 : Int) := of_decide_eq_true (by first | (with_reducible assumption) | assumption)
          have q5 : (x5_1 : Int) < ((x0_1.length : Int) : Int) := of_decide_eq_true (by first | (with_reducible assumption) | assumption)
          obtain ⟨go5, co5, eo5, gb5, gl5, cl5, HG5⟩ := Kd.R_form HO_0.out (by omega)
          (first | cases eo5 | (injection eo5 with ea_ en_ ec_; (first | subst ea_ | (injection ea_ with ea_; subst ea_)); subst ec_; clear en_))
          have GB5 := Aside0.mk gb5
          have GG5 := Aside0.mk HG5
          clear gb5 gl5 HG5
          have HMgo5 := Aside0.mk (show (P0_ go5 ∨ w.heap.size ≤ go5) from (HO_0.out.1 _ rfl))
          obtain ⟨ce5, hcl5, hM5, hcc5, hfr5⟩ := Kd.R_elem HO_0.out z90 (x5_1 : Int) p5 q5
          obtain rfl := k90_openM hM5
          have hx5_0 : wr.cell? ⟨go5, (x5_1 : Int).toNat * 2, none⟩ = some (.int .i64 ((rd_T90 x0_1 x5_1).f0)) := hcc5 0 _ rfl
          have hx5_1 : wr.cell? ⟨go5, (x5_1 : Int).toNat * 2 + 1, none⟩ = some (.int .i64 ((rd_T90 x0_1 x5_1).f1)) := hcc5 1 _ rfl
          have hf5_0 : wr.frozen? ⟨go5, (x5_1 : Int).toNat * 2, none⟩ = false := hfr5 0
          have hf5_1 : wr.frozen? ⟨go5, (x5_1 : Int).toNat * 2 + 1, none⟩ = false := hfr5 1
          clear hcl5 hcc5 hfr5 hM5
          replace p5 := eq_true p5
          replace q5 := eq_true q5
          have HX8 := Aside0.mk (show Kd.R k90 90 wr w0.heap.size (fun k_ => (P0_ k_ ∨ w.heap.size ≤ k_)) (.slice (some ⟨go5, 0, none⟩) x0_1.length co7) x0_1 from (by (with_reducible repeat (first | apply Kd.R_alloc | apply Kd.R_drewN | apply Kd.R_drew)); exact HO_0.out))
          obtain ⟨ce8, hcl8, hM8, hcc8, hfr8⟩ := Kd.R_elem HX8.out z90 (x5_1 : Int) (of_decide_eq_true (by first | (with_reducible assumption) | assumption)) (by have h_ : (x5_1 : Int) < ((x0_1.length : Int) : Int) := of_decide_eq_true (by first | (with_reducible assumption) | assumption); first | exact h_ | (have e_ := (Kd.R_reads' HO_0.out).1; omega) | simpa using h_)
          obtain rfl := k90_openM hM8
          have HP8 := Kd.R_seg HX8.out (x5_1 : Int) (of_decide_eq_true (by first | (with_reducible assumption) | assumption)) (by have h_ : (x5_1 : Int) < ((x0_1.length : Int) : Int) := of_decide_eq_true (by first | (with_reducible assumption) | assumption); first | exact h_ | (have e_ := (Kd.R_reads' HO_0.out).1; omega) | simpa using h_) (seg := [.int .i64 x1_1]) (j := 0) hcl8 hcc8 (show 1 ≤ 2 from by decide) (x' := (⟨x1_1, (rd_T90 x0_1 x5_1).f1⟩ : S90)) (k90_mkM _ _ _ (⟨x1_1, (rd_T90 x0_1 x5_1).f1⟩ : S90) ) (fun _ hk => hk)
          have hx8_0 := hcc8 0 _ rfl
          (try simp only [show (k90).sz = 2 from rfl, Nat.mul_one, Nat.add_zero] at hx8_0)
          have hf8_0 := hfr8 0
          (try simp only [show (k90).sz = 2 from rfl, Nat.mul_one, Nat.add_zero] at hf8_0)
          clear hcl8 hcc8 hfr8 hM8
          go_wp2_with (first | ((with_reducible refine gate_store (t := 2) (p := 16) rfl ?_); refine store_event (t := 2) (p := 16) (v := ?vo_w9) (w1 := (wr.setCell ⟨go5, (x5_1 : Int).toNat * 2, none⟩ (.int .i64 x1_1))) ?hg ?ho ?hn ?hr ?_; (case ho => rfl); (case hg => rfl); (case hn => rfl); (case hr => first | (go_simp; done) | (go_simp; rfl)); intro w9 hw; have hg : wr.grownBy w9 (some go5) := (by rw [hw]; exact HP8.2); have hp_ : Kd.R k90 90 w9 w0.heap.size (fun k_ => (P0_ k_ ∨ w.heap.size ≤ k_)) (.slice (some ⟨go5, 0, none⟩) x0_1.length co7) y290 := (by rw [hw, Ny290.out]; exact HP8.1); clear HP8; have n0_ := Aside0.mk (hp_); have n1_ := Aside0.mk ((by rw [hw]; exact below_set (HB.out) GB5.out : Below w0.heap.size w0 w9)); have n2_ := Aside0.mk (Kept.of_grown (S := (fun k_ => P0_ k_)) hg (by repeat (first | (with_reducible first | exact HK.out | apply Kept.alloc | apply Kept.drewN | apply Kept.drew) | exact HK.out)) (fun k_ e_ => (HO_0.out.1 k_ e_))); clear HO_0; clear HB; clear HK; have HO_0 := n0_; have HB := n1_; have HK := n2_; clear n0_ n1_ n2_; clear hg hw hp_; have p6 : 0 ≤ (x5_1 : Int) := of_decide_eq_true (by first | (with_reducible assumption) | assumption); have q6 : (x5_1 : Int) < ((x0_1.length : Int) : Int) := of_decide_eq_true (by first | (with_reducible assumption) | assumption); obtain ⟨ce6, hcl6, hM6, hcc6, hfr6⟩ := Kd.R_elem HO_0.out z90 (x5_1 : Int) p6 q6; obtain rfl := k90_openM hM6; have hx6_0 : w9.cell? ⟨go5, (x5_1 : Int).toNat * 2, none⟩ = some (.int .i64 ((rd_T90 y290 x5_1).f0)) := hcc6 0 _ rfl; have hx6_1 : w9.cell? ⟨go5, (x5_1 : Int).toNat * 2 + 1, none⟩ = some (.int .i64 ((rd_T90 y290 x5_1).f1)) := hcc6 1 _ rfl; have hf6_0 : w9.frozen? ⟨go5, (x5_1 : Int).toNat * 2, none⟩ = false := hfr6 0; have hf6_1 : w9.frozen? ⟨go5, (x5_1 : Int).toNat * 2 + 1, none⟩ = false := hfr6 1; clear hcl6 hcc6 hfr6 hM6; replace p6 := eq_true p6; replace q6 := eq_true q6; have HX10 := Aside0.mk (show Kd.R k90 90 w9 w0.heap.size (fun k_ => (P0_ k_ ∨ w.heap.size ≤ k_)) (.slice (some ⟨go5, 0, none⟩) x0_1.length co7) y290 from (by (with_reducible repeat (first | apply Kd.R_alloc | apply Kd.R_drewN | apply Kd.R_drew)); exact HO_0.out)); obtain ⟨ce10, hcl10, hM10, hcc10, hfr10⟩ := Kd.R_elem HX10.out z90 (x5_1 : Int) (of_decide_eq_true (by first | (with_reducible assumption) | assumption)) (by have h_ : (x5_1 : Int) < ((x0_1.length : Int) : Int) := of_decide_eq_true (by first | (with_reducible assumption) | assumption); first | exact h_ | (have e_ := (Kd.R_reads' HO_0.out).1; omega) | simpa using h_); obtain rfl := k90_openM hM10; have HP10 := Kd.R_seg HX10.out (x5_1 : Int) (of_decide_eq_true (by first | (with_reducible assumption) | assumption)) (by have h_ : (x5_1 : Int) < ((x0_1.length : Int) : Int) := of_decide_eq_true (by first | (with_reducible assumption) | assumption); first | exact h_ | (have e_ := (Kd.R_reads' HO_0.out).1; omega) | simpa using h_) (seg := [.int .i64 (wrap64 (x1_1 + 1))]) (j := 1) hcl10 hcc10 (show 2 ≤ 2 from by decide) (x' := (⟨(rd_T90 y290 x5_1).f0, wrap64 (x1_1 + 1)⟩ : S90)) (k90_mkM _ _ _ (⟨(rd_T90 y290 x5_1).f0, wrap64 (x1_1 + 1)⟩ : S90) ) (fun _ hk => hk); have hx10_1 := hcc10 1 _ rfl; (try simp only [show (k90).sz = 2 from rfl, Nat.mul_one, Nat.add_zero] at hx10_1); have hf10_1 := hfr10 1; (try simp only [show (k90).sz = 2 from rfl, Nat.mul_one, Nat.add_zero] at hf10_1); clear hcl10 hcc10 hfr10 hM10) | ((with_reducible refine gate_store (t := 2) (p := 23) rfl ?_); refine store_event (t := 2) (p := 23) (v := ?vo_w11) (w1 := (w9.setCell ⟨go5, (x5_1 : Int).toNat * 2 + 1, none⟩ (.int .i64 (wrap64 (x1_1 + 1))))) ?hg ?ho ?hn ?hr ?_; (case ho => rfl); (case hg => rfl); (case hn => rfl); (case hr => first | (go_simp; done) | (go_simp; rfl)); intro w11 hw; have hg : w9.grownBy w11 (some go5) := (by rw [hw]; exact HP10.2); have hp_ : Kd.R k90 90 w11 w0.heap.size (fun k_ => (P0_ k_ ∨ w.heap.size ≤ k_)) (.slice (some ⟨go5, 0, none⟩) x0_1.length co7) y291 := (by rw [hw, Ny291.out]; exact HP10.1); clear HP10; have n0_ := Aside0.mk (hp_); have n1_ := Aside0.mk ((by rw [hw]; exact below_set (HB.out) GB5.out : Below w0.heap.size w0 w11)); have n2_ := Aside0.mk (Kept.of_grown (S := (fun k_ => P0_ k_)) hg (by repeat (first | (with_reducible first | exact HK.out | apply Kept.alloc | apply Kept.drewN | apply Kept.drew) | exact HK.out)) (fun k_ e_ => (HO_0.out.1 k_ e_))); clear HO_0; clear HB; clear HK; have HO_0 := n0_; have HB := n1_; have HK := n2_; clear n0_ n1_ n2_; clear hg hw hp_))
          go_roundg k1
          case measure => have := HK1.out; omega
          case rel => exact ⟨(y291), (wrap64 ((wrap64 (x1_1 + 1)) + 1)), (wrap64 (x5_1 + 1)), (by first | rfl | (simp; done) | (simp [*]; done)), (by first | rfl | (simp; done) | (simp [*]; done)), H', ⟨by have := HK1.out; omega⟩, ⟨by (with_reducible repeat (first | apply Kd.R_alloc | apply Kd.R_drewN | apply Kd.R_drew)); exact HO_0.out⟩, ⟨by repeat (first | (with_reducible first | exact HK.out | apply Kept.alloc | apply Kept.drewN | apply Kept.drew) | exact HK.out)⟩, ⟨by repeat (first | (with_reducible first | exact HB.out | apply below_alloc | apply pw_below_drewN | apply below_drew1) | exact HB.out)⟩⟩
        · rw [if_neg c4] at H
          exact absurd H (by simp)
      · rw [if_neg c3] at H
        have c3b0 : decide (x5_1 < (x0_1.length : Int)) = false := decide_eq_false c3
        clear c3
        simp only [Option.some.injEq, Prod.mk.injEq] at H
        obtain ⟨rfl, rfl⟩ := H
        obtain ⟨Ao12, co12, eo12⟩ := Kd.R_slice HO_0.out
        subst eo12
        go_wp2
        go_ret
        exact ⟨by first | rfl | (simp [errW_none, errW_some] <;> rfl) | (simp [*, errW_none, errW_some] <;> rfl), by (with_reducible repeat (first | apply Kd.R_alloc | apply Kd.R_drewN | apply Kd.R_drew)); exact HO_0.out, by repeat (first | (with_reducible first | exact HB.out | apply below_alloc | apply pw_below_drewN | apply below_drew1) | exact HB.out), by repeat (first | (with_reducible first | exact HK.out | apply Kept.alloc | apply Kept.drewN | apply Kept.drew) | exact HK.out)⟩

end Go.Proofs.Ytgpdjpololkhbaa.F

namespace Go.Proofs.Ytgpdjpololkhbaa.Pure
open Go.RowKit Go.Proofs.Ytgpdjpololkhbaa.F Go.Proofs.YtgpdjpololkhbaaW.PrintWords Go.Proofs.YtgpdjpololkhbaaW.PrintLast Go.Proofs.YtgpdjpololkhbaaW.PrintMore Go.Proofs.YtgpdjpololkhbaaB
set_option linter.unusedVariables false
set_option linter.unusedSimpArgs false
def markP (a : Int) : List S90 → List S90
  | [] => []
  | _ :: ys => ⟨a, a + 1⟩ :: markP (a + 2) ys
theorem markP_length (a : Int) (l : List S90) : (markP a l).length = l.length := by
  induction l generalizing a with
  | nil => rfl
  | cons y ys ih => simp [markP, ih]
theorem laws_markPointS_l0 : ∀ (ys : List S90) (m : Nat) (xs : List S90) (a : Int), xs.length ≤ 2147483647 → xs.drop m = ys → 0 ≤ a → a + 2 * ys.length ≤ 4611686018427387904 →
    Ev (fun k => laws_markPointS.l0 k xs a m) (a + 2 * ys.length, xs.take m ++ markP a ys)
  | [], m, xs, a, hx, h, h0, h1 => by
    have := drop_nil h
    refine ev_step (fun _ => rfl) (ev_neg (by omega) (ev_now ?_))
    rw [List.take_of_length_le this]
    simp [markP]
  | y :: ys, m, xs, a, hx, h, h0, h1 => by
    obtain ⟨hm, _, hd⟩ := drop_cons h
    simp only [List.length_cons] at h1
    refine ev_step (fun _ => rfl) (ev_pos (by omega) (ev_pos (by omega) ?_))
    refine ev_some rfl ?_
    rw [w64 (x := a + 1) (by omega) (by omega), w64 (x := a + 1 + 1) (by omega) (by omega), w64 (x := (m : Int) + 1) (by omega) (by omega)]
    simp only [Int.toNat_natCast]
    have hset : ∀ (v : S90), (rd_T90 (xs.set m v) (m : Int)) = v := fun v => by simp [rd_T90, hm]
    rw [hset, List.set_set]
    have hd' : (xs.set m ⟨a, a + 1⟩).drop (m + 1) = ys := by rw [List.drop_set_of_lt (by omega), hd]
    refine ev_eq (laws_markPointS_l0 ys (m + 1) _ (a + 1 + 1) (by rw [List.length_set]; exact hx) hd' (by omega) (by omega)) ?_
    have ht : (xs.set m ⟨a, a + 1⟩).take (m + 1) = xs.take m ++ [⟨a, a + 1⟩] := by
      rw [set_take h, List.take_append, List.take_of_length_le (by rw [List.length_take]; omega), List.length_take, show m + 1 - min m xs.length = 1 by omega]
      rfl
    rw [ht]
    simp only [markP, List.length_cons, List.append_assoc, List.singleton_append, show a + 1 + 1 = a + 2 by omega]
    congr 1
    omega
theorem laws_markPointS_f (xs : List S90) (a : Int) (hx : xs.length ≤ 2147483647) (h0 : 0 ≤ a) (h1 : a + 2 * xs.length ≤ 4611686018427387904) :
    Ev (fun k => laws_markPointS.f k xs a) (a + 2 * xs.length, markP a xs) := ev_eq (laws_markPointS_l0 xs 0 xs a hx rfl h0 h1) (by simp)

end Go.Proofs.Ytgpdjpololkhbaa.Pure

namespace Go.Proofs.Ytgpdjpololkhbaa.Pure
open Go.RowKit Go.Proofs.Ytgpdjpololkhbaa.F Go.Proofs.YtgpdjpololkhbaaW.PrintWords Go.Proofs.YtgpdjpololkhbaaW.PrintLast Go.Proofs.YtgpdjpololkhbaaW.PrintMore Go.Proofs.YtgpdjpololkhbaaB
set_option linter.unusedVariables false
set_option linter.unusedSimpArgs false
/-- How many numbers the strokes hold. -/
def numSt : List S110 → Int
  | [] => 0
  | y :: ys => 1 + 2 * y.f1.length + numSt ys
def markSt (a : Int) : List S110 → List S110
  | [] => []
  | y :: ys => ⟨a, markP (a + 1) y.f1⟩ :: markSt (a + 1 + 2 * y.f1.length) ys
theorem markSt_length (a : Int) (l : List S110) : (markSt a l).length = l.length := by
  induction l generalizing a with
  | nil => rfl
  | cons y ys ih => simp [markSt, ih]
theorem numSt_nonneg (l : List S110) : 0 ≤ numSt l := by
  induction l with
  | nil => exact Int.le_refl _
  | cons y ys ih => simp only [numSt]; omega

end Go.Proofs.Ytgpdjpololkhbaa.Pure

namespace Go.Proofs.Ytgpdjpololkhbaa.Pure
open Go.RowKit Go.Proofs.Ytgpdjpololkhbaa.F Go.Proofs.YtgpdjpololkhbaaW.PrintWords Go.Proofs.YtgpdjpololkhbaaW.PrintLast Go.Proofs.YtgpdjpololkhbaaW.PrintMore Go.Proofs.YtgpdjpololkhbaaB
set_option linter.unusedVariables false
set_option linter.unusedSimpArgs false
theorem setCells_one (W : World) (g o : Nat) (u : Value) : W.setCells g o [u] = W.setCell ⟨g, o, none⟩ u := rfl
/-- What the marks of a row of strokes are worth: the strokes are marked, what is not theirs is as it was. -/
def MarkedSt (P : Nat → Prop) (v : Value) (l : List S110) (a : Int) (w0 w w' : World) (e : Ending) : Prop :=
  e = .returned (.int .i64 (a + numSt l)) ∧ Kd.S k110 110 w' w0.heap.size (fun k => P k ∨ w.heap.size ≤ k) v (markSt a l) ∧ Below w0.heap.size w0 w' ∧ Kept w w' P
set_option maxHeartbeats 8000000 in
set_option maxRecDepth 100000 in
theorem markStrokeS_calls (P : Nat → Prop) (v : Value) (l : List S110) (a : Int) (w0 w : World) (hB : Below w0.heap.size w0 w) (hS : Kd.S k110 110 w w0.heap.size P v l) (hl : l.length ≤ 2147483647) (hi : ∀ y ∈ l, y.f1.length ≤ 2147483647) (h0 : 0 ≤ a) (h1 : a + numSt l ≤ 4611686018427387904) :
    Calls Try.prog 21 #[v, .int .i64 a] w fun e w' => MarkedSt P v l a w0 w w' e := by
  have hu := Try.underlying110
  obtain ⟨A0, c0, rfl⟩ := Kd.S_slice hS
  have HS := Aside0.mk (Kd.S_mono hS (ok' := fun k => P k ∨ w.heap.size ≤ k) (fun _ h => .inl h))
  have HB := Aside0.mk hB
  have HI := Aside0.mk hi
  have HA := Aside0.mk h0
  have HT := Aside0.mk h1
  clear hS hB hi h0 h1
  go_enter Try.func21, Try.ntmps21
  go_wp2
  go_loopw [1, 5] (fun v1 v5 wr => ∃ (m : Nat) (b : Int) (xs ys : List S110), v1 = .int .i64 b ∧ v5 = .int .i64 m ∧ m ≤ l.length ∧ Aside0 (xs.length = l.length ∧ l.drop m = ys ∧ xs.drop m = ys ∧ xs.take m ++ markSt b ys = markSt a l ∧ b + numSt ys = a + numSt l ∧ 0 ≤ b) ∧ Aside0 (Kd.S k110 110 wr w0.heap.size (fun k => P k ∨ w.heap.size ≤ k) (.slice A0 l.length c0) xs) ∧ Aside0 (Below w0.heap.size w0 wr) ∧ Aside0 (Kept w wr P)) (fun _ v5 _ => l.length - (intOf v5).toNat)
  case atStart => exact ⟨0, a, l, l, rfl, rfl, Nat.zero_le _, ⟨rfl, rfl, rfl, rfl, rfl, HA.out⟩, ⟨HS.out⟩, ⟨HB.out⟩, ⟨Kept.refl _ _⟩⟩
  case round =>
    obtain ⟨m, b, xs, ys, rfl, rfl, hm, HF, HS1, HB1, HK1⟩ := hrel
    by_cases hlt : m < l.length
    · cases ys with
      | nil => exact absurd (drop_nil HF.out.2.1) (by omega)
      | cons y ys =>
      have hb0 := HF.out.2.2.2.2.2
      have hb1 : b + 1 + 2 * y.f1.length ≤ 4611686018427387904 := by
        have h2 := HF.out.2.2.2.2.1
        have h3 := HT.out
        have h4 := numSt_nonneg ys
        simp only [numSt] at h2
        omega
      have hy : y.f1.length ≤ 2147483647 := HI.out y (List.mem_of_mem_drop (by rw [HF.out.2.1]; exact List.mem_cons_self))
      have HS2 := Aside0.mk (Kd.S_mono (Kd.S_bound HS1.out) (ok' := fun k => (P k ∨ w.heap.size ≤ k) ∧ ¬ (wr.heap.size ≤ k)) (fun k hk => ⟨hk.1, by have := hk.2.2.1; omega⟩))
      obtain ⟨g, cap, eg, hg0, hg1, _⟩ := Kd.S_form HS1.out (by rw [HF.out.1]; omega)
      injection eg with ea en ec
      subst ea ec
      clear en
      obtain ⟨oki, c, hcl, hM, hcc, hfr, hoki, hH⟩ := Kd.S_elem HS2.out z110 (m : Int) (by omega) (by omega)
      rw [Int.toNat_natCast, (drop_cons HF.out.2.2.1).2.1] at hM
      obtain ⟨ve, rfl, hR⟩ := k110_openM hM
      simp only [Int.toNat_natCast] at hcc hfr
      have hx0 : wr.cell? ⟨g, m * 2, none⟩ = some (.int .i64 y.f0) := hcc 0 _ rfl
      have hx1 : wr.cell? ⟨g, m * 2 + 1, none⟩ = some ve := hcc 1 _ rfl
      have hf0 : wr.frozen? ⟨g, m * 2, none⟩ = false := hfr 0
      have HH := Aside0.mk hH
      have HR := Aside0.mk hR
      have HO := Aside0.mk hoki
      have HG := Aside0.mk hg0
      have hok1 : P g ∨ w.heap.size ≤ g := (Kd.S_R HS1.out).1 g (by simp [Value.ownBlock])
      have HP := Aside0.mk hok1
      obtain ⟨kq, hq⟩ := (laws_markPointS_f y.f1 (b + 1) hy (by omega) hb1).rounds
      have HQ := Aside0.mk hq
      clear hcl hM hcc hfr hoki hH hR hg0 hg1 hok1 hq HS2
      go_wp2_with fail
      have hW1 : Below w0.heap.size w0 (wr.setCell ⟨g, m * 2, none⟩ (.int .i64 b)) := below_set HB1.out HG.out
      refine (laws_markPointS.calls kq oki ve y.f1 (b + 1) _ _ w0 _ hW1 (Kd.R_far HR.out (fun k hk => (HO.out k hk).2) _) HQ.out).mono ?_
      rintro e w2 ⟨rfl, hR2, hB2, hK2⟩
      have HS3 : Aside0 (Kd.S k110 110 w2 w0.heap.size (fun k => P k ∨ w.heap.size ≤ k) (.slice (some ⟨g, 0, none⟩) l.length c0) (xs.set m ⟨b, markP (b + 1) y.f1⟩)) := ⟨by
        have e1 := (Kd.H_seg HH.out (by omega) (by omega) (seg := [.int .i64 b]) (j := 0) (show 0 + 1 ≤ 2 by decide) (by simp [Value.oneCell'])).1
        rw [setCells_one, Int.toNat_natCast] at e1
        have e2 := Kd.H_kept e1 hK2 (fun k _ hn => hn)
        have e3 := Kd.H_more (okg := fun k => wr.heap.size ≤ k) e2 (fun k hk => .inr (Nat.le_trans HK1.out.1 hk))
        have e4 := Kd.H_back e3 (x' := ⟨b, markP (b + 1) y.f1⟩) (okp := fun k => oki k ∨ wr.heap.size ≤ k) (k110_mkM _ _ _ ⟨b, markP (b + 1) y.f1⟩ (by simpa using hR2)) (fun _ h => h)
        exact e4⟩
      have HK2 := Aside0.mk (Kept.then_ (Kept.setCell HK1.out (p := ⟨g, m * 2, none⟩) HP.out (.int .i64 b)) hK2 (fun k hk => (HO.out k hk).1.1))
      have HB2 := Aside0.mk hB2
      have HF2 : Aside0 ((xs.set m ⟨b, markP (b + 1) y.f1⟩).length = l.length ∧ l.drop (m + 1) = ys ∧ (xs.set m ⟨b, markP (b + 1) y.f1⟩).drop (m + 1) = ys ∧ (xs.set m ⟨b, markP (b + 1) y.f1⟩).take (m + 1) ++ markSt (b + 1 + 2 * y.f1.length) ys = markSt a l ∧ b + 1 + 2 * y.f1.length + numSt ys = a + numSt l ∧ 0 ≤ b + 1 + 2 * y.f1.length) := ⟨by
        obtain ⟨f1, f2, f3, f4, f5, f6⟩ := HF.out
        refine ⟨by rw [List.length_set, f1], (drop_cons f2).2.2, by rw [List.drop_set_of_lt (by omega), (drop_cons f3).2.2], ?_, by simp only [numSt] at f5; omega, by omega⟩
        rw [← f4, set_take f3, List.take_append, List.take_of_length_le (by rw [List.length_take]; omega), List.length_take, show m + 1 - min m xs.length = 1 by omega]
        simp [markSt]⟩
      clear hW1 hR2 hB2 hK2 hx0 hx1 hf0 HH HR HO HQ HF HS1 HB1 HK1
      go_wp2_with fail
      go_roundw
      case rel => exact ⟨m + 1, b + 1 + 2 * y.f1.length, _, ys, rfl, by go_num, by omega, HF2, HS3, HB2, HK2⟩
      case measure => simp [intOf]; omega
    · have HE : Aside0 (xs = markSt a l ∧ b = a + numSt l) := ⟨by
        obtain ⟨f1, f2, f3, f4, f5, f6⟩ := HF.out
        have : ys = [] := by rw [← f2, List.drop_eq_nil_of_le (by omega)]
        subst this
        simp only [markSt, List.append_nil, numSt, Int.add_zero] at f4 f5
        rw [List.take_of_length_le (by omega)] at f4
        exact ⟨f4, f5⟩⟩
      clear HF
      go_wp2
      go_ret
      obtain ⟨rfl, rfl⟩ := HE.out
      exact ⟨rfl, HS1.out, HB1.out, HK1.out⟩

end Go.Proofs.Ytgpdjpololkhbaa.Pure

namespace Go.Proofs.Ytgpdjpololkhbaa.Pure
open Go.RowKit Go.Proofs.Ytgpdjpololkhbaa.F Go.Proofs.YtgpdjpololkhbaaW.PrintWords Go.Proofs.YtgpdjpololkhbaaW.PrintLast Go.Proofs.YtgpdjpololkhbaaW.PrintMore Go.Proofs.YtgpdjpololkhbaaB
set_option linter.unusedVariables false
set_option linter.unusedSimpArgs false
/-- What the numbers behind marks from a on are. -/
def MarkSt (l ys : List S110) (a n : Int) : Prop := l.length ≤ 2147483647 ∧ (∀ y ∈ l, y.f1.length ≤ 2147483647) ∧ 0 ≤ a ∧ a + numSt l ≤ 4611686018427387904 ∧ n = a + numSt l ∧ ys = markSt a l
theorem MK_StrokeS (P : Nat → Prop) (A : Option Addr) (c : Nat) (l ys : List S110) (a n : Int) (w0 w : World) (hB : Below w0.heap.size w0 w) (hO : Kd.S k110 110 w w0.heap.size P (.slice A l.length c) l) (h : MarkSt l ys a n) :
    Calls Try.prog 21 #[.slice A l.length c, .int .i64 a] w fun e w' => e = .returned (.int .i64 n) ∧ Kd.S k110 110 w' w0.heap.size (fun k => P k ∨ w.heap.size ≤ k) (.slice A l.length c) ys ∧ Below w0.heap.size w0 w' ∧ Kept w w' P := by
  obtain ⟨h1, h2, h3, h4, rfl, rfl⟩ := h
  exact markStrokeS_calls P _ l a w0 w hB hO h1 h2 h3 h4

end Go.Proofs.Ytgpdjpololkhbaa.Pure

namespace Go.Proofs.Ytgpdjpololkhbaa.F
open Go.RowKit Go.Proofs.YtgpdjpololkhbaaW.PrintWords Go.Proofs.YtgpdjpololkhbaaW.PrintLast Go.Proofs.YtgpdjpololkhbaaW.PrintMore
attribute [local go_sem] max2_int min2_int max_two min_two max_three min_three max_four min_four   -- for this text's walks alone
set_option linter.unusedVariables false
set_option linter.unusedSimpArgs false

/-! ### impl_isPoint: function 123 -/
def impl_isPoint.f (a0_0 : Int) (a0_1 : Int) : Option (Bool) := (impl_isSpot.f a0_0).bind fun t195 => (if t195 = true then ((impl_isSpot.f a0_1).bind fun t196 => (some t196)) else (some false))
set_option maxHeartbeats 8000000 in
set_option maxRecDepth 100000 in
theorem impl_isPoint.calls (a0_0 : Int) (a0_1 : Int) (r : Bool) (w : World) (h : impl_isPoint.f a0_0 a0_1 = some r) :
    Calls Try.prog 123 #[.agg #[.int .i64 a0_0, .int .i64 a0_1]] w fun e w' => e = .returned (.bool r) ∧ Below w.heap.size w w' := by
  have hu90 := Try.underlying90
  have HB := Aside0.mk (Below.refl w.heap.size w)
  have H : ((impl_isSpot.f a0_0).bind fun t195 => (if t195 = true then ((impl_isSpot.f a0_1).bind fun t196 => (some t196)) else (some false))) = some r := h
  clear h
  replace H := Option.bind_eq_some_iff.mp H
  obtain ⟨t195, A20, H⟩ := H
  replace H : (if t195 = true then ((impl_isSpot.f a0_1).bind fun t196 => (some t196)) else (some false)) = some r := H
  have A2 := Aside0.mk A20
  clear A20
  by_cases c3 : t195 = true
  · subst c3
    have H1 : ((impl_isSpot.f a0_1).bind fun t196 => (some t196)) = some r := by rw [if_pos rfl] at H; exact H
    clear H
    have H := H1
    clear H1
    replace H := Option.bind_eq_some_iff.mp H
    obtain ⟨t196, A40, H⟩ := H
    replace H : (some t196) = some r := H
    have A4 := Aside0.mk A40
    clear A40
    obtain rfl := Option.some.inj H
    go_enter Try.func123, Try.ntmps123
    go_wp2_with (first | ((with_reducible refine gate_dst (N := 1) rfl ?_); refine box_event ?hg (N := 1) ?hd (cs := #[.int .i64 a0_0, .int .i64 a0_1]) (t := 90) ?hr ?_; (case hd => rfl); (case hg => rfl); (case hr => first | (go_simp; done) | (go_simp; rfl)); intro gb194 hg w5 hbox hb; have n0_ := Aside0.mk (below_step (by repeat (first | (with_reducible first | exact HB.out | apply below_alloc | apply pw_below_drewN | apply below_drew1) | exact HB.out)) hb); have n1_ := Aside0.mk (hbox); have n2_ := Aside0.mk ((by rw [hg]; exact (below_size (by repeat (first | (with_reducible first | exact HB.out | apply below_alloc | apply pw_below_drewN | apply below_drew1) | exact HB.out))) : w.heap.size ≤ gb194)); have n3_ := Aside0.mk ((by rw [hg]; exact (below_size (by repeat (first | (with_reducible first | exact HB.out | apply below_alloc | apply pw_below_drewN | apply below_drew1) | exact HB.out))) : w.heap.size ≤ gb194)); clear HB; have HB := n0_; have BK194 := n1_; have GW194 := n2_; have GE194 := n3_; clear n0_ n1_ n2_ n3_; clear hb hbox hg; have hcz6_0 : w5.cell? ⟨gb194, 0, none⟩ = some (.int .i64 a0_0) := (blk_cell BK194.out 0).trans rfl; have hcz6_1 : w5.cell? ⟨gb194, 1, none⟩ = some (.int .i64 a0_1) := (blk_cell BK194.out 1).trans rfl; have hfz6_0 := blk_frozen BK194.out 0; have hfz6_1 := blk_frozen BK194.out 1) | ((with_reducible refine gate_callee (f := 99) rfl ?_); refine goesL_ (some 5) rfl rfl Try.func99 (by kernel_rfl) rfl #[.int .i64 a0_0] rfl (by (try simp only [List.map_toArray, List.map_cons, List.map_nil]); first | done | rfl | (simp only [List.length_drop, List.length_take]; rfl)) ?_; (with_reducible refine (impl_isSpot.calls a0_0 true _ A2.out).mono ?_); rintro e w' ⟨rfl, ⟨nd, rfl⟩⟩; refine ⟨_, rfl, ?_⟩) | (go_at_call 99; (with_reducible refine (impl_isSpot.calls a0_1 t196 _ A4.out).mono ?_); rintro e w' ⟨rfl, ⟨nd, rfl⟩⟩))
    go_ret
    exact ⟨by first | rfl | (simp [errW_none, errW_some] <;> rfl) | (simp [*, errW_none, errW_some] <;> rfl), by repeat (first | (with_reducible first | exact HB.out | apply below_alloc | apply pw_below_drewN | apply below_drew1 | refine below_set ?_ GE194.out) | exact HB.out)⟩
  · replace c3 := Bool.eq_false_iff.mpr c3
    subst c3
    have H1 : (some false) = some r := by rw [if_neg (show ¬ (false = true) by decide)] at H; exact H
    clear H
    have H := H1
    clear H1
    obtain rfl := Option.some.inj H
    go_enter Try.func123, Try.ntmps123
    go_wp2_with (first | ((with_reducible refine gate_dst (N := 1) rfl ?_); refine box_event ?hg (N := 1) ?hd (cs := #[.int .i64 a0_0, .int .i64 a0_1]) (t := 90) ?hr ?_; (case hd => rfl); (case hg => rfl); (case hr => first | (go_simp; done) | (go_simp; rfl)); intro gb194 hg w7 hbox hb; have n0_ := Aside0.mk (below_step (by repeat (first | (with_reducible first | exact HB.out | apply below_alloc | apply pw_below_drewN | apply below_drew1) | exact HB.out)) hb); have n1_ := Aside0.mk (hbox); have n2_ := Aside0.mk ((by rw [hg]; exact (below_size (by repeat (first | (with_reducible first | exact HB.out | apply below_alloc | apply pw_below_drewN | apply below_drew1) | exact HB.out))) : w.heap.size ≤ gb194)); have n3_ := Aside0.mk ((by rw [hg]; exact (below_size (by repeat (first | (with_reducible first | exact HB.out | apply below_alloc | apply pw_below_drewN | apply below_drew1) | exact HB.out))) : w.heap.size ≤ gb194)); clear HB; have HB := n0_; have BK194 := n1_; have GW194 := n2_; have GE194 := n3_; clear n0_ n1_ n2_ n3_; clear hb hbox hg; have hcz8_0 : w7.cell? ⟨gb194, 0, none⟩ = some (.int .i64 a0_0) := (blk_cell BK194.out 0).trans rfl; have hcz8_1 : w7.cell? ⟨gb194, 1, none⟩ = some (.int .i64 a0_1) := (blk_cell BK194.out 1).trans rfl; have hfz8_0 := blk_frozen BK194.out 0; have hfz8_1 := blk_frozen BK194.out 1) | ((with_reducible refine gate_callee (f := 99) rfl ?_); refine goesL_ (some 5) rfl rfl Try.func99 (by kernel_rfl) rfl #[.int .i64 a0_0] rfl (by (try simp only [List.map_toArray, List.map_cons, List.map_nil]); first | done | rfl | (simp only [List.length_drop, List.length_take]; rfl)) ?_; (with_reducible refine (impl_isSpot.calls a0_0 false _ A2.out).mono ?_); rintro e w' ⟨rfl, ⟨nd, rfl⟩⟩; refine ⟨_, rfl, ?_⟩))
    go_ret
    exact ⟨by first | rfl | (simp [errW_none, errW_some] <;> rfl) | (simp [*, errW_none, errW_some] <;> rfl), by repeat (first | (with_reducible first | exact HB.out | apply below_alloc | apply pw_below_drewN | apply below_drew1 | refine below_set ?_ GE194.out) | exact HB.out)⟩

end Go.Proofs.Ytgpdjpololkhbaa.F

namespace Go.Proofs.Ytgpdjpololkhbaa.F
open Go.RowKit Go.Proofs.YtgpdjpololkhbaaW.PrintWords Go.Proofs.YtgpdjpololkhbaaW.PrintLast Go.Proofs.YtgpdjpololkhbaaW.PrintMore
attribute [local go_sem] max2_int min2_int max_two min_two max_three min_three max_four min_four   -- for this text's walks alone
set_option linter.unusedVariables false
set_option linter.unusedSimpArgs false

/-! ### impl_IsLine_1: function 180 -/
def impl_IsLine_1.f (a0_0 : Int) (a0_1 : Int) : Option (Bool) := (impl_isPoint.f a0_0 a0_1).bind fun t198 => (some (!t198))
set_option maxHeartbeats 8000000 in
set_option maxRecDepth 100000 in
theorem impl_IsLine_1.calls (a0_0 : Int) (a0_1 : Int) (r : Bool) (w : World) (h : impl_IsLine_1.f a0_0 a0_1 = some r) :
    Calls Try.prog 180 #[.agg #[.int .i64 a0_0, .int .i64 a0_1]] w fun e w' => e = .returned (.bool r) ∧ Below w.heap.size w w' := by
  have hu90 := Try.underlying90
  have HB := Aside0.mk (Below.refl w.heap.size w)
  have H : ((impl_isPoint.f a0_0 a0_1).bind fun t198 => (some (!t198))) = some r := h
  clear h
  replace H := Option.bind_eq_some_iff.mp H
  obtain ⟨t198, A20, H⟩ := H
  replace H : (some (!t198)) = some r := H
  have A2 := Aside0.mk A20
  clear A20
  obtain rfl := Option.some.inj H
  go_enter Try.func180, Try.ntmps180
  go_wp2_with (first | ((with_reducible refine gate_dst (N := 1) rfl ?_); refine box_event ?hg (N := 1) ?hd (cs := #[.int .i64 a0_0, .int .i64 a0_1]) (t := 90) ?hr ?_; (case hd => rfl); (case hg => rfl); (case hr => first | (go_simp; done) | (go_simp; rfl)); intro gb197 hg w3 hbox hb; have n0_ := Aside0.mk (below_step (by repeat (first | (with_reducible first | exact HB.out | apply below_alloc | apply pw_below_drewN | apply below_drew1) | exact HB.out)) hb); have n1_ := Aside0.mk (hbox); have n2_ := Aside0.mk ((by rw [hg]; exact (below_size (by repeat (first | (with_reducible first | exact HB.out | apply below_alloc | apply pw_below_drewN | apply below_drew1) | exact HB.out))) : w.heap.size ≤ gb197)); have n3_ := Aside0.mk ((by rw [hg]; exact (below_size (by repeat (first | (with_reducible first | exact HB.out | apply below_alloc | apply pw_below_drewN | apply below_drew1) | exact HB.out))) : w.heap.size ≤ gb197)); clear HB; have HB := n0_; have BK197 := n1_; have GW197 := n2_; have GE197 := n3_; clear n0_ n1_ n2_ n3_; clear hb hbox hg; have hcz4_0 : w3.cell? ⟨gb197, 0, none⟩ = some (.int .i64 a0_0) := (blk_cell BK197.out 0).trans rfl; have hcz4_1 : w3.cell? ⟨gb197, 1, none⟩ = some (.int .i64 a0_1) := (blk_cell BK197.out 1).trans rfl; have hfz4_0 := blk_frozen BK197.out 0; have hfz4_1 := blk_frozen BK197.out 1) | ((with_reducible refine gate_callee (f := 123) rfl ?_); refine goesL_ (some 4) rfl rfl Try.func123 (by kernel_rfl) rfl #[.agg #[.int .i64 a0_0, .int .i64 a0_1]] rfl (by (try simp only [List.map_toArray, List.map_cons, List.map_nil]); first | done | rfl | (simp only [List.length_drop, List.length_take]; rfl)) ?_; (with_reducible refine (impl_isPoint.calls a0_0 a0_1 t198 _ A2.out).mono ?_); rintro e w5 ⟨rfl, hb⟩; refine ⟨_, rfl, ?_⟩; have n0_ := Aside0.mk (blk_below (g := gb197) (o := .cells #[.int .i64 a0_0, .int .i64 a0_1] 90 (0, 0)) (by (with_reducible repeat (first | refine blk_drewN ?_ _ | refine blk_drew ?_ | refine blk_alloc ?_ _)); exact BK197.out) hb); have n1_ := Aside0.mk (below_step (by repeat (first | (with_reducible first | exact HB.out | apply below_alloc | apply pw_below_drewN | apply below_drew1 | refine below_set ?_ GE197.out) | exact HB.out)) hb); clear BK197; clear HB; have BK197 := n0_; have HB := n1_; clear n0_ n1_; (try clear hb); (try clear hb2); (try clear hk); (try clear hi)))
  go_ret
  exact ⟨by first | rfl | (simp [errW_none, errW_some] <;> rfl) | (simp [*, errW_none, errW_some] <;> rfl), by repeat (first | (with_reducible first | exact HB.out | apply below_alloc | apply pw_below_drewN | apply below_drew1 | refine below_set ?_ GE197.out) | exact HB.out)⟩

end Go.Proofs.Ytgpdjpololkhbaa.F

namespace Go.Proofs.Ytgpdjpololkhbaa.F
open Go.RowKit Go.Proofs.YtgpdjpololkhbaaW.PrintWords Go.Proofs.YtgpdjpololkhbaaW.PrintLast Go.Proofs.YtgpdjpololkhbaaW.PrintMore
attribute [local go_sem] max2_int min2_int max_two min_two max_three min_three max_four min_four   -- for this text's walks alone
set_option linter.unusedVariables false
set_option linter.unusedSimpArgs false

/-! ### impl_IsLine: function 147 -/
def bdPoint (p : S90) : Bool := !(decide (-1000000 ≤ p.f0 ∧ p.f0 ≤ 1000000) && decide (-1000000 ≤ p.f1 ∧ p.f1 ≤ 1000000))
def impl_IsLine.f (l0 : List (S90)) : Option (Bool) := some (decide (l0.length ≤ 200) && !l0.any bdPoint)
theorem bdPoint_f (p : S90) : impl_IsLine_1.f p.f0 p.f1 = some (bdPoint p) := by
  simp only [impl_IsLine_1.f, impl_isPoint.f, impl_isSpot.f, impl_in.f, bdPoint]
  by_cases h1 : p.f0 ≥ -1000000 <;> by_cases h2 : p.f0 ≤ 1000000 <;> by_cases h3 : p.f1 ≥ -1000000 <;> by_cases h4 : p.f1 ≤ 1000000 <;> simp [h1, h2, h3, h4]
theorem any_take (l0 : List (S90)) (m : Nat) (h : m < l0.length) : (l0.take (m + 1)).any bdPoint = ((l0.take m).any bdPoint || bdPoint (rd_T90 l0 m)) := by
  rw [List.take_succ_eq_append_getElem h, List.any_append]
  simp [rd_T90, h]
/-- What the index says: one of 0 and above tells that one of the points is beyond the bounds. -/
def IdxIs (b : Bool) (w w' : World) (e : Ending) : Prop := ∃ i : Int, e = .returned (.int .i64 i) ∧ decide (0 ≤ i) = b ∧ Below w.heap.size w w'
set_option maxHeartbeats 8000000 in
set_option maxRecDepth 100000 in
theorem idx_any (A0 : Option Addr) (c0 : Nat) (l0 : List (S90)) (w : World) (hr0 : Kd.C k90 w A0 l0.length l0) :
    Calls Try.prog 198 #[.slice A0 l0.length c0, .func (.func 180) #[] #[]] w fun e w' => IdxIs (l0.any bdPoint) w w' e := by
  have hu := Try.underlying90
  have HR0 := Aside0.mk hr0
  have hlen : l0.length ≤ 9223372036854775807 := hr0.2.1
  clear hr0
  go_enter Try.func198, Try.ntmps198
  go_wp2
  go_loopw [8] (fun v8 wr => ∃ m : Nat, v8 = .int .i64 m ∧ m ≤ l0.length ∧ Aside0 ((l0.take m).any bdPoint = false) ∧ Aside0 (Below w.heap.size w wr)) (fun v8 _ => l0.length - (intOf v8).toNat)
  case atStart => exact ⟨0, rfl, Nat.zero_le _, ⟨rfl⟩, ⟨Below.refl _ _⟩⟩
  case round =>
    obtain ⟨m, rfl, hm, HT, HB⟩ := hrel
    by_cases hlt : m < l0.length
    · obtain ⟨ad, e0, hx0, hx1⟩ := at_T90 HR0.out (m : Int) (by omega) (by omega)
      cases e0
      simp only [Int.toNat_natCast] at hx0 hx1
      replace hx0 := (HB.out.cell (World.block_lt_of_cell? w _ hx0)).trans hx0
      replace hx1 := (HB.out.cell (World.block_lt_of_cell? w _ hx1)).trans hx1
      have HN := Aside0.mk (any_take l0 m hlt)
      have HF := Aside0.mk (bdPoint_f (rd_T90 l0 (m : Int)))
      generalize hp : rd_T90 l0 (m : Int) = p at *
      clear hp
      cases hb : bdPoint p
      · have H2 : Aside0 (impl_IsLine_1.f p.f0 p.f1 = some false) := ⟨by rw [HF.out, hb]⟩
        have H3 : Aside0 ((l0.take (m + 1)).any bdPoint = false) := ⟨by rw [HN.out, HT.out, hb]; rfl⟩
        clear hb HN HF
        go_wp2_with (go_at_call 180; (with_reducible refine (impl_IsLine_1.calls p.f0 p.f1 false _ H2.out).mono ?_); rintro e w1 ⟨rfl, hb1⟩)
        go_roundw
        case rel => exact ⟨m + 1, by go_num, by omega, H3, ⟨HB.out.trans (hb1.mono HB.out.size)⟩⟩
        case measure => simp [intOf]; omega
      · have H2 : Aside0 (impl_IsLine_1.f p.f0 p.f1 = some true) := ⟨by rw [HF.out, hb]⟩
        have H3 : Aside0 (l0.any bdPoint = true) := ⟨by
          have := HN.out
          rw [hb, Bool.or_true] at this
          rw [← List.take_append_drop (m + 1) l0, List.any_append, this]
          rfl⟩
        clear hb HN HF
        go_wp2_with (go_at_call 180; (with_reducible refine (impl_IsLine_1.calls p.f0 p.f1 true _ H2.out).mono ?_); rintro e w1 ⟨rfl, hb1⟩)
        go_ret
        exact ⟨m, rfl, by rw [H3.out]; simp, HB.out.trans (hb1.mono HB.out.size)⟩
    · have H3 : Aside0 (l0.any bdPoint = false) := ⟨by
        have := HT.out
        rw [List.take_of_length_le (by omega)] at this
        exact this⟩
      go_wp2
      go_ret
      exact ⟨-1, rfl, by rw [H3.out]; simp, HB.out⟩
set_option maxHeartbeats 8000000 in
set_option maxRecDepth 100000 in
theorem cont_any (A0 : Option Addr) (c0 : Nat) (l0 : List (S90)) (w : World) (hr0 : Kd.C k90 w A0 l0.length l0) :
    Calls Try.prog 179 #[.slice A0 l0.length c0, .func (.func 180) #[] #[]] w fun e w' => e = .returned (.bool (l0.any bdPoint)) ∧ Below w.heap.size w w' := by
  have HI := Aside0.mk (idx_any A0 c0 l0 w hr0)
  clear hr0
  go_enter Try.func179, Try.ntmps179
  go_wp2_with (go_at_call 198; (with_reducible refine HI.out.mono ?_); rintro e w1 ⟨i, rfl, hi, hb1⟩; have hi := Aside0.mk hi)
  go_ret
  exact ⟨by rw [← hi.out]; rfl, hb1⟩
set_option maxHeartbeats 8000000 in
set_option maxRecDepth 100000 in
theorem impl_IsLine.calls (A0 : Option Addr) (c0 : Nat) (l0 : List (S90)) (r : Bool) (w : World) (hr0 : Kd.C k90 w A0 l0.length l0) (hc0 : l0.length ≤ c0) (h : impl_IsLine.f l0 = some r) :
    Calls Try.prog 147 #[.slice A0 l0.length c0] w fun e w' => e = .returned (.bool r) ∧ Below w.heap.size w w' := by
  have hlen : l0.length ≤ 9223372036854775807 := hr0.2.1
  have HI := Aside0.mk (cont_any A0 c0 l0 w hr0)
  obtain rfl := Option.some.inj h
  clear hr0 hc0 h
  by_cases h2 : l0.length ≤ 200
  · have g2 : decide ((l0.length : Int) ≤ 200) = true := by simp; omega
    generalize hq : l0.any bdPoint = q at *
    have HQ := Aside0.mk hq
    clear hq
    have HL : Aside0 (decide (l0.length ≤ 200) = true) := ⟨decide_eq_true h2⟩
    clear h2
    go_enter Try.func147, Try.ntmps147
    go_wp2_with (go_at_call 179; (with_reducible refine HI.out.mono ?_); rintro e w1 ⟨rfl, hb1⟩)
    go_ret
    exact ⟨by rw [HL.out]; simp, hb1⟩
  · have g2 : decide ((l0.length : Int) ≤ 200) = false := by simp; omega
    have HL : Aside0 (decide (l0.length ≤ 200) = false) := ⟨decide_eq_false h2⟩
    clear h2
    go_enter Try.func147, Try.ntmps147
    go_wp2
    go_ret
    exact ⟨by rw [HL.out]; simp, Below.refl _ _⟩

end Go.Proofs.Ytgpdjpololkhbaa.F

namespace Go.Proofs.Ytgpdjpololkhbaa.Pure
open Go.RowKit Go.Proofs.Ytgpdjpololkhbaa.F Go.Proofs.YtgpdjpololkhbaaW.PrintWords Go.Proofs.YtgpdjpololkhbaaW.PrintLast Go.Proofs.YtgpdjpololkhbaaW.PrintMore Go.Proofs.YtgpdjpololkhbaaB
set_option linter.unusedVariables false
set_option linter.unusedSimpArgs false
def ptB (p : S90) : Bool := inB p.f0 (-1000000) 1000000 && inB p.f1 (-1000000) 1000000
theorem bdPoint_eq (p : S90) : bdPoint p = !ptB p := rfl
def lineB (l : List S90) : Bool := decide (l.length ≤ 200) && l.all ptB
def strokeB (s : S110) : Bool := inB s.f0 1 8 && lineB s.f1 && decide (2 ≤ s.f1.length)
def codeS (l : List S110) : Int := if l.all strokeB = true then (if 40 < l.length then 3 else 0) else 1
theorem rdP {xs ys : List S90} {y : S90} {m : Nat} (h : xs.drop m = y :: ys) : rd_T90 xs (m : Int) = y := (drop_cons h).2.1 _
theorem rdS {xs ys : List S110} {y : S110} {m : Nat} (h : xs.drop m = y :: ys) : rd_T110 xs (m : Int) = y := (drop_cons h).2.1 _
theorem any_not_all (l : List S90) : (!l.any bdPoint) = l.all ptB := by
  rw [List.not_any_eq_all_not]
  congr 1
  funext p
  simp [bdPoint_eq]

end Go.Proofs.Ytgpdjpololkhbaa.Pure

namespace Go.Proofs.Ytgpdjpololkhbaa.Pure
open Go.RowKit Go.Proofs.Ytgpdjpololkhbaa.F Go.Proofs.YtgpdjpololkhbaaW.PrintWords Go.Proofs.YtgpdjpololkhbaaW.PrintLast Go.Proofs.YtgpdjpololkhbaaW.PrintMore Go.Proofs.YtgpdjpololkhbaaB
set_option linter.unusedVariables false
set_option linter.unusedSimpArgs false
theorem codeS_zero {xs : List S110} (h : codeS xs = 0) : xs.length ≤ 40 ∧ ∀ x ∈ xs, strokeB x = true := by
  unfold codeS at h
  split at h
  · rename_i ha
    split at h
    · cases h
    · exact ⟨by omega, fun x hx => List.all_eq_true.1 ha x hx⟩
  · cases h
theorem strokeB_len {x : S110} (h : strokeB x = true) : 2 ≤ x.f1.length ∧ x.f1.length ≤ 200 := by
  unfold strokeB lineB at h
  simp only [Bool.and_eq_true, decide_eq_true_eq] at h
  exact ⟨h.2, h.1.2.1⟩
theorem codeS_lens {xs : List S110} (h : codeS xs = 0) : ∀ x ∈ xs, 2 ≤ x.f1.length ∧ x.f1.length ≤ 9223372036854775807 := fun x hx => by
  have := strokeB_len ((codeS_zero h).2 x hx)
  omega
theorem codeS_or (xs : List S110) : codeS xs = 0 ∨ codeS xs = 1 ∨ codeS xs = 3 := by
  unfold codeS
  split
  · split
    · exact .inr (.inr rfl)
    · exact .inl rfl
  · exact .inr (.inl rfl)

end Go.Proofs.Ytgpdjpololkhbaa.Pure

namespace Go.Proofs.Ytgpdjpololkhbaa.Pure
open Go.RowKit Go.Proofs.Ytgpdjpololkhbaa.F Go.Proofs.YtgpdjpololkhbaaW.PrintWords Go.Proofs.YtgpdjpololkhbaaW.PrintLast Go.Proofs.YtgpdjpololkhbaaW.PrintMore Go.Proofs.YtgpdjpololkhbaaB
set_option linter.unusedVariables false
set_option linter.unusedSimpArgs false
/-- Drawings of a size that the loops can copy. -/
def smallS (xs : List S110) : Prop := xs.length ≤ 1048576 ∧ ∀ x ∈ xs, x.f1.length ≤ 1048576
theorem smallS_zero {xs : List S110} (h : codeS xs = 0) : smallS xs := by
  have := codeS_zero h
  refine ⟨by omega, fun x hx => ?_⟩
  have := strokeB_len (this.2 x hx)
  omega
theorem numSt_le {b : Int} : ∀ (xs : List S110), (∀ x ∈ xs, (x.f1.length : Int) ≤ b) → numSt xs ≤ xs.length * (1 + 2 * b)
  | [], _ => by simp [numSt]
  | y :: ys, h => by
    have h1 := h y List.mem_cons_self
    have h2 := numSt_le ys (fun x hx => h x (List.mem_cons_of_mem _ hx))
    simp only [numSt, List.length_cons]
    have : ((ys.length + 1 : Nat) : Int) * (1 + 2 * b) = ys.length * (1 + 2 * b) + (1 + 2 * b) := by
      rw [Int.natCast_add, Int.add_mul]; simp
    omega
theorem markSt_res (xs : List S110) (hx : xs.length ≤ 1048576) (hi : ∀ x ∈ xs, x.f1.length ≤ 1048576) : MarkSt xs (markSt 1 xs) 1 (1 + numSt xs) ∧ 0 ≤ 1 + numSt xs ∧ 1 + numSt xs ≤ 4611686018427387904 := by
  have h := numSt_le (b := 1048576) xs (fun x hx => by have := hi x hx; omega)
  have h0 := numSt_nonneg xs
  have h2 : numSt xs ≤ 1048576 * 2097153 := Int.le_trans h (Int.mul_le_mul_of_nonneg_right (by omega) (by omega))
  refine ⟨⟨by omega, fun y hy => by have := hi y hy; omega, by omega, by omega, rfl, rfl⟩, by omega, by omega⟩

end Go.Proofs.Ytgpdjpololkhbaa.Pure

namespace Go.Proofs.Ytgpdjpololkhbaa.Pure
open Go.RowKit Go.Proofs.Ytgpdjpololkhbaa.F Go.Proofs.YtgpdjpololkhbaaW.PrintWords Go.Proofs.YtgpdjpololkhbaaW.PrintLast Go.Proofs.YtgpdjpololkhbaaW.PrintMore Go.Proofs.YtgpdjpololkhbaaB
set_option linter.unusedVariables false
set_option linter.unusedSimpArgs false
def turnS (x : S110) : S110 := ⟨x.f0, x.f1.reverse⟩
def resTurn (xs : List S110) (a : Int) : List S110 × Int := if codeS xs = 0 then (if inB a 0 (xs.length - 1) = true then (xs.set a.toNat (turnS (rd_T110 xs a)), 0) else ([], 2)) else ([], codeS xs)
theorem rdS_mem {xs : List S110} {a : Int} (h0 : 0 ≤ a) (h1 : a < xs.length) : rd_T110 xs a ∈ xs := by
  show xs.getD a.toNat _ ∈ xs
  rw [List.getD_eq_getElem?_getD, List.getElem?_eq_getElem (by omega)]
  exact List.getElem_mem _
theorem inB_true {x lo hi : Int} (h : inB x lo hi = true) : lo ≤ x ∧ x ≤ hi := by
  unfold inB at h
  exact of_decide_eq_true h
theorem smallS_turn (xs : List S110) (a : Int) : smallS (resTurn xs a).1 := by
  unfold resTurn
  split
  · rename_i h
    have hs := smallS_zero h
    split
    · rename_i hb
      have hb := inB_true hb
      have hm := rdS_mem (xs := xs) (a := a) hb.1 (by omega)
      refine ⟨by rw [List.length_set]; exact hs.1, fun x hx => ?_⟩
      rcases List.mem_or_eq_of_mem_set hx with h1 | h1
      · exact hs.2 x h1
      · rw [h1]
        show (List.reverse _).length ≤ _
        rw [List.length_reverse]
        exact hs.2 _ hm
    · exact ⟨by simp, fun x hx => absurd hx (List.not_mem_nil)⟩
  · exact ⟨by simp, fun x hx => absurd hx (List.not_mem_nil)⟩

end Go.Proofs.Ytgpdjpololkhbaa.Pure

namespace Go.Proofs.Ytgpdjpololkhbaa.Pure
open Go.RowKit Go.Proofs.Ytgpdjpololkhbaa.F Go.Proofs.YtgpdjpololkhbaaW.PrintWords Go.Proofs.YtgpdjpololkhbaaW.PrintLast Go.Proofs.YtgpdjpololkhbaaW.PrintMore Go.Proofs.YtgpdjpololkhbaaB
set_option linter.unusedVariables false
set_option linter.unusedSimpArgs false
theorem impl_ceil_f (a b : Int) (hb : 1 ≤ b) : impl_ceil.f a b = some (ceilM a b) := by
  unfold impl_ceil.f impl_floor.f ceilM
  rw [if_neg (show ¬ b = 0 by omega)]
  have hb0 : decide (b < 0) = false := decide_eq_false (by omega)
  rw [hb0]
  by_cases h : Int.tmod (wrap64 (-a)) b = 0
  · rw [if_pos h, if_neg (show ¬ Int.tmod (wrap64 (-a)) b < 0 by omega)]
    rfl
  · rw [if_neg h]
    by_cases h2 : Int.tmod (wrap64 (-a)) b < 0
    · rw [if_pos h2, if_pos (by simp [h2])]
      rfl
    · rw [if_neg h2, if_neg (by simp [h2])]
      rfl
theorem impl_PlotTime_j0 (xs : List S137) (hx : xs.length ≤ 1048576) (a1 a2 a3 : Int) (b : Bool) (res : Int × Int) (H : Ev (fun k => if b = true then (some ((0 : Int), (2 : Int))) else ((impl_travel.f k xs).bind fun bt1044 => (if bt1044.2.2 = true then ((impl_CountKind.f k xs 80).bind fun bt1047 => ((impl_ceil.f bt1044.1 a1).bind fun t1049 => ((impl_ceil.f bt1044.2.1 a2).bind fun t1050 => (some (wrap64 ((wrap64 (t1049 + t1050)) + (wrap64 (bt1047.1 * a3))), 0))))) else (some (0, 5))))) res) : Ev (fun k => impl_PlotTime.j0 k xs a1 a2 a3 b) res := ev_step (fun _ => rfl) H
theorem impl_PlotTime_f (xs : List S137) (hx : xs.length ≤ 1048576) (a1 a2 a3 : Int) : Ev (fun k => impl_PlotTime.f k xs a1 a2 a3) (resTime xs a1 a2 a3) := by
  refine ev_bind (impl_program_f xs (by omega)) ?_
  unfold resTime
  refine ev_ite (fun h => ?_) (fun h => ?_)
  · rw [if_pos h]
    refine ev_some (impl_in_f a1 1 1000000) (ev_ite (fun q1 => ?_) (fun q1 => ?_))
    · refine ev_some (impl_in_f a2 1 1000000) (ev_ite (fun q2 => ?_) (fun q2 => ?_))
      · refine ev_some (impl_in_f a3 0 1000000) (impl_PlotTime_j0 xs hx a1 a2 a3 _ _ ?_)
        by_cases q3 : inB a3 0 1000000 = true
        · rw [if_pos (show _ ∧ _ ∧ _ from ⟨q1, q2, q3⟩), q3]
          refine ev_neg (by simp) (ev_bind (impl_travel_f xs (codeC_all h)) (ev_ite (fun hq => ?_) (fun hq => ?_)))
          · rw [if_pos hq]
            have hc := impl_CountKind_f xs 80 (by omega)
            rw [show resCount xs 80 = (countC xs 80, 0) from if_pos h] at hc
            exact ev_bind hc (ev_some (impl_ceil_f _ _ (inB_true q1).1) (ev_some (impl_ceil_f _ _ (inB_true q2).1) (ev_now rfl)))
          · rw [if_neg hq]
            exact ev_now rfl
        · rw [if_neg (fun hh => q3 hh.2.2)]
          exact ev_pos (by simp [Bool.not_eq_true] at q3; simp [q3]) (ev_now rfl)
      · rw [if_neg (fun hh => q2 hh.2.1)]
        exact impl_PlotTime_j0 xs hx a1 a2 a3 _ _ (ev_pos rfl (ev_now rfl))
    · rw [if_neg (fun hh => q1 hh.1)]
      exact impl_PlotTime_j0 xs hx a1 a2 a3 _ _ (ev_pos rfl (ev_now rfl))
  · rw [if_neg h]
    exact ev_now rfl

end Go.Proofs.Ytgpdjpololkhbaa.Pure

namespace Go.Proofs.Ytgpdjpololkhbaa.Pure
open Go.RowKit Go.Proofs.Ytgpdjpololkhbaa.F Go.Proofs.YtgpdjpololkhbaaW.PrintWords Go.Proofs.YtgpdjpololkhbaaW.PrintLast Go.Proofs.YtgpdjpololkhbaaW.PrintMore Go.Proofs.YtgpdjpololkhbaaB
set_option linter.unusedVariables false
set_option linter.unusedSimpArgs false
theorem laws_eqCommandS_l0 (xs : List S137) (hx : xs.length ≤ 9223372036854775807) : ∀ (ys : List S137) (m : Nat), xs.drop m = ys →
    Ev (fun k => laws_eqCommandS.l0 k xs xs m) true
  | [], m, h => by
    have := drop_nil h
    exact ev_step (fun _ => rfl) (ev_neg (by omega) (ev_now rfl))
  | y :: ys, m, h => by
    obtain ⟨hm, _, hd⟩ := drop_cons h
    refine ev_step (fun _ => rfl) (ev_pos (by omega) (ev_pos (by omega) (ev_pos (by omega) ?_)))
    rw [rdC h, w64 (by omega) (by omega)]
    refine ev_some (a := true) (by simp [laws_eqCommand.f]) (ev_pos rfl ?_)
    exact laws_eqCommandS_l0 xs hx ys (m + 1) hd
theorem laws_eqCommandS_f (xs : List S137) (hx : xs.length ≤ 9223372036854775807) : Ev (fun k => laws_eqCommandS.f k xs xs) true := ev_pos rfl (laws_eqCommandS_l0 xs hx xs 0 rfl)

end Go.Proofs.Ytgpdjpololkhbaa.Pure

namespace Go.Proofs.Ytgpdjpololkhbaa.Pure
open Go.RowKit Go.Proofs.Ytgpdjpololkhbaa.F Go.Proofs.YtgpdjpololkhbaaW.PrintWords Go.Proofs.YtgpdjpololkhbaaW.PrintLast Go.Proofs.YtgpdjpololkhbaaW.PrintMore Go.Proofs.YtgpdjpololkhbaaB
set_option linter.unusedVariables false
set_option linter.unusedSimpArgs false
theorem laws_szCommandS_f (xs : List S139) (a : Int) (h0 : 0 ≤ a) (h1 : a ≤ 1048576) (hx : xs.length ≤ 9223372036854775807) : laws_szCommandS.f xs a = some (if a < xs.length then -1 else a - xs.length) := by
  unfold laws_szCommandS.f
  rw [w64 (by omega) (by omega)]
  by_cases h : a < xs.length
  · rw [if_pos (by omega), if_pos h]
  · rw [if_neg (by omega), if_neg h]

end Go.Proofs.Ytgpdjpololkhbaa.Pure

namespace Go.Proofs.Ytgpdjpololkhbaa.Pure
open Go.RowKit Go.Proofs.Ytgpdjpololkhbaa.F Go.Proofs.YtgpdjpololkhbaaW.PrintWords Go.Proofs.YtgpdjpololkhbaaW.PrintLast Go.Proofs.YtgpdjpololkhbaaW.PrintMore Go.Proofs.YtgpdjpololkhbaaB
set_option linter.unusedVariables false
set_option linter.unusedSimpArgs false
def toC (x : S139) : S137 := ⟨x.f0, x.f1, x.f2⟩
theorem rdLC {xs ys : List S139} {y : S139} {m : Nat} (h : xs.drop m = y :: ys) : rd_T139 xs (m : Int) = y := (drop_cons h).2.1 _
theorem laws_toCommandS_l0 (xs : List S139) (hx : xs.length ≤ 9223372036854775807) : ∀ (ys : List S139) (m : Nat) (out : List S137), xs.drop m = ys → out.length = xs.length → out.take m = (xs.take m).map toC →
    Ev (fun k => laws_toCommandS.l0 k xs out m) (xs.map toC)
  | [], m, out, h, hl, ht => by
    have := drop_nil h
    refine ev_step (fun _ => rfl) (ev_neg (by omega) (ev_now ?_))
    rw [List.take_of_length_le (by omega), List.take_of_length_le this] at ht
    rw [ht]
  | y :: ys, m, out, h, hl, ht => by
    obtain ⟨hm, _, hd⟩ := drop_cons h
    refine ev_step (fun _ => rfl) (ev_pos (by omega) (ev_pos (by omega) ?_))
    rw [rdLC h, w64 (by omega) (by omega)]
    refine ev_some (a := (y.f0, y.f1, y.f2)) rfl (ev_pos (by omega) ?_)
    refine laws_toCommandS_l0 xs hx ys (m + 1) _ hd (by rw [List.length_set, hl]) ?_
    rw [take_snoc h, List.map_append, ← ht, Int.toNat_natCast, List.set_eq_take_append_cons_drop, if_pos (by omega), List.take_append, List.take_of_length_le (by rw [List.length_take]; omega), List.length_take, show m + 1 - min m out.length = 1 by omega]
    rfl
theorem laws_toCommandS_f (xs : List S139) (hx : xs.length ≤ 1048576) : Ev (fun k => laws_toCommandS.f k xs) (xs.map toC) := by
  refine ev_pos (by omega) (ev_pos (by omega) ?_)
  exact laws_toCommandS_l0 xs (by omega) xs 0 _ rfl (by simp) rfl

end Go.Proofs.Ytgpdjpololkhbaa.Pure

namespace Go.Proofs.Ytgpdjpololkhbaa.Pure
open Go.RowKit Go.Proofs.Ytgpdjpololkhbaa.F Go.Proofs.YtgpdjpololkhbaaW.PrintWords Go.Proofs.YtgpdjpololkhbaaW.PrintLast Go.Proofs.YtgpdjpololkhbaaW.PrintMore Go.Proofs.YtgpdjpololkhbaaB
set_option linter.unusedVariables false
set_option linter.unusedSimpArgs false
theorem spec_l01In_f (a b c : Int) : spec_l01In.f a b c = some (inB a b c) := inB_if a b c

end Go.Proofs.Ytgpdjpololkhbaa.Pure

namespace Go.Proofs.Ytgpdjpololkhbaa.Pure
open Go.RowKit Go.Proofs.Ytgpdjpololkhbaa.F Go.Proofs.YtgpdjpololkhbaaW.PrintWords Go.Proofs.YtgpdjpololkhbaaW.PrintLast Go.Proofs.YtgpdjpololkhbaaW.PrintMore Go.Proofs.YtgpdjpololkhbaaB
set_option linter.unusedVariables false
set_option linter.unusedSimpArgs false
theorem spec_l14Point_f (a b : Int) : spec_l14Point.f a b = some (inB a (-1000000) 1000000 && inB b (-1000000) 1000000) := by
  simp only [spec_l14Point.f, spec_l01In_f, Option.bind_some]
  cases inB a (-1000000) 1000000 <;> simp

end Go.Proofs.Ytgpdjpololkhbaa.Pure

namespace Go.Proofs.Ytgpdjpololkhbaa.Pure
open Go.RowKit Go.Proofs.Ytgpdjpololkhbaa.F Go.Proofs.YtgpdjpololkhbaaW.PrintWords Go.Proofs.YtgpdjpololkhbaaW.PrintLast Go.Proofs.YtgpdjpololkhbaaW.PrintMore Go.Proofs.YtgpdjpololkhbaaB
set_option linter.unusedVariables false
set_option linter.unusedSimpArgs false
theorem spec_l28Pen_f (a : Int) : spec_l28Pen.f a = some (inB a 1 8) := by
  simp only [spec_l28Pen.f, spec_l01In_f, Option.bind_some]

end Go.Proofs.Ytgpdjpololkhbaa.Pure

namespace Go.Proofs.Ytgpdjpololkhbaa.Pure
open Go.RowKit Go.Proofs.Ytgpdjpololkhbaa.F Go.Proofs.YtgpdjpololkhbaaW.PrintWords Go.Proofs.YtgpdjpololkhbaaW.PrintLast Go.Proofs.YtgpdjpololkhbaaW.PrintMore Go.Proofs.YtgpdjpololkhbaaB
set_option linter.unusedVariables false
set_option linter.unusedSimpArgs false
theorem spec_l29Is_f (a b c : Int) : spec_l29Is.f a b c = some (isC a b c) := by
  simp only [spec_l29Is.f, spec_l28Pen_f, spec_l14Point_f, Option.bind_some, isC]
  by_cases h : a = 80
  · simp only [if_pos h]
    cases inB b 1 8 <;> simp
  · simp only [if_neg h]
    by_cases h1 : a = 85 <;> by_cases h2 : a = 68 <;> simp [h1, h2]

end Go.Proofs.Ytgpdjpololkhbaa.Pure

namespace Go.Proofs.Ytgpdjpololkhbaa.Pure
open Go.RowKit Go.Proofs.Ytgpdjpololkhbaa.F Go.Proofs.YtgpdjpololkhbaaW.PrintWords Go.Proofs.YtgpdjpololkhbaaW.PrintLast Go.Proofs.YtgpdjpololkhbaaW.PrintMore Go.Proofs.YtgpdjpololkhbaaB
set_option linter.unusedVariables false
set_option linter.unusedSimpArgs false
theorem spec_l29Code_l0 (xs : List S137) (hx : xs.length ≤ 9223372036854775807) : ∀ (ys : List S137) (m : Nat), xs.drop m = ys →
    Ev (fun k => spec_l29Code.l0 k xs m) (if ys.all isCm = true then (if 400 < xs.length then 3 else 0) else 1)
  | [], m, h => by
    have := drop_nil h
    refine ev_step (fun _ => rfl) (ev_neg (by omega) (ev_now ?_))
    simp only [List.all_nil, if_true]
    by_cases h4 : 400 < xs.length
    · rw [if_pos (by omega), if_pos h4]
    · rw [if_neg (by omega), if_neg h4]
  | y :: ys, m, h => by
    obtain ⟨hm, _, hd⟩ := drop_cons h
    refine ev_step (fun _ => rfl) (ev_pos (by omega) (ev_pos (by omega) ?_))
    rw [rdC h, w64 (by omega) (by omega)]
    refine ev_some (spec_l29Is_f _ _ _) ?_
    rw [List.all_cons, show isC y.f0 y.f1 y.f2 = isCm y from rfl]
    cases hc : isCm y
    · exact ev_neg (by simp) (ev_now (by simp))
    · refine ev_pos rfl (ev_eq (spec_l29Code_l0 xs hx ys (m + 1) hd) (by simp))
theorem spec_l29Code_f (xs : List S137) (hx : xs.length ≤ 9223372036854775807) : Ev (fun k => spec_l29Code.f k xs) (codeC xs) := spec_l29Code_l0 xs hx xs 0 rfl

end Go.Proofs.Ytgpdjpololkhbaa.Pure

namespace Go.Proofs.Ytgpdjpololkhbaa.Pure
open Go.RowKit Go.Proofs.Ytgpdjpololkhbaa.F Go.Proofs.YtgpdjpololkhbaaW.PrintWords Go.Proofs.YtgpdjpololkhbaaW.PrintLast Go.Proofs.YtgpdjpololkhbaaW.PrintMore Go.Proofs.YtgpdjpololkhbaaB
set_option linter.unusedVariables false
set_option linter.unusedSimpArgs false
theorem spec_l30Step_f (a b c : Int) (d : Bool) (k x y : Int) : spec_l30Step.f a b c d k x y = some (stepM a b c d k x y) := by
  unfold spec_l30Step.f stepM
  split <;> (try rfl)
  split <;> rfl

end Go.Proofs.Ytgpdjpololkhbaa.Pure

namespace Go.Proofs.Ytgpdjpololkhbaa.Pure
open Go.RowKit Go.Proofs.Ytgpdjpololkhbaa.F Go.Proofs.YtgpdjpololkhbaaW.PrintWords Go.Proofs.YtgpdjpololkhbaaW.PrintLast Go.Proofs.YtgpdjpololkhbaaW.PrintMore Go.Proofs.YtgpdjpololkhbaaB
set_option linter.unusedVariables false
set_option linter.unusedSimpArgs false
theorem spec_l30All_j3 (xs : List S137) (m : Nat) (hx : xs.length ≤ 1048576) (hm : m < xs.length) (line : List S90) (e : Bool) (st : List S110) (hs : st.length ≤ 1048576) (a b c : Int) (d : Bool) (A B C : Int) (D : Bool) (up dn p : Int) (res : Int × Int × Int × Bool × List S110 × Int × Int × Int × Int)
    (H : Ev (fun k => spec_l30All.l0 k xs (if e = true then [] else line) ((m + 1 : Nat) : Int) A B C D (if e = true then st ++ [⟨c, line⟩] else st) up dn p) res) :
    Ev (fun k => spec_l30All.j3 k xs line m e a b c d st up dn p A B C D) res := by
  refine ev_step (fun _ => rfl) ?_
  show Ev (fun k => if e = true then ((some (([] : List S110) : List S110)).bind fun y1 => (if y1.length + st.length < 4398046511104 then ((some (y1 ++ st : List S110)).bind fun y2 => ((some (([(⟨c, line⟩ : S110)] : List S110) : List S110)).bind fun y3 => (if y2.length + y3.length < 4398046511104 then (spec_l30All.l0 k xs (([] : List S90)) (wrap64 ((m : Int) + 1)) A B C D (y2 ++ y3) up dn p) else (none)))) else (none))) else (spec_l30All.l0 k xs line (wrap64 ((m : Int) + 1)) A B C D st up dn p)) res
  rw [w64 (x := (m : Int) + 1) (by omega) (by omega), show ((m : Int) + 1) = ((m + 1 : Nat) : Int) by omega]
  refine ev_ite (fun he => ?_) (fun he => ?_)
  · rw [if_pos he, if_pos he] at H
    exact ev_some rfl (ev_pos (by simp; omega) (ev_some rfl (ev_some rfl (ev_pos (by simp; omega) H))))
  · rw [if_neg he, if_neg he] at H
    exact H
theorem spec_l30All_j2 (xs : List S137) (y : S137) (ys : List S137) (m : Nat) (h : xs.drop m = y :: ys) (hx : xs.length ≤ 1048576) (line : List S90) (st : List S110) (hs : st.length ≤ 1048576) (a b c : Int) (d : Bool) (A B C : Int) (D : Bool) (up dn p : Int) (res : Int × Int × Int × Bool × List S110 × Int × Int × Int × Int)
    (H : Ev (fun k => spec_l30All.l0 k xs (if endB line ys = true then [] else line) ((m + 1 : Nat) : Int) A B C D (if endB line ys = true then st ++ [⟨c, line⟩] else st) up dn p) res) :
    Ev (fun k => spec_l30All.j2 k xs line m a b c d st up dn p A B C D) res := by
  obtain ⟨hm, _, hd⟩ := drop_cons h
  refine ev_step (fun _ => rfl) ?_
  show Ev (fun k => if (line.length : Int) > 0 then (if (wrap64 ((m : Int) + 1)) = (xs.length : Int) then (spec_l30All.j3 k xs line m true a b c d st up dn p A B C D) else (if 0 ≤ (wrap64 ((m : Int) + 1)) then (if (wrap64 ((m : Int) + 1)) < (xs.length : Int) then (spec_l30All.j3 k xs line m (((rd_T137 xs (wrap64 ((m : Int) + 1))).f0) != 68) a b c d st up dn p A B C D) else (none)) else (none))) else (spec_l30All.j3 k xs line m false a b c d st up dn p A B C D)) res
  have key := fun (e : Bool) (he : endB line ys = e) => spec_l30All_j3 xs m hx hm line e st hs a b c d A B C D up dn p res (by rw [← he]; exact H)
  rw [w64 (x := (m : Int) + 1) (by omega) (by omega), show ((m : Int) + 1) = ((m + 1 : Nat) : Int) by omega]
  cases ys with
  | nil =>
    have hl := drop_nil hd
    refine ev_ite (fun h0 => ?_) (fun h0 => ?_)
    · exact ev_pos (by omega) (key true (decide_eq_true (by omega)))
    · exact key false (decide_eq_false (by omega))
  | cons z zs =>
    obtain ⟨hm1, _, _⟩ := drop_cons hd
    rw [rdC hd]
    refine ev_ite (fun h0 => ?_) (fun h0 => ?_)
    · have h1 : decide (0 < line.length) = true := decide_eq_true (by omega)
      refine ev_neg (by omega) (ev_pos (by omega) (ev_pos (by omega) (key _ ?_)))
      simp only [endB, h1, Bool.true_and]
      by_cases hz : z.f0 = 68
      · simp [hz]
      · rw [decide_eq_false hz]
        simpa using hz
    · have h1 : decide (0 < line.length) = false := decide_eq_false (by omega)
      exact key false (by simp only [endB, h1, Bool.false_and])
theorem spec_l30All_j1 (xs : List S137) (y : S137) (ys : List S137) (m : Nat) (h : xs.drop m = y :: ys) (hx : xs.length ≤ 1048576) (line : List S90) (st : List S110) (hs : st.length ≤ 1048576) (a b c : Int) (d : Bool) (A B C : Int) (D : Bool) (up dn p : Int) (res : Int × Int × Int × Bool × List S110 × Int × Int × Int × Int)
    (H : Ev (fun k => spec_l30All.l0 k xs (if endB line ys = true then [] else line) ((m + 1 : Nat) : Int) A B C D (if endB line ys = true then st ++ [⟨c, line⟩] else st) up dn (pensN y.f0 p)) res) :
    Ev (fun k => spec_l30All.j1 k xs line m a b c d st up dn p A B C D) res := by
  obtain ⟨hm, _, hd⟩ := drop_cons h
  refine ev_step (fun _ => rfl) ?_
  show Ev (fun k => if 0 ≤ (m : Int) then (if (m : Int) < (xs.length : Int) then (if ((rd_T137 xs (m : Int)).f0) = 80 then (spec_l30All.j2 k xs line m a b c d st up dn (wrap64 (p + 1)) A B C D) else (spec_l30All.j2 k xs line m a b c d st up dn p A B C D)) else (none)) else (none)) res
  refine ev_pos (by omega) (ev_pos (by omega) ?_)
  rw [rdC h]
  refine ev_ite (fun hk => ?_) (fun hk => ?_)
  · rw [show pensN y.f0 p = wrap64 (p + 1) from if_pos hk] at H
    exact spec_l30All_j2 xs y ys m h hx line st hs a b c d A B C D up dn _ res H
  · rw [show pensN y.f0 p = p from if_neg hk] at H
    exact spec_l30All_j2 xs y ys m h hx line st hs a b c d A B C D up dn _ res H
theorem spec_l30All_l0 (xs : List S137) (hx : xs.length ≤ 1048576) : ∀ (ys : List S137) (m : Nat) (line : List S90) (a b c : Int) (d : Bool) (st : List S110) (up dn p : Int), xs.drop m = ys → m ≤ xs.length → line.length ≤ 2 * m → st.length ≤ m →
    Ev (fun k => spec_l30All.l0 k xs line m a b c d st up dn p) (runM ys a b c d line st up dn p)
  | [], m, line, a, b, c, d, st, up, dn, p, h, hm, hl, hs => by
    have := drop_nil h
    exact ev_step (fun _ => rfl) (ev_neg (by omega) (ev_now rfl))
  | y :: ys, m, line, a, b, c, d, st, up, dn, p, h, hm, hl, hs => by
    obtain ⟨hm1, _, hd⟩ := drop_cons h
    refine ev_step (fun _ => rfl) (ev_pos (by omega) (ev_pos (by omega) ?_))
    rw [rdC h]
    generalize hst : stepM a b c d y.f0 y.f1 y.f2 = s
    rw [runM_cons y ys a b c d line st up dn p s hst]
    refine ev_some ((spec_l30Step_f a b c d y.f0 y.f1 y.f2).trans (congrArg some hst)) (ev_ite (fun hq => ?_) (fun hq => ?_))
    · rw [if_pos hq]
      have hln : (lineN y.f0 a b s.1 s.2.1 line).length ≤ 2 * (m + 1) := by
        unfold lineN
        split
        · split <;> simp <;> omega
        · omega
      refine ev_some rfl (ev_bind (spec_l01Root_f _) (ev_ite (fun hk => ?_) (fun hk => ?_)))
      · have e1 : upN y.f0 up (distM a b s.1 s.2.1) = up := if_pos hk
        have e2 : dnN y.f0 dn (distM a b s.1 s.2.1) = wrap64 (dn + distM a b s.1 s.2.1) := if_pos hk
        rw [e1, e2]
        refine ev_ite (fun h0 => ?_) (fun h0 => ?_)
        · have e3 : lineN y.f0 a b s.1 s.2.1 line = line ++ [⟨a, b⟩] ++ [⟨s.1, s.2.1⟩] := by
            have : line = [] := List.eq_nil_of_length_eq_zero (by omega)
            subst this
            exact if_pos hk
          rw [e3] at hln ⊢
          refine ev_some rfl (ev_pos (by simp; omega) (ev_some rfl (ev_some rfl (ev_pos (by simp; omega) (spec_l30All_j1 xs y ys m h hx _ st (by omega) a b c d _ _ _ _ _ _ _ _ (spec_l30All_l0 xs hx ys (m + 1) _ _ _ _ _ _ _ _ _ hd (by omega) ?_ ?_))))))
          · split
            · exact Nat.zero_le _
            · exact hln
          · split
            · simp; omega
            · omega
        · have e3 : lineN y.f0 a b s.1 s.2.1 line = line ++ [⟨s.1, s.2.1⟩] := by
            unfold lineN
            rw [if_pos hk, if_neg h0]
          rw [e3] at hln ⊢
          refine ev_some rfl (ev_pos (by simp; omega) (spec_l30All_j1 xs y ys m h hx _ st (by omega) a b c d _ _ _ _ _ _ _ _ (spec_l30All_l0 xs hx ys (m + 1) _ _ _ _ _ _ _ _ _ hd (by omega) ?_ ?_)))
          · split
            · exact Nat.zero_le _
            · exact hln
          · split
            · simp; omega
            · omega
      · have e1 : upN y.f0 up (distM a b s.1 s.2.1) = wrap64 (up + distM a b s.1 s.2.1) := if_neg hk
        have e2 : dnN y.f0 dn (distM a b s.1 s.2.1) = dn := if_neg hk
        have e3 : lineN y.f0 a b s.1 s.2.1 line = line := if_neg hk
        rw [e1, e2]
        rw [e3] at hln ⊢
        refine spec_l30All_j1 xs y ys m h hx line st (by omega) a b c d _ _ _ _ _ _ _ _ (spec_l30All_l0 xs hx ys (m + 1) _ _ _ _ _ _ _ _ _ hd (by omega) ?_ ?_)
        · split
          · exact Nat.zero_le _
          · exact hln
        · split
          · simp; omega
          · omega
    · rw [if_neg hq]
      exact ev_now rfl
theorem spec_l30All_f (xs : List S137) (hx : xs.length ≤ 1048576) : Ev (fun k => spec_l30All.f k xs) (allM xs) := by
  refine ev_bind (spec_l29Code_f xs (by omega)) ?_
  unfold allM
  refine ev_ite (fun h => ?_) (fun h => ?_)
  · rw [if_pos h]
    exact spec_l30All_l0 xs hx xs 0 [] 0 0 0 false [] 0 0 0 rfl (Nat.zero_le _) (Nat.zero_le _) (Nat.zero_le _)
  · rw [if_neg h]
    exact ev_now rfl

end Go.Proofs.Ytgpdjpololkhbaa.Pure

namespace Go.Proofs.Ytgpdjpololkhbaa.Pure
open Go.RowKit Go.Proofs.Ytgpdjpololkhbaa.F Go.Proofs.YtgpdjpololkhbaaW.PrintWords Go.Proofs.YtgpdjpololkhbaaW.PrintLast Go.Proofs.YtgpdjpololkhbaaW.PrintMore Go.Proofs.YtgpdjpololkhbaaB
set_option linter.unusedVariables false
set_option linter.unusedSimpArgs false
theorem spec_l01Ceil_f (a b : Int) (hb : 1 ≤ b) : spec_l01Ceil.f a b = some (ceilM a b) := by
  unfold spec_l01Ceil.f spec_l01Floor.f ceilM
  rw [if_neg (show ¬ b < 0 by omega), if_neg (show ¬ b = 0 by omega)]
  by_cases h2 : Int.tmod (wrap64 (-a)) b < 0
  · rw [if_pos h2, if_pos h2]
    rfl
  · rw [if_neg h2, if_neg h2]
    rfl
theorem spec_PlotTime_j1 (a1 a2 a3 c A B C : Int) (D : Bool) (st : List S110) (u n p : Int) (res : Int × Int) (H : Ev (fun _ => if c = 0 then ((spec_l01Ceil.f u a1).bind fun t1016 => ((spec_l01Ceil.f n a2).bind fun t1017 => (some (wrap64 ((wrap64 (t1016 + t1017)) + (wrap64 (a3 * p))), (0 : Int))))) else (some (0, c))) res) : Ev (fun k => spec_PlotTime.j1 k a1 a2 a3 c A B C D st u n p) res := ev_step (fun _ => rfl) H
theorem spec_PlotTime_j0 (a1 a2 a3 c : Int) (b : Bool) (A B C : Int) (D : Bool) (st : List S110) (u n p : Int) (res : Int × Int) (H1 : b = true → Ev (fun k => spec_PlotTime.j1 k a1 a2 a3 2 A B C D st u n p) res) (H2 : b = false → Ev (fun k => spec_PlotTime.j1 k a1 a2 a3 c A B C D st u n p) res) : Ev (fun k => spec_PlotTime.j0 k a1 a2 a3 c b A B C D st u n p) res := by
  refine ev_step (fun _ => rfl) ?_
  show Ev (fun k => if b = true then (spec_PlotTime.j1 k a1 a2 a3 2 A B C D st u n p) else (spec_PlotTime.j1 k a1 a2 a3 c A B C D st u n p)) res
  cases b
  · exact ev_neg (by simp) (H2 rfl)
  · exact ev_pos rfl (H1 rfl)
/-- The test of the numbers, the code being c. -/
theorem spec_PlotTime_in (a1 a2 a3 c A B C : Int) (D : Bool) (st : List S110) (u n p : Int) (res : Int × Int)
    (H1 : ¬ (inB a1 1 1000000 = true ∧ inB a2 1 1000000 = true ∧ inB a3 0 1000000 = true) → Ev (fun k => spec_PlotTime.j1 k a1 a2 a3 2 A B C D st u n p) res)
    (H2 : inB a1 1 1000000 = true ∧ inB a2 1 1000000 = true ∧ inB a3 0 1000000 = true → Ev (fun k => spec_PlotTime.j1 k a1 a2 a3 c A B C D st u n p) res) :
    Ev (fun k => (spec_l01In.f a1 1 1000000).bind fun t1010 => (if t1010 = true then ((spec_l01In.f a2 1 1000000).bind fun t1011 => (if t1011 = true then ((spec_l01In.f a3 0 1000000).bind fun t1012 => (spec_PlotTime.j0 k a1 a2 a3 c (!t1012) A B C D st u n p)) else (spec_PlotTime.j0 k a1 a2 a3 c true A B C D st u n p))) else (spec_PlotTime.j0 k a1 a2 a3 c true A B C D st u n p))) res := by
  refine ev_some (spec_l01In_f a1 1 1000000) (ev_ite (fun q1 => ?_) (fun q1 => ?_))
  · refine ev_some (spec_l01In_f a2 1 1000000) (ev_ite (fun q2 => ?_) (fun q2 => ?_))
    · refine ev_some (spec_l01In_f a3 0 1000000) (spec_PlotTime_j0 _ _ _ _ _ _ _ _ _ _ _ _ _ _ (fun hb => H1 (fun hh => ?_)) (fun hb => H2 ⟨q1, q2, ?_⟩))
      · rw [hh.2.2] at hb
        cases hb
      · simpa using hb
    · exact spec_PlotTime_j0 _ _ _ _ _ _ _ _ _ _ _ _ _ _ (fun _ => H1 (fun hh => q2 hh.2.1)) (fun hb => by cases hb)
  · exact spec_PlotTime_j0 _ _ _ _ _ _ _ _ _ _ _ _ _ _ (fun _ => H1 (fun hh => q1 hh.1)) (fun hb => by cases hb)
theorem spec_PlotTime_f (xs : List S137) (hx : xs.length ≤ 1048576) (a1 a2 a3 : Int) : Ev (fun k => spec_PlotTime.f k xs a1 a2 a3) (resTime xs a1 a2 a3) := by
  refine ev_bind (spec_l30All_f xs hx) ?_
  by_cases h : codeC xs = 0
  · rw [show allM xs = runM xs 0 0 0 false [] [] 0 0 0 from if_pos h]
    unfold resTime
    rw [if_pos h]
    rcases runM_trav xs 0 0 0 false [] [] 0 0 0 (by omega) (by omega) with ⟨h1, h2, h3, h4, h5⟩ | ⟨h1, h2⟩
    · rw [if_pos h1]
      generalize runM xs 0 0 0 false [] [] 0 0 0 = r at *
      obtain ⟨A, B, C, D, st, u, n, p, c⟩ := r
      simp only at h2 h3 h4 h5
      subst h2
      refine ev_pos rfl (spec_PlotTime_in _ _ _ _ _ _ _ _ _ _ _ _ _ (fun hn => spec_PlotTime_j1 _ _ _ _ _ _ _ _ _ _ _ _ _ ?_) (fun hy => spec_PlotTime_j1 _ _ _ _ _ _ _ _ _ _ _ _ _ ?_))
      · rw [if_neg hn]
        exact ev_neg (by decide) (ev_now rfl)
      · rw [if_pos hy]
        refine ev_pos rfl (ev_some (spec_l01Ceil_f _ _ (inB_true hy.1).1) (ev_some (spec_l01Ceil_f _ _ (inB_true hy.2.1).1) (ev_now ?_)))
        rw [h3, h4, h5, Int.zero_add, Int.mul_comm a3]
    · rw [if_neg (show ¬ (travM xs 0 0 0 false 0 0).2.2 = true by rw [h1]; exact Bool.false_ne_true), h2]
      refine ev_neg (show ¬ (5 : Int) = 0 by decide) (ev_pos rfl (spec_PlotTime_in _ _ _ _ _ _ _ _ _ _ _ _ _ (fun hn => spec_PlotTime_j1 _ _ _ _ _ _ _ _ _ _ _ _ _ ?_) (fun hy => spec_PlotTime_j1 _ _ _ _ _ _ _ _ _ _ _ _ _ ?_)))
      · rw [if_neg hn]
        exact ev_neg (by decide) (ev_now rfl)
      · rw [if_pos hy]
        exact ev_neg (by decide) (ev_now rfl)
  · rw [show allM xs = (0, 0, 0, false, [], 0, 0, 0, codeC xs) from if_neg h, show resTime xs a1 a2 a3 = (0, codeC xs) from if_neg h]
    exact ev_neg h (ev_neg (codeC_not5 xs) (spec_PlotTime_j0 _ _ _ _ _ _ _ _ _ _ _ _ _ _ (fun hb => by cases hb) (fun _ => spec_PlotTime_j1 _ _ _ _ _ _ _ _ _ _ _ _ _ (ev_neg h (ev_now rfl)))))

end Go.Proofs.Ytgpdjpololkhbaa.Pure

namespace Go.Proofs.Ytgpdjpololkhbaa.Pure
open Go.RowKit Go.Proofs.Ytgpdjpololkhbaa.F Go.Proofs.YtgpdjpololkhbaaW.PrintWords Go.Proofs.YtgpdjpololkhbaaW.PrintLast Go.Proofs.YtgpdjpololkhbaaW.PrintMore Go.Proofs.YtgpdjpololkhbaaB
set_option linter.unusedVariables false
set_option linter.unusedSimpArgs false
theorem pure_FnExactPlotTime (l : List S139) (hx : l.length ≤ 9223372036854775807) (a1 a2 a3 : Int) : Ev (fun k => laws_FnExactPlotTime.f k l a1 a2 a3) true := by
  refine ev_some (laws_szCommandS_f l 1048576 (by omega) (by omega) hx) ?_
  by_cases h : (1048576 : Int) < l.length
  · rw [if_pos h]
    exact ev_pos (by omega) (ev_now rfl)
  rw [if_neg h]
  refine ev_neg (by omega) ?_
  have t := laws_toCommandS_f l (by omega)
  have hm : (l.map toC).length ≤ 1048576 := by rw [List.length_map]; omega
  have hs := spec_PlotTime_f (l.map toC) hm a1 a2 a3
  have hi := impl_PlotTime_f (l.map toC) hm a1 a2 a3
  generalize l.map toC = xs at *
  generalize resTime xs a1 a2 a3 = r at *
  obtain ⟨r1, r2⟩ := r
  have ex := laws_eqCommandS_f xs (by omega)
  refine ev_bind t (ev_bind hs (ev_bind t (ev_bind hi (ev_pos rfl (ev_pos rfl (ev_bind t (ev_bind ex (ev_pos rfl (ev_now rfl)))))))))
theorem walkFnExactPlotTime (A0 : Option Addr) (c0 : Nat) (l0 : (List S139)) (a1 : Int) (a2 : Int) (a3 : Int) (w : World) (hr0 : Kd.C k139 w A0 l0.length l0) (hc0 : l0.length ≤ c0) (hm0 : l0.length ≤ maxLen) (hg0 : ∀ y ∈ l0, g139 y) (hg1 : (Lit.int .i64 a1).wf = true) (hg2 : (Lit.int .i64 a2).wf = true) (hg3 : (Lit.int .i64 a3).wf = true) :
    Calls Try.prog 10 #[.slice A0 l0.length c0, .int .i64 a1, .int .i64 a2, .int .i64 a3] w fun e w' => e = .returned (.bool true) ∧ Below w.heap.size w w' := by
  unfold maxLen at hm0
  obtain ⟨k, h⟩ := (pure_FnExactPlotTime l0 hm0 a1 a2 a3).rounds
  exact laws_FnExactPlotTime.calls k A0 c0 l0 a1 a2 a3 true w hr0 hc0 h

end Go.Proofs.Ytgpdjpololkhbaa.Pure
