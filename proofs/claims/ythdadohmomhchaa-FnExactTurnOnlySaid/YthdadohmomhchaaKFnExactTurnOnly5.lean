/-
  A part of the proof of FnExactTurnOnly: contracts of the Go functions that it reaches, and plain statements on what they come to; each says its own conditions.
-/
import Derived.Test.YthdadohmomhchaaKFnExactTurnOnly4

namespace Go.Proofs.Ythdadohmomhchaa.F
open Go.RowKit Go.Proofs.YthdadohmomhchaaW.PrintWords Go.Proofs.YthdadohmomhchaaW.PrintLast Go.Proofs.YthdadohmomhchaaW.PrintMore
attribute [local go_sem] max2_int min2_int max_two min_two max_three min_three max_four min_four   -- for this text's walks alone
set_option linter.unusedVariables false
set_option linter.unusedSimpArgs false

/-! ### spec_l28Turn: function 154 -/
def spec_l28Turn.f (k : Nat) (a0_0 : Int) (l0_1 : List (S30)) : Option (Int × (List (S30))) := (spec_ReverseLine.f k l0_1).bind fun bt248 => (some (a0_0, bt248.1))
theorem spec_l28Turn.mono : ∀ a0 a1 k, LeO (spec_l28Turn.f k a0 a1) (spec_l28Turn.f (k + 1) a0 a1) := by
  intro a0 a1 k
  unfold spec_l28Turn.f
  repeat' first
      | (with_reducible exact spec_ReverseLine.mono _ _)
      | (with_reducible exact LeO.refl _)
      | (with_reducible exact LeO.none _)
      | (with_reducible refine LeO.ite ?_ ?_)
      | (with_reducible refine LeO.bind ?_ (fun _ => ?_))
      | exact spec_ReverseLine.mono _ _
      | exact LeO.none _
      | refine LeO.ite ?_ ?_
      | refine LeO.bind ?_ (fun _ => ?_)
set_option maxHeartbeats 8000000 in
set_option maxRecDepth 100000 in
theorem spec_l28Turn.calls (k : Nat) (a0_0 : Int) (A0_1 : Option Addr) (c0_1 : Nat) (l0_1 : List (S30)) (r1 : Int) (r2 : List (S30)) (w : World) (hr0_1 : Kd.C k30 w A0_1 l0_1.length l0_1) (hc0_1 : l0_1.length ≤ c0_1) (h : spec_l28Turn.f k a0_0 l0_1 = some (r1, r2)) :
    Calls Try.prog 154 #[.agg #[.int .i64 a0_0, .slice A0_1 l0_1.length c0_1]] w fun e w' => ∃ v1_ : Value, e = .returned (.agg #[.int .i64 r1, v1_]) ∧ Kd.R k30 30 w' w.heap.size (fun _ => True) v1_ r2 ∧ Below w.heap.size w w' := by
  have hu116 := Try.underlying116
  have HR0_1 := Aside0.mk hr0_1
  have HC0_1 := Aside0.mk hc0_1
  clear hr0_1 hc0_1
  have HB := Aside0.mk (Below.refl w.heap.size w)
  have H : ((spec_ReverseLine.f k l0_1).bind fun bt248 => (some (a0_0, bt248.1))) = some (r1, r2) := h
  clear h
  replace H := Option.bind_eq_some_iff.mp H
  obtain ⟨⟨t248, t249⟩, A20, H⟩ := H
  replace H : (some (a0_0, t248)) = some (r1, r2) := H
  have A2 := Aside0.mk A20
  clear A20
  simp only [Option.some.injEq, Prod.mk.injEq] at H
  obtain ⟨rfl, rfl⟩ := H
  go_enter Try.func154, Try.ntmps154
  go_wp2_with (first | ((with_reducible refine gate_dst (N := 1) rfl ?_); refine box_event ?hg (N := 1) ?hd (cs := #[.int .i64 a0_0, .slice A0_1 l0_1.length c0_1]) (t := 116) ?hr ?_; (case hd => rfl); (case hg => rfl); (case hr => first | (go_simp; done) | (go_simp; rfl)); intro gb246 hg w3 hbox hb; have n0_ := Aside0.mk (below_step (by repeat (first | (with_reducible first | exact HB.out | apply below_alloc | apply pw_below_drewN | apply below_drew1) | exact HB.out)) hb); have n1_ := Aside0.mk (hbox); have n2_ := Aside0.mk ((by rw [hg]; exact (below_size (by repeat (first | (with_reducible first | exact HB.out | apply below_alloc | apply pw_below_drewN | apply below_drew1) | exact HB.out))) : w.heap.size ≤ gb246)); have n3_ := Aside0.mk ((by rw [hg]; exact (below_size (by repeat (first | (with_reducible first | exact HB.out | apply below_alloc | apply pw_below_drewN | apply below_drew1) | exact HB.out))) : w.heap.size ≤ gb246)); clear HB; have HB := n0_; have BK246 := n1_; have GW246 := n2_; have GE246 := n3_; clear n0_ n1_ n2_ n3_; clear hb hbox hg) | ((with_reducible refine gate_dst (N := 2) rfl ?_); refine box_event ?hg (N := 2) ?hd (cs := #[.int .i64 0, .slice none 0 0]) (t := 116) ?hr ?_; (case hd => rfl); (case hg => rfl); (case hr => first | (go_simp; done) | (go_simp; rfl)); intro gb247 hg w4 hbox hb; have n0_ := Aside0.mk (blk_below (g := gb246) (o := .cells #[.int .i64 a0_0, .slice A0_1 l0_1.length c0_1] 116 (0, 0)) (by (with_reducible repeat (first | refine blk_drewN ?_ _ | refine blk_drew ?_ | refine blk_alloc ?_ _)); exact BK246.out) hb); have n1_ := Aside0.mk (below_step (by repeat (first | (with_reducible first | exact HB.out | apply below_alloc | apply pw_below_drewN | apply below_drew1 | refine below_set ?_ GE246.out) | exact HB.out)) hb); have n2_ := Aside0.mk (hbox); have n3_ := Aside0.mk ((by rw [hg]; exact (below_size (by repeat (first | (with_reducible first | exact HB.out | apply below_alloc | apply pw_below_drewN | apply below_drew1 | refine below_set ?_ GE246.out) | exact HB.out))) : w.heap.size ≤ gb247)); have n4_ := Aside0.mk ((by rw [hg]; exact (below_size (by repeat (first | (with_reducible first | exact HB.out | apply below_alloc | apply pw_below_drewN | apply below_drew1 | refine below_set ?_ GE246.out) | exact HB.out))) : w.heap.size ≤ gb247)); have n5_ := Aside0.mk ((by rw [hg]; exact Nat.ne_of_lt (blk_lt (g := gb246) (o := .cells #[.int .i64 a0_0, .slice A0_1 l0_1.length c0_1] 116 (0, 0)) (by (with_reducible repeat (first | refine blk_drewN ?_ _ | refine blk_drew ?_ | refine blk_alloc ?_ _)); exact BK246.out)) : gb246 ≠ gb247)); have n6_ := Aside0.mk ((by rw [hg]; exact Nat.ne_of_gt (blk_lt (g := gb246) (o := .cells #[.int .i64 a0_0, .slice A0_1 l0_1.length c0_1] 116 (0, 0)) (by (with_reducible repeat (first | refine blk_drewN ?_ _ | refine blk_drew ?_ | refine blk_alloc ?_ _)); exact BK246.out)) : gb247 ≠ gb246)); clear BK246; clear HB; have BK246 := n0_; have HB := n1_; have BK247 := n2_; have GW247 := n3_; have GE247 := n4_; have NB246_247 := n5_; have NB247_246 := n6_; clear n0_ n1_ n2_ n3_ n4_ n5_ n6_; clear hb hbox hg; have hnb5 := NB246_247.out; have hnc5 := NB247_246.out; have hcz6_0 : w4.cell? ⟨gb246, 0, none⟩ = some (.int .i64 a0_0) := (blk_cell BK246.out 0).trans rfl; have hcz6_1 : w4.cell? ⟨gb246, 1, none⟩ = some (.slice A0_1 l0_1.length c0_1) := (blk_cell BK246.out 1).trans rfl; have hfz6_0 := blk_frozen BK246.out 0; have hfz6_1 := blk_frozen BK246.out 1) | ((with_reducible refine gate_callee (f := 194) rfl ?_); refine goesL_ (some 8) rfl rfl Try.func194 (by kernel_rfl) rfl #[.slice A0_1 l0_1.length c0_1] rfl (by (try simp only [List.map_toArray, List.map_cons, List.map_nil]); first | done | rfl | (simp only [List.length_drop, List.length_take]; rfl)) ?_; (with_reducible refine (spec_ReverseLine.calls k _ _ l0_1 t248 t249 _ ?side1 ?side2 A2.out).mono ?_); (case side1 => repeat (first | exact (Kd.C_below HR0_1.out HB.out) | (with_reducible refine Kd.C_alloc ?_ _) | (with_reducible refine Kd.C_drewN ?_ _) | (with_reducible refine Kd.C_drew ?_))); (case side2 => exact HC0_1.out); rintro e w7 ⟨v250, rfl, ho0, hb⟩; refine ⟨_, rfl, ?_⟩; have n0_ := Aside0.mk (Kd.R_lower ho0 (below_size (by repeat (first | (with_reducible first | exact HB.out | apply below_alloc | apply pw_below_drewN | apply below_drew1 | refine below_set ?_ GE246.out | refine below_set ?_ GE247.out) | exact HB.out)))); have n1_ := Aside0.mk (blk_below (g := gb246) (o := .cells #[.int .i64 a0_0, .slice A0_1 l0_1.length c0_1] 116 (0, 0)) (by (with_reducible repeat (first | refine blk_drewN ?_ _ | refine blk_drew ?_ | refine blk_alloc ?_ _)); exact BK246.out) hb); have n2_ := Aside0.mk (blk_below (g := gb247) (o := .cells #[.int .i64 0, .slice none 0 0] 116 (0, 0)) (by (with_reducible repeat (first | refine blk_drewN ?_ _ | refine blk_drew ?_ | refine blk_alloc ?_ _)); exact BK247.out) hb); have n3_ := Aside0.mk (below_step (by repeat (first | (with_reducible first | exact HB.out | apply below_alloc | apply pw_below_drewN | apply below_drew1 | refine below_set ?_ GE246.out | refine below_set ?_ GE247.out) | exact HB.out)) hb); clear BK246; clear BK247; clear HB; have HO251 := n0_; have BK246 := n1_; have BK247 := n2_; have HB := n3_; clear n0_ n1_ n2_ n3_; (try clear hb); (try clear hb2); (try clear hk); (try clear hi); (try clear ho0); have hcz8_0 : w7.cell? ⟨gb246, 0, none⟩ = some (.int .i64 a0_0) := (blk_cell BK246.out 0).trans rfl; have hcz8_1 : w7.cell? ⟨gb246, 1, none⟩ = some (.slice A0_1 l0_1.length c0_1) := (blk_cell BK246.out 1).trans rfl; have hfz8_0 := blk_frozen BK246.out 0; have hfz8_1 := blk_frozen BK246.out 1; obtain ⟨Ao9, co9, eo9⟩ := Kd.R_slice HO251.out; subst eo9; have hcz10_0 : w7.cell? ⟨gb247, 0, none⟩ = some (.int .i64 0) := (blk_cell BK247.out 0).trans rfl; have hcz10_1 : w7.cell? ⟨gb247, 1, none⟩ = some (.slice none 0 0) := (blk_cell BK247.out 1).trans rfl; have hfz10_0 := blk_frozen BK247.out 0; have hfz10_1 := blk_frozen BK247.out 1))
  refine bodyPost_ret (results_cell_row rfl _ _ gb247 116 #[.int .i64 a0_0, .slice Ao9 t248.length co9] (0, 0) _ rfl (by (with_reducible repeat (first | refine blk_drewN ?_ _ | refine blk_drew ?_ | refine blk_alloc ?_ _)); refine blk_put (cs := #[.int .i64 a0_0, .slice none 0 0]) ?_ 1 _ rfl; (with_reducible repeat (first | refine blk_drewN ?_ _ | refine blk_drew ?_ | refine blk_alloc ?_ _)); refine blk_put (cs := #[.int .i64 0, .slice none 0 0]) ?_ 0 _ rfl; (with_reducible repeat (first | refine blk_drewN ?_ _ | refine blk_drew ?_ | refine blk_alloc ?_ _)); exact BK247.out) Try.underlying116 rfl (by kernel_rfl)) rfl ?_
  exact ⟨_, by first | rfl | (simp [errW_none, errW_some] <;> rfl) | (simp [*, errW_none, errW_some] <;> rfl), by (with_reducible repeat (first | apply Kd.R_alloc | apply Kd.R_drewN | apply Kd.R_drew)); exact Kd.R_mono (Kd.R_far (p := ⟨gb247, 1, none⟩) (Kd.R_far (p := ⟨gb247, 0, none⟩) (Kd.R_types HO251.out BK247.out (by decide)) (fun _ hk => hk.2) (.int .i64 a0_0)) (fun _ hk => hk.2) (.slice Ao9 t248.length co9)) (fun _ hk => trivial), by repeat (first | (with_reducible first | exact HB.out | apply below_alloc | apply pw_below_drewN | apply below_drew1 | refine below_set ?_ GE246.out | refine below_set ?_ GE247.out) | exact HB.out)⟩

end Go.Proofs.Ythdadohmomhchaa.F

namespace Go.Proofs.Ythdadohmomhchaa.F
open Go.RowKit Go.Proofs.YthdadohmomhchaaW.PrintWords Go.Proofs.YthdadohmomhchaaW.PrintLast Go.Proofs.YthdadohmomhchaaW.PrintMore
attribute [local go_sem] max2_int min2_int max_two min_two max_three min_three max_four min_four   -- for this text's walks alone
set_option linter.unusedVariables false
set_option linter.unusedSimpArgs false

/-! ### spec_l31Stroke: function 91 -/
def spec_l31Stroke.f (k : Nat) (l0 : List (S116)) (a1 : Int) : Option (Int × (List (S30))) := if (Int.tmod a1 2) = 1 then (if 0 ≤ (wrap64 (Int.tdiv a1 2)) then (if (wrap64 (Int.tdiv a1 2)) < (l0.length : Int) then ((spec_l28Turn.f k ((rd_T116 l0 (wrap64 (Int.tdiv a1 2))).f0) ((rd_T116 l0 (wrap64 (Int.tdiv a1 2))).f1)).bind fun bt254 => (some (bt254.1, bt254.2))) else (none)) else (none)) else (if 0 ≤ (wrap64 (Int.tdiv a1 2)) then (if (wrap64 (Int.tdiv a1 2)) < (l0.length : Int) then (some ((rd_T116 l0 (wrap64 (Int.tdiv a1 2))).f0, (rd_T116 l0 (wrap64 (Int.tdiv a1 2))).f1)) else (none)) else (none))
theorem spec_l31Stroke.mono : ∀ a0 a1 k, LeO (spec_l31Stroke.f k a0 a1) (spec_l31Stroke.f (k + 1) a0 a1) := by
  intro a0 a1 k
  unfold spec_l31Stroke.f
  repeat' first
      | (with_reducible exact spec_l28Turn.mono _ _ _)
      | (with_reducible exact LeO.refl _)
      | (with_reducible exact LeO.none _)
      | (with_reducible refine LeO.ite ?_ ?_)
      | (with_reducible refine LeO.bind ?_ (fun _ => ?_))
      | exact spec_l28Turn.mono _ _ _
      | exact LeO.none _
      | refine LeO.ite ?_ ?_
      | refine LeO.bind ?_ (fun _ => ?_)
set_option maxHeartbeats 8000000 in
set_option maxRecDepth 100000 in
theorem spec_l31Stroke.calls (k : Nat) (P0_ : Nat → Prop) (A0 : Option Addr) (c0 : Nat) (l0 : List (S116)) (a1 : Int) (r1 : Int) (r2 : List (S30)) (w : World) (hs0 : Kd.V k116 116 w w.heap.size (fun k_ => P0_ k_) (.slice A0 l0.length c0) l0) (h : spec_l31Stroke.f k l0 a1 = some (r1, r2)) :
    Calls Try.prog 91 #[.slice A0 l0.length c0, .int .i64 a1] w fun e w' => ∃ v1_ : Value, e = .returned (.agg #[.int .i64 r1, v1_]) ∧ Kd.V k30 30 w' w.heap.size (fun k_ => (P0_ k_ ∨ w.heap.size ≤ k_)) v1_ r2 ∧ Below w.heap.size w w' := by
  have hu116 := Try.underlying116
  have HO0 := Aside0.mk (show Kd.V k116 116 w w.heap.size (fun k_ => (P0_ k_ ∨ w.heap.size ≤ k_)) (.slice A0 l0.length c0) l0 from Kd.V_mono hs0 (fun k_ hk => .inl hk))
  have HB := Aside0.mk (Below.refl w.heap.size w)
  have H : (if (Int.tmod a1 2) = 1 then (if 0 ≤ (wrap64 (Int.tdiv a1 2)) then (if (wrap64 (Int.tdiv a1 2)) < (l0.length : Int) then ((spec_l28Turn.f k ((rd_T116 l0 (wrap64 (Int.tdiv a1 2))).f0) ((rd_T116 l0 (wrap64 (Int.tdiv a1 2))).f1)).bind fun bt254 => (some (bt254.1, bt254.2))) else (none)) else (none)) else (if 0 ≤ (wrap64 (Int.tdiv a1 2)) then (if (wrap64 (Int.tdiv a1 2)) < (l0.length : Int) then (some ((rd_T116 l0 (wrap64 (Int.tdiv a1 2))).f0, (rd_T116 l0 (wrap64 (Int.tdiv a1 2))).f1)) else (none)) else (none))) = some (r1, r2) := h
  clear h
  by_cases c3 : (Int.tmod a1 2) = 1
  · rw [if_pos c3] at H
    have c3b0 : ((Int.tmod a1 2) == 1) = true := beq_iff_eq.mpr c3
    have c3b1 : ((Int.tmod a1 2) != 1) = false := bne_eq_false_iff_eq.mpr c3
    clear c3
    obtain ⟨ji4, hji4⟩ : ∃ j_ : Int, (wrap64 (Int.tdiv a1 2)) = j_ := ⟨_, rfl⟩
    replace H : (if 0 ≤ (ji4) then (if (ji4) < (l0.length : Int) then ((spec_l28Turn.f k ((rd_T116 l0 (ji4)).f0) ((rd_T116 l0 (ji4)).f1)).bind fun bt254 => (some (bt254.1, bt254.2))) else (none)) else (none)) = some (r1, r2) := by first | (rw [hji4] at H; exact H) | (simp only [hji4] at H ⊢; exact H)
    have hji4w : (IntKind.i64.wrap (Int.tdiv a1 2)) = ji4 := (i64_w _).trans hji4
    by_cases c5 : 0 ≤ (ji4)
    · rw [if_pos c5] at H
      have c5b0 : decide (0 ≤ (ji4)) = true := decide_eq_true c5
      clear c5
      by_cases c6 : (ji4) < (l0.length : Int)
      · rw [if_pos c6] at H
        have c6b0 : decide ((ji4) < (l0.length : Int)) = true := decide_eq_true c6
        clear c6
        replace H := Option.bind_eq_some_iff.mp H
        obtain ⟨⟨t254, t255⟩, A70, H⟩ := H
        replace H : (some (t254, t255)) = some (r1, r2) := H
        have A7 := Aside0.mk A70
        clear A70
        simp only [Option.some.injEq, Prod.mk.injEq] at H
        obtain ⟨rfl, rfl⟩ := H
        go_enter Try.func91, Try.ntmps91
        go_wp2_with (first | ((with_reducible refine gate_dst (N := 4) rfl ?_); refine box_event ?hg (N := 4) ?hd (cs := #[.int .i64 0, .slice none 0 0]) (t := 116) ?hr ?_; (case hd => rfl); (case hg => rfl); (case hr => first | (go_simp; done) | (go_simp; rfl)); intro gb252 hg w8 hbox hb; have n0_ := Aside0.mk (Kd.V_below (Kd.V_elderB (by (with_reducible repeat (first | apply Kd.V_alloc | apply Kd.V_drewN | apply Kd.V_drew)); exact HO0.out) gb252 (Nat.le_of_eq hg.symm)) hb); have n1_ := Aside0.mk (below_step (by repeat (first | (with_reducible first | exact HB.out | apply below_alloc | apply pw_below_drewN | apply below_drew1) | exact HB.out)) hb); have n2_ := Aside0.mk (hbox); have n3_ := Aside0.mk ((by rw [hg]; exact (below_size (by repeat (first | (with_reducible first | exact HB.out | apply below_alloc | apply pw_below_drewN | apply below_drew1) | exact HB.out))) : w.heap.size ≤ gb252)); have n4_ := Aside0.mk ((by rw [hg]; exact (below_size (by repeat (first | (with_reducible first | exact HB.out | apply below_alloc | apply pw_below_drewN | apply below_drew1) | exact HB.out))) : w.heap.size ≤ gb252)); clear HO0; clear HB; have HO0 := n0_; have HB := n1_; have BK252 := n2_; have GW252 := n3_; have GE252 := n4_; clear n0_ n1_ n2_ n3_ n4_; clear hb hbox hg; have p253 : 0 ≤ ((ji4) : Int) := of_decide_eq_true (by first | (with_reducible assumption) | assumption); have q253 : (ji4) < (l0.length : Int) := of_decide_eq_true (by first | (with_reducible assumption) | assumption); obtain ⟨ad253, A253_1, c253_1, e253, hx253_0, hx253_1, hl253_1, hi253_1⟩ := at_T116 (Kd.V_reads' HO0.out).2.2 (ji4) p253 q253; cases e253; obtain ⟨ce253, hce253, hMe253, hcc253⟩ := Kd.V_get HO0.out z116 (ji4) p253 (by first | exact q253 | exact of_decide_eq_true (by first | (with_reducible assumption) | assumption) | (have e_ := (Kd.V_reads' HO0.out).1; omega)); obtain ⟨ua253_1, uc253_1, rfl, ul253_1, ge253_1⟩ := k116_openF hMe253; have hv253_1 := hcc253 1 _ rfl; rw [add_field _ _ 1 (by omega)] at hv253_1; replace hv253_1 := Option.some.inj (hv253_1.symm.trans hx253_1); injection hv253_1 with hva_ hvn_ hvc_; rw [hva_] at ge253_1; rw [hvc_] at ul253_1; have HL253_1 := Aside0.mk (show Kd.V k30 30 _ w.heap.size _ _ ((rd_T116 l0 (ji4)).f1) from Kd.V_mk ul253_1 ge253_1); clear hva_ hvn_ hvc_ ge253_1 ul253_1; clear hcc253 hce253; have HR253_1 := Aside0.mk hi253_1; have HC253_1 := Aside0.mk hl253_1; clear hi253_1 hl253_1; replace p253 := eq_true p253; replace q253 := eq_true q253) | ((with_reducible refine gate_callee (f := 154) rfl ?_); refine goesL_ (some 13) rfl rfl Try.func154 (by kernel_rfl) rfl #[.agg #[.int .i64 ((rd_T116 l0 (ji4)).f0), .slice A253_1 ((rd_T116 l0 (ji4)).f1).length c253_1]] rfl (by (try simp only [List.map_toArray, List.map_cons, List.map_nil]); first | done | (simp only [hji4]; rfl) | rfl | (simp only [List.length_drop, List.length_take]; rfl)) ?_; (with_reducible refine (spec_l28Turn.calls k ((rd_T116 l0 (ji4)).f0) _ _ ((rd_T116 l0 (ji4)).f1) t254 t255 _ ?side1 ?side2 A7.out).mono ?_); (case side1 => repeat (first | exact (by repeat (first | (with_reducible exact HR253_1.out) | (with_reducible refine Kd.C_alloc ?_ _) | (with_reducible refine Kd.C_drewN ?_ _) | (with_reducible refine Kd.C_drew ?_) | exact HR253_1.out)) | (with_reducible refine Kd.C_alloc ?_ _) | (with_reducible refine Kd.C_drewN ?_ _) | (with_reducible refine Kd.C_drew ?_))); (case side2 => exact HC253_1.out); rintro e w9 ⟨v256, rfl, ho0, hb⟩; refine ⟨_, rfl, ?_⟩; have n0_ := Aside0.mk (Kd.V_elder' (by (with_reducible repeat (first | apply Kd.V_alloc | apply Kd.V_drewN | apply Kd.V_drew)); exact HO0.out) (Kd.R_base ho0) hb); have n1_ := Aside0.mk (Kd.V_elder' (by (with_reducible repeat (first | apply Kd.V_alloc | apply Kd.V_drewN | apply Kd.V_drew)); exact HL253_1.out) (Kd.R_base ho0) hb); have n2_ := Aside0.mk (Kd.R_lower (Kd.R_newM (M := fun k_ => (w.heap.size ≤ k_)) ho0 (below_size (by repeat (first | (with_reducible first | exact HB.out | apply below_alloc | apply pw_below_drewN | apply below_drew1 | refine below_set ?_ GE252.out) | exact HB.out))) (fun k_ h_ => h_)) (below_size (by repeat (first | (with_reducible first | exact HB.out | apply below_alloc | apply pw_below_drewN | apply below_drew1 | refine below_set ?_ GE252.out) | exact HB.out)))); have n3_ := Aside0.mk (blk_below (g := gb252) (o := .cells #[.int .i64 0, .slice none 0 0] 116 (0, 0)) (by (with_reducible repeat (first | refine blk_drewN ?_ _ | refine blk_drew ?_ | refine blk_alloc ?_ _)); exact BK252.out) hb); have n4_ := Aside0.mk (Kd.C_below (by repeat (first | (with_reducible exact HR253_1.out) | (with_reducible refine Kd.C_alloc ?_ _) | (with_reducible refine Kd.C_drewN ?_ _) | (with_reducible refine Kd.C_drew ?_) | exact HR253_1.out)) hb); have n5_ := Aside0.mk (below_step (by repeat (first | (with_reducible first | exact HB.out | apply below_alloc | apply pw_below_drewN | apply below_drew1 | refine below_set ?_ GE252.out) | exact HB.out)) hb); clear HO0; clear HL253_1; clear BK252; clear HR253_1; clear HB; have HO0 := n0_; have HL253_1 := n1_; have HO257 := n2_; have BK252 := n3_; have HR253_1 := n4_; have HB := n5_; clear n0_ n1_ n2_ n3_ n4_ n5_; (try clear hb); (try clear hb2); (try clear hk); (try clear hi); (try clear ho0); have hcz10_0 : w9.cell? ⟨gb252, 0, none⟩ = some (.int .i64 0) := (blk_cell BK252.out 0).trans rfl; have hcz10_1 : w9.cell? ⟨gb252, 1, none⟩ = some (.slice none 0 0) := (blk_cell BK252.out 1).trans rfl; have hfz10_0 := blk_frozen BK252.out 0; have hfz10_1 := blk_frozen BK252.out 1; obtain ⟨Ao11, co11, eo11⟩ := Kd.R_slice HO257.out; subst eo11))
        refine bodyPost_ret (results_cell_row rfl _ _ gb252 116 #[.int .i64 t254, .slice Ao11 t255.length co11] (0, 0) _ rfl (by (with_reducible repeat (first | refine blk_drewN ?_ _ | refine blk_drew ?_ | refine blk_alloc ?_ _)); refine blk_put (cs := #[.int .i64 t254, .slice none 0 0]) ?_ 1 _ rfl; (with_reducible repeat (first | refine blk_drewN ?_ _ | refine blk_drew ?_ | refine blk_alloc ?_ _)); refine blk_put (cs := #[.int .i64 0, .slice none 0 0]) ?_ 0 _ rfl; (with_reducible repeat (first | refine blk_drewN ?_ _ | refine blk_drew ?_ | refine blk_alloc ?_ _)); exact BK252.out) Try.underlying116 rfl (by kernel_rfl)) rfl ?_
        exact ⟨_, by first | rfl | (simp [errW_none, errW_some] <;> rfl) | (simp only [← hji4]; first | rfl | (simp [errW_none, errW_some] <;> rfl)) | (simp [*, errW_none, errW_some] <;> rfl), Kd.V_mono (Kd.R_V (by (with_reducible repeat (first | apply Kd.R_alloc | apply Kd.R_drewN | apply Kd.R_drew)); exact Kd.R_mono (Kd.R_far (p := ⟨gb252, 1, none⟩) (Kd.R_far (p := ⟨gb252, 0, none⟩) (Kd.R_types HO257.out BK252.out (by decide)) (fun _ hk => hk.2) (.int .i64 t254)) (fun _ hk => hk.2) (.slice Ao11 t255.length co11)) (fun _ hk => hk.1.1))) (fun k_ hk => by first | exact ⟨(.inr (hk.1)), hk.2⟩ | exact (.inr (hk))), by repeat (first | (with_reducible first | exact HB.out | apply below_alloc | apply pw_below_drewN | apply below_drew1 | refine below_set ?_ GE252.out) | exact HB.out)⟩
      · rw [if_neg c6] at H
        exact absurd H (by simp)
    · rw [if_neg c5] at H
      exact absurd H (by simp)
  · rw [if_neg c3] at H
    have c3b0 : ((Int.tmod a1 2) == 1) = false := beq_eq_false_iff_ne.mpr c3
    have c3b1 : ((Int.tmod a1 2) != 1) = true := bne_iff_ne.mpr c3
    obtain ⟨ji12, hji12⟩ : ∃ j_ : Int, (wrap64 (Int.tdiv a1 2)) = j_ := ⟨_, rfl⟩
    replace H : (if 0 ≤ (ji12) then (if (ji12) < (l0.length : Int) then (some ((rd_T116 l0 (ji12)).f0, (rd_T116 l0 (ji12)).f1)) else (none)) else (none)) = some (r1, r2) := by first | (rw [hji12] at H; exact H) | (simp only [hji12] at H ⊢; exact H)
    have hji12w : (IntKind.i64.wrap (Int.tdiv a1 2)) = ji12 := (i64_w _).trans hji12
    by_cases c13 : 0 ≤ (ji12)
    · rw [if_pos c13] at H
      have c13b0 : decide (0 ≤ (ji12)) = true := decide_eq_true c13
      clear c13
      by_cases c14 : (ji12) < (l0.length : Int)
      · rw [if_pos c14] at H
        have c14b0 : decide ((ji12) < (l0.length : Int)) = true := decide_eq_true c14
        clear c14
        simp only [Option.some.injEq, Prod.mk.injEq] at H
        obtain ⟨rfl, rfl⟩ := H
        go_enter Try.func91, Try.ntmps91
        go_wp2_with (first | ((with_reducible refine gate_dst (N := 4) rfl ?_); refine box_event ?hg (N := 4) ?hd (cs := #[.int .i64 0, .slice none 0 0]) (t := 116) ?hr ?_; (case hd => rfl); (case hg => rfl); (case hr => first | (go_simp; done) | (go_simp; rfl)); intro gb252 hg w15 hbox hb; have n0_ := Aside0.mk (Kd.V_below (Kd.V_elderB (by (with_reducible repeat (first | apply Kd.V_alloc | apply Kd.V_drewN | apply Kd.V_drew)); exact HO0.out) gb252 (Nat.le_of_eq hg.symm)) hb); have n1_ := Aside0.mk (below_step (by repeat (first | (with_reducible first | exact HB.out | apply below_alloc | apply pw_below_drewN | apply below_drew1) | exact HB.out)) hb); have n2_ := Aside0.mk (hbox); have n3_ := Aside0.mk ((by rw [hg]; exact (below_size (by repeat (first | (with_reducible first | exact HB.out | apply below_alloc | apply pw_below_drewN | apply below_drew1) | exact HB.out))) : w.heap.size ≤ gb252)); have n4_ := Aside0.mk ((by rw [hg]; exact (below_size (by repeat (first | (with_reducible first | exact HB.out | apply below_alloc | apply pw_below_drewN | apply below_drew1) | exact HB.out))) : w.heap.size ≤ gb252)); clear HO0; clear HB; have HO0 := n0_; have HB := n1_; have BK252 := n2_; have GW252 := n3_; have GE252 := n4_; clear n0_ n1_ n2_ n3_ n4_; clear hb hbox hg; have p258 : 0 ≤ ((ji12) : Int) := of_decide_eq_true (by first | (with_reducible assumption) | assumption); have q258 : (ji12) < (l0.length : Int) := of_decide_eq_true (by first | (with_reducible assumption) | assumption); obtain ⟨ad258, A258_1, c258_1, e258, hx258_0, hx258_1, hl258_1, hi258_1⟩ := at_T116 (Kd.V_reads' HO0.out).2.2 (ji12) p258 q258; cases e258; obtain ⟨ce258, hce258, hMe258, hcc258⟩ := Kd.V_get HO0.out z116 (ji12) p258 (by first | exact q258 | exact of_decide_eq_true (by first | (with_reducible assumption) | assumption) | (have e_ := (Kd.V_reads' HO0.out).1; omega)); obtain ⟨ua258_1, uc258_1, rfl, ul258_1, ge258_1⟩ := k116_openF hMe258; have hv258_1 := hcc258 1 _ rfl; rw [add_field _ _ 1 (by omega)] at hv258_1; replace hv258_1 := Option.some.inj (hv258_1.symm.trans hx258_1); injection hv258_1 with hva_ hvn_ hvc_; rw [hva_] at ge258_1; rw [hvc_] at ul258_1; have HL258_1 := Aside0.mk (show Kd.V k30 30 _ w.heap.size _ _ ((rd_T116 l0 (ji12)).f1) from Kd.V_mk ul258_1 ge258_1); clear hva_ hvn_ hvc_ ge258_1 ul258_1; clear hcc258 hce258; have HR258_1 := Aside0.mk hi258_1; have HC258_1 := Aside0.mk hl258_1; clear hi258_1 hl258_1; replace p258 := eq_true p258; replace q258 := eq_true q258; have hcz16_0 : w15.cell? ⟨gb252, 0, none⟩ = some (.int .i64 0) := (blk_cell BK252.out 0).trans rfl; have hcz16_1 : w15.cell? ⟨gb252, 1, none⟩ = some (.slice none 0 0) := (blk_cell BK252.out 1).trans rfl; have hfz16_0 := blk_frozen BK252.out 0; have hfz16_1 := blk_frozen BK252.out 1))
        refine bodyPost_ret (results_cell_row rfl _ _ gb252 116 #[.int .i64 ((rd_T116 l0 (ji12)).f0), .slice A258_1 ((rd_T116 l0 (ji12)).f1).length c258_1] (0, 0) _ rfl (by (with_reducible repeat (first | refine blk_drewN ?_ _ | refine blk_drew ?_ | refine blk_alloc ?_ _)); refine blk_put (cs := #[.int .i64 ((rd_T116 l0 (ji12)).f0), .slice none 0 0]) ?_ 1 _ rfl; (with_reducible repeat (first | refine blk_drewN ?_ _ | refine blk_drew ?_ | refine blk_alloc ?_ _)); refine blk_put (cs := #[.int .i64 0, .slice none 0 0]) ?_ 0 _ rfl; (with_reducible repeat (first | refine blk_drewN ?_ _ | refine blk_drew ?_ | refine blk_alloc ?_ _)); exact BK252.out) Try.underlying116 rfl (by kernel_rfl)) rfl ?_
        exact ⟨_, by first | rfl | (simp [errW_none, errW_some] <;> rfl) | (simp only [← hji12]; first | rfl | (simp [errW_none, errW_some] <;> rfl)) | (simp [*, errW_none, errW_some] <;> rfl), by (with_reducible repeat (first | apply Kd.V_alloc | apply Kd.V_drewN | apply Kd.V_drew)); exact Kd.V_mono (Kd.V_far (p := ⟨gb252, 1, none⟩) (Kd.V_far (p := ⟨gb252, 0, none⟩) (Kd.V_mono HL258_1.out (fun k_ hk => (⟨hk, hk.2⟩ : _ ∧ k_ ≠ gb252))) (fun _ hk => hk.2) (.int .i64 ((rd_T116 l0 (ji12)).f0))) (fun _ hk => hk.2) (.slice A258_1 ((rd_T116 l0 (ji12)).f1).length c258_1)) (fun _ hk => hk.1.1), by repeat (first | (with_reducible first | exact HB.out | apply below_alloc | apply pw_below_drewN | apply below_drew1 | refine below_set ?_ GE252.out) | exact HB.out)⟩
      · rw [if_neg c14] at H
        exact absurd H (by simp)
    · rw [if_neg c13] at H
      exact absurd H (by simp)

end Go.Proofs.Ythdadohmomhchaa.F

namespace Go.Proofs.Ythdadohmomhchaa.F
open Go.RowKit Go.Proofs.YthdadohmomhchaaW.PrintWords Go.Proofs.YthdadohmomhchaaW.PrintLast Go.Proofs.YthdadohmomhchaaW.PrintMore
attribute [local go_sem] max2_int min2_int max_two min_two max_three min_three max_four min_four   -- for this text's walks alone
set_option linter.unusedVariables false
set_option linter.unusedSimpArgs false

/-! ### spec_TurnOnly: function 20 -/
def spec_TurnOnly.l0 : Nat → List (S116) → List Int → Int → Int → Int → Option (List Int × Int)
  | 0, _, _, _, _, _ => none
  | k + 1, x0, x5, x7, x264000, x264001 => if x7 < (x0.length : Int) then (if 0 ≤ x7 then (if 0 ≤ (wrap64 ((((rd_T116 x0 x7).f1).length : Int) - 1)) then (if (wrap64 ((((rd_T116 x0 x7).f1).length : Int) - 1)) < (((rd_T116 x0 x7).f1).length : Int) then ((spec_l16Square.f x264000 x264001 ((rd_T30 ((rd_T116 x0 x7).f1) (wrap64 ((((rd_T116 x0 x7).f1).length : Int) - 1))).f0) ((rd_T30 ((rd_T116 x0 x7).f1) (wrap64 ((((rd_T116 x0 x7).f1).length : Int) - 1))).f1)).bind fun t266 => ((spec_l01Root.f k t266).bind fun t267 => (if 0 < (((rd_T116 x0 x7).f1).length : Int) then ((spec_l16Square.f x264000 x264001 ((rd_T30 ((rd_T116 x0 x7).f1) 0).f0) ((rd_T30 ((rd_T116 x0 x7).f1) 0).f1)).bind fun t269 => ((spec_l01Root.f k t269).bind fun t270 => (if t267 < t270 then (if x5.length < 17592186044416 then ((spec_l31Stroke.f k x0 (wrap64 ((wrap64 (2 * x7)) + 1))).bind fun bt274 => (if 0 ≤ (wrap64 ((bt274.2.length : Int) - 1)) then (if (wrap64 ((bt274.2.length : Int) - 1)) < (bt274.2.length : Int) then (spec_TurnOnly.l0 k x0 (x5 ++ [wrap64 ((wrap64 (2 * x7)) + 1)]) (wrap64 (x7 + 1)) ((rd_T30 bt274.2 (wrap64 ((bt274.2.length : Int) - 1))).f0) ((rd_T30 bt274.2 (wrap64 ((bt274.2.length : Int) - 1))).f1)) else (none)) else (none))) else (none)) else (if x5.length < 17592186044416 then ((spec_l31Stroke.f k x0 (wrap64 (2 * x7))).bind fun bt282 => (if 0 ≤ (wrap64 ((bt282.2.length : Int) - 1)) then (if (wrap64 ((bt282.2.length : Int) - 1)) < (bt282.2.length : Int) then (spec_TurnOnly.l0 k x0 (x5 ++ [wrap64 (2 * x7)]) (wrap64 (x7 + 1)) ((rd_T30 bt282.2 (wrap64 ((bt282.2.length : Int) - 1))).f0) ((rd_T30 bt282.2 (wrap64 ((bt282.2.length : Int) - 1))).f1)) else (none)) else (none))) else (none))))) else (none)))) else (none)) else (none)) else (none)) else (some (x5, 0))
def spec_TurnOnly.f (k : Nat) (l0 : List (S116)) : Option (List Int × Int) := (spec_l28Code.f k l0).bind fun t259 => (if t259 = 0 then (spec_TurnOnly.l0 k l0 (([] : List Int)) 0 0 0) else (some (([] : List Int), t259)))
theorem spec_TurnOnly.mono_l : ∀ k, (∀ y0 y1 y2 y3 y4, LeO (spec_TurnOnly.l0 k y0 y1 y2 y3 y4) (spec_TurnOnly.l0 (k + 1) y0 y1 y2 y3 y4))
  | 0 => fun _ _ _ _ _ r h => by simp [spec_TurnOnly.l0] at h
  | k + 1 => by
    have ih0 := spec_TurnOnly.mono_l k
    · intro y0 y1 y2 y3 y4
      unfold spec_TurnOnly.l0
      repeat' first
      | (with_reducible exact ih0 _ _ _ _ _)
      | (with_reducible exact spec_l01Root.mono _ _)
      | (with_reducible exact spec_l28Code.mono _ _)
      | (with_reducible exact spec_l31Stroke.mono _ _ _)
      | (with_reducible exact LeO.refl _)
      | (with_reducible exact LeO.none _)
      | (with_reducible refine LeO.ite ?_ ?_)
      | (with_reducible refine LeO.bind ?_ (fun _ => ?_))
      | exact ih0 _ _ _ _ _
      | exact spec_l01Root.mono _ _
      | exact spec_l28Code.mono _ _
      | exact spec_l31Stroke.mono _ _ _
      | exact LeO.none _
      | refine LeO.ite ?_ ?_
      | refine LeO.bind ?_ (fun _ => ?_)
theorem spec_TurnOnly.mono : ∀ a0 k, LeO (spec_TurnOnly.f k a0) (spec_TurnOnly.f (k + 1) a0) := by
  intro a0 k
  have ih0 := spec_TurnOnly.mono_l k
  unfold spec_TurnOnly.f
  repeat' first
      | (with_reducible exact ih0 _ _ _ _ _)
      | (with_reducible exact spec_l01Root.mono _ _)
      | (with_reducible exact spec_l28Code.mono _ _)
      | (with_reducible exact spec_l31Stroke.mono _ _ _)
      | (with_reducible exact LeO.refl _)
      | (with_reducible exact LeO.none _)
      | (with_reducible refine LeO.ite ?_ ?_)
      | (with_reducible refine LeO.bind ?_ (fun _ => ?_))
      | exact ih0 _ _ _ _ _
      | exact spec_l01Root.mono _ _
      | exact spec_l28Code.mono _ _
      | exact spec_l31Stroke.mono _ _ _
      | exact LeO.none _
      | refine LeO.ite ?_ ?_
      | refine LeO.bind ?_ (fun _ => ?_)
def spec_TurnOnly.T11 : Bool × List (List Nat × List Nat) := (true, [([], []), ([], []), ([], []), ([2], [2]), ([3], [3]), ([1, 4], [1, 4]), ([5], [5]), ([0, 6], [0, 6]), ([7, 7], [7]), ([], []), ([], []), ([10], [10]), ([11], [11]), ([9, 12, 8], [9, 12]), ([13, 13], [13]), ([8, 14], [8, 14])])
def spec_TurnOnly.B11 : List Nat := [0, 0, 0, 4, 12, 30, 62, 127, 255, 0, 0, 1024, 3072, 8191, 16383, 32767]
theorem spec_TurnOnly.tab11 : rtab .any (opsOf Try.f20 11) = spec_TurnOnly.T11 := by kernel_rfl
theorem spec_TurnOnly.bits11 : waitsOk spec_TurnOnly.T11.2 spec_TurnOnly.B11 = true := by kernel_rfl
set_option maxHeartbeats 8000000 in
set_option maxRecDepth 100000 in
theorem spec_TurnOnly.calls (k : Nat) (A0 : Option Addr) (c0 : Nat) (l0 : List (S116)) (r1 : List Int) (r2 : Int) (w : World) (hr0 : Kd.C k116 w A0 l0.length l0) (hc0 : l0.length ≤ c0) (h : spec_TurnOnly.f k l0 = some (r1, r2)) :
    Calls Try.prog 20 #[.slice A0 l0.length c0] w fun e w' => ∃ v0_ : Value, e = .returned (.tuple #[v0_, .int .i64 r2]) ∧ Kd.R (Kd.int .i64) 2 w' w.heap.size (fun _ => True) v0_ r1 ∧ Below w.heap.size w w' := by
  have hu30 := Try.underlying30
  have hfd1_ : ∀ (w : World) (a : Int) (A : Option Addr) (n c : Nat), (Instr.field 116 (.agg #[.int .i64 a, .slice A n c]) 1).run Try.prog w = .ok (.slice A n c) w := fun _ _ _ _ _ => by kernel_rfl
  have hfd0_ : ∀ (w : World) (a : Int) (A : Option Addr) (n c : Nat), (Instr.field 116 (.agg #[.int .i64 a, .slice A n c]) 0).run Try.prog w = .ok (.int .i64 a) w := fun _ _ _ _ _ => by kernel_rfl
  have HR0 := Aside0.mk hr0
  have HC0 := Aside0.mk hc0
  clear hr0 hc0
  have HB := Aside0.mk (Below.refl w.heap.size w)
  have H : ((spec_l28Code.f k l0).bind fun t259 => (if t259 = 0 then (spec_TurnOnly.l0 k l0 (([] : List Int)) 0 0 0) else (some (([] : List Int), t259)))) = some (r1, r2) := h
  clear h
  replace H := Option.bind_eq_some_iff.mp H
  obtain ⟨t259, A20, H⟩ := H
  replace H : (if t259 = 0 then (spec_TurnOnly.l0 k l0 (([] : List Int)) 0 0 0) else (some (([] : List Int), t259))) = some (r1, r2) := H
  have A2 := Aside0.mk A20
  clear A20
  by_cases c3 : t259 = 0
  · rw [if_pos c3] at H
    have c3b0 : (t259 == 0) = true := beq_iff_eq.mpr c3
    have c3b1 : (t259 != 0) = false := bne_eq_false_iff_eq.mpr c3
    clear c3
    obtain ⟨y260, hy260⟩ : ∃ y_ : List Int, y_ = (([] : List Int)) := ⟨_, rfl⟩
    replace H : (spec_TurnOnly.l0 k l0 y260 0 0 0) = some (r1, r2) := by first | (rw [hy260]; with_reducible exact H) | (have H2_ := (Option.bind_some _ _).symm.trans H; rw [hy260]; with_reducible exact H2_) | (have H2_ := (Option.bind_some _ _).symm.trans H; with_reducible exact H2_) | with_reducible exact H | (rw [hy260]; exact H) | exact H
    have Ny260 := Aside0.mk hy260
    clear hy260
    have H' := Aside0.mk H
    clear H
    go_enter Try.func20, Try.ntmps20
    go_wp2_with (first | ((with_reducible refine gate_callee (f := 79) rfl ?_); refine goesL_ (some 11) rfl rfl Try.func79 (by kernel_rfl) rfl #[.slice A0 l0.length c0] rfl (by (try simp only [List.map_toArray, List.map_cons, List.map_nil]); first | done | rfl | (simp only [List.length_drop, List.length_take]; rfl)) ?_; (with_reducible refine (spec_l28Code.calls k _ _ l0 t259 _ ?side1 ?side2 A2.out).mono ?_); (case side1 => repeat (first | exact HR0.out | (with_reducible refine Kd.C_alloc ?_ _) | (with_reducible refine Kd.C_drewN ?_ _) | (with_reducible refine Kd.C_drew ?_))); (case side2 => exact HC0.out); rintro e w' ⟨rfl, ⟨nd, rfl⟩⟩; refine ⟨_, rfl, ?_⟩) | ((with_reducible refine gate_dst (N := 15) rfl ?_); refine Kd.R_lit (Kd.int .i64) _ 2 ?hg (N := 15) ?hd (xs := ([] : List Int)) (inner := []) (ok := fun _ => True) (okp := fun _ => True) ?hr ?hp (fun _ hk => hk) trivial (Below.refl _ _) (Nat.le_refl _) (by simp) ?_; (case hd => rfl); (case hg => rfl); (case hr => first | (go_simp; done) | (go_simp; rfl)); (case hp => exact (Reps.none _ _)); intro v261 w4 ho5 hb hg_ hnew_; clear hg_ hnew_; (first | rw [← Ny260.out] at ho5 | (simp only [Int.reduceToNat] at ho5; rw [← Ny260.out] at ho5)); have n0_ := Aside0.mk (Kd.R_lower ho5 (below_size (by repeat (first | (with_reducible first | exact HB.out | apply below_alloc | apply pw_below_drewN | apply below_drew1) | exact HB.out)))); have n1_ := Aside0.mk (below_step (by repeat (first | (with_reducible first | exact HB.out | apply below_alloc | apply pw_below_drewN | apply below_drew1) | exact HB.out)) hb); clear HB; have HO262 := n0_; have HB := n1_; clear n0_ n1_; clear hb ho5) | ((with_reducible refine gate_dst (N := 6) rfl ?_); refine box_event ?hg (N := 6) ?hd (cs := #[.int .i64 0, .int .i64 0]) (t := 30) ?hr ?_; (case hd => rfl); (case hg => rfl); (case hr => first | (go_simp; done) | (go_simp; rfl)); intro gb263 hg w6 hbox hb; have n0_ := Aside0.mk (Kd.R_below (by (with_reducible repeat (first | apply Kd.R_alloc | apply Kd.R_drewN | apply Kd.R_drew)); exact HO262.out) hb); have n1_ := Aside0.mk (below_step (by repeat (first | (with_reducible first | exact HB.out | apply below_alloc | apply pw_below_drewN | apply below_drew1) | exact HB.out)) hb); have n2_ := Aside0.mk (hbox); have n3_ := Aside0.mk ((by rw [hg]; exact (below_size (by repeat (first | (with_reducible first | exact HB.out | apply below_alloc | apply pw_below_drewN | apply below_drew1) | exact HB.out))) : w.heap.size ≤ gb263)); have n4_ := Aside0.mk ((by rw [hg]; exact (below_size (by repeat (first | (with_reducible first | exact HB.out | apply below_alloc | apply pw_below_drewN | apply below_drew1) | exact HB.out))) : w.heap.size ≤ gb263)); clear HO262; clear HB; have HO262 := n0_; have HB := n1_; have BK263 := n2_; have GW263 := n3_; have GE263 := n4_; clear n0_ n1_ n2_ n3_ n4_; clear hb hbox hg; have hcz7_0 : w6.cell? ⟨gb263, 0, none⟩ = some (.int .i64 0) := (blk_cell BK263.out 0).trans rfl; have hcz7_1 : w6.cell? ⟨gb263, 1, none⟩ = some (.int .i64 0) := (blk_cell BK263.out 1).trans rfl; have hfz7_0 := blk_frozen BK263.out 0; have hfz7_1 := blk_frozen BK263.out 1))
    go_loopg [5, 7] k (fun kq v5 v7 w' => ∃ (x5_1 : List Int) (x7_1 : Int) (x264000_1 : Int) (x264001_1 : Int), v7 = .int .i64 x7_1 ∧ Aside0 (spec_TurnOnly.l0 kq l0 x5_1 x7_1 x264000_1 x264001_1 = some (r1, r2)) ∧ Aside0 (kq ≤ k) ∧ Aside0 (Kd.R (Kd.int .i64) 2 w' w.heap.size (fun _ => True) v5 x5_1) ∧ Aside0 (w'.heap[gb263]? = some (.cells #[.int .i64 x264000_1, .int .i64 x264001_1] 30 (0, 0))) ∧ Aside0 (Below w.heap.size w w'))
    case atStart => exact ⟨(y260), (0), (0), (0), (by first | rfl | (simp; done) | (simp [*]; done)), H', ⟨Nat.le_refl _⟩, ⟨by (with_reducible repeat (first | apply Kd.R_alloc | apply Kd.R_drewN | apply Kd.R_drew)); exact Kd.R_mono (Kd.R_far (p := ⟨gb263, 1, none⟩) (Kd.R_far (p := ⟨gb263, 0, none⟩) (Kd.R_types HO262.out BK263.out (by decide)) (fun _ hk => hk.2) (.int .i64 0)) (fun _ hk => hk.2) (.int .i64 0)) (fun _ hk => trivial)⟩, ⟨by (with_reducible repeat (first | refine blk_drewN ?_ _ | refine blk_drew ?_ | refine blk_alloc ?_ _)); refine blk_put (cs := #[.int .i64 0, .int .i64 0]) ?_ 1 _ rfl; (with_reducible repeat (first | refine blk_drewN ?_ _ | refine blk_drew ?_ | refine blk_alloc ?_ _)); refine blk_put (cs := #[.int .i64 0, .int .i64 0]) ?_ 0 _ rfl; (with_reducible repeat (first | refine blk_drewN ?_ _ | refine blk_drew ?_ | refine blk_alloc ?_ _)); exact BK263.out⟩, ⟨by repeat (first | (with_reducible first | exact HB.out | apply below_alloc | apply pw_below_drewN | apply below_drew1 | refine below_set ?_ GE263.out) | exact HB.out)⟩⟩
    case round =>
      clear H'
      try clear c2
      try clear p2
      try clear c3
      try clear c3b0
      try clear c3b1
      try clear c7
      try clear hcz7_0
      try clear hcz7_1
      try clear hfz7_0
      try clear hfz7_1
      obtain ⟨x5_1, x7_1, x264000_1, x264001_1, rfl, HA, HK1, HO_5, BK263, HB⟩ := hrel
      cases gk with
      | zero => exact absurd HA.out (by simp [spec_TurnOnly.l0])
      | succ k1 =>
        have H := HA.out
        clear HA
        simp only [spec_TurnOnly.l0] at H
        by_cases c8 : x7_1 < (l0.length : Int)
        · rw [if_pos c8] at H
          have c8b0 : decide (x7_1 < (l0.length : Int)) = true := decide_eq_true c8
          clear c8
          by_cases c9 : 0 ≤ x7_1
          · rw [if_pos c9] at H
            have c9b0 : decide (0 ≤ x7_1) = true := decide_eq_true c9
            clear c9
            obtain ⟨ji10, hji10⟩ : ∃ j_ : Int, (wrap64 ((((rd_T116 l0 x7_1).f1).length : Int) - 1)) = j_ := ⟨_, rfl⟩
            replace H : (if 0 ≤ (ji10) then (if (ji10) < (((rd_T116 l0 x7_1).f1).length : Int) then ((spec_l16Square.f x264000_1 x264001_1 ((rd_T30 ((rd_T116 l0 x7_1).f1) (ji10)).f0) ((rd_T30 ((rd_T116 l0 x7_1).f1) (ji10)).f1)).bind fun t266 => ((spec_l01Root.f k1 t266).bind fun t267 => (if 0 < (((rd_T116 l0 x7_1).f1).length : Int) then ((spec_l16Square.f x264000_1 x264001_1 ((rd_T30 ((rd_T116 l0 x7_1).f1) 0).f0) ((rd_T30 ((rd_T116 l0 x7_1).f1) 0).f1)).bind fun t269 => ((spec_l01Root.f k1 t269).bind fun t270 => (if t267 < t270 then (if x5_1.length < 17592186044416 then ((spec_l31Stroke.f k1 l0 (wrap64 ((wrap64 (2 * x7_1)) + 1))).bind fun bt274 => (if 0 ≤ (wrap64 ((bt274.2.length : Int) - 1)) then (if (wrap64 ((bt274.2.length : Int) - 1)) < (bt274.2.length : Int) then (spec_TurnOnly.l0 k1 l0 (x5_1 ++ [wrap64 ((wrap64 (2 * x7_1)) + 1)]) (wrap64 (x7_1 + 1)) ((rd_T30 bt274.2 (wrap64 ((bt274.2.length : Int) - 1))).f0) ((rd_T30 bt274.2 (wrap64 ((bt274.2.length : Int) - 1))).f1)) else (none)) else (none))) else (none)) else (if x5_1.length < 17592186044416 then ((spec_l31Stroke.f k1 l0 (wrap64 (2 * x7_1))).bind fun bt282 => (if 0 ≤ (wrap64 ((bt282.2.length : Int) - 1)) then (if (wrap64 ((bt282.2.length : Int) - 1)) < (bt282.2.length : Int) then (spec_TurnOnly.l0 k1 l0 (x5_1 ++ [wrap64 (2 * x7_1)]) (wrap64 (x7_1 + 1)) ((rd_T30 bt282.2 (wrap64 ((bt282.2.length : Int) - 1))).f0) ((rd_T30 bt282.2 (wrap64 ((bt282.2.length : Int) - 1))).f1)) else (none)) else (none))) else (none))))) else (none)))) else (none)) else (none)) = some (r1, r2) := by first | (rw [hji10] at H; exact H) | (simp only [hji10] at H ⊢; exact H)
            have hji10w : (IntKind.i64.wrap ((((rd_T116 l0 x7_1).f1).length : Int) - 1)) = ji10 := (i64_w _).trans hji10
            by_cases c11 : 0 ≤ (ji10)
            · rw [if_pos c11] at H
              have c11b0 : decide (0 ≤ (ji10)) = true := decide_eq_true c11
              clear c11
              by_cases c12 : (ji10) < (((rd_T116 l0 x7_1).f1).length : Int)
              · rw [if_pos c12] at H
                have c12b0 : decide ((ji10) < (((rd_T116 l0 x7_1).f1).length : Int)) = true := decide_eq_true c12
                clear c12
                replace H := Option.bind_eq_some_iff.mp H
                obtain ⟨t266, A130, H⟩ := H
                replace H : ((spec_l01Root.f k1 t266).bind fun t267 => (if 0 < (((rd_T116 l0 x7_1).f1).length : Int) then ((spec_l16Square.f x264000_1 x264001_1 ((rd_T30 ((rd_T116 l0 x7_1).f1) 0).f0) ((rd_T30 ((rd_T116 l0 x7_1).f1) 0).f1)).bind fun t269 => ((spec_l01Root.f k1 t269).bind fun t270 => (if t267 < t270 then (if x5_1.length < 17592186044416 then ((spec_l31Stroke.f k1 l0 (wrap64 ((wrap64 (2 * x7_1)) + 1))).bind fun bt274 => (if 0 ≤ (wrap64 ((bt274.2.length : Int) - 1)) then (if (wrap64 ((bt274.2.length : Int) - 1)) < (bt274.2.length : Int) then (spec_TurnOnly.l0 k1 l0 (x5_1 ++ [wrap64 ((wrap64 (2 * x7_1)) + 1)]) (wrap64 (x7_1 + 1)) ((rd_T30 bt274.2 (wrap64 ((bt274.2.length : Int) - 1))).f0) ((rd_T30 bt274.2 (wrap64 ((bt274.2.length : Int) - 1))).f1)) else (none)) else (none))) else (none)) else (if x5_1.length < 17592186044416 then ((spec_l31Stroke.f k1 l0 (wrap64 (2 * x7_1))).bind fun bt282 => (if 0 ≤ (wrap64 ((bt282.2.length : Int) - 1)) then (if (wrap64 ((bt282.2.length : Int) - 1)) < (bt282.2.length : Int) then (spec_TurnOnly.l0 k1 l0 (x5_1 ++ [wrap64 (2 * x7_1)]) (wrap64 (x7_1 + 1)) ((rd_T30 bt282.2 (wrap64 ((bt282.2.length : Int) - 1))).f0) ((rd_T30 bt282.2 (wrap64 ((bt282.2.length : Int) - 1))).f1)) else (none)) else (none))) else (none))))) else (none))) = some (r1, r2) := H
                have A13 := Aside0.mk A130
                clear A130
                replace H := Option.bind_eq_some_iff.mp H
                obtain ⟨t267, A140, H⟩ := H
                replace H : (if 0 < (((rd_T116 l0 x7_1).f1).length : Int) then ((spec_l16Square.f x264000_1 x264001_1 ((rd_T30 ((rd_T116 l0 x7_1).f1) 0).f0) ((rd_T30 ((rd_T116 l0 x7_1).f1) 0).f1)).bind fun t269 => ((spec_l01Root.f k1 t269).bind fun t270 => (if t267 < t270 then (if x5_1.length < 17592186044416 then ((spec_l31Stroke.f k1 l0 (wrap64 ((wrap64 (2 * x7_1)) + 1))).bind fun bt274 => (if 0 ≤ (wrap64 ((bt274.2.length : Int) - 1)) then (if (wrap64 ((bt274.2.length : Int) - 1)) < (bt274.2.length : Int) then (spec_TurnOnly.l0 k1 l0 (x5_1 ++ [wrap64 ((wrap64 (2 * x7_1)) + 1)]) (wrap64 (x7_1 + 1)) ((rd_T30 bt274.2 (wrap64 ((bt274.2.length : Int) - 1))).f0) ((rd_T30 bt274.2 (wrap64 ((bt274.2.length : Int) - 1))).f1)) else (none)) else (none))) else (none)) else (if x5_1.length < 17592186044416 then ((spec_l31Stroke.f k1 l0 (wrap64 (2 * x7_1))).bind fun bt282 => (if 0 ≤ (wrap64 ((bt282.2.length : Int) - 1)) then (if (wrap64 ((bt282.2.length : Int) - 1)) < (bt282.2.length : Int) then (spec_TurnOnly.l0 k1 l0 (x5_1 ++ [wrap64 (2 * x7_1)]) (wrap64 (x7_1 + 1)) ((rd_T30 bt282.2 (wrap64 ((bt282.2.length : Int) - 1))).f0) ((rd_T30 bt282.2 (wrap64 ((bt282.2.length : Int) - 1))).f1)) else (none)) else (none))) else (none))))) else (none)) = some (r1, r2) := H
                have A14 := Aside0.mk A140
                clear A140
                by_cases c15 : 0 < (((rd_T116 l0 x7_1).f1).length : Int)
                · rw [if_pos c15] at H
                  have c15b0 : decide (0 < (((rd_T116 l0 x7_1).f1).length : Int)) = true := decide_eq_true c15
                  have c15b1 : decide (0 < ((rd_T116 l0 x7_1).f1).length) = true := decide_eq_true (by omega)
                  clear c15
                  replace H := Option.bind_eq_some_iff.mp H
                  obtain ⟨t269, A160, H⟩ := H
                  replace H : ((spec_l01Root.f k1 t269).bind fun t270 => (if t267 < t270 then (if x5_1.length < 17592186044416 then ((spec_l31Stroke.f k1 l0 (wrap64 ((wrap64 (2 * x7_1)) + 1))).bind fun bt274 => (if 0 ≤ (wrap64 ((bt274.2.length : Int) - 1)) then (if (wrap64 ((bt274.2.length : Int) - 1)) < (bt274.2.length : Int) then (spec_TurnOnly.l0 k1 l0 (x5_1 ++ [wrap64 ((wrap64 (2 * x7_1)) + 1)]) (wrap64 (x7_1 + 1)) ((rd_T30 bt274.2 (wrap64 ((bt274.2.length : Int) - 1))).f0) ((rd_T30 bt274.2 (wrap64 ((bt274.2.length : Int) - 1))).f1)) else (none)) else (none))) else (none)) else (if x5_1.length < 17592186044416 then ((spec_l31Stroke.f k1 l0 (wrap64 (2 * x7_1))).bind fun bt282 => (if 0 ≤ (wrap64 ((bt282.2.length : Int) - 1)) then (if (wrap64 ((bt282.2.length : Int) - 1)) < (bt282.2.length : Int) then (spec_TurnOnly.l0 k1 l0 (x5_1 ++ [wrap64 (2 * x7_1)]) (wrap64 (x7_1 + 1)) ((rd_T30 bt282.2 (wrap64 ((bt282.2.length : Int) - 1))).f0) ((rd_T30 bt282.2 (wrap64 ((bt282.2.length : Int) - 1))).f1)) else (none)) else (none))) else (none)))) = some (r1, r2) := H
                  have A16 := Aside0.mk A160
                  clear A160
                  replace H := Option.bind_eq_some_iff.mp H
                  obtain ⟨t270, A170, H⟩ := H
                  replace H : (if t267 < t270 then (if x5_1.length < 17592186044416 then ((spec_l31Stroke.f k1 l0 (wrap64 ((wrap64 (2 * x7_1)) + 1))).bind fun bt274 => (if 0 ≤ (wrap64 ((bt274.2.length : Int) - 1)) then (if (wrap64 ((bt274.2.length : Int) - 1)) < (bt274.2.length : Int) then (spec_TurnOnly.l0 k1 l0 (x5_1 ++ [wrap64 ((wrap64 (2 * x7_1)) + 1)]) (wrap64 (x7_1 + 1)) ((rd_T30 bt274.2 (wrap64 ((bt274.2.length : Int) - 1))).f0) ((rd_T30 bt274.2 (wrap64 ((bt274.2.length : Int) - 1))).f1)) else (none)) else (none))) else (none)) else (if x5_1.length < 17592186044416 then ((spec_l31Stroke.f k1 l0 (wrap64 (2 * x7_1))).bind fun bt282 => (if 0 ≤ (wrap64 ((bt282.2.length : Int) - 1)) then (if (wrap64 ((bt282.2.length : Int) - 1)) < (bt282.2.length : Int) then (spec_TurnOnly.l0 k1 l0 (x5_1 ++ [wrap64 (2 * x7_1)]) (wrap64 (x7_1 + 1)) ((rd_T30 bt282.2 (wrap64 ((bt282.2.length : Int) - 1))).f0) ((rd_T30 bt282.2 (wrap64 ((bt282.2.length : Int) - 1))).f1)) else (none)) else (none))) else (none))) = some (r1, r2) := H
                  have A17 := Aside0.mk A170
                  clear A170
                  by_cases c18 : t267 < t270
                  · rw [if_pos c18] at H
                    have c18b0 : decide (t267 < t270) = true := decide_eq_true c18
                    clear c18
                    by_cases c19 : x5_1.length < 17592186044416
                    · rw [if_pos c19] at H
                      have LMc19 := Aside0.mk c19
                      clear c19
                      obtain ⟨y271, hy271⟩ : ∃ y_ : List Int, y_ = (x5_1 ++ [wrap64 ((wrap64 (2 * x7_1)) + 1)]) := ⟨_, rfl⟩
                      replace H : ((spec_l31Stroke.f k1 l0 (wrap64 ((wrap64 (2 * x7_1)) + 1))).bind fun bt274 => (if 0 ≤ (wrap64 ((bt274.2.length : Int) - 1)) then (if (wrap64 ((bt274.2.length : Int) - 1)) < (bt274.2.length : Int) then (spec_TurnOnly.l0 k1 l0 y271 (wrap64 (x7_1 + 1)) ((rd_T30 bt274.2 (wrap64 ((bt274.2.length : Int) - 1))).f0) ((rd_T30 bt274.2 (wrap64 ((bt274.2.length : Int) - 1))).f1)) else (none)) else (none))) = some (r1, r2) := by first | (rw [hy271]; with_reducible exact H) | (have H2_ := (Option.bind_some _ _).symm.trans H; rw [hy271]; with_reducible exact H2_) | (have H2_ := (Option.bind_some _ _).symm.trans H; with_reducible exact H2_) | with_reducible exact H | (rw [hy271]; exact H) | exact H
                      have Ny271 := Aside0.mk hy271
                      clear hy271
                      replace H := Option.bind_eq_some_iff.mp H
                      obtain ⟨⟨t274, t275⟩, A200, H⟩ := H
                      replace H : (if 0 ≤ (wrap64 ((t275.length : Int) - 1)) then (if (wrap64 ((t275.length : Int) - 1)) < (t275.length : Int) then (spec_TurnOnly.l0 k1 l0 y271 (wrap64 (x7_1 + 1)) ((rd_T30 t275 (wrap64 ((t275.length : Int) - 1))).f0) ((rd_T30 t275 (wrap64 ((t275.length : Int) - 1))).f1)) else (none)) else (none)) = some (r1, r2) := H
                      have A20 := Aside0.mk A200
                      clear A200
                      obtain ⟨ji21, hji21⟩ : ∃ j_ : Int, (wrap64 ((t275.length : Int) - 1)) = j_ := ⟨_, rfl⟩
                      replace H : (if 0 ≤ (ji21) then (if (ji21) < (t275.length : Int) then (spec_TurnOnly.l0 k1 l0 y271 (wrap64 (x7_1 + 1)) ((rd_T30 t275 (ji21)).f0) ((rd_T30 t275 (ji21)).f1)) else (none)) else (none)) = some (r1, r2) := by first | (rw [hji21] at H; exact H) | (simp only [hji21] at H ⊢; exact H)
                      (try rw [hji21] at A13)
                      (try rw [hji21] at A14)
                      (try rw [hji21] at A16)
                      (try rw [hji21] at A17)
                      (try rw [hji21] at A20)
                      have hji21w : (IntKind.i64.wrap ((t275.length : Int) - 1)) = ji21 := (i64_w _).trans hji21
                      by_cases c22 : 0 ≤ (ji21)
                      · rw [if_pos c22] at H
                        have c22b0 : decide (0 ≤ (ji21)) = true := decide_eq_true c22
                        clear c22
                        by_cases c23 : (ji21) < (t275.length : Int)
                        · rw [if_pos c23] at H
                          have c23b0 : decide ((ji21) < (t275.length : Int)) = true := decide_eq_true c23
                          clear c23
                          have H' := Aside0.mk H
                          clear H
                          have p264 : 0 ≤ (x7_1 : Int) := of_decide_eq_true (by first | (with_reducible assumption) | assumption)
                          have q264 : x7_1 < (l0.length : Int) := of_decide_eq_true (by first | (with_reducible assumption) | assumption)
                          obtain ⟨ad264, A264_1, c264_1, e264, hx264_0, hx264_1, hl264_1, hi264_1⟩ := at_T116 HR0.out x7_1 p264 q264
                          cases e264
                          replace hx264_0 := (HB.out.cell (World.block_lt_of_cell? w _ hx264_0)).trans hx264_0
                          replace hx264_1 := (HB.out.cell (World.block_lt_of_cell? w _ hx264_1)).trans hx264_1
                          have HR264_1 := Aside0.mk hi264_1
                          have HC264_1 := Aside0.mk hl264_1
                          clear hi264_1 hl264_1
                          replace p264 := eq_true p264
                          replace q264 := eq_true q264
                          try go_wp2
                          have n0_ := Aside0.mk (Kd.R_drew HO_5.out)
                          have n1_ := Aside0.mk (blk_drew BK263.out)
                          have n2_ := Aside0.mk (below_drew1 HB.out)
                          clear HO_5
                          clear BK263
                          clear HB
                          have HO_5 := n0_
                          have BK263 := n1_
                          have HB := n2_
                          clear n0_ n1_ n2_
                          have p265 : 0 ≤ ((ji10) : Int) := of_decide_eq_true (by first | (with_reducible assumption) | assumption)
                          have q265 : (ji10) < (((rd_T116 l0 x7_1).f1).length : Int) := of_decide_eq_true (by first | (with_reducible assumption) | assumption)
                          obtain ⟨ad265, e265, hx265_0, hx265_1⟩ := at_T30 HR264_1.out (ji10) p265 q265
                          have hw265_1 := hx265_1
                          have hw265_0 := hx265_0
                          cases e265
                          replace hx265_0 := (HB.out.cell (World.block_lt_of_cell? w _ hx265_0)).trans hx265_0
                          replace hx265_1 := (HB.out.cell (World.block_lt_of_cell? w _ hx265_1)).trans hx265_1
                          replace p265 := eq_true p265
                          replace q265 := eq_true q265
                          have p268 : 0 ≤ (0 : Int) := (by omega)
                          have q268 : 0 < (((rd_T116 l0 x7_1).f1).length : Int) := of_decide_eq_true (by first | (with_reducible assumption) | assumption)
                          obtain ⟨ad268, e268, hx268_0, hx268_1⟩ := at_T30 HR264_1.out 0 p268 q268
                          have hw268_1 := hx268_1
                          (try rw [show ((0 : Int)).toNat = 0 from rfl] at hw268_1)
                          (try rw [show 0 * 2 = 0 from rfl] at hw268_1)
                          (try rw [Addr.add_zero'] at hw268_1)
                          have hw268_0 := hx268_0
                          (try rw [show ((0 : Int)).toNat = 0 from rfl] at hw268_0)
                          (try rw [show 0 * 2 = 0 from rfl] at hw268_0)
                          (try rw [Addr.add_zero'] at hw268_0)
                          obtain rfl : ad265 = ad268 := (by injection e268)
                          have qi268 : (0 < ((rd_T116 l0 x7_1).f1).length) = True := eq_true (by omega)
                          (try rw [show ((0 : Int)).toNat = 0 from rfl] at hx268_0)
                          (try rw [show 0 * 2 = 0 from rfl] at hx268_0)
                          (try rw [Addr.add_zero'] at hx268_0)
                          (try rw [show ((0 : Int)).toNat = 0 from rfl] at hx268_1)
                          (try rw [show 0 * 2 = 0 from rfl] at hx268_1)
                          (try rw [Addr.add_zero'] at hx268_1)
                          replace hx268_0 := (HB.out.cell (World.block_lt_of_cell? w _ hx268_0)).trans hx268_0
                          replace hx268_1 := (HB.out.cell (World.block_lt_of_cell? w _ hx268_1)).trans hx268_1
                          replace p268 := eq_true p268
                          replace q268 := eq_true q268
                          refine start_ (n := 16) (S := fun w' => w'.cell? ⟨gb263, 0, none⟩ = some (.int .i64 x264000_1) ∧ w'.cell? ⟨gb263, 1, none⟩ = some (.int .i64 x264001_1) ∧ w'.cell? (ad265.add (((ji10)).toNat * 2)) = some (.int .i64 ((rd_T30 ((rd_T116 l0 x7_1).f1) (ji10)).f0)) ∧ w'.cell? ⟨(ad265.add (((ji10)).toNat * 2)).block, (ad265.add (((ji10)).toNat * 2)).off + 1, none⟩ = some (.int .i64 ((rd_T30 ((rd_T116 l0 x7_1).f1) (ji10)).f1)) ∧ w'.cell? ad265 = some (.int .i64 ((rd_T30 ((rd_T116 l0 x7_1).f1) 0).f0)) ∧ w'.cell? ⟨ad265.block, ad265.off + 1, none⟩ = some (.int .i64 ((rd_T30 ((rd_T116 l0 x7_1).f1) 0).f1))) (ds := []) #[false, false, false, false, false, false, false, false, false, false, false, false, false, false, false, false] (by kernel_rfl) rfl rfl ⟨(blk_cell BK263.out 0).trans rfl, (blk_cell BK263.out 1).trans rfl, ((HB.out.cell (World.block_lt_of_cell? w _ hw265_0)).trans hw265_0), ((HB.out.cell (World.block_lt_of_cell? w _ hw265_1)).trans hw265_1), ((HB.out.cell (World.block_lt_of_cell? w _ hw268_0)).trans hw268_0), ((HB.out.cell (World.block_lt_of_cell? w _ hw268_1)).trans hw268_1)⟩ (fun hHeld => ?_); refine with_tabW spec_TurnOnly.tab11 spec_TurnOnly.bits11 (fun HT_ HW_ => ?_)
                          generalize wr.drew = w24 at HO_5 BK263 HB hx265_0 hx265_1 hx268_0 hx268_1 hHeld ⊢
                          refine pure_ (i := 1) (N := some 31) (v := ?_) (a' := ?_) #[false, true, false, false, false, false, false, false, false, false, false, false, false, false, false, false] rfl rfl (any_of HT_.out (by kernel_rfl)) (fun _ _ _ h => h) (Or.inl ⟨by rfl, ?_⟩) ?_ ?_
                          rotate_left
                          · intro w'
                            go_simp
                            with_reducible rfl
                          rotate_left
                          · simp only [Act.put, List.setIfInBounds_toArray, List.set_cons_zero, List.set_cons_succ, i64_w, i32_w]
                            rfl
                          refine pure_ (i := 2) (N := some 32) (v := ?_) (a' := ?_) #[false, true, true, false, false, false, false, false, false, false, false, false, false, false, false, false] rfl rfl (any_of HT_.out (by kernel_rfl)) (fun _ _ _ h => h) (Or.inl ⟨by rfl, ?_⟩) ?_ ?_
                          rotate_left
                          · intro w'
                            go_simp
                            with_reducible rfl
                          rotate_left
                          · simp only [Act.put, List.setIfInBounds_toArray, List.set_cons_zero, List.set_cons_succ, i64_w, i32_w]
                            rfl
                          refine pure_ (i := 3) (N := some 33) (v := ?_) (a' := ?_) #[false, true, true, true, false, false, false, false, false, false, false, false, false, false, false, false] rfl rfl (any_of HT_.out (by kernel_rfl)) (fun _ _ _ h => h) (Or.inl ⟨by rfl, ?_⟩) ?_ ?_
                          rotate_left
                          · intro w'
                            go_simp
                            with_reducible rfl
                          rotate_left
                          · simp only [Act.put, List.setIfInBounds_toArray, List.set_cons_zero, List.set_cons_succ, i64_w, i32_w]
                            rfl
                          refine pure_ (i := 4) (N := some 34) (v := ?_) (a' := ?_) #[false, true, true, true, true, false, false, false, false, false, false, false, false, false, false, false] rfl rfl (any_of HT_.out (by kernel_rfl)) (fun _ _ _ h => h) (Or.inl ⟨by rfl, ?_⟩) ?_ ?_
                          rotate_left
                          · intro w'
                            go_simp
                            with_reducible rfl
                          rotate_left
                          · simp only [Act.put, List.setIfInBounds_toArray, List.set_cons_zero, List.set_cons_succ, i64_w, i32_w]
                            rfl
                          refine pure_ (i := 5) (N := some 35) (v := ?_) (a' := ?_) #[false, true, true, true, true, true, false, false, false, false, false, false, false, false, false, false] rfl rfl (any_of HT_.out (by kernel_rfl)) (fun _ _ _ h => h) (Or.inl ⟨by rfl, ?_⟩) ?_ ?_
                          rotate_left
                          · intro w'
                            go_simp
                            with_reducible rfl
                          rotate_left
                          · simp only [Act.put, List.setIfInBounds_toArray, List.set_cons_zero, List.set_cons_succ, i64_w, i32_w]
                            rfl
                          refine pure_ (i := 10) (N := some 40) (v := ?_) (a' := ?_) #[false, true, true, true, true, true, false, false, false, false, true, false, false, false, false, false] rfl rfl (any_of HT_.out (by kernel_rfl)) (fun _ _ _ h => h) (Or.inl ⟨by rfl, ?_⟩) ?_ ?_
                          rotate_left
                          · intro w'
                            go_simp
                            with_reducible rfl
                          rotate_left
                          · simp only [Act.put, List.setIfInBounds_toArray, List.set_cons_zero, List.set_cons_succ, i64_w, i32_w]
                            rfl
                          refine pure_ (i := 11) (N := some 41) (v := ?_) (a' := ?_) #[false, true, true, true, true, true, false, false, false, false, true, true, false, false, false, false] rfl rfl (any_of HT_.out (by kernel_rfl)) (fun _ _ _ h => h) (Or.inl ⟨by rfl, ?_⟩) ?_ ?_
                          rotate_left
                          · intro w'
                            go_simp
                            with_reducible rfl
                          rotate_left
                          · simp only [Act.put, List.setIfInBounds_toArray, List.set_cons_zero, List.set_cons_succ, i64_w, i32_w]
                            rfl
                          refine take_ (i := 0) (N := some 30) (v := ?_) (a' := ?_) #[true, true, true, true, true, true, false, false, false, false, true, true, false, false, false, false] rfl rfl (take_ofW HT_.out HW_.out (by kernel_rfl)) (fun _ _ _ h => h) (Or.inl ⟨by rfl, ?_⟩) hHeld ?_ ?_
                          rotate_left
                          · rintro w' ⟨s0, s1, s2, s3, s4, s5⟩
                            go_simp
                            with_reducible rfl
                          rotate_left
                          · simp only [Act.put, List.setIfInBounds_toArray, List.set_cons_zero, List.set_cons_succ, i64_w, i32_w]
                            rfl
                          refine take_ (i := 6) (N := some 36) (v := ?_) (a' := ?_) #[true, true, true, true, true, true, true, false, false, false, true, true, false, false, false, false] rfl rfl (take_ofW HT_.out HW_.out (by kernel_rfl)) (fun _ _ _ h => h) (Or.inl ⟨by rfl, ?_⟩) hHeld ?_ ?_
                          rotate_left
                          · rintro w' ⟨s0, s1, s2, s3, s4, s5⟩
                            go_simp
                            with_reducible rfl
                          rotate_left
                          · simp only [Act.put, List.setIfInBounds_toArray, List.set_cons_zero, List.set_cons_succ, i64_w, i32_w]
                            rfl
                          refine take_ (i := 9) (N := some 39) (v := ?_) (a' := ?_) #[true, true, true, true, true, true, true, false, false, true, true, true, false, false, false, false] rfl rfl (take_ofW HT_.out HW_.out (by kernel_rfl)) (fun _ _ _ h => h) (Or.inl ⟨by rfl, ?_⟩) hHeld ?_ ?_
                          rotate_left
                          · rintro w' ⟨s0, s1, s2, s3, s4, s5⟩
                            go_simp
                            with_reducible rfl
                          rotate_left
                          · simp only [Act.put, List.setIfInBounds_toArray, List.set_cons_zero, List.set_cons_succ, i64_w, i32_w]
                            rfl
                          refine take_ (i := 12) (N := some 42) (v := ?_) (a' := ?_) #[true, true, true, true, true, true, true, false, false, true, true, true, true, false, false, false] rfl rfl (take_ofW HT_.out HW_.out (by kernel_rfl)) (fun _ _ _ h => h) (Or.inl ⟨by rfl, ?_⟩) hHeld ?_ ?_
                          rotate_left
                          · rintro w' ⟨s0, s1, s2, s3, s4, s5⟩
                            go_simp
                            with_reducible rfl
                          rotate_left
                          · simp only [Act.put, List.setIfInBounds_toArray, List.set_cons_zero, List.set_cons_succ, i64_w, i32_w]
                            rfl
                          refine one_ (i := 7) (N := some 37) #[true, true, true, true, true, true, true, true, false, true, true, true, true, false, false, false] rfl rfl (one_of HT_.out (by kernel_rfl)) (by decide) (fun K hK => ?_)
                          refine goes_ Try.func90 (by kernel_rfl) rfl #[.agg #[.int .i64 x264000_1, .int .i64 x264001_1], .agg #[.int .i64 ((rd_T30 ((rd_T116 l0 x7_1).f1) (ji10)).f0), .int .i64 ((rd_T30 ((rd_T116 l0 x7_1).f1) (ji10)).f1)]] (by rfl) rfl rfl (by (try simp only [List.map_toArray, List.map_cons, List.map_nil]); first | done | (simp only [hji10]; rfl) | rfl | (simp only [List.length_drop, List.length_take]; rfl)) ?_
                          with_reducible refine (spec_l16Square.calls x264000_1 x264001_1 ((rd_T30 ((rd_T116 l0 x7_1).f1) (ji10)).f0) ((rd_T30 ((rd_T116 l0 x7_1).f1) (ji10)).f1) t266 _ A13.out).mono ?_
                          rintro e w25 ⟨rfl, hb⟩
                          refine ⟨_, rfl, ?_⟩
                          have n0_ := Aside0.mk (Kd.R_below (by (with_reducible repeat (first | apply Kd.R_alloc | apply Kd.R_drewN | apply Kd.R_drew)); exact HO_5.out) hb)
                          have n1_ := Aside0.mk (blk_below (g := gb263) (o := .cells #[.int .i64 x264000_1, .int .i64 x264001_1] 30 (0, 0)) (by (with_reducible repeat (first | refine blk_drewN ?_ _ | refine blk_drew ?_ | refine blk_alloc ?_ _)); exact BK263.out) hb)
                          have n2_ := Aside0.mk (below_step (by repeat (first | (with_reducible first | exact HB.out | apply below_alloc | apply pw_below_drewN | apply below_drew1 | refine below_set ?_ GE263.out) | exact HB.out)) hb)
                          clear HO_5
                          clear BK263
                          clear HB
                          have HO_5 := n0_
                          have BK263 := n1_
                          have HB := n2_
                          clear n0_ n1_ n2_
                          (try clear hb)
                          (try clear hb2)
                          (try clear hk)
                          (try clear hi)
                          refine hK.out _ _ ⟨(blk_cell BK263.out 0).trans rfl, (blk_cell BK263.out 1).trans rfl, ((HB.out.cell (World.block_lt_of_cell? w _ hw265_0)).trans hw265_0), ((HB.out.cell (World.block_lt_of_cell? w _ hw265_1)).trans hw265_1), ((HB.out.cell (World.block_lt_of_cell? w _ hw268_0)).trans hw268_0), ((HB.out.cell (World.block_lt_of_cell? w _ hw268_1)).trans hw268_1)⟩ (fun hHeld => ?_)
                          clear hK K
                          refine norm_ (a' := ?_) ?_ ?_
                          rotate_left
                          · show Act.put _ (some 37) _ = _
                            simp only [Act.put, List.setIfInBounds_toArray, List.set_cons_zero, List.set_cons_succ, i64_w, i32_w]
                            rfl
                          refine one_ (i := 8) (N := some 38) #[true, true, true, true, true, true, true, true, true, true, true, true, true, false, false, false] rfl rfl (one_of HT_.out (by kernel_rfl)) (by decide) (fun K hK => ?_)
                          refine goes_ Try.func89 (by kernel_rfl) rfl #[.int .i64 t266] (by rfl) rfl rfl (by (try simp only [List.map_toArray, List.map_cons, List.map_nil]); first | done | rfl | (simp only [List.length_drop, List.length_take]; rfl)) ?_
                          with_reducible refine (spec_l01Root.calls k1 t266 t267 _ A14.out).mono ?_
                          rintro e w' ⟨rfl, ⟨nd, rfl⟩⟩
                          refine ⟨_, rfl, ?_⟩
                          refine hK.out _ _ ⟨(blk_cell BK263.out 0).trans rfl, (blk_cell BK263.out 1).trans rfl, ((HB.out.cell (World.block_lt_of_cell? w _ hw265_0)).trans hw265_0), ((HB.out.cell (World.block_lt_of_cell? w _ hw265_1)).trans hw265_1), ((HB.out.cell (World.block_lt_of_cell? w _ hw268_0)).trans hw268_0), ((HB.out.cell (World.block_lt_of_cell? w _ hw268_1)).trans hw268_1)⟩ (fun hHeld => ?_)
                          clear hK K
                          refine norm_ (a' := ?_) ?_ ?_
                          rotate_left
                          · show Act.put _ (some 38) _ = _
                            simp only [Act.put, List.setIfInBounds_toArray, List.set_cons_zero, List.set_cons_succ, i64_w, i32_w]
                            rfl
                          refine one_ (i := 13) (N := some 43) #[true, true, true, true, true, true, true, true, true, true, true, true, true, true, false, false] rfl rfl (one_of HT_.out (by kernel_rfl)) (by decide) (fun K hK => ?_)
                          refine goes_ Try.func90 (by kernel_rfl) rfl #[.agg #[.int .i64 x264000_1, .int .i64 x264001_1], .agg #[.int .i64 ((rd_T30 ((rd_T116 l0 x7_1).f1) 0).f0), .int .i64 ((rd_T30 ((rd_T116 l0 x7_1).f1) 0).f1)]] (by rfl) rfl rfl (by (try simp only [List.map_toArray, List.map_cons, List.map_nil]); first | done | rfl | (simp only [List.length_drop, List.length_take]; rfl)) ?_
                          with_reducible refine (spec_l16Square.calls x264000_1 x264001_1 ((rd_T30 ((rd_T116 l0 x7_1).f1) 0).f0) ((rd_T30 ((rd_T116 l0 x7_1).f1) 0).f1) t269 _ A16.out).mono ?_
                          rintro e w26 ⟨rfl, hb⟩
                          refine ⟨_, rfl, ?_⟩
                          have n0_ := Aside0.mk (Kd.R_below (by (with_reducible repeat (first | apply Kd.R_alloc | apply Kd.R_drewN | apply Kd.R_drew)); exact HO_5.out) hb)
                          have n1_ := Aside0.mk (blk_below (g := gb263) (o := .cells #[.int .i64 x264000_1, .int .i64 x264001_1] 30 (0, 0)) (by (with_reducible repeat (first | refine blk_drewN ?_ _ | refine blk_drew ?_ | refine blk_alloc ?_ _)); exact BK263.out) hb)
                          have n2_ := Aside0.mk (below_step (by repeat (first | (with_reducible first | exact HB.out | apply below_alloc | apply pw_below_drewN | apply below_drew1 | refine below_set ?_ GE263.out) | exact HB.out)) hb)
                          clear HO_5
                          clear BK263
                          clear HB
                          have HO_5 := n0_
                          have BK263 := n1_
                          have HB := n2_
                          clear n0_ n1_ n2_
                          (try clear hb)
                          (try clear hb2)
                          (try clear hk)
                          (try clear hi)
                          refine hK.out _ _ ⟨(blk_cell BK263.out 0).trans rfl, (blk_cell BK263.out 1).trans rfl, ((HB.out.cell (World.block_lt_of_cell? w _ hw265_0)).trans hw265_0), ((HB.out.cell (World.block_lt_of_cell? w _ hw265_1)).trans hw265_1), ((HB.out.cell (World.block_lt_of_cell? w _ hw268_0)).trans hw268_0), ((HB.out.cell (World.block_lt_of_cell? w _ hw268_1)).trans hw268_1)⟩ (fun hHeld => ?_)
                          clear hK K
                          refine norm_ (a' := ?_) ?_ ?_
                          rotate_left
                          · show Act.put _ (some 43) _ = _
                            simp only [Act.put, List.setIfInBounds_toArray, List.set_cons_zero, List.set_cons_succ, i64_w, i32_w]
                            rfl
                          refine one_ (i := 14) (N := some 44) #[true, true, true, true, true, true, true, true, true, true, true, true, true, true, true, false] rfl rfl (one_of HT_.out (by kernel_rfl)) (by decide) (fun K hK => ?_)
                          refine goes_ Try.func89 (by kernel_rfl) rfl #[.int .i64 t269] (by rfl) rfl rfl (by (try simp only [List.map_toArray, List.map_cons, List.map_nil]); first | done | rfl | (simp only [List.length_drop, List.length_take]; rfl)) ?_
                          with_reducible refine (spec_l01Root.calls k1 t269 t270 _ A17.out).mono ?_
                          rintro e w' ⟨rfl, ⟨nd, rfl⟩⟩
                          refine ⟨_, rfl, ?_⟩
                          refine hK.out _ _ ⟨(blk_cell BK263.out 0).trans rfl, (blk_cell BK263.out 1).trans rfl, ((HB.out.cell (World.block_lt_of_cell? w _ hw265_0)).trans hw265_0), ((HB.out.cell (World.block_lt_of_cell? w _ hw265_1)).trans hw265_1), ((HB.out.cell (World.block_lt_of_cell? w _ hw268_0)).trans hw268_0), ((HB.out.cell (World.block_lt_of_cell? w _ hw268_1)).trans hw268_1)⟩ (fun hHeld => ?_)
                          clear hK K
                          refine norm_ (a' := ?_) ?_ ?_
                          rotate_left
                          · show Act.put _ (some 44) _ = _
                            simp only [Act.put, List.setIfInBounds_toArray, List.set_cons_zero, List.set_cons_succ, i64_w, i32_w]
                            rfl
                          refine pure_ (i := 15) (N := some 45) (v := ?_) (a' := ?_) #[true, true, true, true, true, true, true, true, true, true, true, true, true, true, true, true] rfl rfl (any_of HT_.out (by kernel_rfl)) (fun _ _ _ h => h) (Or.inl ⟨by rfl, ?_⟩) ?_ ?_
                          rotate_left
                          · intro w'
                            go_simp
                            with_reducible rfl
                          rotate_left
                          · simp only [Act.put, List.setIfInBounds_toArray, List.set_cons_zero, List.set_cons_succ, i64_w, i32_w]
                            rfl
                          refine done_ (done_of HT_.out (by kernel_rfl)) ?_
                          try go_wp2_with (first | ((with_reducible refine gate_builtin (b := .append) (xs := #[.tmp 48, .tmp 50]) rfl ?_); at_builtin; refine Kd.R_append (Kd.int .i64) (w0 := w) w.heap.size rfl (.tmp 48) (.tmp 50) 34 2 (.int .i64 0) 8 rfl Try.underlying34 info2 rfl (by decide) (by omega) u5 x5_1 (wrap64 ((wrap64 (2 * x7_1)) + 1)) [.int .i64 (wrap64 ((wrap64 (2 * x7_1)) + 1))] (fun _ => True) (fun _ => False) rfl rfl ?aP (fun _ hk => hk.elim) ?aF ?aO ?aB ?aS ?aL ?_; (case aP => exact rfl); (case aB => exact (by repeat (first | (with_reducible first | exact HB.out | apply below_alloc | apply pw_below_drewN | apply below_drew1 | refine below_set ?_ GE263.out) | exact HB.out))); (case aF => exact (fun _ _ => trivial)); (case aO => exact (by (with_reducible repeat (first | apply Kd.R_alloc | apply Kd.R_drewN | apply Kd.R_drew)); exact HO_5.out)); (case aS => exact (below_size (by repeat (first | (with_reducible first | exact HB.out | apply below_alloc | apply pw_below_drewN | apply below_drew1 | refine below_set ?_ GE263.out) | exact HB.out)))); (case aL => have := LMc19.out; omega); intro v272 w27 ho hb hg hat; rw [← Ny271.out] at ho; have n0_ := Aside0.mk (blk_grown (g := gb263) (o := .cells #[.int .i64 x264000_1, .int .i64 x264001_1] 30 (0, 0)) (by (with_reducible repeat (first | refine blk_drewN ?_ _ | refine blk_drew ?_ | refine blk_alloc ?_ _)); exact BK263.out) hg (Kd.R_ne HO_5.out BK263.out (by decide))); have n1_ := Aside0.mk (hb); have n2_ := Aside0.mk (ho); clear BK263; clear HB; clear HO_5; have BK263 := n0_; have HB := n1_; have HO273 := n2_; clear n0_ n1_ n2_; clear ho hb hg hat) | ((with_reducible refine gate_callee (f := 91) rfl ?_); refine goesL_ (some 54) rfl rfl Try.func91 (by kernel_rfl) rfl #[.slice (some ad264) l0.length c0, .int .i64 (wrap64 ((wrap64 (2 * x7_1)) + 1))] rfl (by (try simp only [List.map_toArray, List.map_cons, List.map_nil]); first | done | rfl | (simp only [List.length_drop, List.length_take]; rfl)) ?_; (with_reducible refine (spec_l31Stroke.calls k1 (fun k_ => k_ < w.heap.size) _ _ l0 (wrap64 ((wrap64 (2 * x7_1)) + 1)) t274 t275 _ ?side1 A20.out).mono ?_); (case side1 => exact Kd.V_mk HC0.out (Kd.F_below (Kd.C_F k116_heap HR0.out) (by repeat (first | (with_reducible first | exact HB.out | apply below_alloc | apply pw_below_drewN | apply below_drew1 | refine below_set ?_ GE263.out) | exact HB.out)))); rintro e w28 ⟨v276, rfl, ho0, hb⟩; refine ⟨_, rfl, ?_⟩; have n0_ := Aside0.mk (Kd.R_below (by (with_reducible repeat (first | apply Kd.R_alloc | apply Kd.R_drewN | apply Kd.R_drew)); exact HO273.out) hb); have n1_ := Aside0.mk (Kd.V_lower (Kd.V_mono (ok' := fun k_ => some k_ ≠ (v272 : Value).ownBlock ∧ k_ ≠ gb263) ho0 (fun k_ hk_ => ⟨Or.elim hk_ (fun hs_ => fun e_ => Nat.not_le.2 hs_ (Kd.R_base HO273.out k_ e_.symm)) (fun hn_ => (Kd.fresh' (Kd.R_lt (by (with_reducible repeat (first | apply Kd.R_alloc | apply Kd.R_drewN | apply Kd.R_drew)); exact HO273.out)) k_ hn_)), Or.elim hk_ (fun hs_ => fun e_ => Nat.not_le.2 hs_ (by rw [e_]; exact GW263.out)) (fun hn_ => (Kd.freshB (g := gb263) (o := .cells #[.int .i64 x264000_1, .int .i64 x264001_1] 30 (0, 0)) (by (with_reducible repeat (first | refine blk_drewN ?_ _ | refine blk_drew ?_ | refine blk_alloc ?_ _)); exact BK263.out) k_ hn_))⟩)) (below_size (by repeat (first | (with_reducible first | exact HB.out | apply below_alloc | apply pw_below_drewN | apply below_drew1 | refine below_set ?_ GE263.out) | exact HB.out)))); have n2_ := Aside0.mk (blk_below (g := gb263) (o := .cells #[.int .i64 x264000_1, .int .i64 x264001_1] 30 (0, 0)) (by (with_reducible repeat (first | refine blk_drewN ?_ _ | refine blk_drew ?_ | refine blk_alloc ?_ _)); exact BK263.out) hb); have n3_ := Aside0.mk (below_step (by repeat (first | (with_reducible first | exact HB.out | apply below_alloc | apply pw_below_drewN | apply below_drew1 | refine below_set ?_ GE263.out) | exact HB.out)) hb); clear HO273; clear BK263; clear HB; have HO273 := n0_; have HO277 := n1_; have BK263 := n2_; have HB := n3_; clear n0_ n1_ n2_ n3_; (try clear hb); (try clear hb2); (try clear hk); (try clear hi); (try clear ho0); obtain ⟨Ao29, co29, eo29⟩ := Kd.V_slice HO277.out; subst eo29; have p278 : 0 ≤ ((ji21) : Int) := of_decide_eq_true (by first | (with_reducible assumption) | assumption); have q278 : (ji21) < (t275.length : Int) := of_decide_eq_true (by first | (with_reducible assumption) | assumption); obtain ⟨ad278, e278, hx278_0, hx278_1⟩ := at_T30 (Kd.V_reads' HO277.out).2.2 (ji21) p278 q278; cases e278; replace p278 := eq_true p278; replace q278 := eq_true q278; have hcz30_0 : w28.cell? ⟨gb263, 0, none⟩ = some (.int .i64 x264000_1) := (blk_cell BK263.out 0).trans rfl; have hcz30_1 : w28.cell? ⟨gb263, 1, none⟩ = some (.int .i64 x264001_1) := (blk_cell BK263.out 1).trans rfl; have hfz30_0 := blk_frozen BK263.out 0; have hfz30_1 := blk_frozen BK263.out 1))
                          go_roundg k1
                          case measure => have := HK1.out; omega
                          case rel => exact ⟨(y271), (wrap64 (x7_1 + 1)), ((rd_T30 t275 (ji21)).f0), ((rd_T30 t275 (ji21)).f1), (by first | rfl | (simp; done) | (simp [*]; done)), H', ⟨by have := HK1.out; omega⟩, ⟨by (with_reducible repeat (first | apply Kd.R_alloc | apply Kd.R_drewN | apply Kd.R_drew)); exact Kd.R_mono (Kd.R_far (p := ⟨gb263, 1, none⟩) (Kd.R_far (p := ⟨gb263, 0, none⟩) (Kd.R_types HO273.out BK263.out (by decide)) (fun _ hk => hk.2) (.int .i64 ((rd_T30 t275 (ji21)).f0))) (fun _ hk => hk.2) (.int .i64 ((rd_T30 t275 (ji21)).f1))) (fun _ hk => trivial)⟩, ⟨by (with_reducible repeat (first | refine blk_drewN ?_ _ | refine blk_drew ?_ | refine blk_alloc ?_ _)); refine blk_put (cs := #[.int .i64 ((rd_T30 t275 (ji21)).f0), .int .i64 x264001_1]) ?_ 1 _ rfl; (with_reducible repeat (first | refine blk_drewN ?_ _ | refine blk_drew ?_ | refine blk_alloc ?_ _)); refine blk_put (cs := #[.int .i64 x264000_1, .int .i64 x264001_1]) ?_ 0 _ rfl; (with_reducible repeat (first | refine blk_drewN ?_ _ | refine blk_drew ?_ | refine blk_alloc ?_ _)); exact BK263.out⟩, ⟨by repeat (first | (with_reducible first | exact HB.out | apply below_alloc | apply pw_below_drewN | apply below_drew1 | refine below_set ?_ GE263.out) | exact HB.out)⟩⟩
                        · rw [if_neg c23] at H
                          exact absurd H (by simp)
                      · rw [if_neg c22] at H
                        exact absurd H (by simp)
                    · rw [if_neg c19] at H
                      exact absurd H (by simp)
                  · rw [if_neg c18] at H
                    have c18b0 : decide (t267 < t270) = false := decide_eq_false c18
                    clear c18
                    by_cases c31 : x5_1.length < 17592186044416
                    · rw [if_pos c31] at H
                      have LMc31 := Aside0.mk c31
                      clear c31
                      obtain ⟨y279, hy279⟩ : ∃ y_ : List Int, y_ = (x5_1 ++ [wrap64 (2 * x7_1)]) := ⟨_, rfl⟩
                      replace H : ((spec_l31Stroke.f k1 l0 (wrap64 (2 * x7_1))).bind fun bt282 => (if 0 ≤ (wrap64 ((bt282.2.length : Int) - 1)) then (if (wrap64 ((bt282.2.length : Int) - 1)) < (bt282.2.length : Int) then (spec_TurnOnly.l0 k1 l0 y279 (wrap64 (x7_1 + 1)) ((rd_T30 bt282.2 (wrap64 ((bt282.2.length : Int) - 1))).f0) ((rd_T30 bt282.2 (wrap64 ((bt282.2.length : Int) - 1))).f1)) else (none)) else (none))) = some (r1, r2) := by first | (rw [hy279]; with_reducible exact H) | (have H2_ := (Option.bind_some _ _).symm.trans H; rw [hy279]; with_reducible exact H2_) | (have H2_ := (Option.bind_some _ _).symm.trans H; with_reducible exact H2_) | with_reducible exact H | (rw [hy279]; exact H) | exact H
                      have Ny279 := Aside0.mk hy279
                      clear hy279
                      replace H := Option.bind_eq_some_iff.mp H
                      obtain ⟨⟨t282, t283⟩, A320, H⟩ := H
                      replace H : (if 0 ≤ (wrap64 ((t283.length : Int) - 1)) then (if (wrap64 ((t283.length : Int) - 1)) < (t283.length : Int) then (spec_TurnOnly.l0 k1 l0 y279 (wrap64 (x7_1 + 1)) ((rd_T30 t283 (wrap64 ((t283.length : Int) - 1))).f0) ((rd_T30 t283 (wrap64 ((t283.length : Int) - 1))).f1)) else (none)) else (none)) = some (r1, r2) := H
                      have A32 := Aside0.mk A320
                      clear A320
                      obtain ⟨ji33, hji33⟩ : ∃ j_ : Int, (wrap64 ((t283.length : Int) - 1)) = j_ := ⟨_, rfl⟩
                      replace H : (if 0 ≤ (ji33) then (if (ji33) < (t283.length : Int) then (spec_TurnOnly.l0 k1 l0 y279 (wrap64 (x7_1 + 1)) ((rd_T30 t283 (ji33)).f0) ((rd_T30 t283 (ji33)).f1)) else (none)) else (none)) = some (r1, r2) := by first | (rw [hji33] at H; exact H) | (simp only [hji33] at H ⊢; exact H)
                      (try rw [hji33] at A13)
                      (try rw [hji33] at A14)
                      (try rw [hji33] at A16)
                      (try rw [hji33] at A17)
                      (try rw [hji33] at A32)
                      have hji33w : (IntKind.i64.wrap ((t283.length : Int) - 1)) = ji33 := (i64_w _).trans hji33
                      by_cases c34 : 0 ≤ (ji33)
                      · rw [if_pos c34] at H
                        have c34b0 : decide (0 ≤ (ji33)) = true := decide_eq_true c34
                        clear c34
                        by_cases c35 : (ji33) < (t283.length : Int)
                        · rw [if_pos c35] at H
                          have c35b0 : decide ((ji33) < (t283.length : Int)) = true := decide_eq_true c35
                          clear c35
                          have H' := Aside0.mk H
                          clear H
                          have p264 : 0 ≤ (x7_1 : Int) := of_decide_eq_true (by first | (with_reducible assumption) | assumption)
                          have q264 : x7_1 < (l0.length : Int) := of_decide_eq_true (by first | (with_reducible assumption) | assumption)
                          obtain ⟨ad264, A264_1, c264_1, e264, hx264_0, hx264_1, hl264_1, hi264_1⟩ := at_T116 HR0.out x7_1 p264 q264
                          cases e264
                          replace hx264_0 := (HB.out.cell (World.block_lt_of_cell? w _ hx264_0)).trans hx264_0
                          replace hx264_1 := (HB.out.cell (World.block_lt_of_cell? w _ hx264_1)).trans hx264_1
                          have HR264_1 := Aside0.mk hi264_1
                          have HC264_1 := Aside0.mk hl264_1
                          clear hi264_1 hl264_1
                          replace p264 := eq_true p264
                          replace q264 := eq_true q264
                          try go_wp2
                          have n0_ := Aside0.mk (Kd.R_drew HO_5.out)
                          have n1_ := Aside0.mk (blk_drew BK263.out)
                          have n2_ := Aside0.mk (below_drew1 HB.out)
                          clear HO_5
                          clear BK263
                          clear HB
                          have HO_5 := n0_
                          have BK263 := n1_
                          have HB := n2_
                          clear n0_ n1_ n2_
                          have p265 : 0 ≤ ((ji10) : Int) := of_decide_eq_true (by first | (with_reducible assumption) | assumption)
                          have q265 : (ji10) < (((rd_T116 l0 x7_1).f1).length : Int) := of_decide_eq_true (by first | (with_reducible assumption) | assumption)
                          obtain ⟨ad265, e265, hx265_0, hx265_1⟩ := at_T30 HR264_1.out (ji10) p265 q265
                          have hw265_1 := hx265_1
                          have hw265_0 := hx265_0
                          cases e265
                          replace hx265_0 := (HB.out.cell (World.block_lt_of_cell? w _ hx265_0)).trans hx265_0
                          replace hx265_1 := (HB.out.cell (World.block_lt_of_cell? w _ hx265_1)).trans hx265_1
                          replace p265 := eq_true p265
                          replace q265 := eq_true q265
                          have p268 : 0 ≤ (0 : Int) := (by omega)
                          have q268 : 0 < (((rd_T116 l0 x7_1).f1).length : Int) := of_decide_eq_true (by first | (with_reducible assumption) | assumption)
                          obtain ⟨ad268, e268, hx268_0, hx268_1⟩ := at_T30 HR264_1.out 0 p268 q268
                          have hw268_1 := hx268_1
                          (try rw [show ((0 : Int)).toNat = 0 from rfl] at hw268_1)
                          (try rw [show 0 * 2 = 0 from rfl] at hw268_1)
                          (try rw [Addr.add_zero'] at hw268_1)
                          have hw268_0 := hx268_0
                          (try rw [show ((0 : Int)).toNat = 0 from rfl] at hw268_0)
                          (try rw [show 0 * 2 = 0 from rfl] at hw268_0)
                          (try rw [Addr.add_zero'] at hw268_0)
                          obtain rfl : ad265 = ad268 := (by injection e268)
                          have qi268 : (0 < ((rd_T116 l0 x7_1).f1).length) = True := eq_true (by omega)
                          (try rw [show ((0 : Int)).toNat = 0 from rfl] at hx268_0)
                          (try rw [show 0 * 2 = 0 from rfl] at hx268_0)
                          (try rw [Addr.add_zero'] at hx268_0)
                          (try rw [show ((0 : Int)).toNat = 0 from rfl] at hx268_1)
                          (try rw [show 0 * 2 = 0 from rfl] at hx268_1)
                          (try rw [Addr.add_zero'] at hx268_1)
                          replace hx268_0 := (HB.out.cell (World.block_lt_of_cell? w _ hx268_0)).trans hx268_0
                          replace hx268_1 := (HB.out.cell (World.block_lt_of_cell? w _ hx268_1)).trans hx268_1
                          replace p268 := eq_true p268
                          replace q268 := eq_true q268
                          refine start_ (n := 16) (S := fun w' => w'.cell? ⟨gb263, 0, none⟩ = some (.int .i64 x264000_1) ∧ w'.cell? ⟨gb263, 1, none⟩ = some (.int .i64 x264001_1) ∧ w'.cell? (ad265.add (((ji10)).toNat * 2)) = some (.int .i64 ((rd_T30 ((rd_T116 l0 x7_1).f1) (ji10)).f0)) ∧ w'.cell? ⟨(ad265.add (((ji10)).toNat * 2)).block, (ad265.add (((ji10)).toNat * 2)).off + 1, none⟩ = some (.int .i64 ((rd_T30 ((rd_T116 l0 x7_1).f1) (ji10)).f1)) ∧ w'.cell? ad265 = some (.int .i64 ((rd_T30 ((rd_T116 l0 x7_1).f1) 0).f0)) ∧ w'.cell? ⟨ad265.block, ad265.off + 1, none⟩ = some (.int .i64 ((rd_T30 ((rd_T116 l0 x7_1).f1) 0).f1))) (ds := []) #[false, false, false, false, false, false, false, false, false, false, false, false, false, false, false, false] (by kernel_rfl) rfl rfl ⟨(blk_cell BK263.out 0).trans rfl, (blk_cell BK263.out 1).trans rfl, ((HB.out.cell (World.block_lt_of_cell? w _ hw265_0)).trans hw265_0), ((HB.out.cell (World.block_lt_of_cell? w _ hw265_1)).trans hw265_1), ((HB.out.cell (World.block_lt_of_cell? w _ hw268_0)).trans hw268_0), ((HB.out.cell (World.block_lt_of_cell? w _ hw268_1)).trans hw268_1)⟩ (fun hHeld => ?_); refine with_tabW spec_TurnOnly.tab11 spec_TurnOnly.bits11 (fun HT_ HW_ => ?_)
                          generalize wr.drew = w36 at HO_5 BK263 HB hx265_0 hx265_1 hx268_0 hx268_1 hHeld ⊢
                          refine pure_ (i := 1) (N := some 31) (v := ?_) (a' := ?_) #[false, true, false, false, false, false, false, false, false, false, false, false, false, false, false, false] rfl rfl (any_of HT_.out (by kernel_rfl)) (fun _ _ _ h => h) (Or.inl ⟨by rfl, ?_⟩) ?_ ?_
                          rotate_left
                          · intro w'
                            go_simp
                            with_reducible rfl
                          rotate_left
                          · simp only [Act.put, List.setIfInBounds_toArray, List.set_cons_zero, List.set_cons_succ, i64_w, i32_w]
                            rfl
                          refine pure_ (i := 2) (N := some 32) (v := ?_) (a' := ?_) #[false, true, true, false, false, false, false, false, false, false, false, false, false, false, false, false] rfl rfl (any_of HT_.out (by kernel_rfl)) (fun _ _ _ h => h) (Or.inl ⟨by rfl, ?_⟩) ?_ ?_
                          rotate_left
                          · intro w'
                            go_simp
                            with_reducible rfl
                          rotate_left
                          · simp only [Act.put, List.setIfInBounds_toArray, List.set_cons_zero, List.set_cons_succ, i64_w, i32_w]
                            rfl
                          refine pure_ (i := 3) (N := some 33) (v := ?_) (a' := ?_) #[false, true, true, true, false, false, false, false, false, false, false, false, false, false, false, false] rfl rfl (any_of HT_.out (by kernel_rfl)) (fun _ _ _ h => h) (Or.inl ⟨by rfl, ?_⟩) ?_ ?_
                          rotate_left
                          · intro w'
                            go_simp
                            with_reducible rfl
                          rotate_left
                          · simp only [Act.put, List.setIfInBounds_toArray, List.set_cons_zero, List.set_cons_succ, i64_w, i32_w]
                            rfl
                          refine pure_ (i := 4) (N := some 34) (v := ?_) (a' := ?_) #[false, true, true, true, true, false, false, false, false, false, false, false, false, false, false, false] rfl rfl (any_of HT_.out (by kernel_rfl)) (fun _ _ _ h => h) (Or.inl ⟨by rfl, ?_⟩) ?_ ?_
                          rotate_left
                          · intro w'
                            go_simp
                            with_reducible rfl
                          rotate_left
                          · simp only [Act.put, List.setIfInBounds_toArray, List.set_cons_zero, List.set_cons_succ, i64_w, i32_w]
                            rfl
                          refine pure_ (i := 5) (N := some 35) (v := ?_) (a' := ?_) #[false, true, true, true, true, true, false, false, false, false, false, false, false, false, false, false] rfl rfl (any_of HT_.out (by kernel_rfl)) (fun _ _ _ h => h) (Or.inl ⟨by rfl, ?_⟩) ?_ ?_
                          rotate_left
                          · intro w'
                            go_simp
                            with_reducible rfl
                          rotate_left
                          · simp only [Act.put, List.setIfInBounds_toArray, List.set_cons_zero, List.set_cons_succ, i64_w, i32_w]
                            rfl
                          refine pure_ (i := 10) (N := some 40) (v := ?_) (a' := ?_) #[false, true, true, true, true, true, false, false, false, false, true, false, false, false, false, false] rfl rfl (any_of HT_.out (by kernel_rfl)) (fun _ _ _ h => h) (Or.inl ⟨by rfl, ?_⟩) ?_ ?_
                          rotate_left
                          · intro w'
                            go_simp
                            with_reducible rfl
                          rotate_left
                          · simp only [Act.put, List.setIfInBounds_toArray, List.set_cons_zero, List.set_cons_succ, i64_w, i32_w]
                            rfl
                          refine pure_ (i := 11) (N := some 41) (v := ?_) (a' := ?_) #[false, true, true, true, true, true, false, false, false, false, true, true, false, false, false, false] rfl rfl (any_of HT_.out (by kernel_rfl)) (fun _ _ _ h => h) (Or.inl ⟨by rfl, ?_⟩) ?_ ?_
                          rotate_left
                          · intro w'
                            go_simp
                            with_reducible rfl
                          rotate_left
                          · simp only [Act.put, List.setIfInBounds_toArray, List.set_cons_zero, List.set_cons_succ, i64_w, i32_w]
                            rfl
                          refine take_ (i := 0) (N := some 30) (v := ?_) (a' := ?_) #[true, true, true, true, true, true, false, false, false, false, true, true, false, false, false, false] rfl rfl (take_ofW HT_.out HW_.out (by kernel_rfl)) (fun _ _ _ h => h) (Or.inl ⟨by rfl, ?_⟩) hHeld ?_ ?_
                          rotate_left
                          · rintro w' ⟨s0, s1, s2, s3, s4, s5⟩
                            go_simp
                            with_reducible rfl
                          rotate_left
                          · simp only [Act.put, List.setIfInBounds_toArray, List.set_cons_zero, List.set_cons_succ, i64_w, i32_w]
                            rfl
                          refine take_ (i := 6) (N := some 36) (v := ?_) (a' := ?_) #[true, true, true, true, true, true, true, false, false, false, true, true, false, false, false, false] rfl rfl (take_ofW HT_.out HW_.out (by kernel_rfl)) (fun _ _ _ h => h) (Or.inl ⟨by rfl, ?_⟩) hHeld ?_ ?_
                          rotate_left
                          · rintro w' ⟨s0, s1, s2, s3, s4, s5⟩
                            go_simp
                            with_reducible rfl
                          rotate_left
                          · simp only [Act.put, List.setIfInBounds_toArray, List.set_cons_zero, List.set_cons_succ, i64_w, i32_w]
                            rfl
                          refine take_ (i := 9) (N := some 39) (v := ?_) (a' := ?_) #[true, true, true, true, true, true, true, false, false, true, true, true, false, false, false, false] rfl rfl (take_ofW HT_.out HW_.out (by kernel_rfl)) (fun _ _ _ h => h) (Or.inl ⟨by rfl, ?_⟩) hHeld ?_ ?_
                          rotate_left
                          · rintro w' ⟨s0, s1, s2, s3, s4, s5⟩
                            go_simp
                            with_reducible rfl
                          rotate_left
                          · simp only [Act.put, List.setIfInBounds_toArray, List.set_cons_zero, List.set_cons_succ, i64_w, i32_w]
                            rfl
                          refine take_ (i := 12) (N := some 42) (v := ?_) (a' := ?_) #[true, true, true, true, true, true, true, false, false, true, true, true, true, false, false, false] rfl rfl (take_ofW HT_.out HW_.out (by kernel_rfl)) (fun _ _ _ h => h) (Or.inl ⟨by rfl, ?_⟩) hHeld ?_ ?_
                          rotate_left
                          · rintro w' ⟨s0, s1, s2, s3, s4, s5⟩
                            go_simp
                            with_reducible rfl
                          rotate_left
                          · simp only [Act.put, List.setIfInBounds_toArray, List.set_cons_zero, List.set_cons_succ, i64_w, i32_w]
                            rfl
                          refine one_ (i := 7) (N := some 37) #[true, true, true, true, true, true, true, true, false, true, true, true, true, false, false, false] rfl rfl (one_of HT_.out (by kernel_rfl)) (by decide) (fun K hK => ?_)
                          refine goes_ Try.func90 (by kernel_rfl) rfl #[.agg #[.int .i64 x264000_1, .int .i64 x264001_1], .agg #[.int .i64 ((rd_T30 ((rd_T116 l0 x7_1).f1) (ji10)).f0), .int .i64 ((rd_T30 ((rd_T116 l0 x7_1).f1) (ji10)).f1)]] (by rfl) rfl rfl (by (try simp only [List.map_toArray, List.map_cons, List.map_nil]); first | done | (simp only [hji10]; rfl) | rfl | (simp only [List.length_drop, List.length_take]; rfl)) ?_
                          with_reducible refine (spec_l16Square.calls x264000_1 x264001_1 ((rd_T30 ((rd_T116 l0 x7_1).f1) (ji10)).f0) ((rd_T30 ((rd_T116 l0 x7_1).f1) (ji10)).f1) t266 _ A13.out).mono ?_
                          rintro e w37 ⟨rfl, hb⟩
                          refine ⟨_, rfl, ?_⟩
                          have n0_ := Aside0.mk (Kd.R_below (by (with_reducible repeat (first | apply Kd.R_alloc | apply Kd.R_drewN | apply Kd.R_drew)); exact HO_5.out) hb)
                          have n1_ := Aside0.mk (blk_below (g := gb263) (o := .cells #[.int .i64 x264000_1, .int .i64 x264001_1] 30 (0, 0)) (by (with_reducible repeat (first | refine blk_drewN ?_ _ | refine blk_drew ?_ | refine blk_alloc ?_ _)); exact BK263.out) hb)
                          have n2_ := Aside0.mk (below_step (by repeat (first | (with_reducible first | exact HB.out | apply below_alloc | apply pw_below_drewN | apply below_drew1 | refine below_set ?_ GE263.out) | exact HB.out)) hb)
                          clear HO_5
                          clear BK263
                          clear HB
                          have HO_5 := n0_
                          have BK263 := n1_
                          have HB := n2_
                          clear n0_ n1_ n2_
                          (try clear hb)
                          (try clear hb2)
                          (try clear hk)
                          (try clear hi)
                          refine hK.out _ _ ⟨(blk_cell BK263.out 0).trans rfl, (blk_cell BK263.out 1).trans rfl, ((HB.out.cell (World.block_lt_of_cell? w _ hw265_0)).trans hw265_0), ((HB.out.cell (World.block_lt_of_cell? w _ hw265_1)).trans hw265_1), ((HB.out.cell (World.block_lt_of_cell? w _ hw268_0)).trans hw268_0), ((HB.out.cell (World.block_lt_of_cell? w _ hw268_1)).trans hw268_1)⟩ (fun hHeld => ?_)
                          clear hK K
                          refine norm_ (a' := ?_) ?_ ?_
                          rotate_left
                          · show Act.put _ (some 37) _ = _
                            simp only [Act.put, List.setIfInBounds_toArray, List.set_cons_zero, List.set_cons_succ, i64_w, i32_w]
                            rfl
                          refine one_ (i := 8) (N := some 38) #[true, true, true, true, true, true, true, true, true, true, true, true, true, false, false, false] rfl rfl (one_of HT_.out (by kernel_rfl)) (by decide) (fun K hK => ?_)
                          refine goes_ Try.func89 (by kernel_rfl) rfl #[.int .i64 t266] (by rfl) rfl rfl (by (try simp only [List.map_toArray, List.map_cons, List.map_nil]); first | done | rfl | (simp only [List.length_drop, List.length_take]; rfl)) ?_
                          with_reducible refine (spec_l01Root.calls k1 t266 t267 _ A14.out).mono ?_
                          rintro e w' ⟨rfl, ⟨nd, rfl⟩⟩
                          refine ⟨_, rfl, ?_⟩
                          refine hK.out _ _ ⟨(blk_cell BK263.out 0).trans rfl, (blk_cell BK263.out 1).trans rfl, ((HB.out.cell (World.block_lt_of_cell? w _ hw265_0)).trans hw265_0), ((HB.out.cell (World.block_lt_of_cell? w _ hw265_1)).trans hw265_1), ((HB.out.cell (World.block_lt_of_cell? w _ hw268_0)).trans hw268_0), ((HB.out.cell (World.block_lt_of_cell? w _ hw268_1)).trans hw268_1)⟩ (fun hHeld => ?_)
                          clear hK K
                          refine norm_ (a' := ?_) ?_ ?_
                          rotate_left
                          · show Act.put _ (some 38) _ = _
                            simp only [Act.put, List.setIfInBounds_toArray, List.set_cons_zero, List.set_cons_succ, i64_w, i32_w]
                            rfl
                          refine one_ (i := 13) (N := some 43) #[true, true, true, true, true, true, true, true, true, true, true, true, true, true, false, false] rfl rfl (one_of HT_.out (by kernel_rfl)) (by decide) (fun K hK => ?_)
                          refine goes_ Try.func90 (by kernel_rfl) rfl #[.agg #[.int .i64 x264000_1, .int .i64 x264001_1], .agg #[.int .i64 ((rd_T30 ((rd_T116 l0 x7_1).f1) 0).f0), .int .i64 ((rd_T30 ((rd_T116 l0 x7_1).f1) 0).f1)]] (by rfl) rfl rfl (by (try simp only [List.map_toArray, List.map_cons, List.map_nil]); first | done | rfl | (simp only [List.length_drop, List.length_take]; rfl)) ?_
                          with_reducible refine (spec_l16Square.calls x264000_1 x264001_1 ((rd_T30 ((rd_T116 l0 x7_1).f1) 0).f0) ((rd_T30 ((rd_T116 l0 x7_1).f1) 0).f1) t269 _ A16.out).mono ?_
                          rintro e w38 ⟨rfl, hb⟩
                          refine ⟨_, rfl, ?_⟩
                          have n0_ := Aside0.mk (Kd.R_below (by (with_reducible repeat (first | apply Kd.R_alloc | apply Kd.R_drewN | apply Kd.R_drew)); exact HO_5.out) hb)
                          have n1_ := Aside0.mk (blk_below (g := gb263) (o := .cells #[.int .i64 x264000_1, .int .i64 x264001_1] 30 (0, 0)) (by (with_reducible repeat (first | refine blk_drewN ?_ _ | refine blk_drew ?_ | refine blk_alloc ?_ _)); exact BK263.out) hb)
                          have n2_ := Aside0.mk (below_step (by repeat (first | (with_reducible first | exact HB.out | apply below_alloc | apply pw_below_drewN | apply below_drew1 | refine below_set ?_ GE263.out) | exact HB.out)) hb)
                          clear HO_5
                          clear BK263
                          clear HB
                          have HO_5 := n0_
                          have BK263 := n1_
                          have HB := n2_
                          clear n0_ n1_ n2_
                          (try clear hb)
                          (try clear hb2)
                          (try clear hk)
                          (try clear hi)
                          refine hK.out _ _ ⟨(blk_cell BK263.out 0).trans rfl, (blk_cell BK263.out 1).trans rfl, ((HB.out.cell (World.block_lt_of_cell? w _ hw265_0)).trans hw265_0), ((HB.out.cell (World.block_lt_of_cell? w _ hw265_1)).trans hw265_1), ((HB.out.cell (World.block_lt_of_cell? w _ hw268_0)).trans hw268_0), ((HB.out.cell (World.block_lt_of_cell? w _ hw268_1)).trans hw268_1)⟩ (fun hHeld => ?_)
                          clear hK K
                          refine norm_ (a' := ?_) ?_ ?_
                          rotate_left
                          · show Act.put _ (some 43) _ = _
                            simp only [Act.put, List.setIfInBounds_toArray, List.set_cons_zero, List.set_cons_succ, i64_w, i32_w]
                            rfl
                          refine one_ (i := 14) (N := some 44) #[true, true, true, true, true, true, true, true, true, true, true, true, true, true, true, false] rfl rfl (one_of HT_.out (by kernel_rfl)) (by decide) (fun K hK => ?_)
                          refine goes_ Try.func89 (by kernel_rfl) rfl #[.int .i64 t269] (by rfl) rfl rfl (by (try simp only [List.map_toArray, List.map_cons, List.map_nil]); first | done | rfl | (simp only [List.length_drop, List.length_take]; rfl)) ?_
                          with_reducible refine (spec_l01Root.calls k1 t269 t270 _ A17.out).mono ?_
                          rintro e w' ⟨rfl, ⟨nd, rfl⟩⟩
                          refine ⟨_, rfl, ?_⟩
                          refine hK.out _ _ ⟨(blk_cell BK263.out 0).trans rfl, (blk_cell BK263.out 1).trans rfl, ((HB.out.cell (World.block_lt_of_cell? w _ hw265_0)).trans hw265_0), ((HB.out.cell (World.block_lt_of_cell? w _ hw265_1)).trans hw265_1), ((HB.out.cell (World.block_lt_of_cell? w _ hw268_0)).trans hw268_0), ((HB.out.cell (World.block_lt_of_cell? w _ hw268_1)).trans hw268_1)⟩ (fun hHeld => ?_)
                          clear hK K
                          refine norm_ (a' := ?_) ?_ ?_
                          rotate_left
                          · show Act.put _ (some 44) _ = _
                            simp only [Act.put, List.setIfInBounds_toArray, List.set_cons_zero, List.set_cons_succ, i64_w, i32_w]
                            rfl
                          refine pure_ (i := 15) (N := some 45) (v := ?_) (a' := ?_) #[true, true, true, true, true, true, true, true, true, true, true, true, true, true, true, true] rfl rfl (any_of HT_.out (by kernel_rfl)) (fun _ _ _ h => h) (Or.inl ⟨by rfl, ?_⟩) ?_ ?_
                          rotate_left
                          · intro w'
                            go_simp
                            with_reducible rfl
                          rotate_left
                          · simp only [Act.put, List.setIfInBounds_toArray, List.set_cons_zero, List.set_cons_succ, i64_w, i32_w]
                            rfl
                          refine done_ (done_of HT_.out (by kernel_rfl)) ?_
                          try go_wp2_with (first | ((with_reducible refine gate_builtin (b := .append) (xs := #[.tmp 48, .tmp 50]) rfl ?_); at_builtin; refine Kd.R_append (Kd.int .i64) (w0 := w) w.heap.size rfl (.tmp 48) (.tmp 50) 34 2 (.int .i64 0) 8 rfl Try.underlying34 info2 rfl (by decide) (by omega) u5 x5_1 (wrap64 (2 * x7_1)) [.int .i64 (wrap64 (2 * x7_1))] (fun _ => True) (fun _ => False) rfl rfl ?aP (fun _ hk => hk.elim) ?aF ?aO ?aB ?aS ?aL ?_; (case aP => exact rfl); (case aB => exact (by repeat (first | (with_reducible first | exact HB.out | apply below_alloc | apply pw_below_drewN | apply below_drew1 | refine below_set ?_ GE263.out) | exact HB.out))); (case aF => exact (fun _ _ => trivial)); (case aO => exact (by (with_reducible repeat (first | apply Kd.R_alloc | apply Kd.R_drewN | apply Kd.R_drew)); exact HO_5.out)); (case aS => exact (below_size (by repeat (first | (with_reducible first | exact HB.out | apply below_alloc | apply pw_below_drewN | apply below_drew1 | refine below_set ?_ GE263.out) | exact HB.out)))); (case aL => have := LMc31.out; omega); intro v280 w39 ho hb hg hat; rw [← Ny279.out] at ho; have n0_ := Aside0.mk (blk_grown (g := gb263) (o := .cells #[.int .i64 x264000_1, .int .i64 x264001_1] 30 (0, 0)) (by (with_reducible repeat (first | refine blk_drewN ?_ _ | refine blk_drew ?_ | refine blk_alloc ?_ _)); exact BK263.out) hg (Kd.R_ne HO_5.out BK263.out (by decide))); have n1_ := Aside0.mk (hb); have n2_ := Aside0.mk (ho); clear BK263; clear HB; clear HO_5; have BK263 := n0_; have HB := n1_; have HO281 := n2_; clear n0_ n1_ n2_; clear ho hb hg hat) | ((with_reducible refine gate_callee (f := 91) rfl ?_); refine goesL_ (some 54) rfl rfl Try.func91 (by kernel_rfl) rfl #[.slice (some ad264) l0.length c0, .int .i64 (wrap64 (2 * x7_1))] rfl (by (try simp only [List.map_toArray, List.map_cons, List.map_nil]); first | done | rfl | (simp only [List.length_drop, List.length_take]; rfl)) ?_; (with_reducible refine (spec_l31Stroke.calls k1 (fun k_ => k_ < w.heap.size) _ _ l0 (wrap64 (2 * x7_1)) t282 t283 _ ?side1 A32.out).mono ?_); (case side1 => exact Kd.V_mk HC0.out (Kd.F_below (Kd.C_F k116_heap HR0.out) (by repeat (first | (with_reducible first | exact HB.out | apply below_alloc | apply pw_below_drewN | apply below_drew1 | refine below_set ?_ GE263.out) | exact HB.out)))); rintro e w40 ⟨v284, rfl, ho0, hb⟩; refine ⟨_, rfl, ?_⟩; have n0_ := Aside0.mk (Kd.R_below (by (with_reducible repeat (first | apply Kd.R_alloc | apply Kd.R_drewN | apply Kd.R_drew)); exact HO281.out) hb); have n1_ := Aside0.mk (Kd.V_lower (Kd.V_mono (ok' := fun k_ => some k_ ≠ (v280 : Value).ownBlock ∧ k_ ≠ gb263) ho0 (fun k_ hk_ => ⟨Or.elim hk_ (fun hs_ => fun e_ => Nat.not_le.2 hs_ (Kd.R_base HO281.out k_ e_.symm)) (fun hn_ => (Kd.fresh' (Kd.R_lt (by (with_reducible repeat (first | apply Kd.R_alloc | apply Kd.R_drewN | apply Kd.R_drew)); exact HO281.out)) k_ hn_)), Or.elim hk_ (fun hs_ => fun e_ => Nat.not_le.2 hs_ (by rw [e_]; exact GW263.out)) (fun hn_ => (Kd.freshB (g := gb263) (o := .cells #[.int .i64 x264000_1, .int .i64 x264001_1] 30 (0, 0)) (by (with_reducible repeat (first | refine blk_drewN ?_ _ | refine blk_drew ?_ | refine blk_alloc ?_ _)); exact BK263.out) k_ hn_))⟩)) (below_size (by repeat (first | (with_reducible first | exact HB.out | apply below_alloc | apply pw_below_drewN | apply below_drew1 | refine below_set ?_ GE263.out) | exact HB.out)))); have n2_ := Aside0.mk (blk_below (g := gb263) (o := .cells #[.int .i64 x264000_1, .int .i64 x264001_1] 30 (0, 0)) (by (with_reducible repeat (first | refine blk_drewN ?_ _ | refine blk_drew ?_ | refine blk_alloc ?_ _)); exact BK263.out) hb); have n3_ := Aside0.mk (below_step (by repeat (first | (with_reducible first | exact HB.out | apply below_alloc | apply pw_below_drewN | apply below_drew1 | refine below_set ?_ GE263.out) | exact HB.out)) hb); clear HO281; clear BK263; clear HB; have HO281 := n0_; have HO285 := n1_; have BK263 := n2_; have HB := n3_; clear n0_ n1_ n2_ n3_; (try clear hb); (try clear hb2); (try clear hk); (try clear hi); (try clear ho0); obtain ⟨Ao41, co41, eo41⟩ := Kd.V_slice HO285.out; subst eo41; have p286 : 0 ≤ ((ji33) : Int) := of_decide_eq_true (by first | (with_reducible assumption) | assumption); have q286 : (ji33) < (t283.length : Int) := of_decide_eq_true (by first | (with_reducible assumption) | assumption); obtain ⟨ad286, e286, hx286_0, hx286_1⟩ := at_T30 (Kd.V_reads' HO285.out).2.2 (ji33) p286 q286; cases e286; replace p286 := eq_true p286; replace q286 := eq_true q286; have hcz42_0 : w40.cell? ⟨gb263, 0, none⟩ = some (.int .i64 x264000_1) := (blk_cell BK263.out 0).trans rfl; have hcz42_1 : w40.cell? ⟨gb263, 1, none⟩ = some (.int .i64 x264001_1) := (blk_cell BK263.out 1).trans rfl; have hfz42_0 := blk_frozen BK263.out 0; have hfz42_1 := blk_frozen BK263.out 1))
                          go_roundg k1
                          case measure => have := HK1.out; omega
                          case rel => exact ⟨(y279), (wrap64 (x7_1 + 1)), ((rd_T30 t283 (ji33)).f0), ((rd_T30 t283 (ji33)).f1), (by first | rfl | (simp; done) | (simp [*]; done)), H', ⟨by have := HK1.out; omega⟩, ⟨by (with_reducible repeat (first | apply Kd.R_alloc | apply Kd.R_drewN | apply Kd.R_drew)); exact Kd.R_mono (Kd.R_far (p := ⟨gb263, 1, none⟩) (Kd.R_far (p := ⟨gb263, 0, none⟩) (Kd.R_types HO281.out BK263.out (by decide)) (fun _ hk => hk.2) (.int .i64 ((rd_T30 t283 (ji33)).f0))) (fun _ hk => hk.2) (.int .i64 ((rd_T30 t283 (ji33)).f1))) (fun _ hk => trivial)⟩, ⟨by (with_reducible repeat (first | refine blk_drewN ?_ _ | refine blk_drew ?_ | refine blk_alloc ?_ _)); refine blk_put (cs := #[.int .i64 ((rd_T30 t283 (ji33)).f0), .int .i64 x264001_1]) ?_ 1 _ rfl; (with_reducible repeat (first | refine blk_drewN ?_ _ | refine blk_drew ?_ | refine blk_alloc ?_ _)); refine blk_put (cs := #[.int .i64 x264000_1, .int .i64 x264001_1]) ?_ 0 _ rfl; (with_reducible repeat (first | refine blk_drewN ?_ _ | refine blk_drew ?_ | refine blk_alloc ?_ _)); exact BK263.out⟩, ⟨by repeat (first | (with_reducible first | exact HB.out | apply below_alloc | apply pw_below_drewN | apply below_drew1 | refine below_set ?_ GE263.out) | exact HB.out)⟩⟩
                        · rw [if_neg c35] at H
                          exact absurd H (by simp)
                      · rw [if_neg c34] at H
                        exact absurd H (by simp)
                    · rw [if_neg c31] at H
                      exact absurd H (by simp)
                · rw [if_neg c15] at H
                  exact absurd H (by simp)
              · rw [if_neg c12] at H
                exact absurd H (by simp)
            · rw [if_neg c11] at H
              exact absurd H (by simp)
          · rw [if_neg c9] at H
            exact absurd H (by simp)
        · rw [if_neg c8] at H
          have c8b0 : decide (x7_1 < (l0.length : Int)) = false := decide_eq_false c8
          clear c8
          simp only [Option.some.injEq, Prod.mk.injEq] at H
          obtain ⟨rfl, rfl⟩ := H
          go_wp2
          go_ret2
          exact ⟨_, by first | rfl | (simp [errW_none, errW_some] <;> rfl) | (simp [*, errW_none, errW_some] <;> rfl), by (with_reducible repeat (first | apply Kd.R_alloc | apply Kd.R_drewN | apply Kd.R_drew)); exact HO_5.out, by repeat (first | (with_reducible first | exact HB.out | apply below_alloc | apply pw_below_drewN | apply below_drew1 | refine below_set ?_ GE263.out) | exact HB.out)⟩
  · rw [if_neg c3] at H
    have c3b0 : (t259 == 0) = false := beq_eq_false_iff_ne.mpr c3
    have c3b1 : (t259 != 0) = true := bne_iff_ne.mpr c3
    simp only [Option.some.injEq, Prod.mk.injEq] at H
    obtain ⟨rfl, rfl⟩ := H
    go_enter Try.func20, Try.ntmps20
    go_wp2_with (first | ((with_reducible refine gate_callee (f := 79) rfl ?_); refine goesL_ (some 11) rfl rfl Try.func79 (by kernel_rfl) rfl #[.slice A0 l0.length c0] rfl (by (try simp only [List.map_toArray, List.map_cons, List.map_nil]); first | done | rfl | (simp only [List.length_drop, List.length_take]; rfl)) ?_; (with_reducible refine (spec_l28Code.calls k _ _ l0 t259 _ ?side1 ?side2 A2.out).mono ?_); (case side1 => repeat (first | exact HR0.out | (with_reducible refine Kd.C_alloc ?_ _) | (with_reducible refine Kd.C_drewN ?_ _) | (with_reducible refine Kd.C_drew ?_))); (case side2 => exact HC0.out); rintro e w' ⟨rfl, ⟨nd, rfl⟩⟩; refine ⟨_, rfl, ?_⟩))
    go_ret2
    exact ⟨_, by first | rfl | (simp [errW_none, errW_some] <;> rfl) | (simp [*, errW_none, errW_some] <;> rfl), by first | exact Kd.R_nil _ _ _ _ _ | exact Kd.N_nil _ _ _ _ _ | exact Kd.V_nil _ _ _ _ _ | exact Kd.Q_nil _ _ _ _ _ | exact Kd.S_nil _ _ _ _ _, by repeat (first | (with_reducible first | exact HB.out | apply below_alloc | apply pw_below_drewN | apply below_drew1) | exact HB.out)⟩

end Go.Proofs.Ythdadohmomhchaa.F

namespace Go.Proofs.Ythdadohmomhchaa.Pure
open Go.RowKit Go.Proofs.Ythdadohmomhchaa.F Go.Proofs.YthdadohmomhchaaW.PrintWords Go.Proofs.YthdadohmomhchaaW.PrintLast Go.Proofs.YthdadohmomhchaaW.PrintMore Go.Proofs.YthdadohmomhchaaB
set_option linter.unusedVariables false
set_option linter.unusedSimpArgs false
def ordB (n : Nat) (used : List Bool) : List Int → Bool
  | [] => true
  | y :: ys => inB y 0 (2 * n - 1) && !(used.getD (y / 2).toNat false) && ordB n (used.set (y / 2).toNat true) ys
theorem ordB_cons (n : Nat) (used : List Bool) (y : Int) (ys : List Int) : ordB n used (y :: ys) = (inB y 0 (2 * n - 1) && !(used.getD (y / 2).toNat false) && ordB n (used.set (y / 2).toNat true) ys) := rfl
def isOrd (n : Nat) (l : List Int) : Bool := ordB n (List.replicate n false) l && decide (l.length = n)
theorem half_w {y : Int} (h0 : 0 ≤ y) (h1 : y ≤ 2097152) : wrap64 (Int.tdiv y 2) = y / 2 := by
  rw [Int.tdiv_eq_ediv_of_nonneg h0, w64 (by omega) (by omega)]
theorem inB_iff {x lo hi : Int} (h : inB x lo hi = true) : lo ≤ x ∧ x ≤ hi := of_decide_eq_true h

end Go.Proofs.Ythdadohmomhchaa.Pure

namespace Go.Proofs.Ythdadohmomhchaa.Pure
open Go.RowKit Go.Proofs.Ythdadohmomhchaa.F Go.Proofs.YthdadohmomhchaaW.PrintWords Go.Proofs.YthdadohmomhchaaW.PrintLast Go.Proofs.YthdadohmomhchaaW.PrintMore Go.Proofs.YthdadohmomhchaaB
set_option linter.unusedVariables false
set_option linter.unusedSimpArgs false
/-- Drawings of a size that the loops can copy. -/
def smallS (xs : List S116) : Prop := xs.length ≤ 1048576 ∧ ∀ x ∈ xs, x.f1.length ≤ 1048576
theorem smallS_zero {xs : List S116} (h : codeS xs = 0) : smallS xs := by
  have := codeS_zero h
  refine ⟨by omega, fun x hx => ?_⟩
  have := strokeB_len (this.2 x hx)
  omega
theorem numSt_le {b : Int} : ∀ (xs : List S116), (∀ x ∈ xs, (x.f1.length : Int) ≤ b) → numSt xs ≤ xs.length * (1 + 2 * b)
  | [], _ => by simp [numSt]
  | y :: ys, h => by
    have h1 := h y List.mem_cons_self
    have h2 := numSt_le ys (fun x hx => h x (List.mem_cons_of_mem _ hx))
    simp only [numSt, List.length_cons]
    have : ((ys.length + 1 : Nat) : Int) * (1 + 2 * b) = ys.length * (1 + 2 * b) + (1 + 2 * b) := by
      rw [Int.natCast_add, Int.add_mul]; simp
    omega
theorem markSt_res (xs : List S116) (hx : xs.length ≤ 1048576) (hi : ∀ x ∈ xs, x.f1.length ≤ 1048576) : MarkSt xs (markSt 1 xs) 1 (1 + numSt xs) ∧ 0 ≤ 1 + numSt xs ∧ 1 + numSt xs ≤ 4611686018427387904 := by
  have h := numSt_le (b := 1048576) xs (fun x hx => by have := hi x hx; omega)
  have h0 := numSt_nonneg xs
  have h2 : numSt xs ≤ 1048576 * 2097153 := Int.le_trans h (Int.mul_le_mul_of_nonneg_right (by omega) (by omega))
  refine ⟨⟨by omega, fun y hy => by have := hi y hy; omega, by omega, by omega, rfl, rfl⟩, by omega, by omega⟩

end Go.Proofs.Ythdadohmomhchaa.Pure

namespace Go.Proofs.Ythdadohmomhchaa.Pure
open Go.RowKit Go.Proofs.Ythdadohmomhchaa.F Go.Proofs.YthdadohmomhchaaW.PrintWords Go.Proofs.YthdadohmomhchaaW.PrintLast Go.Proofs.YthdadohmomhchaaW.PrintMore Go.Proofs.YthdadohmomhchaaB
set_option linter.unusedVariables false
set_option linter.unusedSimpArgs false
def turnS (x : S116) : S116 := ⟨x.f0, x.f1.reverse⟩
def resTurn (xs : List S116) (a : Int) : List S116 × Int := if codeS xs = 0 then (if inB a 0 (xs.length - 1) = true then (xs.set a.toNat (turnS (rd_T116 xs a)), 0) else ([], 2)) else ([], codeS xs)
theorem rdS_mem {xs : List S116} {a : Int} (h0 : 0 ≤ a) (h1 : a < xs.length) : rd_T116 xs a ∈ xs := by
  show xs.getD a.toNat _ ∈ xs
  rw [List.getD_eq_getElem?_getD, List.getElem?_eq_getElem (by omega)]
  exact List.getElem_mem _
theorem inB_true {x lo hi : Int} (h : inB x lo hi = true) : lo ≤ x ∧ x ≤ hi := by
  unfold inB at h
  exact of_decide_eq_true h
theorem smallS_turn (xs : List S116) (a : Int) : smallS (resTurn xs a).1 := by
  unfold resTurn
  split
  · rename_i h
    have hs := smallS_zero h
    split
    · rename_i hb
      have hb := inB_true hb
      have hm := rdS_mem (xs := xs) (a := a) hb.1 (by omega)
      refine ⟨by rw [List.length_set]; exact hs.1, fun x hx => ?_⟩
      rcases List.mem_or_eq_of_mem_set hx with h1 | h1
      · exact hs.2 x h1
      · rw [h1]
        show (List.reverse _).length ≤ _
        rw [List.length_reverse]
        exact hs.2 _ hm
    · exact ⟨by simp, fun x hx => absurd hx (List.not_mem_nil)⟩
  · exact ⟨by simp, fun x hx => absurd hx (List.not_mem_nil)⟩

end Go.Proofs.Ythdadohmomhchaa.Pure

namespace Go.Proofs.Ythdadohmomhchaa.Pure
open Go.RowKit Go.Proofs.Ythdadohmomhchaa.F Go.Proofs.YthdadohmomhchaaW.PrintWords Go.Proofs.YthdadohmomhchaaW.PrintLast Go.Proofs.YthdadohmomhchaaW.PrintMore Go.Proofs.YthdadohmomhchaaB
set_option linter.unusedVariables false
set_option linter.unusedSimpArgs false
theorem rev_last (l : List S30) (h : 0 < l.length) : rd_T30 l.reverse (l.length - 1) = rd_T30 l 0 := by
  show l.reverse.getD _ _ = l.getD _ _
  rw [List.getD_eq_getElem?_getD, List.getD_eq_getElem?_getD, List.getElem?_reverse (by omega)]
  congr 2
  show l.length - 1 - ((l.length : Int) - 1).toNat = (0 : Int).toNat
  omega
theorem rev_first (l : List S30) (h : 0 < l.length) : rd_T30 l.reverse 0 = rd_T30 l (l.length - 1) := by
  show l.reverse.getD _ _ = l.getD _ _
  rw [List.getD_eq_getElem?_getD, List.getD_eq_getElem?_getD, List.getElem?_reverse (show (0 : Int).toNat < _ by simpa using h)]
  congr 2
  show l.length - 1 - (0 : Int).toNat = ((l.length : Int) - 1).toNat
  simp
/-- The stroke with a number, turned if the number is odd. -/
def numS (xs : List S116) (a : Int) : S116 := if a % 2 = 1 then turnS (rd_T116 xs (a / 2)) else rd_T116 xs (a / 2)
theorem numS_len {xs : List S116} (h : codeS xs = 0) {a : Int} (h0 : 0 ≤ a) (h1 : a ≤ 2 * xs.length - 1) : 2 ≤ (numS xs a).f1.length ∧ (numS xs a).f1.length ≤ 200 := by
  have hm := rdS_mem (xs := xs) (a := a / 2) (by omega) (by omega)
  have := strokeB_len ((codeS_zero h).2 _ hm)
  unfold numS turnS
  split
  · show 2 ≤ (List.reverse _).length ∧ (List.reverse _).length ≤ 200
    rw [List.length_reverse]
    exact this
  · exact this
theorem tmod2 {a : Int} (h0 : 0 ≤ a) : Int.tmod a 2 = a % 2 := Int.tmod_eq_emod_of_nonneg h0
theorem lineB_of {xs : List S116} (h : codeS xs = 0) {y : S116} (hm : y ∈ xs) : lineB y.f1 = true := by
  have := (codeS_zero h).2 y hm
  unfold strokeB at this
  simp only [Bool.and_eq_true] at this
  exact this.1.2
theorem ordB_in (n : Nat) : ∀ (ys : List Int) (used : List Bool), ordB n used ys = true → ∀ y ∈ ys, 0 ≤ y ∧ y ≤ 2 * n - 1
  | [], _, _, y, hy => absurd hy List.not_mem_nil
  | z :: zs, used, h, y, hy => by
    rw [ordB_cons] at h
    simp only [Bool.and_eq_true] at h
    rcases List.mem_cons.1 hy with rfl | hy
    · have := inB_iff h.1.1
      omega
    · exact ordB_in n zs _ h.2 y hy
theorem isOrd_in {n : Nat} {l : List Int} (h : isOrd n l = true) : l.length = n ∧ ∀ y ∈ l, 0 ≤ y ∧ y ≤ 2 * n - 1 := by
  unfold isOrd at h
  simp only [Bool.and_eq_true, decide_eq_true_eq] at h
  exact ⟨h.2, ordB_in n l _ h.1⟩
def resOD (xs : List S116) (is : List Int) : List S116 × Int := if codeS xs = 0 then (if isOrd xs.length is = true then (is.map (numS xs), 0) else ([], 5)) else ([], codeS xs)
theorem smallS_order (xs : List S116) (is : List Int) : smallS (resOD xs is).1 := by
  unfold resOD
  split
  · rename_i h
    have hz := codeS_zero h
    split
    · rename_i hb
      obtain ⟨hl, hi⟩ := isOrd_in hb
      refine ⟨by rw [List.length_map]; omega, fun x hx => ?_⟩
      obtain ⟨y, hy, rfl⟩ := List.mem_map.1 hx
      have h1 := hi y hy
      have := numS_len h h1.1 h1.2
      omega
    · exact ⟨by simp, fun x hx => absurd hx (List.not_mem_nil)⟩
  · exact ⟨by simp, fun x hx => absurd hx (List.not_mem_nil)⟩

end Go.Proofs.Ythdadohmomhchaa.Pure

namespace Go.Proofs.Ythdadohmomhchaa.Pure
open Go.RowKit Go.Proofs.Ythdadohmomhchaa.F Go.Proofs.YthdadohmomhchaaW.PrintWords Go.Proofs.YthdadohmomhchaaW.PrintLast Go.Proofs.YthdadohmomhchaaW.PrintMore Go.Proofs.YthdadohmomhchaaB
set_option linter.unusedVariables false
set_option linter.unusedSimpArgs false
theorem spec_l01In_f (a b c : Int) : spec_l01In.f a b c = some (inB a b c) := inB_if a b c

end Go.Proofs.Ythdadohmomhchaa.Pure

namespace Go.Proofs.Ythdadohmomhchaa.Pure
open Go.RowKit Go.Proofs.Ythdadohmomhchaa.F Go.Proofs.YthdadohmomhchaaW.PrintWords Go.Proofs.YthdadohmomhchaaW.PrintLast Go.Proofs.YthdadohmomhchaaW.PrintMore Go.Proofs.YthdadohmomhchaaB
set_option linter.unusedVariables false
set_option linter.unusedSimpArgs false
theorem spec_l14Point_f (a b : Int) : spec_l14Point.f a b = some (inB a (-1000000) 1000000 && inB b (-1000000) 1000000) := by
  simp only [spec_l14Point.f, spec_l01In_f, Option.bind_some]
  cases inB a (-1000000) 1000000 <;> simp

end Go.Proofs.Ythdadohmomhchaa.Pure

namespace Go.Proofs.Ythdadohmomhchaa.Pure
open Go.RowKit Go.Proofs.Ythdadohmomhchaa.F Go.Proofs.YthdadohmomhchaaW.PrintWords Go.Proofs.YthdadohmomhchaaW.PrintLast Go.Proofs.YthdadohmomhchaaW.PrintMore Go.Proofs.YthdadohmomhchaaB
set_option linter.unusedVariables false
set_option linter.unusedSimpArgs false
theorem spec_l16Points_l0 (xs : List S30) (hx : xs.length ≤ 9223372036854775807) : ∀ (ys : List S30) (m : Nat), xs.drop m = ys → Ev (fun k => spec_l16Points.l0 k xs m) (ys.all ptB)
  | [], m, h => by
    have := drop_nil h
    exact ev_step (fun _ => rfl) (ev_neg (by omega) (ev_now rfl))
  | y :: ys, m, h => by
    obtain ⟨hm, _, hd⟩ := drop_cons h
    refine ev_step (fun _ => rfl) (ev_pos (by omega) (ev_pos (by omega) ?_))
    rw [rdP h, w64 (by omega) (by omega)]
    refine ev_some (spec_l14Point_f _ _) ?_
    rw [List.all_cons, show (inB y.f0 (-1000000) 1000000 && inB y.f1 (-1000000) 1000000) = ptB y from rfl]
    cases ptB y
    · exact ev_neg (by simp) (ev_now (by simp))
    · exact ev_pos rfl (ev_eq (spec_l16Points_l0 xs hx ys (m + 1) hd) (by simp))
theorem spec_l16Points_f (xs : List S30) (hx : xs.length ≤ 9223372036854775807) : Ev (fun k => spec_l16Points.f k xs) (xs.all ptB) := spec_l16Points_l0 xs hx xs 0 rfl

end Go.Proofs.Ythdadohmomhchaa.Pure

namespace Go.Proofs.Ythdadohmomhchaa.Pure
open Go.RowKit Go.Proofs.Ythdadohmomhchaa.F Go.Proofs.YthdadohmomhchaaW.PrintWords Go.Proofs.YthdadohmomhchaaW.PrintLast Go.Proofs.YthdadohmomhchaaW.PrintMore Go.Proofs.YthdadohmomhchaaB
set_option linter.unusedVariables false
set_option linter.unusedSimpArgs false
theorem spec_IsLine_f (l : List S30) : Ev (fun k => spec_IsLine.f k l) (lineB l) := by
  unfold lineB
  by_cases h : l.length ≤ 200
  · rw [decide_eq_true h, Bool.true_and]
    exact ev_pos (by omega) (ev_bind (spec_l16Points_f l (by omega)) (ev_now rfl))
  · rw [decide_eq_false h, Bool.false_and]
    exact ev_neg (by omega) (ev_now rfl)

end Go.Proofs.Ythdadohmomhchaa.Pure

namespace Go.Proofs.Ythdadohmomhchaa.Pure
open Go.RowKit Go.Proofs.Ythdadohmomhchaa.F Go.Proofs.YthdadohmomhchaaW.PrintWords Go.Proofs.YthdadohmomhchaaW.PrintLast Go.Proofs.YthdadohmomhchaaW.PrintMore Go.Proofs.YthdadohmomhchaaB
set_option linter.unusedVariables false
set_option linter.unusedSimpArgs false
theorem spec_l28Pen_f (a : Int) : spec_l28Pen.f a = some (inB a 1 8) := by
  simp only [spec_l28Pen.f, spec_l01In_f, Option.bind_some]

end Go.Proofs.Ythdadohmomhchaa.Pure

namespace Go.Proofs.Ythdadohmomhchaa.Pure
open Go.RowKit Go.Proofs.Ythdadohmomhchaa.F Go.Proofs.YthdadohmomhchaaW.PrintWords Go.Proofs.YthdadohmomhchaaW.PrintLast Go.Proofs.YthdadohmomhchaaW.PrintMore Go.Proofs.YthdadohmomhchaaB
set_option linter.unusedVariables false
set_option linter.unusedSimpArgs false
theorem spec_l28Code_l0 (xs : List S116) (hx : xs.length ≤ 9223372036854775807) : ∀ (ys : List S116) (m : Nat), xs.drop m = ys →
    Ev (fun k => spec_l28Code.l0 k xs m) (if ys.all strokeB = true then (if 40 < xs.length then 3 else 0) else 1)
  | [], m, h => by
    have := drop_nil h
    refine ev_step (fun _ => rfl) (ev_neg (by omega) (ev_now ?_))
    simp only [List.all_nil, if_true]
    by_cases h4 : 40 < xs.length
    · rw [if_pos (by omega), if_pos h4]
    · rw [if_neg (by omega), if_neg h4]
  | y :: ys, m, h => by
    obtain ⟨hm, _, hd⟩ := drop_cons h
    refine ev_step (fun _ => rfl) (ev_pos (by omega) (ev_pos (by omega) ?_))
    rw [rdS h, w64 (by omega) (by omega)]
    refine ev_some (spec_l28Pen_f _) ?_
    have ih := spec_l28Code_l0 xs hx ys (m + 1) hd
    rw [List.all_cons, show strokeB y = (inB y.f0 1 8 && lineB y.f1 && decide (2 ≤ y.f1.length)) from rfl]
    cases inB y.f0 1 8
    · exact ev_neg (by simp) (ev_now (by simp))
    refine ev_pos rfl (ev_bind (spec_IsLine_f y.f1) ?_)
    cases lineB y.f1
    · exact ev_neg (by simp) (ev_now (by simp))
    refine ev_pos rfl (ev_ite (fun h2 => ev_now ?_) (fun h2 => ev_eq ih ?_))
    · rw [decide_eq_false (show ¬ 2 ≤ y.f1.length by omega)]; simp
    · rw [decide_eq_true (show 2 ≤ y.f1.length by omega)]; simp
theorem spec_l28Code_f (xs : List S116) (hx : xs.length ≤ 9223372036854775807) : Ev (fun k => spec_l28Code.f k xs) (codeS xs) := spec_l28Code_l0 xs hx xs 0 rfl

end Go.Proofs.Ythdadohmomhchaa.Pure

namespace Go.Proofs.Ythdadohmomhchaa.Pure
open Go.RowKit Go.Proofs.Ythdadohmomhchaa.F Go.Proofs.YthdadohmomhchaaW.PrintWords Go.Proofs.YthdadohmomhchaaW.PrintLast Go.Proofs.YthdadohmomhchaaW.PrintMore Go.Proofs.YthdadohmomhchaaB
set_option linter.unusedVariables false
set_option linter.unusedSimpArgs false
theorem spec_ReverseLine_l0 (l : List S30) (hl : l.length ≤ 1048576) : ∀ (d : Nat) (out : List S30), d ≤ l.length → out.length + d ≤ l.length →
    Ev (fun k => spec_ReverseLine.l0 k l out ((d : Int) - 1)) (out ++ (l.take d).reverse, 0) := by
  intro d
  induction d with
  | zero =>
    intro out hd ho
    refine ev_step (fun _ => rfl) (ev_neg (by omega) (ev_now ?_))
    simp
  | succ d ih =>
    intro out hd ho
    obtain ⟨y, hy⟩ : ∃ y, l[d]? = some y := ⟨l[d], List.getElem?_eq_getElem (by omega)⟩
    have hdr : l.drop d = y :: l.drop (d + 1) := by
      rw [List.getElem?_eq_getElem (by omega)] at hy
      injection hy with hy
      rw [← hy]
      exact List.drop_eq_getElem_cons (by omega)
    rw [show ((d + 1 : Nat) : Int) - 1 = (d : Int) by omega]
    refine ev_step (fun _ => rfl) (ev_pos (by omega) (ev_pos (by omega) (ev_pos (by omega) (ev_pos (by omega) ?_))))
    rw [rdP hdr, w64 (by omega) (by omega)]
    refine ev_eq (ih _ (by omega) (by simp; omega)) ?_
    rw [take_snoc hdr, List.reverse_append, List.append_assoc]
    rfl
theorem spec_ReverseLine_f (l : List S30) (hl : lineB l = true) : Ev (fun k => spec_ReverseLine.f k l) (l.reverse, 0) := by
  have h2 : l.length ≤ 200 := by
    unfold lineB at hl
    simp only [Bool.and_eq_true, decide_eq_true_eq] at hl
    exact hl.1
  refine ev_bind (spec_IsLine_f l) ?_
  rw [hl]
  refine ev_pos rfl ?_
  rw [w64 (by omega) (by omega)]
  have h := spec_ReverseLine_l0 l (by omega) l.length [] (by omega) (by simp)
  rw [List.take_length] at h
  exact h

end Go.Proofs.Ythdadohmomhchaa.Pure

namespace Go.Proofs.Ythdadohmomhchaa.Pure
open Go.RowKit Go.Proofs.Ythdadohmomhchaa.F Go.Proofs.YthdadohmomhchaaW.PrintWords Go.Proofs.YthdadohmomhchaaW.PrintLast Go.Proofs.YthdadohmomhchaaW.PrintMore Go.Proofs.YthdadohmomhchaaB
set_option linter.unusedVariables false
set_option linter.unusedSimpArgs false
theorem spec_l31Stroke_f (xs : List S116) (h : codeS xs = 0) (a : Int) (h0 : 0 ≤ a) (h1 : a ≤ 2 * xs.length - 1) : Ev (fun k => spec_l31Stroke.f k xs a) ((numS xs a).f0, (numS xs a).f1) := by
  have hz := codeS_zero h
  have hm := rdS_mem (xs := xs) (a := a / 2) (by omega) (by omega)
  have hl := lineB_of h hm
  unfold spec_l31Stroke.f numS
  rw [tmod2 h0, half_w h0 (by omega)]
  refine ev_ite (fun hq => ?_) (fun hq => ?_)
  · rw [if_pos hq]
    refine ev_pos (by omega) (ev_pos (by omega) ?_)
    exact ev_bind (ev_bind (spec_ReverseLine_f _ hl) (ev_now rfl)) (ev_now rfl)
  · rw [if_neg hq]
    exact ev_pos (by omega) (ev_pos (by omega) (ev_now rfl))

end Go.Proofs.Ythdadohmomhchaa.Pure

namespace Go.Proofs.Ythdadohmomhchaa.Pure
open Go.RowKit Go.Proofs.Ythdadohmomhchaa.F Go.Proofs.YthdadohmomhchaaW.PrintWords Go.Proofs.YthdadohmomhchaaW.PrintLast Go.Proofs.YthdadohmomhchaaW.PrintMore Go.Proofs.YthdadohmomhchaaB
set_option linter.unusedVariables false
set_option linter.unusedSimpArgs false
theorem spec_TurnOnly_l0 (xs : List S116) (h : codeS xs = 0) : ∀ (ys : List S116) (m : Nat) (a b : Int) (out : List Int), xs.drop m = ys → out.length ≤ m →
    Ev (fun k => spec_TurnOnly.l0 k xs out m a b) (out ++ tOnly m a b ys, 0)
  | [], m, a, b, out, hd, ho => by
    have := drop_nil hd
    exact ev_step (fun _ => rfl) (ev_neg (by omega) (ev_now (by rw [show tOnly m a b [] = [] from rfl, List.append_nil])))
  | y :: ys, m, a, b, out, hd, ho => by
    obtain ⟨hm, _, hd2⟩ := drop_cons hd
    have hz := codeS_zero h
    have hy := strokeB_len (hz.2 y (List.mem_of_mem_drop (by rw [hd]; exact List.mem_cons_self)))
    have e1 : numS xs (2 * (m : Int) + 1) = turnS y := by
      unfold numS
      rw [if_pos (by omega), show (2 * (m : Int) + 1) / 2 = (m : Int) by omega, rdS hd]
    have e0 : numS xs (2 * (m : Int)) = y := by
      unfold numS
      rw [if_neg (by omega), show (2 * (m : Int)) / 2 = (m : Int) by omega, rdS hd]
    have s1 := spec_l31Stroke_f xs h (2 * (m : Int) + 1) (by omega) (by omega)
    have s0 := spec_l31Stroke_f xs h (2 * (m : Int)) (by omega) (by omega)
    rw [e1] at s1
    rw [e0] at s0
    refine ev_step (fun _ => rfl) (ev_pos (by omega) (ev_pos (by omega) ?_))
    rw [rdS hd, w64 (x := (m : Int) + 1) (by omega) (by omega), w64 (x := 2 * (m : Int)) (by omega) (by omega), w64 (x := 2 * (m : Int) + 1) (by omega) (by omega), w64 (x := (y.f1.length : Int) - 1) (by omega) (by omega), tOnly_cons]
    refine ev_pos (by omega) (ev_pos (by omega) (ev_some rfl (ev_bind (spec_l01Root_f _) (ev_pos (by omega) (ev_some rfl (ev_bind (spec_l01Root_f _) ?_))))))
    refine ev_ite (fun hq => ?_) (fun hq => ?_)
    · rw [if_pos (show distM a b (rd_T30 y.f1 (y.f1.length - 1)).f0 (rd_T30 y.f1 (y.f1.length - 1)).f1 < distM a b (rd_T30 y.f1 0).f0 (rd_T30 y.f1 0).f1 from hq)]
      refine ev_pos (by omega) (ev_bind s1 ?_)
      have el : (turnS y).f1.length = y.f1.length := List.length_reverse
      rw [el, w64 (x := (y.f1.length : Int) - 1) (by omega) (by omega)]
      refine ev_pos (by omega) (ev_pos (by omega) ?_)
      rw [show rd_T30 (turnS y).f1 ((y.f1.length : Int) - 1) = rd_T30 y.f1 0 from rev_last y.f1 (by omega)]
      refine ev_eq (spec_TurnOnly_l0 xs h ys (m + 1) _ _ _ hd2 (by simp; omega)) ?_
      rw [List.append_assoc]
      rfl
    · rw [if_neg (show ¬ (distM a b (rd_T30 y.f1 (y.f1.length - 1)).f0 (rd_T30 y.f1 (y.f1.length - 1)).f1 < distM a b (rd_T30 y.f1 0).f0 (rd_T30 y.f1 0).f1) from hq)]
      refine ev_pos (by omega) (ev_bind s0 ?_)
      rw [w64 (x := (y.f1.length : Int) - 1) (by omega) (by omega)]
      refine ev_pos (by omega) (ev_pos (by show ((y.f1.length : Int) - 1) < (y.f1.length : Int); omega) (ev_eq (spec_TurnOnly_l0 xs h ys (m + 1) _ _ _ hd2 (by simp; omega)) ?_))
      rw [List.append_assoc]
      rfl
theorem spec_TurnOnly_f (xs : List S116) (hx : xs.length ≤ 9223372036854775807) : Ev (fun k => spec_TurnOnly.f k xs) (resOnly xs) := by
  refine ev_bind (spec_l28Code_f xs hx) ?_
  unfold resOnly
  refine ev_ite (fun h => ?_) (fun h => ?_)
  · rw [if_pos h]
    exact spec_TurnOnly_l0 xs h xs 0 0 0 [] rfl (Nat.le_refl _)
  · rw [if_neg h]
    exact ev_now rfl

end Go.Proofs.Ythdadohmomhchaa.Pure

namespace Go.Proofs.Ythdadohmomhchaa.Pure
open Go.RowKit Go.Proofs.Ythdadohmomhchaa.F Go.Proofs.YthdadohmomhchaaW.PrintWords Go.Proofs.YthdadohmomhchaaW.PrintLast Go.Proofs.YthdadohmomhchaaW.PrintMore Go.Proofs.YthdadohmomhchaaB
set_option linter.unusedVariables false
set_option linter.unusedSimpArgs false
theorem EQ_Int64S (A A' : Option Addr) (c c' : Nat) (l : List Int) (w : World) (hr : Kd.C (Kd.int .i64) w A l.length l) (hc : l.length ≤ c) (hr' : Kd.C (Kd.int .i64) w A' l.length l) (hc' : l.length ≤ c') (h : Ev (fun k => laws_eqInt64S.f k l l) true) :
    Calls Try.prog 22 #[.slice A l.length c, .slice A' l.length c'] w fun e w' => e = .returned (.bool true) ∧ Below w.heap.size w w' := by
  obtain ⟨k, h⟩ := h.rounds
  exact (laws_eqInt64S.calls k A c l A' c' l true w hr hc hr' hc' h).mono fun e w' ⟨h1, h2⟩ => ⟨h1, h2.below⟩

end Go.Proofs.Ythdadohmomhchaa.Pure

namespace Go.Proofs.Ythdadohmomhchaa.Pure
open Go.RowKit Go.Proofs.Ythdadohmomhchaa.F Go.Proofs.YthdadohmomhchaaW.PrintWords Go.Proofs.YthdadohmomhchaaW.PrintLast Go.Proofs.YthdadohmomhchaaW.PrintMore Go.Proofs.YthdadohmomhchaaB
set_option linter.unusedVariables false
set_option linter.unusedSimpArgs false
theorem EQ_StrokeS (A A' : Option Addr) (c c' : Nat) (l : List S116) (w : World) (hr : Kd.C k116 w A l.length l) (hc : l.length ≤ c) (hr' : Kd.C k116 w A' l.length l) (hc' : l.length ≤ c') (h : Ev (fun k => laws_eqStrokeS.f k l l) true) :
    Calls Try.prog 19 #[.slice A l.length c, .slice A' l.length c'] w fun e w' => e = .returned (.bool true) ∧ Below w.heap.size w w' := by
  obtain ⟨k, h⟩ := h.rounds
  exact (laws_eqStrokeS.calls k A c l A' c' l true w hr hc hr' hc' h).mono fun e w' ⟨h1, h2⟩ => ⟨h1, h2⟩

end Go.Proofs.Ythdadohmomhchaa.Pure

namespace Go.Proofs.Ythdadohmomhchaa.Pure
open Go.RowKit Go.Proofs.Ythdadohmomhchaa.F Go.Proofs.YthdadohmomhchaaW.PrintWords Go.Proofs.YthdadohmomhchaaW.PrintLast Go.Proofs.YthdadohmomhchaaW.PrintMore Go.Proofs.YthdadohmomhchaaB
set_option linter.unusedVariables false
set_option linter.unusedSimpArgs false
theorem HD_Int64S (A : Option Addr) (c m : Nat) (l : List Int) (a n : Int) (w : World) (hm : l.length = m) (hr : Kd.C (Kd.int .i64) w A l.length l) (hc : l.length ≤ c) (h : Ev (fun k => laws_heldInt64S.f k l a) n) :
    Calls Try.prog 25 #[.slice A m c, .int .i64 a] w fun e w' => e = .returned (.int .i64 n) ∧ Below w.heap.size w w' := by
  obtain ⟨k, h⟩ := h.rounds
  subst hm
  exact (laws_heldInt64S.calls k A c l a n w hr hc h).mono fun e w' ⟨h1, h2⟩ => ⟨h1, h2.below⟩

end Go.Proofs.Ythdadohmomhchaa.Pure

namespace Go.Proofs.Ythdadohmomhchaa.Pure
open Go.RowKit Go.Proofs.Ythdadohmomhchaa.F Go.Proofs.YthdadohmomhchaaW.PrintWords Go.Proofs.YthdadohmomhchaaW.PrintLast Go.Proofs.YthdadohmomhchaaW.PrintMore Go.Proofs.YthdadohmomhchaaB
set_option linter.unusedVariables false
set_option linter.unusedSimpArgs false
theorem MK_Int64S (P : Nat → Prop) (A : Option Addr) (c : Nat) (l ys : List Int) (a n : Int) (w0 w : World) (hB : Below w0.heap.size w0 w) (hO : Kd.R (Kd.int .i64) 2 w w0.heap.size P (.slice A l.length c) l) (h : Ev (fun k => laws_markInt64S.f k l a) (n, ys)) :
    Calls Try.prog 24 #[.slice A l.length c, .int .i64 a] w fun e w' => e = .returned (.int .i64 n) ∧ Kd.R (Kd.int .i64) 2 w' w0.heap.size (fun k => P k ∨ w.heap.size ≤ k) (.slice A l.length c) ys ∧ Below w0.heap.size w0 w' ∧ Kept w w' P := by
  obtain ⟨k, h⟩ := h.rounds
  exact laws_markInt64S.calls k P _ l a n ys w0 w hB hO h

end Go.Proofs.Ythdadohmomhchaa.Pure

namespace Go.Proofs.Ythdadohmomhchaa.Pure
open Go.RowKit Go.Proofs.Ythdadohmomhchaa.F Go.Proofs.YthdadohmomhchaaW.PrintWords Go.Proofs.YthdadohmomhchaaW.PrintLast Go.Proofs.YthdadohmomhchaaW.PrintMore Go.Proofs.YthdadohmomhchaaB
set_option linter.unusedVariables false
set_option linter.unusedSimpArgs false
section
variable {α : Type} {d : Kd α} {e : Nat} {w : World} {base : Nat} {ok : Nat → Prop} {A : Option Addr} {n c : Nat} {xs : List α}
theorem Kd.R_now (h : d.R e w base ok (.slice A n c) xs) (hl : xs.length = n) : xs.length ≤ c ∧ d.C w A xs.length xs := by
  obtain ⟨h1, h2, h3⟩ := Kd.R_reads' h
  exact ⟨by omega, h3⟩
theorem Kd.S_now (h : Kd.S d e w base ok (.slice A n c) xs) (hl : xs.length = n) : xs.length ≤ c ∧ d.C w A xs.length xs := by
  obtain ⟨h1, h2, h3⟩ := Kd.S_reads' h
  exact ⟨by omega, h3⟩
end

end Go.Proofs.Ythdadohmomhchaa.Pure

namespace Go.Proofs.Ythdadohmomhchaa.Pure
open Go.RowKit Go.Proofs.Ythdadohmomhchaa.F Go.Proofs.YthdadohmomhchaaW.PrintWords Go.Proofs.YthdadohmomhchaaW.PrintLast Go.Proofs.YthdadohmomhchaaW.PrintMore Go.Proofs.YthdadohmomhchaaB
set_option linter.unusedVariables false
set_option linter.unusedSimpArgs false
theorem SZ_StrokeS (A : Option Addr) (c : Nat) (l : List S109) (a n : Int) (w : World) (hr : Kd.C k109 w A l.length l) (hc : l.length ≤ c) (h : Ev (fun k => laws_szStrokeS.f k l a) n) :
    Calls Try.prog 14 #[.slice A l.length c, .int .i64 a] w fun e w' => e = .returned (.int .i64 n) ∧ Below w.heap.size w w' := by
  obtain ⟨k, h⟩ := h.rounds
  exact (laws_szStrokeS.calls k A c l a n w hr hc h).mono fun e w' ⟨h1, h2⟩ => ⟨h1, h2⟩

end Go.Proofs.Ythdadohmomhchaa.Pure

namespace Go.Proofs.Ythdadohmomhchaa.Pure
open Go.RowKit Go.Proofs.Ythdadohmomhchaa.F Go.Proofs.YthdadohmomhchaaW.PrintWords Go.Proofs.YthdadohmomhchaaW.PrintLast Go.Proofs.YthdadohmomhchaaW.PrintMore Go.Proofs.YthdadohmomhchaaB
set_option linter.unusedVariables false
set_option linter.unusedSimpArgs false
theorem TO_StrokeS (A : Option Addr) (c : Nat) (l : List S109) (xs : List S116) (w : World) (hr : Kd.C k109 w A l.length l) (hc : l.length ≤ c) (h : Ev (fun k => laws_toStrokeS.f k l) xs) :
    Calls Try.prog 16 #[.slice A l.length c] w fun e w' => ∃ A' c', e = .returned (.slice A' xs.length c') ∧ Kd.S k116 116 w' w.heap.size (fun k => w.heap.size ≤ k ∧ k < w'.heap.size) (.slice A' xs.length c') xs ∧ Below w.heap.size w w' := by
  obtain ⟨k, h⟩ := h.rounds
  refine (laws_toStrokeS.calls k A c l xs w hr hc h).mono fun e w' ⟨v, h1, h2, h3⟩ => ?_
  obtain ⟨A', c', rfl⟩ := Kd.S_slice h2
  exact ⟨A', c', h1, Kd.S_mono (Kd.S_bound h2) (fun k hk => ⟨hk.2.1, hk.2.2.1⟩), h3⟩

end Go.Proofs.Ythdadohmomhchaa.Pure
