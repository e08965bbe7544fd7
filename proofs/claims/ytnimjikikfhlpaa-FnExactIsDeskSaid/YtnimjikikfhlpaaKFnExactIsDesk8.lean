/-
  A part of the proof of FnExactIsDesk: contracts of the Go functions that it reaches, and plain statements on what they come to; each says its own conditions.
-/
import Derived.Deep.Slices
import Derived.ChangeArms
import Derived.Test.YtnimjikikfhlpaaKFnExactIsDesk7

namespace Go.Proofs.Ytnimjikikfhlpaa.F
open Go.RowKit Go.Proofs.YtnimjikikfhlpaaW.PrintWords Go.Proofs.YtnimjikikfhlpaaW.PrintLast Go.Proofs.YtnimjikikfhlpaaW.PrintMore
attribute [local go_sem] max2_int min2_int max_two min_two max_three min_three max_four min_four   -- for this text's walks alone
set_option linter.unusedVariables false
set_option linter.unusedSimpArgs false

/-! ### laws_FnExactIsDesk: function 11 -/
def laws_FnExactIsDesk.f (k : Nat) (a0_0 : Int) (a0_1 : Int) (a0_2 : Int) (a0_3 : Int) (a0_4 : Int) (l0_5 : List Int) (l0_6 : List Int) (a0_7 : Int) (a0_8 : Int) (a0_9 : Int) (a0_10 : Int) (a0_11 : Int) (a0_12 : Int) (a0_13 : Int) : Option (Bool) := (laws_szDesk.f a0_0 a0_1 a0_2 a0_3 a0_4 l0_5 l0_6 a0_7 a0_8 a0_9 a0_10 a0_11 a0_12 a0_13 1048576).bind fun t948 => (if t948 < 0 then (some true) else ((laws_toDesk.f k a0_0 a0_1 a0_2 a0_3 a0_4 l0_5 l0_6 a0_7 a0_8 a0_9 a0_10 a0_11 a0_12 a0_13).bind fun bt949 => ((spec_IsDesk.f k bt949.1 bt949.2.1 bt949.2.2.1 bt949.2.2.2.1 bt949.2.2.2.2.1 bt949.2.2.2.2.2.1 bt949.2.2.2.2.2.2.1 bt949.2.2.2.2.2.2.2.1 bt949.2.2.2.2.2.2.2.2.1 bt949.2.2.2.2.2.2.2.2.2.1 bt949.2.2.2.2.2.2.2.2.2.2.1 bt949.2.2.2.2.2.2.2.2.2.2.2.1 bt949.2.2.2.2.2.2.2.2.2.2.2.2.1 bt949.2.2.2.2.2.2.2.2.2.2.2.2.2).bind fun t967 => ((laws_toDesk.f k a0_0 a0_1 a0_2 a0_3 a0_4 l0_5 l0_6 a0_7 a0_8 a0_9 a0_10 a0_11 a0_12 a0_13).bind fun bt968 => ((impl_IsDesk.f k bt968.1 bt968.2.1 bt968.2.2.1 bt968.2.2.2.1 bt968.2.2.2.2.1 bt968.2.2.2.2.2.1 bt968.2.2.2.2.2.2.1 bt968.2.2.2.2.2.2.2.1 bt968.2.2.2.2.2.2.2.2.1 bt968.2.2.2.2.2.2.2.2.2.1 bt968.2.2.2.2.2.2.2.2.2.2.1 bt968.2.2.2.2.2.2.2.2.2.2.2.1 bt968.2.2.2.2.2.2.2.2.2.2.2.2.1 bt968.2.2.2.2.2.2.2.2.2.2.2.2.2).bind fun t987 => (if (t987 != t967) = true then (none) else ((laws_toDesk.f k a0_0 a0_1 a0_2 a0_3 a0_4 l0_5 l0_6 a0_7 a0_8 a0_9 a0_10 a0_11 a0_12 a0_13).bind fun bt988 => ((laws_eqDesk.f k bt968.1 bt968.2.1 bt968.2.2.1 bt968.2.2.2.1 bt968.2.2.2.2.1 bt968.2.2.2.2.2.1 bt968.2.2.2.2.2.2.1 bt968.2.2.2.2.2.2.2.1 bt968.2.2.2.2.2.2.2.2.1 bt968.2.2.2.2.2.2.2.2.2.1 bt968.2.2.2.2.2.2.2.2.2.2.1 bt968.2.2.2.2.2.2.2.2.2.2.2.1 bt968.2.2.2.2.2.2.2.2.2.2.2.2.1 bt968.2.2.2.2.2.2.2.2.2.2.2.2.2 bt988.1 bt988.2.1 bt988.2.2.1 bt988.2.2.2.1 bt988.2.2.2.2.1 bt988.2.2.2.2.2.1 bt988.2.2.2.2.2.2.1 bt988.2.2.2.2.2.2.2.1 bt988.2.2.2.2.2.2.2.2.1 bt988.2.2.2.2.2.2.2.2.2.1 bt988.2.2.2.2.2.2.2.2.2.2.1 bt988.2.2.2.2.2.2.2.2.2.2.2.1 bt988.2.2.2.2.2.2.2.2.2.2.2.2.1 bt988.2.2.2.2.2.2.2.2.2.2.2.2.2).bind fun t1006 => (if t1006 = true then (some true) else (none))))))))))
theorem laws_FnExactIsDesk.mono : ∀ a0 a1 a2 a3 a4 a5 a6 a7 a8 a9 a10 a11 a12 a13 k, LeO (laws_FnExactIsDesk.f k a0 a1 a2 a3 a4 a5 a6 a7 a8 a9 a10 a11 a12 a13) (laws_FnExactIsDesk.f (k + 1) a0 a1 a2 a3 a4 a5 a6 a7 a8 a9 a10 a11 a12 a13) := by
  intro a0 a1 a2 a3 a4 a5 a6 a7 a8 a9 a10 a11 a12 a13 k
  unfold laws_FnExactIsDesk.f
  repeat' first
      | (with_reducible exact impl_IsDesk.mono _ _ _ _ _ _ _ _ _ _ _ _ _ _ _)
      | (with_reducible exact laws_eqDesk.mono _ _ _ _ _ _ _ _ _ _ _ _ _ _ _ _ _ _ _ _ _ _ _ _ _ _ _ _ _)
      | (with_reducible exact laws_toDesk.mono _ _ _ _ _ _ _ _ _ _ _ _ _ _ _)
      | (with_reducible exact spec_IsDesk.mono _ _ _ _ _ _ _ _ _ _ _ _ _ _ _)
      | (with_reducible exact LeO.refl _)
      | (with_reducible exact LeO.none _)
      | (with_reducible refine LeO.ite ?_ ?_)
      | (with_reducible refine LeO.bind ?_ (fun _ => ?_))
      | exact impl_IsDesk.mono _ _ _ _ _ _ _ _ _ _ _ _ _ _ _
      | exact laws_eqDesk.mono _ _ _ _ _ _ _ _ _ _ _ _ _ _ _ _ _ _ _ _ _ _ _ _ _ _ _ _ _
      | exact laws_toDesk.mono _ _ _ _ _ _ _ _ _ _ _ _ _ _ _
      | exact spec_IsDesk.mono _ _ _ _ _ _ _ _ _ _ _ _ _ _ _
      | exact LeO.none _
      | refine LeO.ite ?_ ?_
      | refine LeO.bind ?_ (fun _ => ?_)
set_option maxHeartbeats 8000000 in
set_option maxRecDepth 100000 in
theorem laws_FnExactIsDesk.calls (k : Nat) (a0_0 : Int) (a0_1 : Int) (a0_2 : Int) (a0_3 : Int) (a0_4 : Int) (A0_5 : Option Addr) (c0_5 : Nat) (l0_5 : List Int) (A0_6 : Option Addr) (c0_6 : Nat) (l0_6 : List Int) (a0_7 : Int) (a0_8 : Int) (a0_9 : Int) (a0_10 : Int) (a0_11 : Int) (a0_12 : Int) (a0_13 : Int) (r : Bool) (w : World) (hr0_5 : Kd.C (Kd.int .i64) w A0_5 l0_5.length l0_5) (hc0_5 : l0_5.length ≤ c0_5) (hr0_6 : Kd.C (Kd.int .i64) w A0_6 l0_6.length l0_6) (hc0_6 : l0_6.length ≤ c0_6) (h : laws_FnExactIsDesk.f k a0_0 a0_1 a0_2 a0_3 a0_4 l0_5 l0_6 a0_7 a0_8 a0_9 a0_10 a0_11 a0_12 a0_13 = some r) :
    Calls Try.prog 11 #[.agg #[.int .i64 a0_0, .int .i64 a0_1, .int .i64 a0_2, .int .i64 a0_3, .int .i64 a0_4, .slice A0_5 l0_5.length c0_5, .slice A0_6 l0_6.length c0_6, .int .i64 a0_7, .int .i64 a0_8, .int .i64 a0_9, .int .i64 a0_10, .int .i64 a0_11, .int .i64 a0_12, .int .i64 a0_13]] w fun e w' => e = .returned (.bool r) ∧ Below w.heap.size w w' := by
  have hu84 := Try.underlying84
  have hu89 := Try.underlying89
  have HR0_5 := Aside0.mk hr0_5
  have HC0_5 := Aside0.mk hc0_5
  clear hr0_5 hc0_5
  have HR0_6 := Aside0.mk hr0_6
  have HC0_6 := Aside0.mk hc0_6
  clear hr0_6 hc0_6
  have HB := Aside0.mk (Below.refl w.heap.size w)
  have H : ((laws_szDesk.f a0_0 a0_1 a0_2 a0_3 a0_4 l0_5 l0_6 a0_7 a0_8 a0_9 a0_10 a0_11 a0_12 a0_13 1048576).bind fun t948 => (if t948 < 0 then (some true) else ((laws_toDesk.f k a0_0 a0_1 a0_2 a0_3 a0_4 l0_5 l0_6 a0_7 a0_8 a0_9 a0_10 a0_11 a0_12 a0_13).bind fun bt949 => ((spec_IsDesk.f k bt949.1 bt949.2.1 bt949.2.2.1 bt949.2.2.2.1 bt949.2.2.2.2.1 bt949.2.2.2.2.2.1 bt949.2.2.2.2.2.2.1 bt949.2.2.2.2.2.2.2.1 bt949.2.2.2.2.2.2.2.2.1 bt949.2.2.2.2.2.2.2.2.2.1 bt949.2.2.2.2.2.2.2.2.2.2.1 bt949.2.2.2.2.2.2.2.2.2.2.2.1 bt949.2.2.2.2.2.2.2.2.2.2.2.2.1 bt949.2.2.2.2.2.2.2.2.2.2.2.2.2).bind fun t967 => ((laws_toDesk.f k a0_0 a0_1 a0_2 a0_3 a0_4 l0_5 l0_6 a0_7 a0_8 a0_9 a0_10 a0_11 a0_12 a0_13).bind fun bt968 => ((impl_IsDesk.f k bt968.1 bt968.2.1 bt968.2.2.1 bt968.2.2.2.1 bt968.2.2.2.2.1 bt968.2.2.2.2.2.1 bt968.2.2.2.2.2.2.1 bt968.2.2.2.2.2.2.2.1 bt968.2.2.2.2.2.2.2.2.1 bt968.2.2.2.2.2.2.2.2.2.1 bt968.2.2.2.2.2.2.2.2.2.2.1 bt968.2.2.2.2.2.2.2.2.2.2.2.1 bt968.2.2.2.2.2.2.2.2.2.2.2.2.1 bt968.2.2.2.2.2.2.2.2.2.2.2.2.2).bind fun t987 => (if (t987 != t967) = true then (none) else ((laws_toDesk.f k a0_0 a0_1 a0_2 a0_3 a0_4 l0_5 l0_6 a0_7 a0_8 a0_9 a0_10 a0_11 a0_12 a0_13).bind fun bt988 => ((laws_eqDesk.f k bt968.1 bt968.2.1 bt968.2.2.1 bt968.2.2.2.1 bt968.2.2.2.2.1 bt968.2.2.2.2.2.1 bt968.2.2.2.2.2.2.1 bt968.2.2.2.2.2.2.2.1 bt968.2.2.2.2.2.2.2.2.1 bt968.2.2.2.2.2.2.2.2.2.1 bt968.2.2.2.2.2.2.2.2.2.2.1 bt968.2.2.2.2.2.2.2.2.2.2.2.1 bt968.2.2.2.2.2.2.2.2.2.2.2.2.1 bt968.2.2.2.2.2.2.2.2.2.2.2.2.2 bt988.1 bt988.2.1 bt988.2.2.1 bt988.2.2.2.1 bt988.2.2.2.2.1 bt988.2.2.2.2.2.1 bt988.2.2.2.2.2.2.1 bt988.2.2.2.2.2.2.2.1 bt988.2.2.2.2.2.2.2.2.1 bt988.2.2.2.2.2.2.2.2.2.1 bt988.2.2.2.2.2.2.2.2.2.2.1 bt988.2.2.2.2.2.2.2.2.2.2.2.1 bt988.2.2.2.2.2.2.2.2.2.2.2.2.1 bt988.2.2.2.2.2.2.2.2.2.2.2.2.2).bind fun t1006 => (if t1006 = true then (some true) else (none))))))))))) = some r := h
  clear h
  replace H := Option.bind_eq_some_iff.mp H
  obtain ⟨t948, A20, H⟩ := H
  replace H : (if t948 < 0 then (some true) else ((laws_toDesk.f k a0_0 a0_1 a0_2 a0_3 a0_4 l0_5 l0_6 a0_7 a0_8 a0_9 a0_10 a0_11 a0_12 a0_13).bind fun bt949 => ((spec_IsDesk.f k bt949.1 bt949.2.1 bt949.2.2.1 bt949.2.2.2.1 bt949.2.2.2.2.1 bt949.2.2.2.2.2.1 bt949.2.2.2.2.2.2.1 bt949.2.2.2.2.2.2.2.1 bt949.2.2.2.2.2.2.2.2.1 bt949.2.2.2.2.2.2.2.2.2.1 bt949.2.2.2.2.2.2.2.2.2.2.1 bt949.2.2.2.2.2.2.2.2.2.2.2.1 bt949.2.2.2.2.2.2.2.2.2.2.2.2.1 bt949.2.2.2.2.2.2.2.2.2.2.2.2.2).bind fun t967 => ((laws_toDesk.f k a0_0 a0_1 a0_2 a0_3 a0_4 l0_5 l0_6 a0_7 a0_8 a0_9 a0_10 a0_11 a0_12 a0_13).bind fun bt968 => ((impl_IsDesk.f k bt968.1 bt968.2.1 bt968.2.2.1 bt968.2.2.2.1 bt968.2.2.2.2.1 bt968.2.2.2.2.2.1 bt968.2.2.2.2.2.2.1 bt968.2.2.2.2.2.2.2.1 bt968.2.2.2.2.2.2.2.2.1 bt968.2.2.2.2.2.2.2.2.2.1 bt968.2.2.2.2.2.2.2.2.2.2.1 bt968.2.2.2.2.2.2.2.2.2.2.2.1 bt968.2.2.2.2.2.2.2.2.2.2.2.2.1 bt968.2.2.2.2.2.2.2.2.2.2.2.2.2).bind fun t987 => (if (t987 != t967) = true then (none) else ((laws_toDesk.f k a0_0 a0_1 a0_2 a0_3 a0_4 l0_5 l0_6 a0_7 a0_8 a0_9 a0_10 a0_11 a0_12 a0_13).bind fun bt988 => ((laws_eqDesk.f k bt968.1 bt968.2.1 bt968.2.2.1 bt968.2.2.2.1 bt968.2.2.2.2.1 bt968.2.2.2.2.2.1 bt968.2.2.2.2.2.2.1 bt968.2.2.2.2.2.2.2.1 bt968.2.2.2.2.2.2.2.2.1 bt968.2.2.2.2.2.2.2.2.2.1 bt968.2.2.2.2.2.2.2.2.2.2.1 bt968.2.2.2.2.2.2.2.2.2.2.2.1 bt968.2.2.2.2.2.2.2.2.2.2.2.2.1 bt968.2.2.2.2.2.2.2.2.2.2.2.2.2 bt988.1 bt988.2.1 bt988.2.2.1 bt988.2.2.2.1 bt988.2.2.2.2.1 bt988.2.2.2.2.2.1 bt988.2.2.2.2.2.2.1 bt988.2.2.2.2.2.2.2.1 bt988.2.2.2.2.2.2.2.2.1 bt988.2.2.2.2.2.2.2.2.2.1 bt988.2.2.2.2.2.2.2.2.2.2.1 bt988.2.2.2.2.2.2.2.2.2.2.2.1 bt988.2.2.2.2.2.2.2.2.2.2.2.2.1 bt988.2.2.2.2.2.2.2.2.2.2.2.2.2).bind fun t1006 => (if t1006 = true then (some true) else (none)))))))))) = some r := H
  have A2 := Aside0.mk A20
  clear A20
  by_cases c3 : t948 < 0
  · rw [if_pos c3] at H
    have c3b0 : decide (t948 < 0) = true := decide_eq_true c3
    clear c3
    obtain rfl := Option.some.inj H
    go_enter Try.func11, Try.ntmps11
    go_wp2_with (first | ((with_reducible refine gate_dst (N := 1) rfl ?_); refine box_event ?hg (N := 1) ?hd (cs := #[.int .i64 a0_0, .int .i64 a0_1, .int .i64 a0_2, .int .i64 a0_3, .int .i64 a0_4, .slice A0_5 l0_5.length c0_5, .slice A0_6 l0_6.length c0_6, .int .i64 a0_7, .int .i64 a0_8, .int .i64 a0_9, .int .i64 a0_10, .int .i64 a0_11, .int .i64 a0_12, .int .i64 a0_13]) (t := 84) ?hr ?_; (case hd => rfl); (case hg => rfl); (case hr => first | (go_simp; done) | (go_simp; rfl)); intro gb947 hg w4 hbox hb; have n0_ := Aside0.mk (below_step (by repeat (first | (with_reducible first | exact HB.out | apply below_alloc | apply pw_below_drewN | apply below_drew1) | exact HB.out)) hb); have n1_ := Aside0.mk (hbox); have n2_ := Aside0.mk ((by rw [hg]; exact (below_size (by repeat (first | (with_reducible first | exact HB.out | apply below_alloc | apply pw_below_drewN | apply below_drew1) | exact HB.out))) : w.heap.size ≤ gb947)); have n3_ := Aside0.mk ((by rw [hg]; exact (below_size (by repeat (first | (with_reducible first | exact HB.out | apply below_alloc | apply pw_below_drewN | apply below_drew1) | exact HB.out))) : w.heap.size ≤ gb947)); clear HB; have HB := n0_; have BK947 := n1_; have GW947 := n2_; have GE947 := n3_; clear n0_ n1_ n2_ n3_; clear hb hbox hg; have hcz5_0 : w4.cell? ⟨gb947, 0, none⟩ = some (.int .i64 a0_0) := (blk_cell BK947.out 0).trans rfl; have hcz5_1 : w4.cell? ⟨gb947, 1, none⟩ = some (.int .i64 a0_1) := (blk_cell BK947.out 1).trans rfl; have hcz5_2 : w4.cell? ⟨gb947, 2, none⟩ = some (.int .i64 a0_2) := (blk_cell BK947.out 2).trans rfl; have hcz5_3 : w4.cell? ⟨gb947, 3, none⟩ = some (.int .i64 a0_3) := (blk_cell BK947.out 3).trans rfl; have hcz5_4 : w4.cell? ⟨gb947, 4, none⟩ = some (.int .i64 a0_4) := (blk_cell BK947.out 4).trans rfl; have hcz5_5 : w4.cell? ⟨gb947, 5, none⟩ = some (.slice A0_5 l0_5.length c0_5) := (blk_cell BK947.out 5).trans rfl; have hcz5_6 : w4.cell? ⟨gb947, 6, none⟩ = some (.slice A0_6 l0_6.length c0_6) := (blk_cell BK947.out 6).trans rfl; have hcz5_7 : w4.cell? ⟨gb947, 7, none⟩ = some (.int .i64 a0_7) := (blk_cell BK947.out 7).trans rfl; have hcz5_8 : w4.cell? ⟨gb947, 8, none⟩ = some (.int .i64 a0_8) := (blk_cell BK947.out 8).trans rfl; have hcz5_9 : w4.cell? ⟨gb947, 9, none⟩ = some (.int .i64 a0_9) := (blk_cell BK947.out 9).trans rfl; have hcz5_10 : w4.cell? ⟨gb947, 10, none⟩ = some (.int .i64 a0_10) := (blk_cell BK947.out 10).trans rfl; have hcz5_11 : w4.cell? ⟨gb947, 11, none⟩ = some (.int .i64 a0_11) := (blk_cell BK947.out 11).trans rfl; have hcz5_12 : w4.cell? ⟨gb947, 12, none⟩ = some (.int .i64 a0_12) := (blk_cell BK947.out 12).trans rfl; have hcz5_13 : w4.cell? ⟨gb947, 13, none⟩ = some (.int .i64 a0_13) := (blk_cell BK947.out 13).trans rfl; have hfz5_0 := blk_frozen BK947.out 0; have hfz5_1 := blk_frozen BK947.out 1; have hfz5_2 := blk_frozen BK947.out 2; have hfz5_3 := blk_frozen BK947.out 3; have hfz5_4 := blk_frozen BK947.out 4; have hfz5_5 := blk_frozen BK947.out 5; have hfz5_6 := blk_frozen BK947.out 6; have hfz5_7 := blk_frozen BK947.out 7; have hfz5_8 := blk_frozen BK947.out 8; have hfz5_9 := blk_frozen BK947.out 9; have hfz5_10 := blk_frozen BK947.out 10; have hfz5_11 := blk_frozen BK947.out 11; have hfz5_12 := blk_frozen BK947.out 12; have hfz5_13 := blk_frozen BK947.out 13) | ((with_reducible refine gate_callee (f := 51) rfl ?_); refine goesL_ (some 9) rfl rfl Try.func51 (by kernel_rfl) rfl #[.agg #[.int .i64 a0_0, .int .i64 a0_1, .int .i64 a0_2, .int .i64 a0_3, .int .i64 a0_4, .slice A0_5 l0_5.length c0_5, .slice A0_6 l0_6.length c0_6, .int .i64 a0_7, .int .i64 a0_8, .int .i64 a0_9, .int .i64 a0_10, .int .i64 a0_11, .int .i64 a0_12, .int .i64 a0_13], .int .i64 1048576] rfl (by (try simp only [List.map_toArray, List.map_cons, List.map_nil]); first | done | rfl | (simp only [List.length_drop, List.length_take]; rfl)) ?_; (with_reducible refine (laws_szDesk.calls a0_0 a0_1 a0_2 a0_3 a0_4 _ _ l0_5 _ _ l0_6 a0_7 a0_8 a0_9 a0_10 a0_11 a0_12 a0_13 1048576 t948 _ ?side1 ?side2 ?side3 ?side4 A2.out).mono ?_); (case side1 => repeat (first | exact (Kd.C_below HR0_5.out HB.out) | (with_reducible refine Kd.C_alloc ?_ _) | (with_reducible refine Kd.C_drewN ?_ _) | (with_reducible refine Kd.C_drew ?_))); (case side2 => exact HC0_5.out); (case side3 => repeat (first | exact (Kd.C_below HR0_6.out HB.out) | (with_reducible refine Kd.C_alloc ?_ _) | (with_reducible refine Kd.C_drewN ?_ _) | (with_reducible refine Kd.C_drew ?_))); (case side4 => exact HC0_6.out); rintro e w6 ⟨rfl, hb⟩; refine ⟨_, rfl, ?_⟩; have n0_ := Aside0.mk (blk_below (g := gb947) (o := .cells #[.int .i64 a0_0, .int .i64 a0_1, .int .i64 a0_2, .int .i64 a0_3, .int .i64 a0_4, .slice A0_5 l0_5.length c0_5, .slice A0_6 l0_6.length c0_6, .int .i64 a0_7, .int .i64 a0_8, .int .i64 a0_9, .int .i64 a0_10, .int .i64 a0_11, .int .i64 a0_12, .int .i64 a0_13] 84 (0, 0)) (by (with_reducible repeat (first | refine blk_drewN ?_ _ | refine blk_drew ?_ | refine blk_alloc ?_ _)); exact BK947.out) hb); have n1_ := Aside0.mk (below_step (by repeat (first | (with_reducible first | exact HB.out | apply below_alloc | apply pw_below_drewN | apply below_drew1 | refine below_set ?_ GE947.out) | exact HB.out)) hb); clear BK947; clear HB; have BK947 := n0_; have HB := n1_; clear n0_ n1_; (try clear hb); (try clear hb2); (try clear hk); (try clear hi)))
    go_ret
    exact ⟨by first | rfl | (simp [errW_none, errW_some] <;> rfl) | (simp [*, errW_none, errW_some] <;> rfl), by repeat (first | (with_reducible first | exact HB.out | apply below_alloc | apply pw_below_drewN | apply below_drew1 | refine below_set ?_ GE947.out) | exact HB.out)⟩
  · rw [if_neg c3] at H
    have c3b0 : decide (t948 < 0) = false := decide_eq_false c3
    clear c3
    replace H := Option.bind_eq_some_iff.mp H
    obtain ⟨⟨t949, t950, t951, t952, t953, t954, t957, t960, t961, t962, t963, t964, t965, t966⟩, A70, H⟩ := H
    replace H : ((spec_IsDesk.f k t949 t950 t951 t952 t953 t954 t957 t960 t961 t962 t963 t964 t965 t966).bind fun t967 => ((laws_toDesk.f k a0_0 a0_1 a0_2 a0_3 a0_4 l0_5 l0_6 a0_7 a0_8 a0_9 a0_10 a0_11 a0_12 a0_13).bind fun bt968 => ((impl_IsDesk.f k bt968.1 bt968.2.1 bt968.2.2.1 bt968.2.2.2.1 bt968.2.2.2.2.1 bt968.2.2.2.2.2.1 bt968.2.2.2.2.2.2.1 bt968.2.2.2.2.2.2.2.1 bt968.2.2.2.2.2.2.2.2.1 bt968.2.2.2.2.2.2.2.2.2.1 bt968.2.2.2.2.2.2.2.2.2.2.1 bt968.2.2.2.2.2.2.2.2.2.2.2.1 bt968.2.2.2.2.2.2.2.2.2.2.2.2.1 bt968.2.2.2.2.2.2.2.2.2.2.2.2.2).bind fun t987 => (if (t987 != t967) = true then (none) else ((laws_toDesk.f k a0_0 a0_1 a0_2 a0_3 a0_4 l0_5 l0_6 a0_7 a0_8 a0_9 a0_10 a0_11 a0_12 a0_13).bind fun bt988 => ((laws_eqDesk.f k bt968.1 bt968.2.1 bt968.2.2.1 bt968.2.2.2.1 bt968.2.2.2.2.1 bt968.2.2.2.2.2.1 bt968.2.2.2.2.2.2.1 bt968.2.2.2.2.2.2.2.1 bt968.2.2.2.2.2.2.2.2.1 bt968.2.2.2.2.2.2.2.2.2.1 bt968.2.2.2.2.2.2.2.2.2.2.1 bt968.2.2.2.2.2.2.2.2.2.2.2.1 bt968.2.2.2.2.2.2.2.2.2.2.2.2.1 bt968.2.2.2.2.2.2.2.2.2.2.2.2.2 bt988.1 bt988.2.1 bt988.2.2.1 bt988.2.2.2.1 bt988.2.2.2.2.1 bt988.2.2.2.2.2.1 bt988.2.2.2.2.2.2.1 bt988.2.2.2.2.2.2.2.1 bt988.2.2.2.2.2.2.2.2.1 bt988.2.2.2.2.2.2.2.2.2.1 bt988.2.2.2.2.2.2.2.2.2.2.1 bt988.2.2.2.2.2.2.2.2.2.2.2.1 bt988.2.2.2.2.2.2.2.2.2.2.2.2.1 bt988.2.2.2.2.2.2.2.2.2.2.2.2.2).bind fun t1006 => (if t1006 = true then (some true) else (none)))))))) = some r := H
    have A7 := Aside0.mk A70
    clear A70
    replace H := Option.bind_eq_some_iff.mp H
    obtain ⟨t967, A80, H⟩ := H
    replace H : ((laws_toDesk.f k a0_0 a0_1 a0_2 a0_3 a0_4 l0_5 l0_6 a0_7 a0_8 a0_9 a0_10 a0_11 a0_12 a0_13).bind fun bt968 => ((impl_IsDesk.f k bt968.1 bt968.2.1 bt968.2.2.1 bt968.2.2.2.1 bt968.2.2.2.2.1 bt968.2.2.2.2.2.1 bt968.2.2.2.2.2.2.1 bt968.2.2.2.2.2.2.2.1 bt968.2.2.2.2.2.2.2.2.1 bt968.2.2.2.2.2.2.2.2.2.1 bt968.2.2.2.2.2.2.2.2.2.2.1 bt968.2.2.2.2.2.2.2.2.2.2.2.1 bt968.2.2.2.2.2.2.2.2.2.2.2.2.1 bt968.2.2.2.2.2.2.2.2.2.2.2.2.2).bind fun t987 => (if (t987 != t967) = true then (none) else ((laws_toDesk.f k a0_0 a0_1 a0_2 a0_3 a0_4 l0_5 l0_6 a0_7 a0_8 a0_9 a0_10 a0_11 a0_12 a0_13).bind fun bt988 => ((laws_eqDesk.f k bt968.1 bt968.2.1 bt968.2.2.1 bt968.2.2.2.1 bt968.2.2.2.2.1 bt968.2.2.2.2.2.1 bt968.2.2.2.2.2.2.1 bt968.2.2.2.2.2.2.2.1 bt968.2.2.2.2.2.2.2.2.1 bt968.2.2.2.2.2.2.2.2.2.1 bt968.2.2.2.2.2.2.2.2.2.2.1 bt968.2.2.2.2.2.2.2.2.2.2.2.1 bt968.2.2.2.2.2.2.2.2.2.2.2.2.1 bt968.2.2.2.2.2.2.2.2.2.2.2.2.2 bt988.1 bt988.2.1 bt988.2.2.1 bt988.2.2.2.1 bt988.2.2.2.2.1 bt988.2.2.2.2.2.1 bt988.2.2.2.2.2.2.1 bt988.2.2.2.2.2.2.2.1 bt988.2.2.2.2.2.2.2.2.1 bt988.2.2.2.2.2.2.2.2.2.1 bt988.2.2.2.2.2.2.2.2.2.2.1 bt988.2.2.2.2.2.2.2.2.2.2.2.1 bt988.2.2.2.2.2.2.2.2.2.2.2.2.1 bt988.2.2.2.2.2.2.2.2.2.2.2.2.2).bind fun t1006 => (if t1006 = true then (some true) else (none))))))) = some r := H
    have A8 := Aside0.mk A80
    clear A80
    replace H := Option.bind_eq_some_iff.mp H
    obtain ⟨⟨t968, t969, t970, t971, t972, t973, t976, t979, t980, t981, t982, t983, t984, t985⟩, A90, H⟩ := H
    replace H : ((impl_IsDesk.f k t968 t969 t970 t971 t972 t973 t976 t979 t980 t981 t982 t983 t984 t985).bind fun t987 => (if (t987 != t967) = true then (none) else ((laws_toDesk.f k a0_0 a0_1 a0_2 a0_3 a0_4 l0_5 l0_6 a0_7 a0_8 a0_9 a0_10 a0_11 a0_12 a0_13).bind fun bt988 => ((laws_eqDesk.f k t968 t969 t970 t971 t972 t973 t976 t979 t980 t981 t982 t983 t984 t985 bt988.1 bt988.2.1 bt988.2.2.1 bt988.2.2.2.1 bt988.2.2.2.2.1 bt988.2.2.2.2.2.1 bt988.2.2.2.2.2.2.1 bt988.2.2.2.2.2.2.2.1 bt988.2.2.2.2.2.2.2.2.1 bt988.2.2.2.2.2.2.2.2.2.1 bt988.2.2.2.2.2.2.2.2.2.2.1 bt988.2.2.2.2.2.2.2.2.2.2.2.1 bt988.2.2.2.2.2.2.2.2.2.2.2.2.1 bt988.2.2.2.2.2.2.2.2.2.2.2.2.2).bind fun t1006 => (if t1006 = true then (some true) else (none)))))) = some r := H
    have A9 := Aside0.mk A90
    clear A90
    replace H := Option.bind_eq_some_iff.mp H
    obtain ⟨t987, A100, H⟩ := H
    replace H : (if (t987 != t967) = true then (none) else ((laws_toDesk.f k a0_0 a0_1 a0_2 a0_3 a0_4 l0_5 l0_6 a0_7 a0_8 a0_9 a0_10 a0_11 a0_12 a0_13).bind fun bt988 => ((laws_eqDesk.f k t968 t969 t970 t971 t972 t973 t976 t979 t980 t981 t982 t983 t984 t985 bt988.1 bt988.2.1 bt988.2.2.1 bt988.2.2.2.1 bt988.2.2.2.2.1 bt988.2.2.2.2.2.1 bt988.2.2.2.2.2.2.1 bt988.2.2.2.2.2.2.2.1 bt988.2.2.2.2.2.2.2.2.1 bt988.2.2.2.2.2.2.2.2.2.1 bt988.2.2.2.2.2.2.2.2.2.2.1 bt988.2.2.2.2.2.2.2.2.2.2.2.1 bt988.2.2.2.2.2.2.2.2.2.2.2.2.1 bt988.2.2.2.2.2.2.2.2.2.2.2.2.2).bind fun t1006 => (if t1006 = true then (some true) else (none))))) = some r := H
    have A10 := Aside0.mk A100
    clear A100
    by_cases c11 : (t987 != t967) = true
    · rw [if_pos c11] at H
      exact absurd H (by simp)
    · rw [if_neg c11] at H
      have c11b0 : (t987 != t967) = false := by simpa using c11
      (try (have c11b1 : decide (t987 = t967) = true := by simpa using c11))
      (try (have c11b2 : (t987 == t967) = true := by simpa using c11))
      clear c11
      replace H := Option.bind_eq_some_iff.mp H
      obtain ⟨⟨t988, t989, t990, t991, t992, t993, t996, t999, t1000, t1001, t1002, t1003, t1004, t1005⟩, A120, H⟩ := H
      replace H : ((laws_eqDesk.f k t968 t969 t970 t971 t972 t973 t976 t979 t980 t981 t982 t983 t984 t985 t988 t989 t990 t991 t992 t993 t996 t999 t1000 t1001 t1002 t1003 t1004 t1005).bind fun t1006 => (if t1006 = true then (some true) else (none))) = some r := H
      have A12 := Aside0.mk A120
      clear A120
      replace H := Option.bind_eq_some_iff.mp H
      obtain ⟨t1006, A130, H⟩ := H
      replace H : (if t1006 = true then (some true) else (none)) = some r := H
      have A13 := Aside0.mk A130
      clear A130
      by_cases c14 : t1006 = true
      · subst c14
        have H1 : (some true) = some r := by rw [if_pos rfl] at H; exact H
        clear H
        have H := H1
        clear H1
        obtain rfl := Option.some.inj H
        go_enter Try.func11, Try.ntmps11
        try go_wp2_with (first | ((with_reducible refine gate_dst (N := 1) rfl ?_); refine box_event ?hg (N := 1) ?hd (cs := #[.int .i64 a0_0, .int .i64 a0_1, .int .i64 a0_2, .int .i64 a0_3, .int .i64 a0_4, .slice A0_5 l0_5.length c0_5, .slice A0_6 l0_6.length c0_6, .int .i64 a0_7, .int .i64 a0_8, .int .i64 a0_9, .int .i64 a0_10, .int .i64 a0_11, .int .i64 a0_12, .int .i64 a0_13]) (t := 84) ?hr ?_; (case hd => rfl); (case hg => rfl); (case hr => first | (go_simp; done) | (go_simp; rfl)); intro gb947 hg w15 hbox hb; have n0_ := Aside0.mk (below_step (by repeat (first | (with_reducible first | exact HB.out | apply below_alloc | apply pw_below_drewN | apply below_drew1) | exact HB.out)) hb); have n1_ := Aside0.mk (hbox); have n2_ := Aside0.mk ((by rw [hg]; exact (below_size (by repeat (first | (with_reducible first | exact HB.out | apply below_alloc | apply pw_below_drewN | apply below_drew1) | exact HB.out))) : w.heap.size ≤ gb947)); have n3_ := Aside0.mk ((by rw [hg]; exact (below_size (by repeat (first | (with_reducible first | exact HB.out | apply below_alloc | apply pw_below_drewN | apply below_drew1) | exact HB.out))) : w.heap.size ≤ gb947)); clear HB; have HB := n0_; have BK947 := n1_; have GW947 := n2_; have GE947 := n3_; clear n0_ n1_ n2_ n3_; clear hb hbox hg; have hcz16_0 : w15.cell? ⟨gb947, 0, none⟩ = some (.int .i64 a0_0) := (blk_cell BK947.out 0).trans rfl; have hcz16_1 : w15.cell? ⟨gb947, 1, none⟩ = some (.int .i64 a0_1) := (blk_cell BK947.out 1).trans rfl; have hcz16_2 : w15.cell? ⟨gb947, 2, none⟩ = some (.int .i64 a0_2) := (blk_cell BK947.out 2).trans rfl; have hcz16_3 : w15.cell? ⟨gb947, 3, none⟩ = some (.int .i64 a0_3) := (blk_cell BK947.out 3).trans rfl; have hcz16_4 : w15.cell? ⟨gb947, 4, none⟩ = some (.int .i64 a0_4) := (blk_cell BK947.out 4).trans rfl; have hcz16_5 : w15.cell? ⟨gb947, 5, none⟩ = some (.slice A0_5 l0_5.length c0_5) := (blk_cell BK947.out 5).trans rfl; have hcz16_6 : w15.cell? ⟨gb947, 6, none⟩ = some (.slice A0_6 l0_6.length c0_6) := (blk_cell BK947.out 6).trans rfl; have hcz16_7 : w15.cell? ⟨gb947, 7, none⟩ = some (.int .i64 a0_7) := (blk_cell BK947.out 7).trans rfl; have hcz16_8 : w15.cell? ⟨gb947, 8, none⟩ = some (.int .i64 a0_8) := (blk_cell BK947.out 8).trans rfl; have hcz16_9 : w15.cell? ⟨gb947, 9, none⟩ = some (.int .i64 a0_9) := (blk_cell BK947.out 9).trans rfl; have hcz16_10 : w15.cell? ⟨gb947, 10, none⟩ = some (.int .i64 a0_10) := (blk_cell BK947.out 10).trans rfl; have hcz16_11 : w15.cell? ⟨gb947, 11, none⟩ = some (.int .i64 a0_11) := (blk_cell BK947.out 11).trans rfl; have hcz16_12 : w15.cell? ⟨gb947, 12, none⟩ = some (.int .i64 a0_12) := (blk_cell BK947.out 12).trans rfl; have hcz16_13 : w15.cell? ⟨gb947, 13, none⟩ = some (.int .i64 a0_13) := (blk_cell BK947.out 13).trans rfl; have hfz16_0 := blk_frozen BK947.out 0; have hfz16_1 := blk_frozen BK947.out 1; have hfz16_2 := blk_frozen BK947.out 2; have hfz16_3 := blk_frozen BK947.out 3; have hfz16_4 := blk_frozen BK947.out 4; have hfz16_5 := blk_frozen BK947.out 5; have hfz16_6 := blk_frozen BK947.out 6; have hfz16_7 := blk_frozen BK947.out 7; have hfz16_8 := blk_frozen BK947.out 8; have hfz16_9 := blk_frozen BK947.out 9; have hfz16_10 := blk_frozen BK947.out 10; have hfz16_11 := blk_frozen BK947.out 11; have hfz16_12 := blk_frozen BK947.out 12; have hfz16_13 := blk_frozen BK947.out 13) | ((with_reducible refine gate_callee (f := 51) rfl ?_); refine goesL_ (some 9) rfl rfl Try.func51 (by kernel_rfl) rfl #[.agg #[.int .i64 a0_0, .int .i64 a0_1, .int .i64 a0_2, .int .i64 a0_3, .int .i64 a0_4, .slice A0_5 l0_5.length c0_5, .slice A0_6 l0_6.length c0_6, .int .i64 a0_7, .int .i64 a0_8, .int .i64 a0_9, .int .i64 a0_10, .int .i64 a0_11, .int .i64 a0_12, .int .i64 a0_13], .int .i64 1048576] rfl (by (try simp only [List.map_toArray, List.map_cons, List.map_nil]); first | done | rfl | (simp only [List.length_drop, List.length_take]; rfl)) ?_; (with_reducible refine (laws_szDesk.calls a0_0 a0_1 a0_2 a0_3 a0_4 _ _ l0_5 _ _ l0_6 a0_7 a0_8 a0_9 a0_10 a0_11 a0_12 a0_13 1048576 t948 _ ?side1 ?side2 ?side3 ?side4 A2.out).mono ?_); (case side1 => repeat (first | exact (Kd.C_below HR0_5.out HB.out) | (with_reducible refine Kd.C_alloc ?_ _) | (with_reducible refine Kd.C_drewN ?_ _) | (with_reducible refine Kd.C_drew ?_))); (case side2 => exact HC0_5.out); (case side3 => repeat (first | exact (Kd.C_below HR0_6.out HB.out) | (with_reducible refine Kd.C_alloc ?_ _) | (with_reducible refine Kd.C_drewN ?_ _) | (with_reducible refine Kd.C_drew ?_))); (case side4 => exact HC0_6.out); rintro e w17 ⟨rfl, hb⟩; refine ⟨_, rfl, ?_⟩; have n0_ := Aside0.mk (blk_below (g := gb947) (o := .cells #[.int .i64 a0_0, .int .i64 a0_1, .int .i64 a0_2, .int .i64 a0_3, .int .i64 a0_4, .slice A0_5 l0_5.length c0_5, .slice A0_6 l0_6.length c0_6, .int .i64 a0_7, .int .i64 a0_8, .int .i64 a0_9, .int .i64 a0_10, .int .i64 a0_11, .int .i64 a0_12, .int .i64 a0_13] 84 (0, 0)) (by (with_reducible repeat (first | refine blk_drewN ?_ _ | refine blk_drew ?_ | refine blk_alloc ?_ _)); exact BK947.out) hb); have n1_ := Aside0.mk (below_step (by repeat (first | (with_reducible first | exact HB.out | apply below_alloc | apply pw_below_drewN | apply below_drew1 | refine below_set ?_ GE947.out) | exact HB.out)) hb); clear BK947; clear HB; have BK947 := n0_; have HB := n1_; clear n0_ n1_; (try clear hb); (try clear hb2); (try clear hk); (try clear hi); have hcz18_0 : w17.cell? ⟨gb947, 0, none⟩ = some (.int .i64 a0_0) := (blk_cell BK947.out 0).trans rfl; have hcz18_1 : w17.cell? ⟨gb947, 1, none⟩ = some (.int .i64 a0_1) := (blk_cell BK947.out 1).trans rfl; have hcz18_2 : w17.cell? ⟨gb947, 2, none⟩ = some (.int .i64 a0_2) := (blk_cell BK947.out 2).trans rfl; have hcz18_3 : w17.cell? ⟨gb947, 3, none⟩ = some (.int .i64 a0_3) := (blk_cell BK947.out 3).trans rfl; have hcz18_4 : w17.cell? ⟨gb947, 4, none⟩ = some (.int .i64 a0_4) := (blk_cell BK947.out 4).trans rfl; have hcz18_5 : w17.cell? ⟨gb947, 5, none⟩ = some (.slice A0_5 l0_5.length c0_5) := (blk_cell BK947.out 5).trans rfl; have hcz18_6 : w17.cell? ⟨gb947, 6, none⟩ = some (.slice A0_6 l0_6.length c0_6) := (blk_cell BK947.out 6).trans rfl; have hcz18_7 : w17.cell? ⟨gb947, 7, none⟩ = some (.int .i64 a0_7) := (blk_cell BK947.out 7).trans rfl; have hcz18_8 : w17.cell? ⟨gb947, 8, none⟩ = some (.int .i64 a0_8) := (blk_cell BK947.out 8).trans rfl; have hcz18_9 : w17.cell? ⟨gb947, 9, none⟩ = some (.int .i64 a0_9) := (blk_cell BK947.out 9).trans rfl; have hcz18_10 : w17.cell? ⟨gb947, 10, none⟩ = some (.int .i64 a0_10) := (blk_cell BK947.out 10).trans rfl; have hcz18_11 : w17.cell? ⟨gb947, 11, none⟩ = some (.int .i64 a0_11) := (blk_cell BK947.out 11).trans rfl; have hcz18_12 : w17.cell? ⟨gb947, 12, none⟩ = some (.int .i64 a0_12) := (blk_cell BK947.out 12).trans rfl; have hcz18_13 : w17.cell? ⟨gb947, 13, none⟩ = some (.int .i64 a0_13) := (blk_cell BK947.out 13).trans rfl; have hfz18_0 := blk_frozen BK947.out 0; have hfz18_1 := blk_frozen BK947.out 1; have hfz18_2 := blk_frozen BK947.out 2; have hfz18_3 := blk_frozen BK947.out 3; have hfz18_4 := blk_frozen BK947.out 4; have hfz18_5 := blk_frozen BK947.out 5; have hfz18_6 := blk_frozen BK947.out 6; have hfz18_7 := blk_frozen BK947.out 7; have hfz18_8 := blk_frozen BK947.out 8; have hfz18_9 := blk_frozen BK947.out 9; have hfz18_10 := blk_frozen BK947.out 10; have hfz18_11 := blk_frozen BK947.out 11; have hfz18_12 := blk_frozen BK947.out 12; have hfz18_13 := blk_frozen BK947.out 13) | ((with_reducible refine gate_callee (f := 53) rfl ?_); refine goesL_ (some 13) rfl rfl Try.func53 (by kernel_rfl) rfl #[.agg #[.int .i64 a0_0, .int .i64 a0_1, .int .i64 a0_2, .int .i64 a0_3, .int .i64 a0_4, .slice A0_5 l0_5.length c0_5, .slice A0_6 l0_6.length c0_6, .int .i64 a0_7, .int .i64 a0_8, .int .i64 a0_9, .int .i64 a0_10, .int .i64 a0_11, .int .i64 a0_12, .int .i64 a0_13]] rfl (by (try simp only [List.map_toArray, List.map_cons, List.map_nil]); first | done | rfl | (simp only [List.length_drop, List.length_take]; rfl)) ?_; (with_reducible refine (laws_toDesk.calls k a0_0 a0_1 a0_2 a0_3 a0_4 _ _ l0_5 _ _ l0_6 a0_7 a0_8 a0_9 a0_10 a0_11 a0_12 a0_13 t949 t950 t951 t952 t953 t954 t957 t960 t961 t962 t963 t964 t965 t966 _ ?side1 ?side2 ?side3 ?side4 A7.out).mono ?_); (case side1 => repeat (first | exact (Kd.C_below HR0_5.out HB.out) | (with_reducible refine Kd.C_alloc ?_ _) | (with_reducible refine Kd.C_drewN ?_ _) | (with_reducible refine Kd.C_drew ?_))); (case side2 => exact HC0_5.out); (case side3 => repeat (first | exact (Kd.C_below HR0_6.out HB.out) | (with_reducible refine Kd.C_alloc ?_ _) | (with_reducible refine Kd.C_drewN ?_ _) | (with_reducible refine Kd.C_drew ?_))); (case side4 => exact HC0_6.out); rintro e w19 ⟨v955, v958, rfl, ho0, ho1, hb⟩; refine ⟨_, rfl, ?_⟩; have n0_ := Aside0.mk (Kd.R_lower ho0 (below_size (by repeat (first | (with_reducible first | exact HB.out | apply below_alloc | apply pw_below_drewN | apply below_drew1 | refine below_set ?_ GE947.out) | exact HB.out)))); have n1_ := Aside0.mk (Kd.R_lower ho1 (below_size (by repeat (first | (with_reducible first | exact HB.out | apply below_alloc | apply pw_below_drewN | apply below_drew1 | refine below_set ?_ GE947.out) | exact HB.out)))); have n2_ := Aside0.mk (blk_below (g := gb947) (o := .cells #[.int .i64 a0_0, .int .i64 a0_1, .int .i64 a0_2, .int .i64 a0_3, .int .i64 a0_4, .slice A0_5 l0_5.length c0_5, .slice A0_6 l0_6.length c0_6, .int .i64 a0_7, .int .i64 a0_8, .int .i64 a0_9, .int .i64 a0_10, .int .i64 a0_11, .int .i64 a0_12, .int .i64 a0_13] 84 (0, 0)) (by (with_reducible repeat (first | refine blk_drewN ?_ _ | refine blk_drew ?_ | refine blk_alloc ?_ _)); exact BK947.out) hb); have n3_ := Aside0.mk (below_step (by repeat (first | (with_reducible first | exact HB.out | apply below_alloc | apply pw_below_drewN | apply below_drew1 | refine below_set ?_ GE947.out) | exact HB.out)) hb); clear BK947; clear HB; have HO956 := n0_; have HO959 := n1_; have BK947 := n2_; have HB := n3_; clear n0_ n1_ n2_ n3_; (try clear hb); (try clear hb2); (try clear hk); (try clear hi); (try clear ho0); (try clear ho1); obtain ⟨Ao20, co20, eo20⟩ := Kd.R_slice HO956.out; subst eo20; obtain ⟨Ao21, co21, eo21⟩ := Kd.R_slice HO959.out; subst eo21) | ((with_reducible refine gate_callee (f := 52) rfl ?_); refine goesL_ (some 14) rfl rfl Try.func52 (by kernel_rfl) rfl #[.agg #[.int .i64 t949, .int .i64 t950, .int .i64 t951, .int .i64 t952, .int .i64 t953, .slice Ao20 t954.length co20, .slice Ao21 t957.length co21, .int .i64 t960, .int .i64 t961, .int .i64 t962, .int .i64 t963, .int .i64 t964, .int .i64 t965, .int .i64 t966]] rfl (by (try simp only [List.map_toArray, List.map_cons, List.map_nil]); first | done | rfl | (simp only [List.length_drop, List.length_take]; rfl)) ?_; (with_reducible refine (spec_IsDesk.calls k t949 t950 t951 t952 t953 _ _ t954 _ _ t957 t960 t961 t962 t963 t964 t965 t966 t967 _ ?side1 ?side2 ?side3 ?side4 A8.out).mono ?_); (case side1 => repeat (first | exact (Kd.R_reads' HO956.out).2.2 | (with_reducible refine Kd.C_alloc ?_ _) | (with_reducible refine Kd.C_drewN ?_ _) | (with_reducible refine Kd.C_drew ?_))); (case side2 => exact (Kd.R_reads' HO956.out).2.1); (case side3 => repeat (first | exact (Kd.R_reads' HO959.out).2.2 | (with_reducible refine Kd.C_alloc ?_ _) | (with_reducible refine Kd.C_drewN ?_ _) | (with_reducible refine Kd.C_drew ?_))); (case side4 => exact (Kd.R_reads' HO959.out).2.1); rintro e w22 ⟨rfl, hb⟩; refine ⟨_, rfl, ?_⟩; have n0_ := Aside0.mk (Kd.R_below (by (with_reducible repeat (first | apply Kd.R_alloc | apply Kd.R_drewN | apply Kd.R_drew)); exact HO956.out) hb); have n1_ := Aside0.mk (Kd.R_below (by (with_reducible repeat (first | apply Kd.R_alloc | apply Kd.R_drewN | apply Kd.R_drew)); exact HO959.out) hb); have n2_ := Aside0.mk (blk_below (g := gb947) (o := .cells #[.int .i64 a0_0, .int .i64 a0_1, .int .i64 a0_2, .int .i64 a0_3, .int .i64 a0_4, .slice A0_5 l0_5.length c0_5, .slice A0_6 l0_6.length c0_6, .int .i64 a0_7, .int .i64 a0_8, .int .i64 a0_9, .int .i64 a0_10, .int .i64 a0_11, .int .i64 a0_12, .int .i64 a0_13] 84 (0, 0)) (by (with_reducible repeat (first | refine blk_drewN ?_ _ | refine blk_drew ?_ | refine blk_alloc ?_ _)); exact BK947.out) hb); have n3_ := Aside0.mk (below_step (by repeat (first | (with_reducible first | exact HB.out | apply below_alloc | apply pw_below_drewN | apply below_drew1 | refine below_set ?_ GE947.out) | exact HB.out)) hb); clear HO956; clear HO959; clear BK947; clear HB; have HO956 := n0_; have HO959 := n1_; have BK947 := n2_; have HB := n3_; clear n0_ n1_ n2_ n3_; (try clear hb); (try clear hb2); (try clear hk); (try clear hi); have hcz23_0 : w22.cell? ⟨gb947, 0, none⟩ = some (.int .i64 a0_0) := (blk_cell BK947.out 0).trans rfl; have hcz23_1 : w22.cell? ⟨gb947, 1, none⟩ = some (.int .i64 a0_1) := (blk_cell BK947.out 1).trans rfl; have hcz23_2 : w22.cell? ⟨gb947, 2, none⟩ = some (.int .i64 a0_2) := (blk_cell BK947.out 2).trans rfl; have hcz23_3 : w22.cell? ⟨gb947, 3, none⟩ = some (.int .i64 a0_3) := (blk_cell BK947.out 3).trans rfl; have hcz23_4 : w22.cell? ⟨gb947, 4, none⟩ = some (.int .i64 a0_4) := (blk_cell BK947.out 4).trans rfl; have hcz23_5 : w22.cell? ⟨gb947, 5, none⟩ = some (.slice A0_5 l0_5.length c0_5) := (blk_cell BK947.out 5).trans rfl; have hcz23_6 : w22.cell? ⟨gb947, 6, none⟩ = some (.slice A0_6 l0_6.length c0_6) := (blk_cell BK947.out 6).trans rfl; have hcz23_7 : w22.cell? ⟨gb947, 7, none⟩ = some (.int .i64 a0_7) := (blk_cell BK947.out 7).trans rfl; have hcz23_8 : w22.cell? ⟨gb947, 8, none⟩ = some (.int .i64 a0_8) := (blk_cell BK947.out 8).trans rfl; have hcz23_9 : w22.cell? ⟨gb947, 9, none⟩ = some (.int .i64 a0_9) := (blk_cell BK947.out 9).trans rfl; have hcz23_10 : w22.cell? ⟨gb947, 10, none⟩ = some (.int .i64 a0_10) := (blk_cell BK947.out 10).trans rfl; have hcz23_11 : w22.cell? ⟨gb947, 11, none⟩ = some (.int .i64 a0_11) := (blk_cell BK947.out 11).trans rfl; have hcz23_12 : w22.cell? ⟨gb947, 12, none⟩ = some (.int .i64 a0_12) := (blk_cell BK947.out 12).trans rfl; have hcz23_13 : w22.cell? ⟨gb947, 13, none⟩ = some (.int .i64 a0_13) := (blk_cell BK947.out 13).trans rfl; have hfz23_0 := blk_frozen BK947.out 0; have hfz23_1 := blk_frozen BK947.out 1; have hfz23_2 := blk_frozen BK947.out 2; have hfz23_3 := blk_frozen BK947.out 3; have hfz23_4 := blk_frozen BK947.out 4; have hfz23_5 := blk_frozen BK947.out 5; have hfz23_6 := blk_frozen BK947.out 6; have hfz23_7 := blk_frozen BK947.out 7; have hfz23_8 := blk_frozen BK947.out 8; have hfz23_9 := blk_frozen BK947.out 9; have hfz23_10 := blk_frozen BK947.out 10; have hfz23_11 := blk_frozen BK947.out 11; have hfz23_12 := blk_frozen BK947.out 12; have hfz23_13 := blk_frozen BK947.out 13) | ((with_reducible refine gate_callee (f := 53) rfl ?_); refine goesL_ (some 16) rfl rfl Try.func53 (by kernel_rfl) rfl #[.agg #[.int .i64 a0_0, .int .i64 a0_1, .int .i64 a0_2, .int .i64 a0_3, .int .i64 a0_4, .slice A0_5 l0_5.length c0_5, .slice A0_6 l0_6.length c0_6, .int .i64 a0_7, .int .i64 a0_8, .int .i64 a0_9, .int .i64 a0_10, .int .i64 a0_11, .int .i64 a0_12, .int .i64 a0_13]] rfl (by (try simp only [List.map_toArray, List.map_cons, List.map_nil]); first | done | rfl | (simp only [List.length_drop, List.length_take]; rfl)) ?_; (with_reducible refine (laws_toDesk.calls k a0_0 a0_1 a0_2 a0_3 a0_4 _ _ l0_5 _ _ l0_6 a0_7 a0_8 a0_9 a0_10 a0_11 a0_12 a0_13 t968 t969 t970 t971 t972 t973 t976 t979 t980 t981 t982 t983 t984 t985 _ ?side1 ?side2 ?side3 ?side4 A9.out).mono ?_); (case side1 => repeat (first | exact (Kd.C_below HR0_5.out HB.out) | (with_reducible refine Kd.C_alloc ?_ _) | (with_reducible refine Kd.C_drewN ?_ _) | (with_reducible refine Kd.C_drew ?_))); (case side2 => exact HC0_5.out); (case side3 => repeat (first | exact (Kd.C_below HR0_6.out HB.out) | (with_reducible refine Kd.C_alloc ?_ _) | (with_reducible refine Kd.C_drewN ?_ _) | (with_reducible refine Kd.C_drew ?_))); (case side4 => exact HC0_6.out); rintro e w24 ⟨v974, v977, rfl, ho0, ho1, hb⟩; refine ⟨_, rfl, ?_⟩; have n0_ := Aside0.mk (Kd.R_mono (Kd.R_told (Kd.R_told (Kd.R_old (by (with_reducible repeat (first | apply Kd.R_alloc | apply Kd.R_drewN | apply Kd.R_drew)); exact HO956.out) hb) (Kd.R_base ho0)) (Kd.R_base ho1)) (fun _ h_ => h_.1)); have n1_ := Aside0.mk (Kd.R_mono (Kd.R_told (Kd.R_told (Kd.R_old (by (with_reducible repeat (first | apply Kd.R_alloc | apply Kd.R_drewN | apply Kd.R_drew)); exact HO959.out) hb) (Kd.R_base ho0)) (Kd.R_base ho1)) (fun _ h_ => h_.1)); have n2_ := Aside0.mk (Kd.R_lower (Kd.R_new' (Kd.R_new' ho0 (Kd.R_lt (by (with_reducible repeat (first | apply Kd.R_alloc | apply Kd.R_drewN | apply Kd.R_drew)); exact HO956.out))) (Kd.R_lt (by (with_reducible repeat (first | apply Kd.R_alloc | apply Kd.R_drewN | apply Kd.R_drew)); exact HO959.out))) (below_size (by repeat (first | (with_reducible first | exact HB.out | apply below_alloc | apply pw_below_drewN | apply below_drew1 | refine below_set ?_ GE947.out) | exact HB.out)))); have n3_ := Aside0.mk (Kd.R_lower (Kd.R_new' (Kd.R_new' ho1 (Kd.R_lt (by (with_reducible repeat (first | apply Kd.R_alloc | apply Kd.R_drewN | apply Kd.R_drew)); exact HO956.out))) (Kd.R_lt (by (with_reducible repeat (first | apply Kd.R_alloc | apply Kd.R_drewN | apply Kd.R_drew)); exact HO959.out))) (below_size (by repeat (first | (with_reducible first | exact HB.out | apply below_alloc | apply pw_below_drewN | apply below_drew1 | refine below_set ?_ GE947.out) | exact HB.out)))); have n4_ := Aside0.mk (blk_below (g := gb947) (o := .cells #[.int .i64 a0_0, .int .i64 a0_1, .int .i64 a0_2, .int .i64 a0_3, .int .i64 a0_4, .slice A0_5 l0_5.length c0_5, .slice A0_6 l0_6.length c0_6, .int .i64 a0_7, .int .i64 a0_8, .int .i64 a0_9, .int .i64 a0_10, .int .i64 a0_11, .int .i64 a0_12, .int .i64 a0_13] 84 (0, 0)) (by (with_reducible repeat (first | refine blk_drewN ?_ _ | refine blk_drew ?_ | refine blk_alloc ?_ _)); exact BK947.out) hb); have n5_ := Aside0.mk (below_step (by repeat (first | (with_reducible first | exact HB.out | apply below_alloc | apply pw_below_drewN | apply below_drew1 | refine below_set ?_ GE947.out) | exact HB.out)) hb); clear HO956; clear HO959; clear BK947; clear HB; have HO956 := n0_; have HO959 := n1_; have HO975 := n2_; have HO978 := n3_; have BK947 := n4_; have HB := n5_; clear n0_ n1_ n2_ n3_ n4_ n5_; (try clear hb); (try clear hb2); (try clear hk); (try clear hi); (try clear ho0); (try clear ho1)) | ((with_reducible refine gate_dst (N := 5) rfl ?_); refine box_event ?hg (N := 5) ?hd (cs := #[.int .i64 0, .int .i64 0, .int .i64 0, .int .i64 0, .int .i64 0, .slice none 0 0, .slice none 0 0, .int .i64 0, .int .i64 0, .int .i64 0, .int .i64 0, .int .i64 0, .int .i64 0, .int .i64 0]) (t := 89) ?hr ?_; (case hd => rfl); (case hg => rfl); (case hr => first | (go_simp; done) | (go_simp; rfl)); intro gb986 hg w25 hbox hb; have n0_ := Aside0.mk (Kd.R_below (by (with_reducible repeat (first | apply Kd.R_alloc | apply Kd.R_drewN | apply Kd.R_drew)); exact HO956.out) hb); have n1_ := Aside0.mk (Kd.R_below (by (with_reducible repeat (first | apply Kd.R_alloc | apply Kd.R_drewN | apply Kd.R_drew)); exact HO959.out) hb); have n2_ := Aside0.mk (Kd.R_below (by (with_reducible repeat (first | apply Kd.R_alloc | apply Kd.R_drewN | apply Kd.R_drew)); exact HO975.out) hb); have n3_ := Aside0.mk (Kd.R_below (by (with_reducible repeat (first | apply Kd.R_alloc | apply Kd.R_drewN | apply Kd.R_drew)); exact HO978.out) hb); have n4_ := Aside0.mk (blk_below (g := gb947) (o := .cells #[.int .i64 a0_0, .int .i64 a0_1, .int .i64 a0_2, .int .i64 a0_3, .int .i64 a0_4, .slice A0_5 l0_5.length c0_5, .slice A0_6 l0_6.length c0_6, .int .i64 a0_7, .int .i64 a0_8, .int .i64 a0_9, .int .i64 a0_10, .int .i64 a0_11, .int .i64 a0_12, .int .i64 a0_13] 84 (0, 0)) (by (with_reducible repeat (first | refine blk_drewN ?_ _ | refine blk_drew ?_ | refine blk_alloc ?_ _)); exact BK947.out) hb); have n5_ := Aside0.mk (below_step (by repeat (first | (with_reducible first | exact HB.out | apply below_alloc | apply pw_below_drewN | apply below_drew1 | refine below_set ?_ GE947.out) | exact HB.out)) hb); have n6_ := Aside0.mk (hbox); have n7_ := Aside0.mk ((by rw [hg]; exact (below_size (by repeat (first | (with_reducible first | exact HB.out | apply below_alloc | apply pw_below_drewN | apply below_drew1 | refine below_set ?_ GE947.out) | exact HB.out))) : w.heap.size ≤ gb986)); have n8_ := Aside0.mk ((by rw [hg]; exact (below_size (by repeat (first | (with_reducible first | exact HB.out | apply below_alloc | apply pw_below_drewN | apply below_drew1 | refine below_set ?_ GE947.out) | exact HB.out))) : w.heap.size ≤ gb986)); have n9_ := Aside0.mk ((by rw [hg]; exact Nat.ne_of_lt (blk_lt (g := gb947) (o := .cells #[.int .i64 a0_0, .int .i64 a0_1, .int .i64 a0_2, .int .i64 a0_3, .int .i64 a0_4, .slice A0_5 l0_5.length c0_5, .slice A0_6 l0_6.length c0_6, .int .i64 a0_7, .int .i64 a0_8, .int .i64 a0_9, .int .i64 a0_10, .int .i64 a0_11, .int .i64 a0_12, .int .i64 a0_13] 84 (0, 0)) (by (with_reducible repeat (first | refine blk_drewN ?_ _ | refine blk_drew ?_ | refine blk_alloc ?_ _)); exact BK947.out)) : gb947 ≠ gb986)); have n10_ := Aside0.mk ((by rw [hg]; exact Nat.ne_of_gt (blk_lt (g := gb947) (o := .cells #[.int .i64 a0_0, .int .i64 a0_1, .int .i64 a0_2, .int .i64 a0_3, .int .i64 a0_4, .slice A0_5 l0_5.length c0_5, .slice A0_6 l0_6.length c0_6, .int .i64 a0_7, .int .i64 a0_8, .int .i64 a0_9, .int .i64 a0_10, .int .i64 a0_11, .int .i64 a0_12, .int .i64 a0_13] 84 (0, 0)) (by (with_reducible repeat (first | refine blk_drewN ?_ _ | refine blk_drew ?_ | refine blk_alloc ?_ _)); exact BK947.out)) : gb986 ≠ gb947)); clear HO956; clear HO959; clear HO975; clear HO978; clear BK947; clear HB; have HO956 := n0_; have HO959 := n1_; have HO975 := n2_; have HO978 := n3_; have BK947 := n4_; have HB := n5_; have BK986 := n6_; have GW986 := n7_; have GE986 := n8_; have NB947_986 := n9_; have NB986_947 := n10_; clear n0_ n1_ n2_ n3_ n4_ n5_ n6_ n7_ n8_ n9_ n10_; clear hb hbox hg; have hnb26 := NB986_947.out; have hnc26 := NB947_986.out; have hcz27_0 : w25.cell? ⟨gb986, 0, none⟩ = some (.int .i64 0) := (blk_cell BK986.out 0).trans rfl; have hcz27_1 : w25.cell? ⟨gb986, 1, none⟩ = some (.int .i64 0) := (blk_cell BK986.out 1).trans rfl; have hcz27_2 : w25.cell? ⟨gb986, 2, none⟩ = some (.int .i64 0) := (blk_cell BK986.out 2).trans rfl; have hcz27_3 : w25.cell? ⟨gb986, 3, none⟩ = some (.int .i64 0) := (blk_cell BK986.out 3).trans rfl; have hcz27_4 : w25.cell? ⟨gb986, 4, none⟩ = some (.int .i64 0) := (blk_cell BK986.out 4).trans rfl; have hcz27_5 : w25.cell? ⟨gb986, 5, none⟩ = some (.slice none 0 0) := (blk_cell BK986.out 5).trans rfl; have hcz27_6 : w25.cell? ⟨gb986, 6, none⟩ = some (.slice none 0 0) := (blk_cell BK986.out 6).trans rfl; have hcz27_7 : w25.cell? ⟨gb986, 7, none⟩ = some (.int .i64 0) := (blk_cell BK986.out 7).trans rfl; have hcz27_8 : w25.cell? ⟨gb986, 8, none⟩ = some (.int .i64 0) := (blk_cell BK986.out 8).trans rfl; have hcz27_9 : w25.cell? ⟨gb986, 9, none⟩ = some (.int .i64 0) := (blk_cell BK986.out 9).trans rfl; have hcz27_10 : w25.cell? ⟨gb986, 10, none⟩ = some (.int .i64 0) := (blk_cell BK986.out 10).trans rfl; have hcz27_11 : w25.cell? ⟨gb986, 11, none⟩ = some (.int .i64 0) := (blk_cell BK986.out 11).trans rfl; have hcz27_12 : w25.cell? ⟨gb986, 12, none⟩ = some (.int .i64 0) := (blk_cell BK986.out 12).trans rfl; have hcz27_13 : w25.cell? ⟨gb986, 13, none⟩ = some (.int .i64 0) := (blk_cell BK986.out 13).trans rfl; have hfz27_0 := blk_frozen BK986.out 0; have hfz27_1 := blk_frozen BK986.out 1; have hfz27_2 := blk_frozen BK986.out 2; have hfz27_3 := blk_frozen BK986.out 3; have hfz27_4 := blk_frozen BK986.out 4; have hfz27_5 := blk_frozen BK986.out 5; have hfz27_6 := blk_frozen BK986.out 6; have hfz27_7 := blk_frozen BK986.out 7; have hfz27_8 := blk_frozen BK986.out 8; have hfz27_9 := blk_frozen BK986.out 9; have hfz27_10 := blk_frozen BK986.out 10; have hfz27_11 := blk_frozen BK986.out 11; have hfz27_12 := blk_frozen BK986.out 12; have hfz27_13 := blk_frozen BK986.out 13; obtain ⟨Ao28, co28, eo28⟩ := Kd.R_slice HO975.out; subst eo28; obtain ⟨Ao29, co29, eo29⟩ := Kd.R_slice HO978.out; subst eo29) | ((with_reducible refine gate_callee (f := 54) rfl ?_); refine goesL_ (some 18) rfl rfl Try.func54 (by kernel_rfl) rfl #[.agg #[.int .i64 t968, .int .i64 t969, .int .i64 t970, .int .i64 t971, .int .i64 t972, .slice Ao28 t973.length co28, .slice Ao29 t976.length co29, .int .i64 t979, .int .i64 t980, .int .i64 t981, .int .i64 t982, .int .i64 t983, .int .i64 t984, .int .i64 t985]] rfl (by (try simp only [List.map_toArray, List.map_cons, List.map_nil]); first | done | rfl | (simp only [List.length_drop, List.length_take]; rfl)) ?_; (with_reducible refine (impl_IsDesk.calls k t968 t969 t970 t971 t972 _ _ t973 _ _ t976 t979 t980 t981 t982 t983 t984 t985 t987 _ ?side1 ?side2 ?side3 ?side4 A10.out).mono ?_); (case side1 => refine (Kd.R_reads' (e := 2) (base := w.heap.size) (ok := fun k_ => ((some k_ ≠ (.slice Ao29 t976.length co29 : Value).ownBlock ∧ some k_ ≠ (.slice Ao20 t954.length co20 : Value).ownBlock) ∧ some k_ ≠ (.slice Ao21 t957.length co21 : Value).ownBlock)) (n := t973.length) (c := co28) ?_).2.2; exact (by (with_reducible repeat (first | apply Kd.R_alloc | apply Kd.R_drewN | apply Kd.R_drew)); exact (Kd.R_mono (Kd.R_far (p := ⟨gb986, 13, none⟩) (Kd.R_far (p := ⟨gb986, 12, none⟩) (Kd.R_far (p := ⟨gb986, 11, none⟩) (Kd.R_far (p := ⟨gb986, 10, none⟩) (Kd.R_far (p := ⟨gb986, 9, none⟩) (Kd.R_far (p := ⟨gb986, 8, none⟩) (Kd.R_far (p := ⟨gb986, 7, none⟩) (Kd.R_far (p := ⟨gb986, 6, none⟩) (Kd.R_far (p := ⟨gb986, 5, none⟩) (Kd.R_far (p := ⟨gb986, 4, none⟩) (Kd.R_far (p := ⟨gb986, 3, none⟩) (Kd.R_far (p := ⟨gb986, 2, none⟩) (Kd.R_far (p := ⟨gb986, 1, none⟩) (Kd.R_far (p := ⟨gb986, 0, none⟩) (Kd.R_types HO975.out BK986.out (by decide)) (fun _ hk => hk.2) (.int .i64 t968)) (fun _ hk => hk.2) (.int .i64 t969)) (fun _ hk => hk.2) (.int .i64 t970)) (fun _ hk => hk.2) (.int .i64 t971)) (fun _ hk => hk.2) (.int .i64 t972)) (fun _ hk => hk.2) (.slice Ao28 t973.length co28)) (fun _ hk => hk.2) (.slice Ao29 t976.length co29)) (fun _ hk => hk.2) (.int .i64 t979)) (fun _ hk => hk.2) (.int .i64 t980)) (fun _ hk => hk.2) (.int .i64 t981)) (fun _ hk => hk.2) (.int .i64 t982)) (fun _ hk => hk.2) (.int .i64 t983)) (fun _ hk => hk.2) (.int .i64 t984)) (fun _ hk => hk.2) (.int .i64 t985)) (fun _ h_ => h_.1)))); (case side2 => exact (Kd.R_reads' HO975.out).2.1); (case side3 => refine (Kd.R_reads' (e := 2) (base := w.heap.size) (ok := fun k_ => ((some k_ ≠ (.slice Ao28 t973.length co28 : Value).ownBlock ∧ some k_ ≠ (.slice Ao20 t954.length co20 : Value).ownBlock) ∧ some k_ ≠ (.slice Ao21 t957.length co21 : Value).ownBlock)) (n := t976.length) (c := co29) ?_).2.2; exact (by (with_reducible repeat (first | apply Kd.R_alloc | apply Kd.R_drewN | apply Kd.R_drew)); exact (Kd.R_mono (Kd.R_far (p := ⟨gb986, 13, none⟩) (Kd.R_far (p := ⟨gb986, 12, none⟩) (Kd.R_far (p := ⟨gb986, 11, none⟩) (Kd.R_far (p := ⟨gb986, 10, none⟩) (Kd.R_far (p := ⟨gb986, 9, none⟩) (Kd.R_far (p := ⟨gb986, 8, none⟩) (Kd.R_far (p := ⟨gb986, 7, none⟩) (Kd.R_far (p := ⟨gb986, 6, none⟩) (Kd.R_far (p := ⟨gb986, 5, none⟩) (Kd.R_far (p := ⟨gb986, 4, none⟩) (Kd.R_far (p := ⟨gb986, 3, none⟩) (Kd.R_far (p := ⟨gb986, 2, none⟩) (Kd.R_far (p := ⟨gb986, 1, none⟩) (Kd.R_far (p := ⟨gb986, 0, none⟩) (Kd.R_types HO978.out BK986.out (by decide)) (fun _ hk => hk.2) (.int .i64 t968)) (fun _ hk => hk.2) (.int .i64 t969)) (fun _ hk => hk.2) (.int .i64 t970)) (fun _ hk => hk.2) (.int .i64 t971)) (fun _ hk => hk.2) (.int .i64 t972)) (fun _ hk => hk.2) (.slice Ao28 t973.length co28)) (fun _ hk => hk.2) (.slice Ao29 t976.length co29)) (fun _ hk => hk.2) (.int .i64 t979)) (fun _ hk => hk.2) (.int .i64 t980)) (fun _ hk => hk.2) (.int .i64 t981)) (fun _ hk => hk.2) (.int .i64 t982)) (fun _ hk => hk.2) (.int .i64 t983)) (fun _ hk => hk.2) (.int .i64 t984)) (fun _ hk => hk.2) (.int .i64 t985)) (fun _ h_ => h_.1)))); (case side4 => exact (Kd.R_reads' HO978.out).2.1); rintro e w30 ⟨rfl, hb⟩; refine ⟨_, rfl, ?_⟩; have n0_ := Aside0.mk (Kd.R_below (by (with_reducible repeat (first | apply Kd.R_alloc | apply Kd.R_drewN | apply Kd.R_drew)); exact (Kd.R_mono (Kd.R_far (p := ⟨gb986, 13, none⟩) (Kd.R_far (p := ⟨gb986, 12, none⟩) (Kd.R_far (p := ⟨gb986, 11, none⟩) (Kd.R_far (p := ⟨gb986, 10, none⟩) (Kd.R_far (p := ⟨gb986, 9, none⟩) (Kd.R_far (p := ⟨gb986, 8, none⟩) (Kd.R_far (p := ⟨gb986, 7, none⟩) (Kd.R_far (p := ⟨gb986, 6, none⟩) (Kd.R_far (p := ⟨gb986, 5, none⟩) (Kd.R_far (p := ⟨gb986, 4, none⟩) (Kd.R_far (p := ⟨gb986, 3, none⟩) (Kd.R_far (p := ⟨gb986, 2, none⟩) (Kd.R_far (p := ⟨gb986, 1, none⟩) (Kd.R_far (p := ⟨gb986, 0, none⟩) (Kd.R_types HO956.out BK986.out (by decide)) (fun _ hk => hk.2) (.int .i64 t968)) (fun _ hk => hk.2) (.int .i64 t969)) (fun _ hk => hk.2) (.int .i64 t970)) (fun _ hk => hk.2) (.int .i64 t971)) (fun _ hk => hk.2) (.int .i64 t972)) (fun _ hk => hk.2) (.slice Ao28 t973.length co28)) (fun _ hk => hk.2) (.slice Ao29 t976.length co29)) (fun _ hk => hk.2) (.int .i64 t979)) (fun _ hk => hk.2) (.int .i64 t980)) (fun _ hk => hk.2) (.int .i64 t981)) (fun _ hk => hk.2) (.int .i64 t982)) (fun _ hk => hk.2) (.int .i64 t983)) (fun _ hk => hk.2) (.int .i64 t984)) (fun _ hk => hk.2) (.int .i64 t985)) (fun _ h_ => h_.1))) hb); have n1_ := Aside0.mk (Kd.R_below (by (with_reducible repeat (first | apply Kd.R_alloc | apply Kd.R_drewN | apply Kd.R_drew)); exact (Kd.R_mono (Kd.R_far (p := ⟨gb986, 13, none⟩) (Kd.R_far (p := ⟨gb986, 12, none⟩) (Kd.R_far (p := ⟨gb986, 11, none⟩) (Kd.R_far (p := ⟨gb986, 10, none⟩) (Kd.R_far (p := ⟨gb986, 9, none⟩) (Kd.R_far (p := ⟨gb986, 8, none⟩) (Kd.R_far (p := ⟨gb986, 7, none⟩) (Kd.R_far (p := ⟨gb986, 6, none⟩) (Kd.R_far (p := ⟨gb986, 5, none⟩) (Kd.R_far (p := ⟨gb986, 4, none⟩) (Kd.R_far (p := ⟨gb986, 3, none⟩) (Kd.R_far (p := ⟨gb986, 2, none⟩) (Kd.R_far (p := ⟨gb986, 1, none⟩) (Kd.R_far (p := ⟨gb986, 0, none⟩) (Kd.R_types HO959.out BK986.out (by decide)) (fun _ hk => hk.2) (.int .i64 t968)) (fun _ hk => hk.2) (.int .i64 t969)) (fun _ hk => hk.2) (.int .i64 t970)) (fun _ hk => hk.2) (.int .i64 t971)) (fun _ hk => hk.2) (.int .i64 t972)) (fun _ hk => hk.2) (.slice Ao28 t973.length co28)) (fun _ hk => hk.2) (.slice Ao29 t976.length co29)) (fun _ hk => hk.2) (.int .i64 t979)) (fun _ hk => hk.2) (.int .i64 t980)) (fun _ hk => hk.2) (.int .i64 t981)) (fun _ hk => hk.2) (.int .i64 t982)) (fun _ hk => hk.2) (.int .i64 t983)) (fun _ hk => hk.2) (.int .i64 t984)) (fun _ hk => hk.2) (.int .i64 t985)) (fun _ h_ => h_.1))) hb); have n2_ := Aside0.mk (Kd.R_below (by (with_reducible repeat (first | apply Kd.R_alloc | apply Kd.R_drewN | apply Kd.R_drew)); exact (Kd.R_mono (Kd.R_far (p := ⟨gb986, 13, none⟩) (Kd.R_far (p := ⟨gb986, 12, none⟩) (Kd.R_far (p := ⟨gb986, 11, none⟩) (Kd.R_far (p := ⟨gb986, 10, none⟩) (Kd.R_far (p := ⟨gb986, 9, none⟩) (Kd.R_far (p := ⟨gb986, 8, none⟩) (Kd.R_far (p := ⟨gb986, 7, none⟩) (Kd.R_far (p := ⟨gb986, 6, none⟩) (Kd.R_far (p := ⟨gb986, 5, none⟩) (Kd.R_far (p := ⟨gb986, 4, none⟩) (Kd.R_far (p := ⟨gb986, 3, none⟩) (Kd.R_far (p := ⟨gb986, 2, none⟩) (Kd.R_far (p := ⟨gb986, 1, none⟩) (Kd.R_far (p := ⟨gb986, 0, none⟩) (Kd.R_types HO975.out BK986.out (by decide)) (fun _ hk => hk.2) (.int .i64 t968)) (fun _ hk => hk.2) (.int .i64 t969)) (fun _ hk => hk.2) (.int .i64 t970)) (fun _ hk => hk.2) (.int .i64 t971)) (fun _ hk => hk.2) (.int .i64 t972)) (fun _ hk => hk.2) (.slice Ao28 t973.length co28)) (fun _ hk => hk.2) (.slice Ao29 t976.length co29)) (fun _ hk => hk.2) (.int .i64 t979)) (fun _ hk => hk.2) (.int .i64 t980)) (fun _ hk => hk.2) (.int .i64 t981)) (fun _ hk => hk.2) (.int .i64 t982)) (fun _ hk => hk.2) (.int .i64 t983)) (fun _ hk => hk.2) (.int .i64 t984)) (fun _ hk => hk.2) (.int .i64 t985)) (fun _ h_ => h_.1))) hb); have n3_ := Aside0.mk (Kd.R_below (by (with_reducible repeat (first | apply Kd.R_alloc | apply Kd.R_drewN | apply Kd.R_drew)); exact (Kd.R_mono (Kd.R_far (p := ⟨gb986, 13, none⟩) (Kd.R_far (p := ⟨gb986, 12, none⟩) (Kd.R_far (p := ⟨gb986, 11, none⟩) (Kd.R_far (p := ⟨gb986, 10, none⟩) (Kd.R_far (p := ⟨gb986, 9, none⟩) (Kd.R_far (p := ⟨gb986, 8, none⟩) (Kd.R_far (p := ⟨gb986, 7, none⟩) (Kd.R_far (p := ⟨gb986, 6, none⟩) (Kd.R_far (p := ⟨gb986, 5, none⟩) (Kd.R_far (p := ⟨gb986, 4, none⟩) (Kd.R_far (p := ⟨gb986, 3, none⟩) (Kd.R_far (p := ⟨gb986, 2, none⟩) (Kd.R_far (p := ⟨gb986, 1, none⟩) (Kd.R_far (p := ⟨gb986, 0, none⟩) (Kd.R_types HO978.out BK986.out (by decide)) (fun _ hk => hk.2) (.int .i64 t968)) (fun _ hk => hk.2) (.int .i64 t969)) (fun _ hk => hk.2) (.int .i64 t970)) (fun _ hk => hk.2) (.int .i64 t971)) (fun _ hk => hk.2) (.int .i64 t972)) (fun _ hk => hk.2) (.slice Ao28 t973.length co28)) (fun _ hk => hk.2) (.slice Ao29 t976.length co29)) (fun _ hk => hk.2) (.int .i64 t979)) (fun _ hk => hk.2) (.int .i64 t980)) (fun _ hk => hk.2) (.int .i64 t981)) (fun _ hk => hk.2) (.int .i64 t982)) (fun _ hk => hk.2) (.int .i64 t983)) (fun _ hk => hk.2) (.int .i64 t984)) (fun _ hk => hk.2) (.int .i64 t985)) (fun _ h_ => h_.1))) hb); have n4_ := Aside0.mk (blk_below (g := gb947) (o := .cells #[.int .i64 a0_0, .int .i64 a0_1, .int .i64 a0_2, .int .i64 a0_3, .int .i64 a0_4, .slice A0_5 l0_5.length c0_5, .slice A0_6 l0_6.length c0_6, .int .i64 a0_7, .int .i64 a0_8, .int .i64 a0_9, .int .i64 a0_10, .int .i64 a0_11, .int .i64 a0_12, .int .i64 a0_13] 84 (0, 0)) (by (with_reducible repeat (first | refine blk_drewN ?_ _ | refine blk_drew ?_ | refine blk_alloc ?_ _)); refine blk_far ?_ NB947_986.out _; (with_reducible repeat (first | refine blk_drewN ?_ _ | refine blk_drew ?_ | refine blk_alloc ?_ _)); refine blk_far ?_ NB947_986.out _; (with_reducible repeat (first | refine blk_drewN ?_ _ | refine blk_drew ?_ | refine blk_alloc ?_ _)); refine blk_far ?_ NB947_986.out _; (with_reducible repeat (first | refine blk_drewN ?_ _ | refine blk_drew ?_ | refine blk_alloc ?_ _)); refine blk_far ?_ NB947_986.out _; (with_reducible repeat (first | refine blk_drewN ?_ _ | refine blk_drew ?_ | refine blk_alloc ?_ _)); refine blk_far ?_ NB947_986.out _; (with_reducible repeat (first | refine blk_drewN ?_ _ | refine blk_drew ?_ | refine blk_alloc ?_ _)); refine blk_far ?_ NB947_986.out _; (with_reducible repeat (first | refine blk_drewN ?_ _ | refine blk_drew ?_ | refine blk_alloc ?_ _)); refine blk_far ?_ NB947_986.out _; (with_reducible repeat (first | refine blk_drewN ?_ _ | refine blk_drew ?_ | refine blk_alloc ?_ _)); refine blk_far ?_ NB947_986.out _; (with_reducible repeat (first | refine blk_drewN ?_ _ | refine blk_drew ?_ | refine blk_alloc ?_ _)); refine blk_far ?_ NB947_986.out _; (with_reducible repeat (first | refine blk_drewN ?_ _ | refine blk_drew ?_ | refine blk_alloc ?_ _)); refine blk_far ?_ NB947_986.out _; (with_reducible repeat (first | refine blk_drewN ?_ _ | refine blk_drew ?_ | refine blk_alloc ?_ _)); refine blk_far ?_ NB947_986.out _; (with_reducible repeat (first | refine blk_drewN ?_ _ | refine blk_drew ?_ | refine blk_alloc ?_ _)); refine blk_far ?_ NB947_986.out _; (with_reducible repeat (first | refine blk_drewN ?_ _ | refine blk_drew ?_ | refine blk_alloc ?_ _)); refine blk_far ?_ NB947_986.out _; (with_reducible repeat (first | refine blk_drewN ?_ _ | refine blk_drew ?_ | refine blk_alloc ?_ _)); refine blk_far ?_ NB947_986.out _; (with_reducible repeat (first | refine blk_drewN ?_ _ | refine blk_drew ?_ | refine blk_alloc ?_ _)); exact BK947.out) hb); have n5_ := Aside0.mk (blk_below (g := gb986) (o := .cells #[.int .i64 t968, .int .i64 t969, .int .i64 t970, .int .i64 t971, .int .i64 t972, .slice Ao28 t973.length co28, .slice Ao29 t976.length co29, .int .i64 t979, .int .i64 t980, .int .i64 t981, .int .i64 t982, .int .i64 t983, .int .i64 t984, .int .i64 t985] 89 (0, 0)) (by (with_reducible repeat (first | refine blk_drewN ?_ _ | refine blk_drew ?_ | refine blk_alloc ?_ _)); refine blk_put (cs := #[.int .i64 t968, .int .i64 t969, .int .i64 t970, .int .i64 t971, .int .i64 t972, .slice Ao28 t973.length co28, .slice Ao29 t976.length co29, .int .i64 t979, .int .i64 t980, .int .i64 t981, .int .i64 t982, .int .i64 t983, .int .i64 t984, .int .i64 0]) ?_ 13 _ rfl; (with_reducible repeat (first | refine blk_drewN ?_ _ | refine blk_drew ?_ | refine blk_alloc ?_ _)); refine blk_put (cs := #[.int .i64 t968, .int .i64 t969, .int .i64 t970, .int .i64 t971, .int .i64 t972, .slice Ao28 t973.length co28, .slice Ao29 t976.length co29, .int .i64 t979, .int .i64 t980, .int .i64 t981, .int .i64 t982, .int .i64 t983, .int .i64 0, .int .i64 0]) ?_ 12 _ rfl; (with_reducible repeat (first | refine blk_drewN ?_ _ | refine blk_drew ?_ | refine blk_alloc ?_ _)); refine blk_put (cs := #[.int .i64 t968, .int .i64 t969, .int .i64 t970, .int .i64 t971, .int .i64 t972, .slice Ao28 t973.length co28, .slice Ao29 t976.length co29, .int .i64 t979, .int .i64 t980, .int .i64 t981, .int .i64 t982, .int .i64 0, .int .i64 0, .int .i64 0]) ?_ 11 _ rfl; (with_reducible repeat (first | refine blk_drewN ?_ _ | refine blk_drew ?_ | refine blk_alloc ?_ _)); refine blk_put (cs := #[.int .i64 t968, .int .i64 t969, .int .i64 t970, .int .i64 t971, .int .i64 t972, .slice Ao28 t973.length co28, .slice Ao29 t976.length co29, .int .i64 t979, .int .i64 t980, .int .i64 t981, .int .i64 0, .int .i64 0, .int .i64 0, .int .i64 0]) ?_ 10 _ rfl; (with_reducible repeat (first | refine blk_drewN ?_ _ | refine blk_drew ?_ | refine blk_alloc ?_ _)); refine blk_put (cs := #[.int .i64 t968, .int .i64 t969, .int .i64 t970, .int .i64 t971, .int .i64 t972, .slice Ao28 t973.length co28, .slice Ao29 t976.length co29, .int .i64 t979, .int .i64 t980, .int .i64 0, .int .i64 0, .int .i64 0, .int .i64 0, .int .i64 0]) ?_ 9 _ rfl; (with_reducible repeat (first | refine blk_drewN ?_ _ | refine blk_drew ?_ | refine blk_alloc ?_ _)); refine blk_put (cs := #[.int .i64 t968, .int .i64 t969, .int .i64 t970, .int .i64 t971, .int .i64 t972, .slice Ao28 t973.length co28, .slice Ao29 t976.length co29, .int .i64 t979, .int .i64 0, .int .i64 0, .int .i64 0, .int .i64 0, .int .i64 0, .int .i64 0]) ?_ 8 _ rfl; (with_reducible repeat (first | refine blk_drewN ?_ _ | refine blk_drew ?_ | refine blk_alloc ?_ _)); refine blk_put (cs := #[.int .i64 t968, .int .i64 t969, .int .i64 t970, .int .i64 t971, .int .i64 t972, .slice Ao28 t973.length co28, .slice Ao29 t976.length co29, .int .i64 0, .int .i64 0, .int .i64 0, .int .i64 0, .int .i64 0, .int .i64 0, .int .i64 0]) ?_ 7 _ rfl; (with_reducible repeat (first | refine blk_drewN ?_ _ | refine blk_drew ?_ | refine blk_alloc ?_ _)); refine blk_put (cs := #[.int .i64 t968, .int .i64 t969, .int .i64 t970, .int .i64 t971, .int .i64 t972, .slice Ao28 t973.length co28, .slice none 0 0, .int .i64 0, .int .i64 0, .int .i64 0, .int .i64 0, .int .i64 0, .int .i64 0, .int .i64 0]) ?_ 6 _ rfl; (with_reducible repeat (first | refine blk_drewN ?_ _ | refine blk_drew ?_ | refine blk_alloc ?_ _)); refine blk_put (cs := #[.int .i64 t968, .int .i64 t969, .int .i64 t970, .int .i64 t971, .int .i64 t972, .slice none 0 0, .slice none 0 0, .int .i64 0, .int .i64 0, .int .i64 0, .int .i64 0, .int .i64 0, .int .i64 0, .int .i64 0]) ?_ 5 _ rfl; (with_reducible repeat (first | refine blk_drewN ?_ _ | refine blk_drew ?_ | refine blk_alloc ?_ _)); refine blk_put (cs := #[.int .i64 t968, .int .i64 t969, .int .i64 t970, .int .i64 t971, .int .i64 0, .slice none 0 0, .slice none 0 0, .int .i64 0, .int .i64 0, .int .i64 0, .int .i64 0, .int .i64 0, .int .i64 0, .int .i64 0]) ?_ 4 _ rfl; (with_reducible repeat (first | refine blk_drewN ?_ _ | refine blk_drew ?_ | refine blk_alloc ?_ _)); refine blk_put (cs := #[.int .i64 t968, .int .i64 t969, .int .i64 t970, .int .i64 0, .int .i64 0, .slice none 0 0, .slice none 0 0, .int .i64 0, .int .i64 0, .int .i64 0, .int .i64 0, .int .i64 0, .int .i64 0, .int .i64 0]) ?_ 3 _ rfl; (with_reducible repeat (first | refine blk_drewN ?_ _ | refine blk_drew ?_ | refine blk_alloc ?_ _)); refine blk_put (cs := #[.int .i64 t968, .int .i64 t969, .int .i64 0, .int .i64 0, .int .i64 0, .slice none 0 0, .slice none 0 0, .int .i64 0, .int .i64 0, .int .i64 0, .int .i64 0, .int .i64 0, .int .i64 0, .int .i64 0]) ?_ 2 _ rfl; (with_reducible repeat (first | refine blk_drewN ?_ _ | refine blk_drew ?_ | refine blk_alloc ?_ _)); refine blk_put (cs := #[.int .i64 t968, .int .i64 0, .int .i64 0, .int .i64 0, .int .i64 0, .slice none 0 0, .slice none 0 0, .int .i64 0, .int .i64 0, .int .i64 0, .int .i64 0, .int .i64 0, .int .i64 0, .int .i64 0]) ?_ 1 _ rfl; (with_reducible repeat (first | refine blk_drewN ?_ _ | refine blk_drew ?_ | refine blk_alloc ?_ _)); refine blk_put (cs := #[.int .i64 0, .int .i64 0, .int .i64 0, .int .i64 0, .int .i64 0, .slice none 0 0, .slice none 0 0, .int .i64 0, .int .i64 0, .int .i64 0, .int .i64 0, .int .i64 0, .int .i64 0, .int .i64 0]) ?_ 0 _ rfl; (with_reducible repeat (first | refine blk_drewN ?_ _ | refine blk_drew ?_ | refine blk_alloc ?_ _)); exact BK986.out) hb); have n6_ := Aside0.mk (below_step (by repeat (first | (with_reducible first | exact HB.out | apply below_alloc | apply pw_below_drewN | apply below_drew1 | refine below_set ?_ GE947.out | refine below_set ?_ GE986.out) | exact HB.out)) hb); clear HO956; clear HO959; clear HO975; clear HO978; clear BK947; clear BK986; clear HB; have HO956 := n0_; have HO959 := n1_; have HO975 := n2_; have HO978 := n3_; have BK947 := n4_; have BK986 := n5_; have HB := n6_; clear n0_ n1_ n2_ n3_ n4_ n5_ n6_; (try clear hb); (try clear hb2); (try clear hk); (try clear hi)))
        have n0_ := Aside0.mk (Kd.R_drew HO956.out)
        have n1_ := Aside0.mk (Kd.R_drew HO959.out)
        have n2_ := Aside0.mk (Kd.R_drew HO975.out)
        have n3_ := Aside0.mk (Kd.R_drew HO978.out)
        have n4_ := Aside0.mk (blk_drew BK947.out)
        have n5_ := Aside0.mk (blk_drew BK986.out)
        have n6_ := Aside0.mk (below_drew1 HB.out)
        clear HO956
        clear HO959
        clear HO975
        clear HO978
        clear BK947
        clear BK986
        clear HB
        have HO956 := n0_
        have HO959 := n1_
        have HO975 := n2_
        have HO978 := n3_
        have BK947 := n4_
        have BK986 := n5_
        have HB := n6_
        clear n0_ n1_ n2_ n3_ n4_ n5_ n6_
        refine start_ (n := 5) (S := fun w' => w'.cell? ⟨gb986, 0, none⟩ = some (.int .i64 t968) ∧ w'.cell? ⟨gb986, 1, none⟩ = some (.int .i64 t969) ∧ w'.cell? ⟨gb986, 2, none⟩ = some (.int .i64 t970) ∧ w'.cell? ⟨gb986, 3, none⟩ = some (.int .i64 t971) ∧ w'.cell? ⟨gb986, 4, none⟩ = some (.int .i64 t972) ∧ w'.cell? ⟨gb986, 5, none⟩ = some (.slice Ao28 t973.length co28) ∧ w'.cell? ⟨gb986, 6, none⟩ = some (.slice Ao29 t976.length co29) ∧ w'.cell? ⟨gb986, 7, none⟩ = some (.int .i64 t979) ∧ w'.cell? ⟨gb986, 8, none⟩ = some (.int .i64 t980) ∧ w'.cell? ⟨gb986, 9, none⟩ = some (.int .i64 t981) ∧ w'.cell? ⟨gb986, 10, none⟩ = some (.int .i64 t982) ∧ w'.cell? ⟨gb986, 11, none⟩ = some (.int .i64 t983) ∧ w'.cell? ⟨gb986, 12, none⟩ = some (.int .i64 t984) ∧ w'.cell? ⟨gb986, 13, none⟩ = some (.int .i64 t985) ∧ w'.cell? ⟨gb947, 0, none⟩ = some (.int .i64 a0_0) ∧ w'.cell? ⟨gb947, 1, none⟩ = some (.int .i64 a0_1) ∧ w'.cell? ⟨gb947, 2, none⟩ = some (.int .i64 a0_2) ∧ w'.cell? ⟨gb947, 3, none⟩ = some (.int .i64 a0_3) ∧ w'.cell? ⟨gb947, 4, none⟩ = some (.int .i64 a0_4) ∧ w'.cell? ⟨gb947, 5, none⟩ = some (.slice A0_5 l0_5.length c0_5) ∧ w'.cell? ⟨gb947, 6, none⟩ = some (.slice A0_6 l0_6.length c0_6) ∧ w'.cell? ⟨gb947, 7, none⟩ = some (.int .i64 a0_7) ∧ w'.cell? ⟨gb947, 8, none⟩ = some (.int .i64 a0_8) ∧ w'.cell? ⟨gb947, 9, none⟩ = some (.int .i64 a0_9) ∧ w'.cell? ⟨gb947, 10, none⟩ = some (.int .i64 a0_10) ∧ w'.cell? ⟨gb947, 11, none⟩ = some (.int .i64 a0_11) ∧ w'.cell? ⟨gb947, 12, none⟩ = some (.int .i64 a0_12) ∧ w'.cell? ⟨gb947, 13, none⟩ = some (.int .i64 a0_13)) (ds := []) #[false, false, false, false, false] (by kernel_rfl) rfl rfl ⟨(blk_cell BK986.out 0).trans rfl, (blk_cell BK986.out 1).trans rfl, (blk_cell BK986.out 2).trans rfl, (blk_cell BK986.out 3).trans rfl, (blk_cell BK986.out 4).trans rfl, (blk_cell BK986.out 5).trans rfl, (blk_cell BK986.out 6).trans rfl, (blk_cell BK986.out 7).trans rfl, (blk_cell BK986.out 8).trans rfl, (blk_cell BK986.out 9).trans rfl, (blk_cell BK986.out 10).trans rfl, (blk_cell BK986.out 11).trans rfl, (blk_cell BK986.out 12).trans rfl, (blk_cell BK986.out 13).trans rfl, (blk_cell BK947.out 0).trans rfl, (blk_cell BK947.out 1).trans rfl, (blk_cell BK947.out 2).trans rfl, (blk_cell BK947.out 3).trans rfl, (blk_cell BK947.out 4).trans rfl, (blk_cell BK947.out 5).trans rfl, (blk_cell BK947.out 6).trans rfl, (blk_cell BK947.out 7).trans rfl, (blk_cell BK947.out 8).trans rfl, (blk_cell BK947.out 9).trans rfl, (blk_cell BK947.out 10).trans rfl, (blk_cell BK947.out 11).trans rfl, (blk_cell BK947.out 12).trans rfl, (blk_cell BK947.out 13).trans rfl⟩ (fun hHeld => ?_)
        generalize w30.drew = w31 at HO956 HO959 HO975 HO978 BK947 BK986 HB hHeld ⊢
        refine take_ (i := 0) (N := some 22) (v := ?_) (a' := ?_) #[true, false, false, false, false] rfl rfl (by kernel_rfl) (fun _ _ _ h => h) (Or.inl ⟨by rfl, ?_⟩) hHeld ?_ ?_
        rotate_left
        · rintro w' ⟨s0, s1, s2, s3, s4, s5, s6, s7, s8, s9, s10, s11, s12, s13, s14, s15, s16, s17, s18, s19, s20, s21, s22, s23, s24, s25, s26, s27⟩
          go_simp
          with_reducible rfl
        rotate_left
        · simp only [Act.put, List.setIfInBounds_toArray, List.set_cons_zero, List.set_cons_succ, i64_w, i32_w]
          rfl
        refine take_ (i := 1) (N := some 23) (v := ?_) (a' := ?_) #[true, true, false, false, false] rfl rfl (by kernel_rfl) (fun _ _ _ h => h) (Or.inl ⟨by rfl, ?_⟩) hHeld ?_ ?_
        rotate_left
        · rintro w' ⟨s0, s1, s2, s3, s4, s5, s6, s7, s8, s9, s10, s11, s12, s13, s14, s15, s16, s17, s18, s19, s20, s21, s22, s23, s24, s25, s26, s27⟩
          go_simp
          with_reducible rfl
        rotate_left
        · simp only [Act.put, List.setIfInBounds_toArray, List.set_cons_zero, List.set_cons_succ, i64_w, i32_w]
          rfl
        refine one_ (i := 2) (N := some 24) #[true, true, true, false, false] rfl rfl (by kernel_rfl) (by decide) (fun K hK => ?_)
        refine goes_ Try.func53 (by kernel_rfl) rfl #[.agg #[.int .i64 a0_0, .int .i64 a0_1, .int .i64 a0_2, .int .i64 a0_3, .int .i64 a0_4, .slice A0_5 l0_5.length c0_5, .slice A0_6 l0_6.length c0_6, .int .i64 a0_7, .int .i64 a0_8, .int .i64 a0_9, .int .i64 a0_10, .int .i64 a0_11, .int .i64 a0_12, .int .i64 a0_13]] (by rfl) rfl rfl (by (try simp only [List.map_toArray, List.map_cons, List.map_nil]); first | done | rfl | (simp only [List.length_drop, List.length_take]; rfl)) ?_
        with_reducible refine (laws_toDesk.calls k a0_0 a0_1 a0_2 a0_3 a0_4 _ _ l0_5 _ _ l0_6 a0_7 a0_8 a0_9 a0_10 a0_11 a0_12 a0_13 t988 t989 t990 t991 t992 t993 t996 t999 t1000 t1001 t1002 t1003 t1004 t1005 _ ?side1 ?side2 ?side3 ?side4 A12.out).mono ?_
        (case side1 => repeat (first | exact (Kd.C_below HR0_5.out HB.out) | (with_reducible refine Kd.C_alloc ?_ _) | (with_reducible refine Kd.C_drewN ?_ _) | (with_reducible refine Kd.C_drew ?_)))
        (case side2 => exact HC0_5.out)
        (case side3 => repeat (first | exact (Kd.C_below HR0_6.out HB.out) | (with_reducible refine Kd.C_alloc ?_ _) | (with_reducible refine Kd.C_drewN ?_ _) | (with_reducible refine Kd.C_drew ?_)))
        (case side4 => exact HC0_6.out)
        rintro e w32 ⟨v994, v997, rfl, ho0, ho1, hb⟩
        refine ⟨_, rfl, ?_⟩
        have n0_ := Aside0.mk (Kd.R_mono (Kd.R_told (Kd.R_told (Kd.R_old (by (with_reducible repeat (first | apply Kd.R_alloc | apply Kd.R_drewN | apply Kd.R_drew)); exact HO956.out) hb) (Kd.R_base ho0)) (Kd.R_base ho1)) (fun _ h_ => h_.1))
        have n1_ := Aside0.mk (Kd.R_mono (Kd.R_told (Kd.R_told (Kd.R_old (by (with_reducible repeat (first | apply Kd.R_alloc | apply Kd.R_drewN | apply Kd.R_drew)); exact HO959.out) hb) (Kd.R_base ho0)) (Kd.R_base ho1)) (fun _ h_ => h_.1))
        have n2_ := Aside0.mk (Kd.R_mono (Kd.R_told (Kd.R_told (Kd.R_old (by (with_reducible repeat (first | apply Kd.R_alloc | apply Kd.R_drewN | apply Kd.R_drew)); exact HO975.out) hb) (Kd.R_base ho0)) (Kd.R_base ho1)) (fun _ h_ => h_.1))
        have n3_ := Aside0.mk (Kd.R_mono (Kd.R_told (Kd.R_told (Kd.R_old (by (with_reducible repeat (first | apply Kd.R_alloc | apply Kd.R_drewN | apply Kd.R_drew)); exact HO978.out) hb) (Kd.R_base ho0)) (Kd.R_base ho1)) (fun _ h_ => h_.1))
        have n4_ := Aside0.mk (Kd.R_lower (Kd.R_new' (Kd.R_new' (Kd.R_new' (Kd.R_new' ho0 (Kd.R_lt (by (with_reducible repeat (first | apply Kd.R_alloc | apply Kd.R_drewN | apply Kd.R_drew)); exact HO956.out))) (Kd.R_lt (by (with_reducible repeat (first | apply Kd.R_alloc | apply Kd.R_drewN | apply Kd.R_drew)); exact HO959.out))) (Kd.R_lt (by (with_reducible repeat (first | apply Kd.R_alloc | apply Kd.R_drewN | apply Kd.R_drew)); exact HO975.out))) (Kd.R_lt (by (with_reducible repeat (first | apply Kd.R_alloc | apply Kd.R_drewN | apply Kd.R_drew)); exact HO978.out))) (below_size (by repeat (first | (with_reducible first | exact HB.out | apply below_alloc | apply pw_below_drewN | apply below_drew1 | refine below_set ?_ GE947.out | refine below_set ?_ GE986.out) | exact HB.out))))
        have n5_ := Aside0.mk (Kd.R_lower (Kd.R_new' (Kd.R_new' (Kd.R_new' (Kd.R_new' ho1 (Kd.R_lt (by (with_reducible repeat (first | apply Kd.R_alloc | apply Kd.R_drewN | apply Kd.R_drew)); exact HO956.out))) (Kd.R_lt (by (with_reducible repeat (first | apply Kd.R_alloc | apply Kd.R_drewN | apply Kd.R_drew)); exact HO959.out))) (Kd.R_lt (by (with_reducible repeat (first | apply Kd.R_alloc | apply Kd.R_drewN | apply Kd.R_drew)); exact HO975.out))) (Kd.R_lt (by (with_reducible repeat (first | apply Kd.R_alloc | apply Kd.R_drewN | apply Kd.R_drew)); exact HO978.out))) (below_size (by repeat (first | (with_reducible first | exact HB.out | apply below_alloc | apply pw_below_drewN | apply below_drew1 | refine below_set ?_ GE947.out | refine below_set ?_ GE986.out) | exact HB.out))))
        have n6_ := Aside0.mk (blk_below (g := gb947) (o := .cells #[.int .i64 a0_0, .int .i64 a0_1, .int .i64 a0_2, .int .i64 a0_3, .int .i64 a0_4, .slice A0_5 l0_5.length c0_5, .slice A0_6 l0_6.length c0_6, .int .i64 a0_7, .int .i64 a0_8, .int .i64 a0_9, .int .i64 a0_10, .int .i64 a0_11, .int .i64 a0_12, .int .i64 a0_13] 84 (0, 0)) (by (with_reducible repeat (first | refine blk_drewN ?_ _ | refine blk_drew ?_ | refine blk_alloc ?_ _)); exact BK947.out) hb)
        have n7_ := Aside0.mk (blk_below (g := gb986) (o := .cells #[.int .i64 t968, .int .i64 t969, .int .i64 t970, .int .i64 t971, .int .i64 t972, .slice Ao28 t973.length co28, .slice Ao29 t976.length co29, .int .i64 t979, .int .i64 t980, .int .i64 t981, .int .i64 t982, .int .i64 t983, .int .i64 t984, .int .i64 t985] 89 (0, 0)) (by (with_reducible repeat (first | refine blk_drewN ?_ _ | refine blk_drew ?_ | refine blk_alloc ?_ _)); exact BK986.out) hb)
        have n8_ := Aside0.mk (below_step (by repeat (first | (with_reducible first | exact HB.out | apply below_alloc | apply pw_below_drewN | apply below_drew1 | refine below_set ?_ GE947.out | refine below_set ?_ GE986.out) | exact HB.out)) hb)
        clear HO956
        clear HO959
        clear HO975
        clear HO978
        clear BK947
        clear BK986
        clear HB
        have HO956 := n0_
        have HO959 := n1_
        have HO975 := n2_
        have HO978 := n3_
        have HO995 := n4_
        have HO998 := n5_
        have BK947 := n6_
        have BK986 := n7_
        have HB := n8_
        clear n0_ n1_ n2_ n3_ n4_ n5_ n6_ n7_ n8_
        (try clear hb)
        (try clear hb2)
        (try clear hk)
        (try clear hi)
        (try clear ho0)
        (try clear ho1)
        obtain ⟨Ao33, co33, eo33⟩ := Kd.R_slice HO995.out
        (first | subst eo33 | (injection eo33 with f1_ f2_ f3_; have f4_ := f1_.symm; have f5_ := f3_.symm; clear f1_ f2_ f3_; subst f4_; subst f5_))
        obtain ⟨Ao34, co34, eo34⟩ := Kd.R_slice HO998.out
        (first | subst eo34 | (injection eo34 with f1_ f2_ f3_; have f4_ := f1_.symm; have f5_ := f3_.symm; clear f1_ f2_ f3_; subst f4_; subst f5_))
        refine hK.out _ _ ⟨(blk_cell BK986.out 0).trans rfl, (blk_cell BK986.out 1).trans rfl, (blk_cell BK986.out 2).trans rfl, (blk_cell BK986.out 3).trans rfl, (blk_cell BK986.out 4).trans rfl, (blk_cell BK986.out 5).trans rfl, (blk_cell BK986.out 6).trans rfl, (blk_cell BK986.out 7).trans rfl, (blk_cell BK986.out 8).trans rfl, (blk_cell BK986.out 9).trans rfl, (blk_cell BK986.out 10).trans rfl, (blk_cell BK986.out 11).trans rfl, (blk_cell BK986.out 12).trans rfl, (blk_cell BK986.out 13).trans rfl, (blk_cell BK947.out 0).trans rfl, (blk_cell BK947.out 1).trans rfl, (blk_cell BK947.out 2).trans rfl, (blk_cell BK947.out 3).trans rfl, (blk_cell BK947.out 4).trans rfl, (blk_cell BK947.out 5).trans rfl, (blk_cell BK947.out 6).trans rfl, (blk_cell BK947.out 7).trans rfl, (blk_cell BK947.out 8).trans rfl, (blk_cell BK947.out 9).trans rfl, (blk_cell BK947.out 10).trans rfl, (blk_cell BK947.out 11).trans rfl, (blk_cell BK947.out 12).trans rfl, (blk_cell BK947.out 13).trans rfl⟩ (fun hHeld => ?_)
        clear hK K
        refine norm_ (a' := ?_) ?_ ?_
        rotate_left
        · show Act.put _ (some 24) _ = _
          simp only [Act.put, List.setIfInBounds_toArray, List.set_cons_zero, List.set_cons_succ, i64_w, i32_w]
          rfl
        refine one_ (i := 3) (N := some 25) #[true, true, true, true, false] rfl rfl (by kernel_rfl) (by decide) (fun K hK => ?_)
        refine goes_ Try.func55 (by kernel_rfl) rfl #[.agg #[.int .i64 t968, .int .i64 t969, .int .i64 t970, .int .i64 t971, .int .i64 t972, .slice Ao28 t973.length co28, .slice Ao29 t976.length co29, .int .i64 t979, .int .i64 t980, .int .i64 t981, .int .i64 t982, .int .i64 t983, .int .i64 t984, .int .i64 t985], .agg #[.int .i64 t988, .int .i64 t989, .int .i64 t990, .int .i64 t991, .int .i64 t992, .slice Ao33 t993.length co33, .slice Ao34 t996.length co34, .int .i64 t999, .int .i64 t1000, .int .i64 t1001, .int .i64 t1002, .int .i64 t1003, .int .i64 t1004, .int .i64 t1005]] (by rfl) rfl rfl (by (try simp only [List.map_toArray, List.map_cons, List.map_nil]); first | done | rfl | (simp only [List.length_drop, List.length_take]; rfl)) ?_
        with_reducible refine (laws_eqDesk.calls k t968 t969 t970 t971 t972 _ _ t973 _ _ t976 t979 t980 t981 t982 t983 t984 t985 t988 t989 t990 t991 t992 _ _ t993 _ _ t996 t999 t1000 t1001 t1002 t1003 t1004 t1005 true _ ?side1 ?side2 ?side3 ?side4 ?side5 ?side6 ?side7 ?side8 A13.out).mono ?_
        (case side1 => repeat (first | exact (Kd.R_reads' HO975.out).2.2 | (with_reducible refine Kd.C_alloc ?_ _) | (with_reducible refine Kd.C_drewN ?_ _) | (with_reducible refine Kd.C_drew ?_)))
        (case side2 => exact (Kd.R_reads' HO975.out).2.1)
        (case side3 => repeat (first | exact (Kd.R_reads' HO978.out).2.2 | (with_reducible refine Kd.C_alloc ?_ _) | (with_reducible refine Kd.C_drewN ?_ _) | (with_reducible refine Kd.C_drew ?_)))
        (case side4 => exact (Kd.R_reads' HO978.out).2.1)
        (case side5 => repeat (first | exact (Kd.R_reads' HO995.out).2.2 | (with_reducible refine Kd.C_alloc ?_ _) | (with_reducible refine Kd.C_drewN ?_ _) | (with_reducible refine Kd.C_drew ?_)))
        (case side6 => exact (Kd.R_reads' HO995.out).2.1)
        (case side7 => repeat (first | exact (Kd.R_reads' HO998.out).2.2 | (with_reducible refine Kd.C_alloc ?_ _) | (with_reducible refine Kd.C_drewN ?_ _) | (with_reducible refine Kd.C_drew ?_)))
        (case side8 => exact (Kd.R_reads' HO998.out).2.1)
        rintro e w35 ⟨rfl, hb⟩
        refine ⟨_, rfl, ?_⟩
        have n0_ := Aside0.mk (Kd.R_below (by (with_reducible repeat (first | apply Kd.R_alloc | apply Kd.R_drewN | apply Kd.R_drew)); exact HO956.out) hb)
        have n1_ := Aside0.mk (Kd.R_below (by (with_reducible repeat (first | apply Kd.R_alloc | apply Kd.R_drewN | apply Kd.R_drew)); exact HO959.out) hb)
        have n2_ := Aside0.mk (Kd.R_below (by (with_reducible repeat (first | apply Kd.R_alloc | apply Kd.R_drewN | apply Kd.R_drew)); exact HO975.out) hb)
        have n3_ := Aside0.mk (Kd.R_below (by (with_reducible repeat (first | apply Kd.R_alloc | apply Kd.R_drewN | apply Kd.R_drew)); exact HO978.out) hb)
        have n4_ := Aside0.mk (Kd.R_below (by (with_reducible repeat (first | apply Kd.R_alloc | apply Kd.R_drewN | apply Kd.R_drew)); exact HO995.out) hb)
        have n5_ := Aside0.mk (Kd.R_below (by (with_reducible repeat (first | apply Kd.R_alloc | apply Kd.R_drewN | apply Kd.R_drew)); exact HO998.out) hb)
        have n6_ := Aside0.mk (blk_below (g := gb947) (o := .cells #[.int .i64 a0_0, .int .i64 a0_1, .int .i64 a0_2, .int .i64 a0_3, .int .i64 a0_4, .slice A0_5 l0_5.length c0_5, .slice A0_6 l0_6.length c0_6, .int .i64 a0_7, .int .i64 a0_8, .int .i64 a0_9, .int .i64 a0_10, .int .i64 a0_11, .int .i64 a0_12, .int .i64 a0_13] 84 (0, 0)) (by (with_reducible repeat (first | refine blk_drewN ?_ _ | refine blk_drew ?_ | refine blk_alloc ?_ _)); exact BK947.out) hb)
        have n7_ := Aside0.mk (blk_below (g := gb986) (o := .cells #[.int .i64 t968, .int .i64 t969, .int .i64 t970, .int .i64 t971, .int .i64 t972, .slice Ao28 t973.length co28, .slice Ao29 t976.length co29, .int .i64 t979, .int .i64 t980, .int .i64 t981, .int .i64 t982, .int .i64 t983, .int .i64 t984, .int .i64 t985] 89 (0, 0)) (by (with_reducible repeat (first | refine blk_drewN ?_ _ | refine blk_drew ?_ | refine blk_alloc ?_ _)); exact BK986.out) hb)
        have n8_ := Aside0.mk (below_step (by repeat (first | (with_reducible first | exact HB.out | apply below_alloc | apply pw_below_drewN | apply below_drew1 | refine below_set ?_ GE947.out | refine below_set ?_ GE986.out) | exact HB.out)) hb)
        clear HO956
        clear HO959
        clear HO975
        clear HO978
        clear HO995
        clear HO998
        clear BK947
        clear BK986
        clear HB
        have HO956 := n0_
        have HO959 := n1_
        have HO975 := n2_
        have HO978 := n3_
        have HO995 := n4_
        have HO998 := n5_
        have BK947 := n6_
        have BK986 := n7_
        have HB := n8_
        clear n0_ n1_ n2_ n3_ n4_ n5_ n6_ n7_ n8_
        (try clear hb)
        (try clear hb2)
        (try clear hk)
        (try clear hi)
        refine hK.out _ _ ⟨(blk_cell BK986.out 0).trans rfl, (blk_cell BK986.out 1).trans rfl, (blk_cell BK986.out 2).trans rfl, (blk_cell BK986.out 3).trans rfl, (blk_cell BK986.out 4).trans rfl, (blk_cell BK986.out 5).trans rfl, (blk_cell BK986.out 6).trans rfl, (blk_cell BK986.out 7).trans rfl, (blk_cell BK986.out 8).trans rfl, (blk_cell BK986.out 9).trans rfl, (blk_cell BK986.out 10).trans rfl, (blk_cell BK986.out 11).trans rfl, (blk_cell BK986.out 12).trans rfl, (blk_cell BK986.out 13).trans rfl, (blk_cell BK947.out 0).trans rfl, (blk_cell BK947.out 1).trans rfl, (blk_cell BK947.out 2).trans rfl, (blk_cell BK947.out 3).trans rfl, (blk_cell BK947.out 4).trans rfl, (blk_cell BK947.out 5).trans rfl, (blk_cell BK947.out 6).trans rfl, (blk_cell BK947.out 7).trans rfl, (blk_cell BK947.out 8).trans rfl, (blk_cell BK947.out 9).trans rfl, (blk_cell BK947.out 10).trans rfl, (blk_cell BK947.out 11).trans rfl, (blk_cell BK947.out 12).trans rfl, (blk_cell BK947.out 13).trans rfl⟩ (fun hHeld => ?_)
        clear hK K
        refine norm_ (a' := ?_) ?_ ?_
        rotate_left
        · show Act.put _ (some 25) _ = _
          simp only [Act.put, List.setIfInBounds_toArray, List.set_cons_zero, List.set_cons_succ, i64_w, i32_w]
          rfl
        refine pure_ (i := 4) (N := some 26) (v := ?_) (a' := ?_) #[true, true, true, true, true] rfl rfl (by kernel_rfl) (fun _ _ _ h => h) (Or.inl ⟨by rfl, ?_⟩) ?_ ?_
        rotate_left
        · intro w'
          go_simp
          with_reducible rfl
        rotate_left
        · simp only [Act.put, List.setIfInBounds_toArray, List.set_cons_zero, List.set_cons_succ, i64_w, i32_w]
          rfl
        refine done_ (by kernel_rfl) ?_
        try go_wp2
        go_ret
        exact ⟨by first | rfl | (simp [errW_none, errW_some] <;> rfl) | (simp [*, errW_none, errW_some] <;> rfl), by repeat (first | (with_reducible first | exact HB.out | apply below_alloc | apply pw_below_drewN | apply below_drew1 | refine below_set ?_ GE947.out | refine below_set ?_ GE986.out) | exact HB.out)⟩
      · replace c14 := Bool.eq_false_iff.mpr c14
        subst c14
        have H1 : (none) = some r := by rw [if_neg (show ¬ (false = true) by decide)] at H; exact H
        clear H
        have H := H1
        clear H1
        exact absurd H (by simp)

end Go.Proofs.Ytnimjikikfhlpaa.F

namespace Go.Proofs.YtnimjikikfhlpaaO
open Go.RowKit Go.Proofs.YtnimjikikfhlpaaW.PrintWords
set_option linter.unusedVariables false

/-- What reads as data of type t is told by the kind d, and what it tells is G. -/
def Opens {H α : Type} (enc : TypeId × Value → H) (P : Program) (w : World) (d : Kd α) (t : TypeId) (G : α → Prop) : Prop :=
  ∀ (spare : Nat → Bool) (held : Bool) (base fuel : Nat) (cs : List Value) (x : DataW H × List MemPlace),
    DataW.trod enc P w base spare held fuel t cs = some x → ∃ a, d.K w a cs ∧ G a

section
variable {H α β : Type} {enc : TypeId × Value → H} {P : Program} {w : World}

theorem opens_int {t : TypeId} {k : IntKind} (ht : P.underlying t = some (.int k)) : Opens enc P w (Kd.int k) t (fun n => (Lit.int k n).wf = true) := by
  intro spare held base fuel cs x h
  obtain ⟨n, rfl, _, hw⟩ := DataW.trod_int ht h
  exact ⟨n, rfl, hw⟩

theorem opens_bool {t : TypeId} (ht : P.underlying t = some .bool) : Opens enc P w Kd.bool t (fun _ => True) := by
  intro spare held base fuel cs x h
  obtain ⟨n, rfl, _⟩ := DataW.trod_bool ht h
  exact ⟨n, rfl, trivial⟩

theorem opens_string {t : TypeId} (ht : P.underlying t = some .string) : Opens enc P w Kd.string t (fun s => s.size ≤ maxLen) := by
  intro spare held base fuel cs x h
  obtain ⟨n, rfl, _, hw⟩ := DataW.trod_string ht h
  exact ⟨n, rfl, hw⟩

theorem choose_list {p : Nat → α → Prop} : ∀ n, (∀ i, i < n → ∃ x, p i x) → ∃ l : List α, l.length = n ∧ ∀ i x, l[i]? = some x → p i x
  | 0, _ => ⟨[], rfl, fun i x h => by simp at h⟩
  | n + 1, h => by
    obtain ⟨l, hl, hp⟩ := choose_list n (fun i hi => h i (by omega))
    obtain ⟨x, hx⟩ := h n (by omega)
    refine ⟨l ++ [x], by simp [hl], fun i y hy => ?_⟩
    rcases Nat.lt_or_ge i n with hi | hi
    · rw [List.getElem?_append_left (by omega)] at hy
      exact hp i y hy
    · rw [List.getElem?_append_right (by omega), hl] at hy
      have : i - n = 0 := by
        rcases Nat.eq_zero_or_pos (i - n) with h0 | h0
        · exact h0
        · rw [List.getElem?_eq_none (by simp; omega)] at hy
          cases hy
      rw [this] at hy
      have : i = n := by omega
      subst this
      simp at hy
      exact hy ▸ hx

/-- A slice: its elements. -/
theorem opens_row {t e : TypeId} {d : Kd α} {G : α → Prop} (ht : P.underlying t = some (.slice e)) (hs : P.cellsOf e = d.sz) (he : Opens enc P w d e G)
    {spare : Nat → Bool} {held : Bool} {base fuel : Nat} {cs : List Value} {x : DataW H × List MemPlace} (h : DataW.trod enc P w base spare held fuel t cs = some x) :
    ∃ (A : Option Addr) (xs : List α) (c : Nat), cs = [.slice A xs.length c] ∧ xs.length ≤ c ∧ c ≤ maxLen ∧ d.C w A xs.length xs ∧ ∀ a ∈ xs, G a := by
  rcases Go.Deep.open_slice ht h with ⟨rfl, _⟩ | ⟨a, len, cap, m, n, D, Pl, rfl, hb, hl, hm, hmm, _, hx⟩
  · exact ⟨none, [], 0, rfl, Nat.le_refl _, by unfold maxLen; omega, ⟨rfl, by simp, fun h => absurd h (by simp)⟩, fun a ha => by simp at ha⟩
  · have hlm : len ≤ m := by rw [hmm]; split <;> omega
    obtain ⟨xs, hxl, hxs⟩ := choose_list (p := fun i (b : α) => (∃ c, c.length = d.sz ∧ d.K w b c ∧ ∀ j u, c[j]? = some u → w.cell? (a.add (i * d.sz + j)) = some u) ∧ G b) len (fun i hi => by
      obtain ⟨cs', h1, h2⟩ := hx i (by omega)
      obtain ⟨_, hcl, hc⟩ := World.cells?_some h1
      obtain ⟨b, hK, hG⟩ := he _ _ _ _ _ _ h2
      refine ⟨b, ⟨cs', by rw [hcl, hs], hK, fun j u hj => ?_⟩, hG⟩
      have hjl : j < P.cellsOf e := by rw [← hcl]; exact (List.getElem?_eq_some_iff.1 hj).1
      have := hc j hjl
      rw [hs] at this
      rw [hj] at this
      rw [← this, Go.Deep.add_add])
    subst hxl
    refine ⟨some a, xs, cap, rfl, hl, hm, ⟨rfl, by unfold maxLen at hm; omega, fun _ => ⟨a, rfl, fun j p hj => (hxs j p hj).1⟩⟩, fun b hb => ?_⟩
    obtain ⟨i, hi, rfl⟩ := List.getElem_of_mem hb
    exact (hxs i _ (List.getElem?_eq_getElem hi)).2

theorem opens_slice {t e e' : TypeId} {d : Kd α} {G : α → Prop} (ht : P.underlying t = some (.slice e)) (hs : P.cellsOf e = d.sz) (he : Opens enc P w d e G) :
    Opens enc P w (Kd.slice e' d) t (fun xs => xs.length ≤ maxLen ∧ ∀ a ∈ xs, G a) := by
  intro spare held base fuel cs x h
  obtain ⟨A, xs, c, rfl, hl, hm, hC, hG⟩ := opens_row ht hs he h
  exact ⟨xs, ⟨A, c, rfl, hl, hC⟩, by omega, hG⟩

/-- The fields of a struct from offset o on. -/
def OpensF (enc : TypeId × Value → H) (P : Program) (w : World) (d : Kd α) (fs : List Field) (o : Nat) (G : α → Prop) : Prop :=
  ∀ (spare : Nat → Bool) (held : Bool) (base fuel : Nat) (cs : List Value), cs.length = o + d.sz →
    (∀ f ∈ fs, ∃ x, DataW.trod enc P w base spare held fuel f.type ((cs.drop f.offset).take (P.cellsOf f.type)) = some x) → ∃ a, d.K w a (cs.drop o) ∧ G a

theorem opensF_last {d : Kd α} {f : Field} {o : Nat} {G : α → Prop} (ho : f.offset = o) (hs : P.cellsOf f.type = d.sz) (h : Opens enc P w d f.type G) : OpensF enc P w d [f] o G := by
  intro spare held base fuel cs hl hf
  obtain ⟨x, hx⟩ := hf f (List.mem_singleton.2 rfl)
  rw [ho, hs, List.take_of_length_le (by rw [List.length_drop]; omega)] at hx
  exact h _ _ _ _ _ _ hx

theorem opensF_cons {d : Kd α} {d' : Kd β} {f : Field} {fs : List Field} {o : Nat} {G : α → Prop} {G' : β → Prop} (ho : f.offset = o) (hs : P.cellsOf f.type = d.sz) (h : Opens enc P w d f.type G)
    (hr : OpensF enc P w d' fs (o + d.sz) G') : OpensF enc P w (Kd.pair d d') (f :: fs) o (fun x => G x.1 ∧ G' x.2) := by
  intro spare held base fuel cs hl hf
  have hl' : cs.length = o + (d.sz + d'.sz) := hl
  obtain ⟨x, hx⟩ := hf f List.mem_cons_self
  rw [ho, hs] at hx
  obtain ⟨a, hK, hG⟩ := h _ _ _ _ _ _ hx
  obtain ⟨b, hK', hG'⟩ := hr spare held base fuel cs (by omega) (fun g hg => hf g (List.mem_cons_of_mem _ hg))
  refine ⟨(a, b), ⟨_, _, ?_, hK, hK'⟩, hG, hG'⟩
  rw [← List.drop_drop, List.take_append_drop]

/-- A struct by its fields, as a Lean structure: f takes it apart, g puts it together. -/
theorem opens_struct {t : TypeId} {fs : Array Field} {d : Kd α} {G : α → Prop} (ht : P.underlying t = some (.struct fs)) (hs : P.cellsOf t = d.sz) (f : β → α) (g : α → β) (hfg : ∀ a, f (g a) = a) (h : OpensF enc P w d fs.toList 0 G) :
    Opens enc P w (Kd.iso d f) t (fun b => G (f b)) := by
  intro spare held base fuel cs x hx
  obtain ⟨xs, n, rfl, _, hl, hxl, hf⟩ := DataW.trod_struct ht hx
  obtain ⟨a, hK, hG⟩ := h spare held base n cs (by rw [hl, hs]; omega) (fun z hz => by
    obtain ⟨i, hi, rfl⟩ := List.getElem_of_mem hz
    have hi' : i < fs.size := by simpa using hi
    refine ⟨xs[i]'(by omega), ?_⟩
    rw [Array.getElem_toList]
    rw [hf i _ (Array.getElem?_eq_getElem hi'), List.getElem?_eq_getElem (by omega)])
  refine ⟨g a, ?_, by show G (f (g a)); rw [hfg]; exact hG⟩
  show d.K w (f (g a)) cs
  rw [hfg]
  exact hK

theorem Opens.mono {d : Kd α} {t : TypeId} {G G' : α → Prop} (h : Opens enc P w d t G) (hg : ∀ a, G a → G' a) : Opens enc P w d t G' := by
  intro spare held base fuel cs x hx
  obtain ⟨a, hK, hG⟩ := h _ _ _ _ _ _ hx
  exact ⟨a, hK, hg a hG⟩
end
end Go.Proofs.YtnimjikikfhlpaaO

namespace Go.Proofs.Ytnimjikikfhlpaa.F
open Go.RowKit Go.Proofs.YtnimjikikfhlpaaW.PrintWords Go.Proofs.YtnimjikikfhlpaaO
set_option linter.unusedVariables false

def g2 (x : Int) : Prop := (Lit.int .i64 x).wf = true
def g178 (x : S178) : Prop := ((Lit.int .i64 x.f0).wf = true) ∧ ((Lit.int .i64 x.f1).wf = true)
theorem o178 {H : Type} {enc : TypeId × Value → H} {w : World} : Opens enc Try.prog w k178 178 g178 := (opens_struct (β := S178) Try.underlying178 (by kernel_rfl) (fun x => (x.f0, x.f1)) (fun p => ⟨p.1, p.2⟩) (fun _ => rfl) (opensF_cons rfl (by kernel_rfl) (opens_int Try.underlying2) (opensF_last rfl (by kernel_rfl) (opens_int Try.underlying2)))).mono (fun _ h => h)
def g100 (x : (List S178)) : Prop := x.length ≤ maxLen ∧ ∀ y ∈ x, g178 y
def g102 (x : S102) : Prop := ((Lit.int .i64 x.f0).wf = true) ∧ (x.f1.length ≤ maxLen ∧ ∀ y ∈ x.f1, g178 y)
theorem o102 {H : Type} {enc : TypeId × Value → H} {w : World} : Opens enc Try.prog w k102 102 g102 := (opens_struct (β := S102) Try.underlying102 (by kernel_rfl) (fun x => (x.f0, x.f1)) (fun p => ⟨p.1, p.2⟩) (fun _ => rfl) (opensF_cons rfl (by kernel_rfl) (opens_int Try.underlying2) (opensF_last rfl (by kernel_rfl) (opens_slice (e' := 178) Try.underlying100 (by kernel_rfl) o178)))).mono (fun _ h => h)
def g59 (x : S59) : Prop := ((Lit.int .i64 x.f0).wf = true) ∧ ((Lit.int .i64 x.f1).wf = true)
theorem o59 {H : Type} {enc : TypeId × Value → H} {w : World} : Opens enc Try.prog w k59 59 g59 := (opens_struct (β := S59) Try.underlying59 (by kernel_rfl) (fun x => (x.f0, x.f1)) (fun p => ⟨p.1, p.2⟩) (fun _ => rfl) (opensF_cons rfl (by kernel_rfl) (opens_int Try.underlying2) (opensF_last rfl (by kernel_rfl) (opens_int Try.underlying2)))).mono (fun _ h => h)
def g61 (x : S61) : Prop := ((Lit.int .i64 x.f0).wf = true) ∧ (g59 x.f1) ∧ ((Lit.int .i64 x.f2).wf = true)
theorem o61 {H : Type} {enc : TypeId × Value → H} {w : World} : Opens enc Try.prog w k61 61 g61 := (opens_struct (β := S61) Try.underlying61 (by kernel_rfl) (fun x => (x.f0, x.f1, x.f2)) (fun p => ⟨p.1, p.2.1, p.2.2⟩) (fun _ => rfl) (opensF_cons rfl (by kernel_rfl) (opens_int Try.underlying2) (opensF_cons rfl (by kernel_rfl) o59 (opensF_last rfl (by kernel_rfl) (opens_int Try.underlying2))))).mono (fun _ h => h)
def g23 (x : (List Int)) : Prop := x.length ≤ maxLen ∧ ∀ y ∈ x, g2 y
def g63 (x : S63) : Prop := (g61 x.f0) ∧ ((Lit.int .i64 x.f1).wf = true) ∧ (x.f2.length ≤ maxLen ∧ ∀ y ∈ x.f2, g2 y) ∧ (x.f3.length ≤ maxLen ∧ ∀ y ∈ x.f3, g2 y)
theorem o63 {H : Type} {enc : TypeId × Value → H} {w : World} : Opens enc Try.prog w k63 63 g63 := (opens_struct (β := S63) Try.underlying63 (by kernel_rfl) (fun x => (x.f0, x.f1, x.f2, x.f3)) (fun p => ⟨p.1, p.2.1, p.2.2.1, p.2.2.2⟩) (fun _ => rfl) (opensF_cons rfl (by kernel_rfl) o61 (opensF_cons rfl (by kernel_rfl) (opens_int Try.underlying2) (opensF_cons rfl (by kernel_rfl) (opens_slice (e' := 2) Try.underlying23 (by kernel_rfl) (opens_int Try.underlying2)) (opensF_last rfl (by kernel_rfl) (opens_slice (e' := 2) Try.underlying23 (by kernel_rfl) (opens_int Try.underlying2))))))).mono (fun _ h => h)
def g113 (x : S113) : Prop := ((Lit.int .i64 x.f0).wf = true) ∧ (g63 x.f1)
theorem o113 {H : Type} {enc : TypeId × Value → H} {w : World} : Opens enc Try.prog w k113 113 g113 := (opens_struct (β := S113) Try.underlying113 (by kernel_rfl) (fun x => (x.f0, x.f1)) (fun p => ⟨p.1, p.2⟩) (fun _ => rfl) (opensF_cons rfl (by kernel_rfl) (opens_int Try.underlying2) (opensF_last rfl (by kernel_rfl) o63))).mono (fun _ h => h)
def g5 (x : Int) : Prop := (Lit.int .u8 x).wf = true
def g127 (x : S127) : Prop := ((Lit.int .u8 x.f0).wf = true) ∧ ((Lit.int .i64 x.f1).wf = true) ∧ ((Lit.int .i64 x.f2).wf = true)
theorem o127 {H : Type} {enc : TypeId × Value → H} {w : World} : Opens enc Try.prog w k127 127 g127 := (opens_struct (β := S127) Try.underlying127 (by kernel_rfl) (fun x => (x.f0, x.f1, x.f2)) (fun p => ⟨p.1, p.2.1, p.2.2⟩) (fun _ => rfl) (opensF_cons rfl (by kernel_rfl) (opens_int Try.underlying5) (opensF_cons rfl (by kernel_rfl) (opens_int Try.underlying2) (opensF_last rfl (by kernel_rfl) (opens_int Try.underlying2))))).mono (fun _ h => h)
theorem p63 {H : Type} {enc : TypeId × Value → H} {w : World} : Opens enc Try.prog w (Kd.iso (Kd.pair (Kd.iso (Kd.pair (Kd.int .i64) (Kd.pair (Kd.iso (Kd.pair (Kd.int .i64) (Kd.int .i64)) (fun x : (Int × Int) => x)) (Kd.int .i64))) (fun x : (Int × (Int × Int) × Int) => x)) (Kd.pair (Kd.int .i64) (Kd.pair (Kd.slice 2 (Kd.int .i64)) (Kd.slice 2 (Kd.int .i64))))) (fun x : ((Int × (Int × Int) × Int) × Int × (List Int) × (List Int)) => x)) 63 (fun x => (((Lit.int .i64 x.1.1).wf = true) ∧ (((Lit.int .i64 x.1.2.1.1).wf = true) ∧ ((Lit.int .i64 x.1.2.1.2).wf = true)) ∧ ((Lit.int .i64 x.1.2.2).wf = true)) ∧ ((Lit.int .i64 x.2.1).wf = true) ∧ (x.2.2.1.length ≤ maxLen ∧ ∀ y ∈ x.2.2.1, g2 y) ∧ (x.2.2.2.length ≤ maxLen ∧ ∀ y ∈ x.2.2.2, g2 y)) := (opens_struct (β := ((Int × (Int × Int) × Int) × Int × (List Int) × (List Int))) Try.underlying63 (by kernel_rfl) (fun x => x) (fun x => x) (fun _ => rfl) (opensF_cons rfl (by kernel_rfl) (opens_struct (β := (Int × (Int × Int) × Int)) Try.underlying61 (by kernel_rfl) (fun x => x) (fun x => x) (fun _ => rfl) (opensF_cons rfl (by kernel_rfl) (opens_int Try.underlying2) (opensF_cons rfl (by kernel_rfl) (opens_struct (β := (Int × Int)) Try.underlying59 (by kernel_rfl) (fun x => x) (fun x => x) (fun _ => rfl) (opensF_cons rfl (by kernel_rfl) (opens_int Try.underlying2) (opensF_last rfl (by kernel_rfl) (opens_int Try.underlying2)))) (opensF_last rfl (by kernel_rfl) (opens_int Try.underlying2))))) (opensF_cons rfl (by kernel_rfl) (opens_int Try.underlying2) (opensF_cons rfl (by kernel_rfl) (opens_slice (e' := 2) Try.underlying23 (by kernel_rfl) (opens_int Try.underlying2)) (opensF_last rfl (by kernel_rfl) (opens_slice (e' := 2) Try.underlying23 (by kernel_rfl) (opens_int Try.underlying2))))))).mono (fun _ h => h)
theorem p84 {H : Type} {enc : TypeId × Value → H} {w : World} : Opens enc Try.prog w (Kd.iso (Kd.pair (Kd.iso (Kd.pair (Kd.iso (Kd.pair (Kd.int .i64) (Kd.pair (Kd.iso (Kd.pair (Kd.int .i64) (Kd.int .i64)) (fun x : (Int × Int) => x)) (Kd.int .i64))) (fun x : (Int × (Int × Int) × Int) => x)) (Kd.pair (Kd.int .i64) (Kd.pair (Kd.slice 2 (Kd.int .i64)) (Kd.slice 2 (Kd.int .i64))))) (fun x : ((Int × (Int × Int) × Int) × Int × (List Int) × (List Int)) => x)) (Kd.pair (Kd.iso (Kd.pair (Kd.int .i64) (Kd.pair (Kd.int .i64) (Kd.pair (Kd.int .i64) (Kd.pair (Kd.int .i64) (Kd.int .i64))))) (fun x : (Int × Int × Int × Int × Int) => x)) (Kd.pair (Kd.int .i64) (Kd.int .i64)))) (fun x : (((Int × (Int × Int) × Int) × Int × (List Int) × (List Int)) × (Int × Int × Int × Int × Int) × Int × Int) => x)) 84 (fun x => ((((Lit.int .i64 x.1.1.1).wf = true) ∧ (((Lit.int .i64 x.1.1.2.1.1).wf = true) ∧ ((Lit.int .i64 x.1.1.2.1.2).wf = true)) ∧ ((Lit.int .i64 x.1.1.2.2).wf = true)) ∧ ((Lit.int .i64 x.1.2.1).wf = true) ∧ (x.1.2.2.1.length ≤ maxLen ∧ ∀ y ∈ x.1.2.2.1, g2 y) ∧ (x.1.2.2.2.length ≤ maxLen ∧ ∀ y ∈ x.1.2.2.2, g2 y)) ∧ (((Lit.int .i64 x.2.1.1).wf = true) ∧ ((Lit.int .i64 x.2.1.2.1).wf = true) ∧ ((Lit.int .i64 x.2.1.2.2.1).wf = true) ∧ ((Lit.int .i64 x.2.1.2.2.2.1).wf = true) ∧ ((Lit.int .i64 x.2.1.2.2.2.2).wf = true)) ∧ ((Lit.int .i64 x.2.2.1).wf = true) ∧ ((Lit.int .i64 x.2.2.2).wf = true)) := (opens_struct (β := (((Int × (Int × Int) × Int) × Int × (List Int) × (List Int)) × (Int × Int × Int × Int × Int) × Int × Int)) Try.underlying84 (by kernel_rfl) (fun x => x) (fun x => x) (fun _ => rfl) (opensF_cons rfl (by kernel_rfl) (opens_struct (β := ((Int × (Int × Int) × Int) × Int × (List Int) × (List Int))) Try.underlying63 (by kernel_rfl) (fun x => x) (fun x => x) (fun _ => rfl) (opensF_cons rfl (by kernel_rfl) (opens_struct (β := (Int × (Int × Int) × Int)) Try.underlying61 (by kernel_rfl) (fun x => x) (fun x => x) (fun _ => rfl) (opensF_cons rfl (by kernel_rfl) (opens_int Try.underlying2) (opensF_cons rfl (by kernel_rfl) (opens_struct (β := (Int × Int)) Try.underlying59 (by kernel_rfl) (fun x => x) (fun x => x) (fun _ => rfl) (opensF_cons rfl (by kernel_rfl) (opens_int Try.underlying2) (opensF_last rfl (by kernel_rfl) (opens_int Try.underlying2)))) (opensF_last rfl (by kernel_rfl) (opens_int Try.underlying2))))) (opensF_cons rfl (by kernel_rfl) (opens_int Try.underlying2) (opensF_cons rfl (by kernel_rfl) (opens_slice (e' := 2) Try.underlying23 (by kernel_rfl) (opens_int Try.underlying2)) (opensF_last rfl (by kernel_rfl) (opens_slice (e' := 2) Try.underlying23 (by kernel_rfl) (opens_int Try.underlying2))))))) (opensF_cons rfl (by kernel_rfl) (opens_struct (β := (Int × Int × Int × Int × Int)) Try.underlying82 (by kernel_rfl) (fun x => x) (fun x => x) (fun _ => rfl) (opensF_cons rfl (by kernel_rfl) (opens_int Try.underlying2) (opensF_cons rfl (by kernel_rfl) (opens_int Try.underlying2) (opensF_cons rfl (by kernel_rfl) (opens_int Try.underlying2) (opensF_cons rfl (by kernel_rfl) (opens_int Try.underlying2) (opensF_last rfl (by kernel_rfl) (opens_int Try.underlying2))))))) (opensF_cons rfl (by kernel_rfl) (opens_int Try.underlying2) (opensF_last rfl (by kernel_rfl) (opens_int Try.underlying2)))))).mono (fun _ h => h)
end Go.Proofs.Ytnimjikikfhlpaa.F

namespace Go.Proofs.Ytnimjikikfhlpaa.Pure
open Go.RowKit Go.Proofs.Ytnimjikikfhlpaa.F Go.Proofs.YtnimjikikfhlpaaW.PrintWords Go.Proofs.YtnimjikikfhlpaaW.PrintLast Go.Proofs.YtnimjikikfhlpaaW.PrintMore Go.Proofs.YtnimjikikfhlpaaB
set_option linter.unusedVariables false
set_option linter.unusedSimpArgs false
theorem impl_in_f (a b c : Int) : impl_in.f a b c = some (inB a b c) := inB_if a b c

end Go.Proofs.Ytnimjikikfhlpaa.Pure

namespace Go.Proofs.Ytnimjikikfhlpaa.Pure
open Go.RowKit Go.Proofs.Ytnimjikikfhlpaa.F Go.Proofs.YtnimjikikfhlpaaW.PrintWords Go.Proofs.YtnimjikikfhlpaaW.PrintLast Go.Proofs.YtnimjikikfhlpaaW.PrintMore Go.Proofs.YtnimjikikfhlpaaB
set_option linter.unusedVariables false
set_option linter.unusedSimpArgs false
theorem impl_IsWall_f (a b : Int) : impl_IsWall.f a b = some (inB a 0 1295999 && inB b (-324000) 324000) := by
  simp only [impl_IsWall.f, impl_in_f, Option.bind_some]
  cases inB a 0 1295999 <;> simp

end Go.Proofs.Ytnimjikikfhlpaa.Pure

namespace Go.Proofs.Ytnimjikikfhlpaa.Pure
open Go.RowKit Go.Proofs.Ytnimjikikfhlpaa.F Go.Proofs.YtnimjikikfhlpaaW.PrintWords Go.Proofs.YtnimjikikfhlpaaW.PrintLast Go.Proofs.YtnimjikikfhlpaaW.PrintMore Go.Proofs.YtnimjikikfhlpaaB
set_option linter.unusedVariables false
set_option linter.unusedSimpArgs false
theorem impl_isHeight_f (a : Int) : impl_isHeight.f a = some (inB a 1 10000) := by
  simp only [impl_isHeight.f, impl_in_f, Option.bind_some]

end Go.Proofs.Ytnimjikikfhlpaa.Pure

namespace Go.Proofs.Ytnimjikikfhlpaa.Pure
open Go.RowKit Go.Proofs.Ytnimjikikfhlpaa.F Go.Proofs.YtnimjikikfhlpaaW.PrintWords Go.Proofs.YtnimjikikfhlpaaW.PrintLast Go.Proofs.YtnimjikikfhlpaaW.PrintMore Go.Proofs.YtnimjikikfhlpaaB
set_option linter.unusedVariables false
set_option linter.unusedSimpArgs false
theorem impl_isLatitude_f (a : Int) : impl_isLatitude.f a = some (inB a (-324000) 324000) := by
  simp only [impl_isLatitude.f, impl_in_f, Option.bind_some]

end Go.Proofs.Ytnimjikikfhlpaa.Pure

namespace Go.Proofs.Ytnimjikikfhlpaa.Pure
open Go.RowKit Go.Proofs.Ytnimjikikfhlpaa.F Go.Proofs.YtnimjikikfhlpaaW.PrintWords Go.Proofs.YtnimjikikfhlpaaW.PrintLast Go.Proofs.YtnimjikikfhlpaaW.PrintMore Go.Proofs.YtnimjikikfhlpaaB
set_option linter.unusedVariables false
set_option linter.unusedSimpArgs false
def dialB (a b c d : Int) : Bool := inB a (-324000) 324000 && (inB b 0 1295999 && inB c (-324000) 324000) && inB d 1 10000

end Go.Proofs.Ytnimjikikfhlpaa.Pure

namespace Go.Proofs.Ytnimjikikfhlpaa.Pure
open Go.RowKit Go.Proofs.Ytnimjikikfhlpaa.F Go.Proofs.YtnimjikikfhlpaaW.PrintWords Go.Proofs.YtnimjikikfhlpaaW.PrintLast Go.Proofs.YtnimjikikfhlpaaW.PrintMore Go.Proofs.YtnimjikikfhlpaaB
set_option linter.unusedVariables false
set_option linter.unusedSimpArgs false
theorem impl_IsDial_f (a b c d : Int) : impl_IsDial.f a b c d = some (dialB a b c d) := by
  simp only [impl_IsDial.f, impl_isLatitude_f, impl_IsWall_f, impl_isHeight_f, Option.bind_some, dialB]
  cases inB a (-324000) 324000 <;> cases (inB b 0 1295999 && inB c (-324000) 324000) <;> simp

end Go.Proofs.Ytnimjikikfhlpaa.Pure

namespace Go.Proofs.Ytnimjikikfhlpaa.Pure
open Go.RowKit Go.Proofs.Ytnimjikikfhlpaa.F Go.Proofs.YtnimjikikfhlpaaW.PrintWords Go.Proofs.YtnimjikikfhlpaaW.PrintLast Go.Proofs.YtnimjikikfhlpaaW.PrintMore Go.Proofs.YtnimjikikfhlpaaB
set_option linter.unusedVariables false
set_option linter.unusedSimpArgs false
theorem impl_Project_few_f (a b c d e : Int) (xs ys : List Int) (hx : xs.length ≤ 4611686018427387903) (hy : ys.length ≤ 4611686018427387903) : impl_Project_few.f a b c d e xs ys = some (decide (xs.length + ys.length ≤ 40)) := by
  unfold impl_Project_few.f
  rw [w64 (by omega) (by omega)]
  by_cases h : xs.length + ys.length ≤ 40
  · rw [decide_eq_true (by omega), decide_eq_true h]
  · rw [decide_eq_false (by omega), decide_eq_false h]

end Go.Proofs.Ytnimjikikfhlpaa.Pure

namespace Go.Proofs.Ytnimjikikfhlpaa.Pure
open Go.RowKit Go.Proofs.Ytnimjikikfhlpaa.F Go.Proofs.YtnimjikikfhlpaaW.PrintWords Go.Proofs.YtnimjikikfhlpaaW.PrintLast Go.Proofs.YtnimjikikfhlpaaW.PrintMore Go.Proofs.YtnimjikikfhlpaaB
set_option linter.unusedVariables false
set_option linter.unusedSimpArgs false
theorem impl_isYear_f (a : Int) : impl_isYear.f a = some (inB a 1901 2099) := by
  simp only [impl_isYear.f, impl_in_f, Option.bind_some]

end Go.Proofs.Ytnimjikikfhlpaa.Pure

namespace Go.Proofs.Ytnimjikikfhlpaa.Pure
open Go.RowKit Go.Proofs.Ytnimjikikfhlpaa.F Go.Proofs.YtnimjikikfhlpaaW.PrintWords Go.Proofs.YtnimjikikfhlpaaW.PrintLast Go.Proofs.YtnimjikikfhlpaaW.PrintMore Go.Proofs.YtnimjikikfhlpaaB
set_option linter.unusedVariables false
set_option linter.unusedSimpArgs false
def risB (most : Int) : Option Int → List Int → Bool
  | _, [] => true
  | p, y :: ys => inB y 0 most && (match p with | none => true | some q => decide (q < y)) && risB most (some y) ys
def prevOf (xs : List Int) (m : Nat) : Option Int := if m = 0 then none else some (xs.getD (m - 1) 0)
theorem prevOf_succ {xs ys : List Int} {y : Int} {m : Nat} (h : xs.drop m = y :: ys) : prevOf xs (m + 1) = some y := by
  unfold prevOf
  rw [if_neg (by omega), Nat.add_sub_cancel, (drop_cons h).2.1]
def risesB (l : List Int) (most : Int) : Bool := risB most none l
theorem rdI {xs ys : List Int} {y : Int} {m : Nat} (h : xs.drop m = y :: ys) : rd xs (m : Int) = y := (drop_cons h).2.1 _

end Go.Proofs.Ytnimjikikfhlpaa.Pure

namespace Go.Proofs.Ytnimjikikfhlpaa.Pure
open Go.RowKit Go.Proofs.Ytnimjikikfhlpaa.F Go.Proofs.YtnimjikikfhlpaaW.PrintWords Go.Proofs.YtnimjikikfhlpaaW.PrintLast Go.Proofs.YtnimjikikfhlpaaW.PrintMore Go.Proofs.YtnimjikikfhlpaaB
set_option linter.unusedVariables false
set_option linter.unusedSimpArgs false
theorem impl_rising_l0 (xs : List Int) (a : Int) (hx : xs.length ≤ 9223372036854775807) : ∀ (ys : List Int) (m : Nat), xs.drop m = ys →
    Ev (fun k => impl_rising.l0 k xs a xs xs.length m) (risB a (prevOf xs m) ys)
  | [], m, h => by
    have := drop_nil h
    exact ev_step (fun _ => rfl) (ev_neg (by omega) (ev_now rfl))
  | y :: ys, m, h => by
    obtain ⟨hm, _, hd⟩ := drop_cons h
    refine ev_step (fun _ => rfl) (ev_pos (by omega) (ev_pos (by omega) (ev_pos (by omega) ?_)))
    rw [rdI h, w64 (x := (m : Int) + 1) (by omega) (by omega), w64 (x := (m : Int) - 1) (by omega) (by omega)]
    refine ev_some (impl_in_f _ _ _) ?_
    have ih := impl_rising_l0 xs a hx ys (m + 1) hd
    rw [prevOf_succ h] at ih
    unfold risB
    cases inB y 0 a
    · exact ev_neg (by simp) (ev_now (by simp))
    refine ev_pos rfl ?_
    by_cases h0 : m = 0
    · subst h0
      exact ev_neg (by omega) (ev_eq ih (by simp [prevOf]))
    · refine ev_pos (by omega) (ev_pos (by omega) (ev_pos (by omega) ?_))
      have e : rd xs ((m : Int) - 1) = xs.getD (m - 1) 0 := by unfold rd; congr 1; omega
      rw [e]
      unfold prevOf
      rw [if_neg h0]
      refine ev_ite (fun hc => ev_now ?_) (fun hc => ev_eq ih ?_)
      · have : ¬ (xs.getD (m - 1) 0 < y) := by omega
        simp [-List.getD_eq_getElem?_getD, this]
      · have : xs.getD (m - 1) 0 < y := by omega
        simp [-List.getD_eq_getElem?_getD, this]
theorem impl_rising_f (xs : List Int) (a : Int) (hx : xs.length ≤ 9223372036854775807) : Ev (fun k => impl_rising.f k xs a) (risesB xs a) := impl_rising_l0 xs a hx xs 0 rfl

end Go.Proofs.Ytnimjikikfhlpaa.Pure

namespace Go.Proofs.Ytnimjikikfhlpaa.Pure
open Go.RowKit Go.Proofs.Ytnimjikikfhlpaa.F Go.Proofs.YtnimjikikfhlpaaW.PrintWords Go.Proofs.YtnimjikikfhlpaaW.PrintLast Go.Proofs.YtnimjikikfhlpaaW.PrintMore Go.Proofs.YtnimjikikfhlpaaB
set_option linter.unusedVariables false
set_option linter.unusedSimpArgs false
def projB (a b c d e : Int) (xs ys : List Int) : Bool := dialB a b c d && inB e 1901 2099 && (risesB xs 1439 && risesB ys 11) && decide (xs.length + ys.length ≤ 40)

end Go.Proofs.Ytnimjikikfhlpaa.Pure

namespace Go.Proofs.Ytnimjikikfhlpaa.Pure
open Go.RowKit Go.Proofs.Ytnimjikikfhlpaa.F Go.Proofs.YtnimjikikfhlpaaW.PrintWords Go.Proofs.YtnimjikikfhlpaaW.PrintLast Go.Proofs.YtnimjikikfhlpaaW.PrintMore Go.Proofs.YtnimjikikfhlpaaB
set_option linter.unusedVariables false
set_option linter.unusedSimpArgs false
theorem impl_IsProject_f (a b c d e : Int) (xs ys : List Int) (hx : xs.length ≤ 4611686018427387903) (hy : ys.length ≤ 4611686018427387903) : Ev (fun k => impl_IsProject.f k a b c d e xs ys) (projB a b c d e xs ys) := by
  unfold projB
  refine ev_some (impl_IsDial_f a b c d) ?_
  cases dialB a b c d
  · exact ev_neg (by simp) (ev_now (by simp))
  refine ev_pos rfl (ev_some (impl_isYear_f _) ?_)
  cases inB e 1901 2099
  · exact ev_neg (by simp) (ev_now (by simp))
  refine ev_pos rfl (ev_bind (impl_rising_f xs 1439 (by omega)) ?_)
  cases risesB xs 1439
  · exact ev_neg (by simp) (ev_now (by simp))
  refine ev_pos rfl (ev_bind (impl_rising_f ys 11 (by omega)) ?_)
  cases risesB ys 11
  · exact ev_neg (by simp) (ev_now (by simp))
  refine ev_pos rfl (ev_some (impl_Project_few_f _ _ _ _ _ _ _ hx hy) (ev_now (by simp)))

end Go.Proofs.Ytnimjikikfhlpaa.Pure

namespace Go.Proofs.Ytnimjikikfhlpaa.Pure
open Go.RowKit Go.Proofs.Ytnimjikikfhlpaa.F Go.Proofs.YtnimjikikfhlpaaW.PrintWords Go.Proofs.YtnimjikikfhlpaaW.PrintLast Go.Proofs.YtnimjikikfhlpaaW.PrintMore Go.Proofs.YtnimjikikfhlpaaB
set_option linter.unusedVariables false
set_option linter.unusedSimpArgs false
def zoneB (a b c d e : Int) : Bool := inB a (-840) 840 && (if b = 0 then (c == 0 && d == 0 && e == 0) else inB b 1 12 && inB d 1 12 && !(b == d) && inB c 0 4 && inB e 0 4)
def dayB (a : Int) : Bool := inB a (-36159) 36524

end Go.Proofs.Ytnimjikikfhlpaa.Pure

namespace Go.Proofs.Ytnimjikikfhlpaa.Pure
open Go.RowKit Go.Proofs.Ytnimjikikfhlpaa.F Go.Proofs.YtnimjikikfhlpaaW.PrintWords Go.Proofs.YtnimjikikfhlpaaW.PrintLast Go.Proofs.YtnimjikikfhlpaaW.PrintMore Go.Proofs.YtnimjikikfhlpaaB
set_option linter.unusedVariables false
set_option linter.unusedSimpArgs false
theorem impl_IsZone_f (a b c d e : Int) : impl_IsZone.f a b c d e = some (zoneB a b c d e) := by
  simp only [impl_IsZone.f, impl_in_f, Option.bind_some, zoneB]
  cases inB a (-840) 840 <;> simp
  by_cases h : b = 0
  · simp only [h, if_true]
    cases c == 0 <;> cases d == 0 <;> cases e == 0 <;> rfl
  · simp only [if_neg h]
    cases inB b 1 12 <;> simp
    cases inB d 1 12 <;> simp
    by_cases h4 : b = d
    · simp [h4]
    · cases inB c 0 4 <;> simp [h4]

end Go.Proofs.Ytnimjikikfhlpaa.Pure

namespace Go.Proofs.Ytnimjikikfhlpaa.Pure
open Go.RowKit Go.Proofs.Ytnimjikikfhlpaa.F Go.Proofs.YtnimjikikfhlpaaW.PrintWords Go.Proofs.YtnimjikikfhlpaaW.PrintLast Go.Proofs.YtnimjikikfhlpaaW.PrintMore Go.Proofs.YtnimjikikfhlpaaB
set_option linter.unusedVariables false
set_option linter.unusedSimpArgs false
theorem impl_isDayNumber_f (a : Int) : Ev (fun k => impl_isDayNumber.f k a) (dayB a) := by
  have h1 : Ev (fun k => impl_dayNumber.f k 1901 1 1) (-36159) := Ev.of (fun k => impl_dayNumber.mono 1901 1 1 k) (k := 30) (by decide +kernel)
  have h2 : Ev (fun k => impl_dayNumber.f k 2099 12 31) 36524 := Ev.of (fun k => impl_dayNumber.mono 2099 12 31 k) (k := 30) (by decide +kernel)
  exact ev_bind h1 (ev_bind h2 (ev_some (impl_in_f _ _ _) (ev_now rfl)))

end Go.Proofs.Ytnimjikikfhlpaa.Pure

namespace Go.Proofs.Ytnimjikikfhlpaa.Pure
open Go.RowKit Go.Proofs.Ytnimjikikfhlpaa.F Go.Proofs.YtnimjikikfhlpaaW.PrintWords Go.Proofs.YtnimjikikfhlpaaW.PrintLast Go.Proofs.YtnimjikikfhlpaaW.PrintMore Go.Proofs.YtnimjikikfhlpaaB
set_option linter.unusedVariables false
set_option linter.unusedSimpArgs false
def deskB (a b c d e : Int) (xs ys : List Int) (z0 z1 z2 z3 z4 lo day : Int) : Bool := projB a b c d e xs ys && zoneB z0 z1 z2 z3 z4 && inB lo (-648000) 648000 && dayB day

end Go.Proofs.Ytnimjikikfhlpaa.Pure

namespace Go.Proofs.Ytnimjikikfhlpaa.Pure
open Go.RowKit Go.Proofs.Ytnimjikikfhlpaa.F Go.Proofs.YtnimjikikfhlpaaW.PrintWords Go.Proofs.YtnimjikikfhlpaaW.PrintLast Go.Proofs.YtnimjikikfhlpaaW.PrintMore Go.Proofs.YtnimjikikfhlpaaB
set_option linter.unusedVariables false
set_option linter.unusedSimpArgs false
theorem impl_IsDesk_f (a b c d e : Int) (xs ys : List Int) (z0 z1 z2 z3 z4 lo day : Int) (hx : xs.length ≤ 4611686018427387903) (hy : ys.length ≤ 4611686018427387903) : Ev (fun k => impl_IsDesk.f k a b c d e xs ys z0 z1 z2 z3 z4 lo day) (deskB a b c d e xs ys z0 z1 z2 z3 z4 lo day) := by
  refine ev_bind (impl_IsProject_f a b c d e xs ys hx hy) ?_
  unfold deskB
  cases projB a b c d e xs ys
  · exact ev_neg (by simp) (ev_now (by simp))
  refine ev_pos rfl (ev_some (impl_IsZone_f _ _ _ _ _) ?_)
  cases zoneB z0 z1 z2 z3 z4
  · exact ev_neg (by simp) (ev_now (by simp))
  refine ev_pos rfl (ev_some (impl_in_f _ _ _) ?_)
  cases inB lo (-648000) 648000
  · exact ev_neg (by simp) (ev_now (by simp))
  exact ev_pos rfl (ev_bind (impl_isDayNumber_f _) (ev_now (by simp)))

end Go.Proofs.Ytnimjikikfhlpaa.Pure

namespace Go.Proofs.Ytnimjikikfhlpaa.Pure
open Go.RowKit Go.Proofs.Ytnimjikikfhlpaa.F Go.Proofs.YtnimjikikfhlpaaW.PrintWords Go.Proofs.YtnimjikikfhlpaaW.PrintLast Go.Proofs.YtnimjikikfhlpaaW.PrintMore Go.Proofs.YtnimjikikfhlpaaB
set_option linter.unusedVariables false
set_option linter.unusedSimpArgs false
theorem laws_eqInt64S_l0 (xs : List Int) (hx : xs.length ≤ 9223372036854775807) : ∀ (ys : List Int) (m : Nat), xs.drop m = ys →
    Ev (fun k => laws_eqInt64S.l0 k xs xs m) true
  | [], m, h => by
    have := drop_nil h
    exact ev_step (fun _ => rfl) (ev_neg (by omega) (ev_now rfl))
  | y :: ys, m, h => by
    obtain ⟨hm, _, hd⟩ := drop_cons h
    refine ev_step (fun _ => rfl) (ev_pos (by omega) (ev_pos (by omega) (ev_pos (by omega) ?_)))
    rw [w64 (by omega) (by omega)]
    exact ev_pos rfl (laws_eqInt64S_l0 xs hx ys (m + 1) hd)
theorem laws_eqInt64S_f (xs : List Int) (hx : xs.length ≤ 9223372036854775807) : Ev (fun k => laws_eqInt64S.f k xs xs) true := ev_pos rfl (laws_eqInt64S_l0 xs hx xs 0 rfl)

end Go.Proofs.Ytnimjikikfhlpaa.Pure

namespace Go.Proofs.Ytnimjikikfhlpaa.Pure
open Go.RowKit Go.Proofs.Ytnimjikikfhlpaa.F Go.Proofs.YtnimjikikfhlpaaW.PrintWords Go.Proofs.YtnimjikikfhlpaaW.PrintLast Go.Proofs.YtnimjikikfhlpaaW.PrintMore Go.Proofs.YtnimjikikfhlpaaB
set_option linter.unusedVariables false
set_option linter.unusedSimpArgs false
theorem laws_eqProject_f (a b c d e : Int) (xs ys : List Int) (hx : xs.length ≤ 9223372036854775807) (hy : ys.length ≤ 9223372036854775807) : Ev (fun k => laws_eqProject.f k a b c d e xs ys a b c d e xs ys) true := by
  refine ev_some (a := true) (by simp [laws_eqDial.f, laws_eqWall.f]) (ev_pos rfl (ev_pos rfl ?_))
  exact ev_bind (laws_eqInt64S_f xs hx) (ev_pos rfl (ev_bind (laws_eqInt64S_f ys hy) (ev_pos rfl (ev_now rfl))))

end Go.Proofs.Ytnimjikikfhlpaa.Pure

namespace Go.Proofs.Ytnimjikikfhlpaa.Pure
open Go.RowKit Go.Proofs.Ytnimjikikfhlpaa.F Go.Proofs.YtnimjikikfhlpaaW.PrintWords Go.Proofs.YtnimjikikfhlpaaW.PrintLast Go.Proofs.YtnimjikikfhlpaaW.PrintMore Go.Proofs.YtnimjikikfhlpaaB
set_option linter.unusedVariables false
set_option linter.unusedSimpArgs false
theorem laws_szInt64S_f (xs : List Int) (a : Int) (h0 : 0 ≤ a) (h1 : a ≤ 1048576) (hx : xs.length ≤ 9223372036854775807) : laws_szInt64S.f xs a = some (if a < xs.length then -1 else a - xs.length) := by
  unfold laws_szInt64S.f
  rw [w64 (by omega) (by omega)]
  by_cases h : a < xs.length
  · rw [if_pos (by omega), if_pos h]
  · rw [if_neg (by omega), if_neg h]

end Go.Proofs.Ytnimjikikfhlpaa.Pure

namespace Go.Proofs.Ytnimjikikfhlpaa.Pure
open Go.RowKit Go.Proofs.Ytnimjikikfhlpaa.F Go.Proofs.YtnimjikikfhlpaaW.PrintWords Go.Proofs.YtnimjikikfhlpaaW.PrintLast Go.Proofs.YtnimjikikfhlpaaW.PrintMore Go.Proofs.YtnimjikikfhlpaaB
set_option linter.unusedVariables false
set_option linter.unusedSimpArgs false
theorem laws_szProject_f (a b c d e : Int) (xs ys : List Int) (n : Int) (h0 : 0 ≤ n) (h1 : n ≤ 1048576) (hx : xs.length ≤ 9223372036854775807) (hy : ys.length ≤ 9223372036854775807) :
    laws_szProject.f a b c d e xs ys n = some (if n < xs.length + ys.length then -1 else n - (xs.length + ys.length)) := by
  unfold laws_szProject.f
  rw [laws_szInt64S_f xs n h0 h1 hx, Option.bind_some]
  by_cases h : n < xs.length
  · rw [if_pos h, if_pos (by omega), if_pos (by omega)]
  · rw [if_neg h, if_neg (by omega), laws_szInt64S_f ys _ (by omega) (by omega) hy, Option.bind_some]
    by_cases h2 : n - xs.length < ys.length
    · rw [if_pos h2, if_pos (by omega), if_pos (by omega)]
    · rw [if_neg h2, if_neg (by omega), if_neg (by omega)]
      congr 1
      omega

end Go.Proofs.Ytnimjikikfhlpaa.Pure

namespace Go.Proofs.Ytnimjikikfhlpaa.Pure
open Go.RowKit Go.Proofs.Ytnimjikikfhlpaa.F Go.Proofs.YtnimjikikfhlpaaW.PrintWords Go.Proofs.YtnimjikikfhlpaaW.PrintLast Go.Proofs.YtnimjikikfhlpaaW.PrintMore Go.Proofs.YtnimjikikfhlpaaB
set_option linter.unusedVariables false
set_option linter.unusedSimpArgs false
theorem laws_toInt64S_l0 (xs : List Int) (hx : xs.length ≤ 9223372036854775807) : ∀ (ys : List Int) (m : Nat) (out : List Int), xs.drop m = ys → out.length = xs.length → out.take m = xs.take m →
    Ev (fun k => laws_toInt64S.l0 k xs out m) xs
  | [], m, out, h, hl, ht => by
    have := drop_nil h
    refine ev_step (fun _ => rfl) (ev_neg (by omega) (ev_now ?_))
    rw [List.take_of_length_le (by omega), List.take_of_length_le this] at ht
    rw [ht]
  | y :: ys, m, out, h, hl, ht => by
    obtain ⟨hm, _, hd⟩ := drop_cons h
    refine ev_step (fun _ => rfl) (ev_pos (by omega) (ev_pos (by omega) (ev_pos (by omega) ?_)))
    rw [rdI h, w64 (by omega) (by omega)]
    refine laws_toInt64S_l0 xs hx ys (m + 1) _ hd (by rw [List.length_set, hl]) ?_
    rw [take_snoc h, ← ht, Int.toNat_natCast, List.set_eq_take_append_cons_drop, if_pos (by omega), List.take_append, List.take_of_length_le (by rw [List.length_take]; omega), List.length_take, show m + 1 - min m out.length = 1 by omega]
    rfl
theorem laws_toInt64S_f (xs : List Int) (hx : xs.length ≤ 1048576) : Ev (fun k => laws_toInt64S.f k xs) xs := by
  refine ev_pos (by omega) (ev_pos (by omega) ?_)
  exact laws_toInt64S_l0 xs (by omega) xs 0 _ rfl (by simp) rfl

end Go.Proofs.Ytnimjikikfhlpaa.Pure

namespace Go.Proofs.Ytnimjikikfhlpaa.Pure
open Go.RowKit Go.Proofs.Ytnimjikikfhlpaa.F Go.Proofs.YtnimjikikfhlpaaW.PrintWords Go.Proofs.YtnimjikikfhlpaaW.PrintLast Go.Proofs.YtnimjikikfhlpaaW.PrintMore Go.Proofs.YtnimjikikfhlpaaB
set_option linter.unusedVariables false
set_option linter.unusedSimpArgs false
theorem laws_toProject_f (a b c d e : Int) (xs ys : List Int) (hx : xs.length ≤ 1048576) (hy : ys.length ≤ 1048576) : Ev (fun k => laws_toProject.f k a b c d e xs ys) (a, b, c, d, e, xs, ys) := by
  refine ev_some (a := (a, b, c, d)) rfl (ev_bind (laws_toInt64S_f xs hx) (ev_bind (laws_toInt64S_f ys hy) (ev_now rfl)))

end Go.Proofs.Ytnimjikikfhlpaa.Pure

namespace Go.Proofs.Ytnimjikikfhlpaa.Pure
open Go.RowKit Go.Proofs.Ytnimjikikfhlpaa.F Go.Proofs.YtnimjikikfhlpaaW.PrintWords Go.Proofs.YtnimjikikfhlpaaW.PrintLast Go.Proofs.YtnimjikikfhlpaaW.PrintMore Go.Proofs.YtnimjikikfhlpaaB
set_option linter.unusedVariables false
set_option linter.unusedSimpArgs false
theorem spec_l01In_f (a b c : Int) : spec_l01In.f a b c = some (inB a b c) := inB_if a b c

end Go.Proofs.Ytnimjikikfhlpaa.Pure

namespace Go.Proofs.Ytnimjikikfhlpaa.Pure
open Go.RowKit Go.Proofs.Ytnimjikikfhlpaa.F Go.Proofs.YtnimjikikfhlpaaW.PrintWords Go.Proofs.YtnimjikikfhlpaaW.PrintLast Go.Proofs.YtnimjikikfhlpaaW.PrintMore Go.Proofs.YtnimjikikfhlpaaB
set_option linter.unusedVariables false
set_option linter.unusedSimpArgs false
theorem spec_l09Latitude_f (a : Int) : spec_l09Latitude.f a = some (inB a (-324000) 324000) := by
  simp only [spec_l09Latitude.f, spec_l01In_f, Option.bind_some]

end Go.Proofs.Ytnimjikikfhlpaa.Pure

namespace Go.Proofs.Ytnimjikikfhlpaa.Pure
open Go.RowKit Go.Proofs.Ytnimjikikfhlpaa.F Go.Proofs.YtnimjikikfhlpaaW.PrintWords Go.Proofs.YtnimjikikfhlpaaW.PrintLast Go.Proofs.YtnimjikikfhlpaaW.PrintMore Go.Proofs.YtnimjikikfhlpaaB
set_option linter.unusedVariables false
set_option linter.unusedSimpArgs false
theorem spec_IsWall_f (a b : Int) : spec_IsWall.f a b = some (inB a 0 1295999 && inB b (-324000) 324000) := by
  simp only [spec_IsWall.f, spec_l01In_f, spec_l09Latitude_f, Option.bind_some]
  cases inB a 0 1295999 <;> simp

end Go.Proofs.Ytnimjikikfhlpaa.Pure

namespace Go.Proofs.Ytnimjikikfhlpaa.Pure
open Go.RowKit Go.Proofs.Ytnimjikikfhlpaa.F Go.Proofs.YtnimjikikfhlpaaW.PrintWords Go.Proofs.YtnimjikikfhlpaaW.PrintLast Go.Proofs.YtnimjikikfhlpaaW.PrintMore Go.Proofs.YtnimjikikfhlpaaB
set_option linter.unusedVariables false
set_option linter.unusedSimpArgs false
theorem spec_l14Height_f (a : Int) : spec_l14Height.f a = some (inB a 1 10000) := by
  simp only [spec_l14Height.f, spec_l01In_f, Option.bind_some]

end Go.Proofs.Ytnimjikikfhlpaa.Pure

namespace Go.Proofs.Ytnimjikikfhlpaa.Pure
open Go.RowKit Go.Proofs.Ytnimjikikfhlpaa.F Go.Proofs.YtnimjikikfhlpaaW.PrintWords Go.Proofs.YtnimjikikfhlpaaW.PrintLast Go.Proofs.YtnimjikikfhlpaaW.PrintMore Go.Proofs.YtnimjikikfhlpaaB
set_option linter.unusedVariables false
set_option linter.unusedSimpArgs false
theorem spec_IsDial_f (a b c d : Int) : spec_IsDial.f a b c d = some (dialB a b c d) := by
  simp only [spec_IsDial.f, spec_l09Latitude_f, spec_IsWall_f, spec_l14Height_f, Option.bind_some, dialB]
  cases inB a (-324000) 324000 <;> cases (inB b 0 1295999 && inB c (-324000) 324000) <;> simp

end Go.Proofs.Ytnimjikikfhlpaa.Pure

namespace Go.Proofs.Ytnimjikikfhlpaa.Pure
open Go.RowKit Go.Proofs.Ytnimjikikfhlpaa.F Go.Proofs.YtnimjikikfhlpaaW.PrintWords Go.Proofs.YtnimjikikfhlpaaW.PrintLast Go.Proofs.YtnimjikikfhlpaaW.PrintMore Go.Proofs.YtnimjikikfhlpaaB
set_option linter.unusedVariables false
set_option linter.unusedSimpArgs false
theorem spec_l01Rises_l0 (xs : List Int) (a : Int) (ha : 0 ≤ a) (ha' : a ≤ 1000000) (hx : xs.length ≤ 9223372036854775807) : ∀ (ys : List Int) (m : Nat), xs.drop m = ys →
    Ev (fun k => spec_l01Rises.l0 k xs a m) (risB (a - 1) (prevOf xs m) ys)
  | [], m, h => by
    have := drop_nil h
    exact ev_step (fun _ => rfl) (ev_neg (by omega) (ev_now rfl))
  | y :: ys, m, h => by
    obtain ⟨hm, _, hd⟩ := drop_cons h
    refine ev_step (fun _ => rfl) (ev_pos (by omega) (ev_pos (by omega) ?_))
    rw [rdI h, w64 (x := (m : Int) + 1) (by omega) (by omega), w64 (x := a - 1) (by omega) (by omega), w64 (x := (m : Int) - 1) (by omega) (by omega)]
    refine ev_some (spec_l01In_f _ _ _) ?_
    have ih := spec_l01Rises_l0 xs a ha ha' hx ys (m + 1) hd
    rw [prevOf_succ h] at ih
    unfold risB
    cases inB y 0 (a - 1)
    · exact ev_neg (by simp) (ev_now (by simp))
    refine ev_pos rfl ?_
    by_cases h0 : m = 0
    · subst h0
      exact ev_neg (by omega) (ev_eq ih (by simp [prevOf]))
    · refine ev_pos (by omega) (ev_pos (by omega) (ev_pos (by omega) ?_))
      have e : rd xs ((m : Int) - 1) = xs.getD (m - 1) 0 := by unfold rd; congr 1; omega
      rw [e]
      unfold prevOf
      rw [if_neg h0]
      refine ev_ite (fun hc => ev_now ?_) (fun hc => ev_eq ih ?_)
      · have : ¬ (xs.getD (m - 1) 0 < y) := by omega
        simp [-List.getD_eq_getElem?_getD, this]
      · have : xs.getD (m - 1) 0 < y := by omega
        simp [-List.getD_eq_getElem?_getD, this]
theorem spec_l01Rises_f (xs : List Int) (a : Int) (ha : 0 ≤ a) (ha' : a ≤ 1000000) (hx : xs.length ≤ 9223372036854775807) : Ev (fun k => spec_l01Rises.f k xs a) (risesB xs (a - 1)) := spec_l01Rises_l0 xs a ha ha' hx xs 0 rfl

end Go.Proofs.Ytnimjikikfhlpaa.Pure

namespace Go.Proofs.Ytnimjikikfhlpaa.Pure
open Go.RowKit Go.Proofs.Ytnimjikikfhlpaa.F Go.Proofs.YtnimjikikfhlpaaW.PrintWords Go.Proofs.YtnimjikikfhlpaaW.PrintLast Go.Proofs.YtnimjikikfhlpaaW.PrintMore Go.Proofs.YtnimjikikfhlpaaB
set_option linter.unusedVariables false
set_option linter.unusedSimpArgs false
theorem spec_l33Lists_f (xs ys : List Int) (hx : xs.length ≤ 9223372036854775807) (hy : ys.length ≤ 9223372036854775807) : Ev (fun k => spec_l33Lists.f k xs ys) (risesB xs 1439 && risesB ys 11) := by
  refine ev_bind (spec_l01Rises_f xs 1440 (by omega) (by omega) hx) ?_
  cases h : risesB xs (1440 - 1)
  · have h' : risesB xs 1439 = false := h
    rw [h']
    exact ev_neg (by simp) (ev_now (by simp))
  · have h' : risesB xs 1439 = true := h
    rw [h']
    exact ev_pos rfl (ev_bind (spec_l01Rises_f ys 12 (by omega) (by omega) hy) (ev_now rfl))

end Go.Proofs.Ytnimjikikfhlpaa.Pure

namespace Go.Proofs.Ytnimjikikfhlpaa.Pure
open Go.RowKit Go.Proofs.Ytnimjikikfhlpaa.F Go.Proofs.YtnimjikikfhlpaaW.PrintWords Go.Proofs.YtnimjikikfhlpaaW.PrintLast Go.Proofs.YtnimjikikfhlpaaW.PrintMore Go.Proofs.YtnimjikikfhlpaaB
set_option linter.unusedVariables false
set_option linter.unusedSimpArgs false
theorem spec_IsProject_f (a b c d e : Int) (xs ys : List Int) (hx : xs.length ≤ 4611686018427387903) (hy : ys.length ≤ 4611686018427387903) : Ev (fun k => spec_IsProject.f k a b c d e xs ys) (projB a b c d e xs ys) := by
  unfold projB
  refine ev_some (spec_IsDial_f a b c d) ?_
  cases dialB a b c d
  · exact ev_neg (by simp) (ev_now (by simp))
  refine ev_pos rfl (ev_some (spec_l01In_f _ _ _) ?_)
  cases inB e 1901 2099
  · exact ev_neg (by simp) (ev_now (by simp))
  refine ev_pos rfl (ev_bind (spec_l33Lists_f xs ys (by omega) (by omega)) ?_)
  cases (risesB xs 1439 && risesB ys 11)
  · exact ev_neg (by simp) (ev_now (by simp))
  refine ev_pos rfl (ev_now ?_)
  rw [w64 (by omega) (by omega)]
  by_cases h : xs.length + ys.length ≤ 40
  · rw [decide_eq_true (by omega), decide_eq_true h]; rfl
  · rw [decide_eq_false (by omega), decide_eq_false h]; rfl

end Go.Proofs.Ytnimjikikfhlpaa.Pure

namespace Go.Proofs.Ytnimjikikfhlpaa.Pure
open Go.RowKit Go.Proofs.Ytnimjikikfhlpaa.F Go.Proofs.YtnimjikikfhlpaaW.PrintWords Go.Proofs.YtnimjikikfhlpaaW.PrintLast Go.Proofs.YtnimjikikfhlpaaW.PrintMore Go.Proofs.YtnimjikikfhlpaaB
set_option linter.unusedVariables false
set_option linter.unusedSimpArgs false
theorem spec_IsZone_f (a b c d e : Int) : spec_IsZone.f a b c d e = some (zoneB a b c d e) := by
  simp only [spec_IsZone.f, spec_l01In_f, Option.bind_some, zoneB]
  cases inB a (-840) 840 <;> simp
  by_cases h : b = 0
  · simp only [h, if_true]
    by_cases h2 : c = 0 <;> by_cases h3 : d = 0 <;> simp [h2, h3]
  · simp only [if_neg h]
    cases inB b 1 12 <;> simp
    cases inB d 1 12 <;> simp
    by_cases h4 : b = d
    · simp [h4]
    · cases inB c 0 4 <;> simp [h4]

end Go.Proofs.Ytnimjikikfhlpaa.Pure

namespace Go.Proofs.Ytnimjikikfhlpaa.Pure
open Go.RowKit Go.Proofs.Ytnimjikikfhlpaa.F Go.Proofs.YtnimjikikfhlpaaW.PrintWords Go.Proofs.YtnimjikikfhlpaaW.PrintLast Go.Proofs.YtnimjikikfhlpaaW.PrintMore Go.Proofs.YtnimjikikfhlpaaB
set_option linter.unusedVariables false
set_option linter.unusedSimpArgs false
theorem spec_l07Has_f (a : Int) : spec_l07Has.f a = some (dayB a) := by
  have h1 : spec_l07Year.f 1901 = some (-36159) := by decide +kernel
  have h2 : spec_l07Year.f 2100 = some 36525 := by decide +kernel
  unfold spec_l07Has.f
  rw [h1, h2, Option.bind_some, Option.bind_some, w64 (by omega) (by omega), spec_l01In_f]
  rfl

end Go.Proofs.Ytnimjikikfhlpaa.Pure

namespace Go.Proofs.Ytnimjikikfhlpaa.Pure
open Go.RowKit Go.Proofs.Ytnimjikikfhlpaa.F Go.Proofs.YtnimjikikfhlpaaW.PrintWords Go.Proofs.YtnimjikikfhlpaaW.PrintLast Go.Proofs.YtnimjikikfhlpaaW.PrintMore Go.Proofs.YtnimjikikfhlpaaB
set_option linter.unusedVariables false
set_option linter.unusedSimpArgs false
theorem spec_l11Longitude_f (a : Int) : spec_l11Longitude.f a = some (inB a (-648000) 648000) := by
  simp only [spec_l11Longitude.f, spec_l01In_f, Option.bind_some]

end Go.Proofs.Ytnimjikikfhlpaa.Pure

namespace Go.Proofs.Ytnimjikikfhlpaa.Pure
open Go.RowKit Go.Proofs.Ytnimjikikfhlpaa.F Go.Proofs.YtnimjikikfhlpaaW.PrintWords Go.Proofs.YtnimjikikfhlpaaW.PrintLast Go.Proofs.YtnimjikikfhlpaaW.PrintMore Go.Proofs.YtnimjikikfhlpaaB
set_option linter.unusedVariables false
set_option linter.unusedSimpArgs false
theorem spec_IsDesk_f (a b c d e : Int) (xs ys : List Int) (z0 z1 z2 z3 z4 lo day : Int) (hx : xs.length ≤ 4611686018427387903) (hy : ys.length ≤ 4611686018427387903) : Ev (fun k => spec_IsDesk.f k a b c d e xs ys z0 z1 z2 z3 z4 lo day) (deskB a b c d e xs ys z0 z1 z2 z3 z4 lo day) := by
  refine ev_bind (spec_IsProject_f a b c d e xs ys hx hy) ?_
  unfold deskB
  cases projB a b c d e xs ys
  · exact ev_neg (by simp) (ev_now (by simp))
  refine ev_pos rfl (ev_some (spec_IsZone_f _ _ _ _ _) ?_)
  cases zoneB z0 z1 z2 z3 z4
  · exact ev_neg (by simp) (ev_now (by simp))
  refine ev_pos rfl (ev_some (spec_l11Longitude_f _) ?_)
  cases inB lo (-648000) 648000
  · exact ev_neg (by simp) (ev_now (by simp))
  exact ev_pos rfl (ev_some (spec_l07Has_f _) (ev_now (by simp)))

end Go.Proofs.Ytnimjikikfhlpaa.Pure

namespace Go.Proofs.Ytnimjikikfhlpaa.Pure
open Go.RowKit Go.Proofs.Ytnimjikikfhlpaa.F Go.Proofs.YtnimjikikfhlpaaW.PrintWords Go.Proofs.YtnimjikikfhlpaaW.PrintLast Go.Proofs.YtnimjikikfhlpaaW.PrintMore Go.Proofs.YtnimjikikfhlpaaB
set_option linter.unusedVariables false
set_option linter.unusedSimpArgs false
theorem pure_FnExactIsDesk (a b c d e : Int) (xs ys : List Int) (z0 z1 z2 z3 z4 lo day : Int) (hx : xs.length ≤ 9223372036854775807) (hy : ys.length ≤ 9223372036854775807) : Ev (fun k => laws_FnExactIsDesk.f k a b c d e xs ys z0 z1 z2 z3 z4 lo day) true := by
  have hs : laws_szDesk.f a b c d e xs ys z0 z1 z2 z3 z4 lo day 1048576 = some (if (1048576 : Int) < xs.length + ys.length then (-1 : Int) else (1048576 : Int) - (xs.length + ys.length)) := by
    unfold laws_szDesk.f
    rw [laws_szProject_f a b c d e xs ys 1048576 (by omega) (by omega) hx hy, Option.bind_some]
    by_cases h : (1048576 : Int) < xs.length + ys.length
    · rw [if_pos h, if_pos (by omega)]
    · rw [if_neg h, if_neg (by omega)]
  refine ev_some hs ?_
  by_cases h : (1048576 : Int) < xs.length + ys.length
  · rw [if_pos h]
    exact ev_pos (by omega) (ev_now rfl)
  rw [if_neg h]
  refine ev_neg (by omega) ?_
  have t : Ev (fun k => laws_toDesk.f k a b c d e xs ys z0 z1 z2 z3 z4 lo day) (a, b, c, d, e, xs, ys, z0, z1, z2, z3, z4, lo, day) := ev_bind (laws_toProject_f a b c d e xs ys (by omega) (by omega)) (ev_some (a := (z0, z1, z2, z3, z4)) rfl (ev_now rfl))
  refine ev_bind t (ev_bind (spec_IsDesk_f a b c d e xs ys z0 z1 z2 z3 z4 lo day (by omega) (by omega)) (ev_bind t (ev_bind (impl_IsDesk_f a b c d e xs ys z0 z1 z2 z3 z4 lo day (by omega) (by omega)) (ev_neg (by simp) ?_))))
  refine ev_bind t (ev_bind (a := true) ?_ (ev_pos rfl (ev_now rfl)))
  exact ev_bind (laws_eqProject_f a b c d e xs ys (by omega) (by omega)) (ev_pos rfl (ev_some (a := true) (by simp [laws_eqZone.f]) (ev_pos rfl (ev_pos rfl (ev_pos rfl (ev_now rfl))))))
theorem walkFnExactIsDesk (a0_0 : Int) (a0_1 : Int) (a0_2 : Int) (a0_3 : Int) (a0_4 : Int) (A0_5 : Option Addr) (c0_5 : Nat) (l0_5 : (List Int)) (A0_6 : Option Addr) (c0_6 : Nat) (l0_6 : (List Int)) (a0_7 : Int) (a0_8 : Int) (a0_9 : Int) (a0_10 : Int) (a0_11 : Int) (a0_12 : Int) (a0_13 : Int) (w : World) (hg0_0 : (Lit.int .i64 a0_0).wf = true) (hg0_1 : (Lit.int .i64 a0_1).wf = true) (hg0_2 : (Lit.int .i64 a0_2).wf = true) (hg0_3 : (Lit.int .i64 a0_3).wf = true) (hg0_4 : (Lit.int .i64 a0_4).wf = true) (hr0_5 : Kd.C (Kd.int .i64) w A0_5 l0_5.length l0_5) (hc0_5 : l0_5.length ≤ c0_5) (hm0_5 : l0_5.length ≤ maxLen) (hg0_5 : ∀ y ∈ l0_5, g2 y) (hr0_6 : Kd.C (Kd.int .i64) w A0_6 l0_6.length l0_6) (hc0_6 : l0_6.length ≤ c0_6) (hm0_6 : l0_6.length ≤ maxLen) (hg0_6 : ∀ y ∈ l0_6, g2 y) (hg0_7 : (Lit.int .i64 a0_7).wf = true) (hg0_8 : (Lit.int .i64 a0_8).wf = true) (hg0_9 : (Lit.int .i64 a0_9).wf = true) (hg0_10 : (Lit.int .i64 a0_10).wf = true) (hg0_11 : (Lit.int .i64 a0_11).wf = true) (hg0_12 : (Lit.int .i64 a0_12).wf = true) (hg0_13 : (Lit.int .i64 a0_13).wf = true) :
    Calls Try.prog 11 #[.agg #[.int .i64 a0_0, .int .i64 a0_1, .int .i64 a0_2, .int .i64 a0_3, .int .i64 a0_4, .slice A0_5 l0_5.length c0_5, .slice A0_6 l0_6.length c0_6, .int .i64 a0_7, .int .i64 a0_8, .int .i64 a0_9, .int .i64 a0_10, .int .i64 a0_11, .int .i64 a0_12, .int .i64 a0_13]] w fun e w' => e = .returned (.bool true) ∧ Below w.heap.size w w' := by
  unfold maxLen at hm0_5 hm0_6
  obtain ⟨k, h⟩ := (pure_FnExactIsDesk a0_0 a0_1 a0_2 a0_3 a0_4 l0_5 l0_6 a0_7 a0_8 a0_9 a0_10 a0_11 a0_12 a0_13 hm0_5 hm0_6).rounds
  exact laws_FnExactIsDesk.calls k _ _ _ _ _ A0_5 c0_5 l0_5 A0_6 c0_6 l0_6 _ _ _ _ _ _ _ true w hr0_5 hc0_5 hr0_6 hc0_6 h

end Go.Proofs.Ytnimjikikfhlpaa.Pure
