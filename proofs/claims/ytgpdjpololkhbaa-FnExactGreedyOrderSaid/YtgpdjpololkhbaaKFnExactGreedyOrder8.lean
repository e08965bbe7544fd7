/-
  FnExactGreedyOrder: the law returns true for every input and leaves its arguments as they were (the last theorem here). No condition.
-/
import Derived.Test.YtgpdjpololkhbaaRows
import Derived.ProofKit
import Derived.OpenShut
import Derived.ShutString
import Derived.ChangeOld
import Derived.Test.YtgpdjpololkhbaaKFnExactGreedyOrder7

namespace Go.Proofs.Ytgpdjpololkhbaa.F
open Go.RowKit Go.Proofs.YtgpdjpololkhbaaW.PrintWords Go.Proofs.YtgpdjpololkhbaaW.PrintLast Go.Proofs.YtgpdjpololkhbaaW.PrintMore
attribute [local go_sem] max2_int min2_int max_two min_two max_three min_three max_four min_four   -- for this text's walks alone
set_option linter.unusedVariables false
set_option linter.unusedSimpArgs false

/-! ### spec_GreedyOrder: function 16 -/
mutual
def spec_GreedyOrder.l0 : Nat → List (S110) → Int → List Int → Int → Int → Int → Option (List Int × Int)
  | 0, _, _, _, _, _, _ => none
  | k + 1, x0, x1, x7, x9, x148000, x148001 => if (x7.length : Int) < (x0.length : Int) then (spec_GreedyOrder.l1 k x0 x1 x7 x9 (-1) 0 0 x148000 x148001) else (some (x7, 0))
def spec_GreedyOrder.l1 : Nat → List (S110) → Int → List Int → Int → Int → Int → Int → Int → Int → Option (List Int × Int)
  | 0, _, _, _, _, _, _, _, _, _ => none
  | k + 1, x0, x1, x7, x9, x10, x11, x12, x148000, x148001 => if x12 < (wrap64 (2 * (x0.length : Int))) then ((spec_l31Stroke.f k x0 x12).bind fun bt157 => (if 0 < (bt157.2.length : Int) then ((spec_l16Square.f x148000 x148001 ((rd_T90 bt157.2 0).f0) ((rd_T90 bt157.2 0).f1)).bind fun t163 => ((spec_l01Root.f k t163).bind fun t164 => (if x9 > 0 then (spec_GreedyOrder.j2 k x0 x1 x7 x9 x10 x11 x12 t164 (bt157.1 != x9) x148000 x148001) else (spec_GreedyOrder.j2 k x0 x1 x7 x9 x10 x11 x12 t164 false x148000 x148001)))) else (none))) else (if x7.length < 17592186044416 then ((spec_l31Stroke.f k x0 x10).bind fun bt151 => (if 0 ≤ (wrap64 ((bt151.2.length : Int) - 1)) then (if (wrap64 ((bt151.2.length : Int) - 1)) < (bt151.2.length : Int) then (spec_GreedyOrder.l0 k x0 x1 (x7 ++ [x10]) bt151.1 ((rd_T90 bt151.2 (wrap64 ((bt151.2.length : Int) - 1))).f0) ((rd_T90 bt151.2 (wrap64 ((bt151.2.length : Int) - 1))).f1)) else (none)) else (none))) else (none))
def spec_GreedyOrder.j2 : Nat → List (S110) → Int → List Int → Int → Int → Int → Int → Int → Bool → Int → Int → Option (List Int × Int)
  | 0, _, _, _, _, _, _, _, _, _, _, _ => none
  | k + 1, x0, x1, x7, x9, x10, x11, x12, x14, x53, x148000, x148001 => if x53 = true then (spec_GreedyOrder.j3 k x0 x1 x7 x9 x10 x11 x12 (wrap64 (x14 + x1)) x148000 x148001) else (spec_GreedyOrder.j3 k x0 x1 x7 x9 x10 x11 x12 x14 x148000 x148001)
def spec_GreedyOrder.j3 : Nat → List (S110) → Int → List Int → Int → Int → Int → Int → Int → Int → Int → Option (List Int × Int)
  | 0, _, _, _, _, _, _, _, _, _, _ => none
  | k + 1, x0, x1, x7, x9, x10, x11, x12, x14, x148000, x148001 => (spec_l01Has.f k x7 (wrap64 (x12 - (Int.tmod x12 2)))).bind fun t165 => (if t165 = true then (spec_GreedyOrder.l1 k x0 x1 x7 x9 x10 x11 (wrap64 (x12 + 1)) x148000 x148001) else ((spec_l01Has.f k x7 (wrap64 ((wrap64 (x12 - (Int.tmod x12 2))) + 1))).bind fun t166 => (if t166 = true then (spec_GreedyOrder.l1 k x0 x1 x7 x9 x10 x11 (wrap64 (x12 + 1)) x148000 x148001) else (if x10 < 0 then (spec_GreedyOrder.l1 k x0 x1 x7 x9 x12 x14 (wrap64 (x12 + 1)) x148000 x148001) else (if x14 < x11 then (spec_GreedyOrder.l1 k x0 x1 x7 x9 x12 x14 (wrap64 (x12 + 1)) x148000 x148001) else (spec_GreedyOrder.l1 k x0 x1 x7 x9 x10 x11 (wrap64 (x12 + 1)) x148000 x148001))))))
end
def spec_GreedyOrder.f (k : Nat) (l0 : List (S110)) (a1 : Int) : Option (List Int × Int) := (spec_l31Code.f k l0 a1).bind fun t143 => (if t143 = 0 then (spec_GreedyOrder.l0 k l0 a1 (([] : List Int)) 0 0 0) else (some (([] : List Int), t143)))
theorem spec_GreedyOrder.mono_l : ∀ k, (∀ y0 y1 y2 y3 y4 y5, LeO (spec_GreedyOrder.l0 k y0 y1 y2 y3 y4 y5) (spec_GreedyOrder.l0 (k + 1) y0 y1 y2 y3 y4 y5)) ∧ (∀ y0 y1 y2 y3 y4 y5 y6 y7 y8, LeO (spec_GreedyOrder.l1 k y0 y1 y2 y3 y4 y5 y6 y7 y8) (spec_GreedyOrder.l1 (k + 1) y0 y1 y2 y3 y4 y5 y6 y7 y8)) ∧ (∀ y0 y1 y2 y3 y4 y5 y6 y7 y8 y9 y10, LeO (spec_GreedyOrder.j2 k y0 y1 y2 y3 y4 y5 y6 y7 y8 y9 y10) (spec_GreedyOrder.j2 (k + 1) y0 y1 y2 y3 y4 y5 y6 y7 y8 y9 y10)) ∧ (∀ y0 y1 y2 y3 y4 y5 y6 y7 y8 y9, LeO (spec_GreedyOrder.j3 k y0 y1 y2 y3 y4 y5 y6 y7 y8 y9) (spec_GreedyOrder.j3 (k + 1) y0 y1 y2 y3 y4 y5 y6 y7 y8 y9))
  | 0 => ⟨fun _ _ _ _ _ _ r h => by simp [spec_GreedyOrder.l0] at h, fun _ _ _ _ _ _ _ _ _ r h => by simp [spec_GreedyOrder.l1] at h, fun _ _ _ _ _ _ _ _ _ _ _ r h => by simp [spec_GreedyOrder.j2] at h, fun _ _ _ _ _ _ _ _ _ _ r h => by simp [spec_GreedyOrder.j3] at h⟩
  | k + 1 => by
    obtain ⟨ih0, ih1, ih2, ih3⟩ := spec_GreedyOrder.mono_l k
    refine ⟨?_, ?_, ?_, ?_⟩
    · intro y0 y1 y2 y3 y4 y5
      unfold spec_GreedyOrder.l0
      repeat' first
      | (with_reducible exact ih0 _ _ _ _ _ _)
      | (with_reducible exact ih1 _ _ _ _ _ _ _ _ _)
      | (with_reducible exact ih2 _ _ _ _ _ _ _ _ _ _ _)
      | (with_reducible exact ih3 _ _ _ _ _ _ _ _ _ _)
      | (with_reducible exact spec_l01Has.mono _ _ _)
      | (with_reducible exact spec_l01Root.mono _ _)
      | (with_reducible exact spec_l31Code.mono _ _ _)
      | (with_reducible exact spec_l31Stroke.mono _ _ _)
      | (with_reducible exact LeO.refl _)
      | (with_reducible exact LeO.none _)
      | (with_reducible refine LeO.ite ?_ ?_)
      | (with_reducible refine LeO.bind ?_ (fun _ => ?_))
      | exact ih0 _ _ _ _ _ _
      | exact ih1 _ _ _ _ _ _ _ _ _
      | exact ih2 _ _ _ _ _ _ _ _ _ _ _
      | exact ih3 _ _ _ _ _ _ _ _ _ _
      | exact spec_l01Has.mono _ _ _
      | exact spec_l01Root.mono _ _
      | exact spec_l31Code.mono _ _ _
      | exact spec_l31Stroke.mono _ _ _
      | exact LeO.none _
      | refine LeO.ite ?_ ?_
      | refine LeO.bind ?_ (fun _ => ?_)
    · intro y0 y1 y2 y3 y4 y5 y6 y7 y8
      unfold spec_GreedyOrder.l1
      repeat' first
      | (with_reducible exact ih0 _ _ _ _ _ _)
      | (with_reducible exact ih1 _ _ _ _ _ _ _ _ _)
      | (with_reducible exact ih2 _ _ _ _ _ _ _ _ _ _ _)
      | (with_reducible exact ih3 _ _ _ _ _ _ _ _ _ _)
      | (with_reducible exact spec_l01Has.mono _ _ _)
      | (with_reducible exact spec_l01Root.mono _ _)
      | (with_reducible exact spec_l31Code.mono _ _ _)
      | (with_reducible exact spec_l31Stroke.mono _ _ _)
      | (with_reducible exact LeO.refl _)
      | (with_reducible exact LeO.none _)
      | (with_reducible refine LeO.ite ?_ ?_)
      | (with_reducible refine LeO.bind ?_ (fun _ => ?_))
      | exact ih0 _ _ _ _ _ _
      | exact ih1 _ _ _ _ _ _ _ _ _
      | exact ih2 _ _ _ _ _ _ _ _ _ _ _
      | exact ih3 _ _ _ _ _ _ _ _ _ _
      | exact spec_l01Has.mono _ _ _
      | exact spec_l01Root.mono _ _
      | exact spec_l31Code.mono _ _ _
      | exact spec_l31Stroke.mono _ _ _
      | exact LeO.none _
      | refine LeO.ite ?_ ?_
      | refine LeO.bind ?_ (fun _ => ?_)
    · intro y0 y1 y2 y3 y4 y5 y6 y7 y8 y9 y10
      unfold spec_GreedyOrder.j2
      repeat' first
      | (with_reducible exact ih0 _ _ _ _ _ _)
      | (with_reducible exact ih1 _ _ _ _ _ _ _ _ _)
      | (with_reducible exact ih2 _ _ _ _ _ _ _ _ _ _ _)
      | (with_reducible exact ih3 _ _ _ _ _ _ _ _ _ _)
      | (with_reducible exact spec_l01Has.mono _ _ _)
      | (with_reducible exact spec_l01Root.mono _ _)
      | (with_reducible exact spec_l31Code.mono _ _ _)
      | (with_reducible exact spec_l31Stroke.mono _ _ _)
      | (with_reducible exact LeO.refl _)
      | (with_reducible exact LeO.none _)
      | (with_reducible refine LeO.ite ?_ ?_)
      | (with_reducible refine LeO.bind ?_ (fun _ => ?_))
      | exact ih0 _ _ _ _ _ _
      | exact ih1 _ _ _ _ _ _ _ _ _
      | exact ih2 _ _ _ _ _ _ _ _ _ _ _
      | exact ih3 _ _ _ _ _ _ _ _ _ _
      | exact spec_l01Has.mono _ _ _
      | exact spec_l01Root.mono _ _
      | exact spec_l31Code.mono _ _ _
      | exact spec_l31Stroke.mono _ _ _
      | exact LeO.none _
      | refine LeO.ite ?_ ?_
      | refine LeO.bind ?_ (fun _ => ?_)
    · intro y0 y1 y2 y3 y4 y5 y6 y7 y8 y9
      unfold spec_GreedyOrder.j3
      repeat' first
      | (with_reducible exact ih0 _ _ _ _ _ _)
      | (with_reducible exact ih1 _ _ _ _ _ _ _ _ _)
      | (with_reducible exact ih2 _ _ _ _ _ _ _ _ _ _ _)
      | (with_reducible exact ih3 _ _ _ _ _ _ _ _ _ _)
      | (with_reducible exact spec_l01Has.mono _ _ _)
      | (with_reducible exact spec_l01Root.mono _ _)
      | (with_reducible exact spec_l31Code.mono _ _ _)
      | (with_reducible exact spec_l31Stroke.mono _ _ _)
      | (with_reducible exact LeO.refl _)
      | (with_reducible exact LeO.none _)
      | (with_reducible refine LeO.ite ?_ ?_)
      | (with_reducible refine LeO.bind ?_ (fun _ => ?_))
      | exact ih0 _ _ _ _ _ _
      | exact ih1 _ _ _ _ _ _ _ _ _
      | exact ih2 _ _ _ _ _ _ _ _ _ _ _
      | exact ih3 _ _ _ _ _ _ _ _ _ _
      | exact spec_l01Has.mono _ _ _
      | exact spec_l01Root.mono _ _
      | exact spec_l31Code.mono _ _ _
      | exact spec_l31Stroke.mono _ _ _
      | exact LeO.none _
      | refine LeO.ite ?_ ?_
      | refine LeO.bind ?_ (fun _ => ?_)
theorem spec_GreedyOrder.mono : ∀ a0 a1 k, LeO (spec_GreedyOrder.f k a0 a1) (spec_GreedyOrder.f (k + 1) a0 a1) := by
  intro a0 a1 k
  obtain ⟨ih0, ih1, ih2, ih3⟩ := spec_GreedyOrder.mono_l k
  unfold spec_GreedyOrder.f
  repeat' first
      | (with_reducible exact ih0 _ _ _ _ _ _)
      | (with_reducible exact ih1 _ _ _ _ _ _ _ _ _)
      | (with_reducible exact ih2 _ _ _ _ _ _ _ _ _ _ _)
      | (with_reducible exact ih3 _ _ _ _ _ _ _ _ _ _)
      | (with_reducible exact spec_l01Has.mono _ _ _)
      | (with_reducible exact spec_l01Root.mono _ _)
      | (with_reducible exact spec_l31Code.mono _ _ _)
      | (with_reducible exact spec_l31Stroke.mono _ _ _)
      | (with_reducible exact LeO.refl _)
      | (with_reducible exact LeO.none _)
      | (with_reducible refine LeO.ite ?_ ?_)
      | (with_reducible refine LeO.bind ?_ (fun _ => ?_))
      | exact ih0 _ _ _ _ _ _
      | exact ih1 _ _ _ _ _ _ _ _ _
      | exact ih2 _ _ _ _ _ _ _ _ _ _ _
      | exact ih3 _ _ _ _ _ _ _ _ _ _
      | exact spec_l01Has.mono _ _ _
      | exact spec_l01Root.mono _ _
      | exact spec_l31Code.mono _ _ _
      | exact spec_l31Stroke.mono _ _ _
      | exact LeO.none _
      | refine LeO.ite ?_ ?_
      | refine LeO.bind ?_ (fun _ => ?_)
def spec_GreedyOrder.T12 : Bool × List (List Nat × List Nat) := (true, [([], []), ([], []), ([1], [1]), ([2], [2]), ([3], [3]), ([0, 4], [0, 4]), ([5, 5], [5]), ([6, 6, 0, 1, 2, 3, 4, 5, 6], [6])])
def spec_GreedyOrder.B12 : List Nat := [0, 0, 2, 6, 14, 31, 63, 127]
theorem spec_GreedyOrder.tab12 : rtab .any (opsOf Try.f16 12) = spec_GreedyOrder.T12 := by kernel_rfl
theorem spec_GreedyOrder.bits12 : waitsOk spec_GreedyOrder.T12.2 spec_GreedyOrder.B12 = true := by kernel_rfl
set_option maxHeartbeats 8000000 in
set_option maxRecDepth 100000 in
theorem spec_GreedyOrder.calls (k : Nat) (A0 : Option Addr) (c0 : Nat) (l0 : List (S110)) (a1 : Int) (r1 : List Int) (r2 : Int) (w : World) (hr0 : Kd.C k110 w A0 l0.length l0) (hc0 : l0.length ≤ c0) (h : spec_GreedyOrder.f k l0 a1 = some (r1, r2)) :
    Calls Try.prog 16 #[.slice A0 l0.length c0, .int .i64 a1] w fun e w' => ∃ v0_ : Value, e = .returned (.tuple #[v0_, .int .i64 r2]) ∧ Kd.R (Kd.int .i64) 2 w' w.heap.size (fun _ => True) v0_ r1 ∧ Below w.heap.size w w' := by
  have hu90 := Try.underlying90
  have hu110 := Try.underlying110
  have hfd1_ : ∀ (w : World) (a : Int) (A : Option Addr) (n c : Nat), (Instr.field 110 (.agg #[.int .i64 a, .slice A n c]) 1).run Try.prog w = .ok (.slice A n c) w := fun _ _ _ _ _ => by kernel_rfl
  have hfd0_ : ∀ (w : World) (a : Int) (A : Option Addr) (n c : Nat), (Instr.field 110 (.agg #[.int .i64 a, .slice A n c]) 0).run Try.prog w = .ok (.int .i64 a) w := fun _ _ _ _ _ => by kernel_rfl
  have HR0 := Aside0.mk hr0
  have HC0 := Aside0.mk hc0
  clear hr0 hc0
  have HB := Aside0.mk (Below.refl w.heap.size w)
  have H : ((spec_l31Code.f k l0 a1).bind fun t143 => (if t143 = 0 then (spec_GreedyOrder.l0 k l0 a1 (([] : List Int)) 0 0 0) else (some (([] : List Int), t143)))) = some (r1, r2) := h
  clear h
  replace H := Option.bind_eq_some_iff.mp H
  obtain ⟨t143, A30, H⟩ := H
  replace H : (if t143 = 0 then (spec_GreedyOrder.l0 k l0 a1 (([] : List Int)) 0 0 0) else (some (([] : List Int), t143))) = some (r1, r2) := H
  have A3 := Aside0.mk A30
  clear A30
  by_cases c4 : t143 = 0
  · rw [if_pos c4] at H
    have c4b0 : (t143 == 0) = true := beq_iff_eq.mpr c4
    have c4b1 : (t143 != 0) = false := bne_eq_false_iff_eq.mpr c4
    clear c4
    obtain ⟨y144, hy144⟩ : ∃ y_ : List Int, y_ = (([] : List Int)) := ⟨_, rfl⟩
    replace H : (spec_GreedyOrder.l0 k l0 a1 y144 0 0 0) = some (r1, r2) := by first | (rw [hy144]; with_reducible exact H) | (have H2_ := (Option.bind_some _ _).symm.trans H; rw [hy144]; with_reducible exact H2_) | (have H2_ := (Option.bind_some _ _).symm.trans H; with_reducible exact H2_) | with_reducible exact H | (rw [hy144]; exact H) | exact H
    have Ny144 := Aside0.mk hy144
    clear hy144
    have H' := Aside0.mk H
    clear H
    go_enter Try.func16, Try.ntmps16
    go_wp2_with (first | ((with_reducible refine gate_callee (f := 69) rfl ?_); refine goesL_ (some 18) rfl rfl Try.func69 (by kernel_rfl) rfl #[.slice A0 l0.length c0, .int .i64 a1] rfl (by (try simp only [List.map_toArray, List.map_cons, List.map_nil]); first | done | rfl | (simp only [List.length_drop, List.length_take]; rfl)) ?_; (with_reducible refine (spec_l31Code.calls k _ _ l0 a1 t143 _ ?side1 ?side2 A3.out).mono ?_); (case side1 => repeat (first | exact HR0.out | (with_reducible refine Kd.C_alloc ?_ _) | (with_reducible refine Kd.C_drewN ?_ _) | (with_reducible refine Kd.C_drew ?_))); (case side2 => exact HC0.out); rintro e w' ⟨rfl, ⟨nd, rfl⟩⟩; refine ⟨_, rfl, ?_⟩) | ((with_reducible refine gate_dst (N := 22) rfl ?_); refine Kd.R_lit (Kd.int .i64) _ 2 ?hg (N := 22) ?hd (xs := ([] : List Int)) (inner := []) (ok := fun _ => True) (okp := fun _ => True) ?hr ?hp (fun _ hk => hk) trivial (Below.refl _ _) (Nat.le_refl _) (by simp) ?_; (case hd => rfl); (case hg => rfl); (case hr => first | (go_simp; done) | (go_simp; rfl)); (case hp => exact (Reps.none _ _)); intro v145 w5 ho6 hb hg_ hnew_; clear hg_ hnew_; (first | rw [← Ny144.out] at ho6 | (simp only [Int.reduceToNat] at ho6; rw [← Ny144.out] at ho6)); have n0_ := Aside0.mk (Kd.R_lower ho6 (below_size (by repeat (first | (with_reducible first | exact HB.out | apply below_alloc | apply pw_below_drewN | apply below_drew1) | exact HB.out)))); have n1_ := Aside0.mk (below_step (by repeat (first | (with_reducible first | exact HB.out | apply below_alloc | apply pw_below_drewN | apply below_drew1) | exact HB.out)) hb); clear HB; have HO146 := n0_; have HB := n1_; clear n0_ n1_; clear hb ho6) | ((with_reducible refine gate_dst (N := 8) rfl ?_); refine box_event ?hg (N := 8) ?hd (cs := #[.int .i64 0, .int .i64 0]) (t := 90) ?hr ?_; (case hd => rfl); (case hg => rfl); (case hr => first | (go_simp; done) | (go_simp; rfl)); intro gb147 hg w7 hbox hb; have n0_ := Aside0.mk (Kd.R_below (by (with_reducible repeat (first | apply Kd.R_alloc | apply Kd.R_drewN | apply Kd.R_drew)); exact HO146.out) hb); have n1_ := Aside0.mk (below_step (by repeat (first | (with_reducible first | exact HB.out | apply below_alloc | apply pw_below_drewN | apply below_drew1) | exact HB.out)) hb); have n2_ := Aside0.mk (hbox); have n3_ := Aside0.mk ((by rw [hg]; exact (below_size (by repeat (first | (with_reducible first | exact HB.out | apply below_alloc | apply pw_below_drewN | apply below_drew1) | exact HB.out))) : w.heap.size ≤ gb147)); have n4_ := Aside0.mk ((by rw [hg]; exact (below_size (by repeat (first | (with_reducible first | exact HB.out | apply below_alloc | apply pw_below_drewN | apply below_drew1) | exact HB.out))) : w.heap.size ≤ gb147)); clear HO146; clear HB; have HO146 := n0_; have HB := n1_; have BK147 := n2_; have GW147 := n3_; have GE147 := n4_; clear n0_ n1_ n2_ n3_ n4_; clear hb hbox hg; have hcz8_0 : w7.cell? ⟨gb147, 0, none⟩ = some (.int .i64 0) := (blk_cell BK147.out 0).trans rfl; have hcz8_1 : w7.cell? ⟨gb147, 1, none⟩ = some (.int .i64 0) := (blk_cell BK147.out 1).trans rfl; have hfz8_0 := blk_frozen BK147.out 0; have hfz8_1 := blk_frozen BK147.out 1))
    go_loopg [7, 9] k (fun kq v7 v9 w' => ∃ (x7_1 : List Int) (x9_1 : Int) (x148000_1 : Int) (x148001_1 : Int), v9 = .int .i64 x9_1 ∧ Aside0 (spec_GreedyOrder.l0 kq l0 a1 x7_1 x9_1 x148000_1 x148001_1 = some (r1, r2)) ∧ Aside0 (kq ≤ k) ∧ Aside0 (Kd.R (Kd.int .i64) 2 w' w.heap.size (fun _ => True) v7 x7_1) ∧ Aside0 (w'.heap[gb147]? = some (.cells #[.int .i64 x148000_1, .int .i64 x148001_1] 90 (0, 0))) ∧ Aside0 (Below w.heap.size w w'))
    case atStart => exact ⟨(y144), (0), (0), (0), (by first | rfl | (simp; done) | (simp [*]; done)), H', ⟨Nat.le_refl _⟩, ⟨by (with_reducible repeat (first | apply Kd.R_alloc | apply Kd.R_drewN | apply Kd.R_drew)); exact Kd.R_mono (Kd.R_far (p := ⟨gb147, 1, none⟩) (Kd.R_far (p := ⟨gb147, 0, none⟩) (Kd.R_types HO146.out BK147.out (by decide)) (fun _ hk => hk.2) (.int .i64 0)) (fun _ hk => hk.2) (.int .i64 0)) (fun _ hk => trivial)⟩, ⟨by (with_reducible repeat (first | refine blk_drewN ?_ _ | refine blk_drew ?_ | refine blk_alloc ?_ _)); refine blk_put (cs := #[.int .i64 0, .int .i64 0]) ?_ 1 _ rfl; (with_reducible repeat (first | refine blk_drewN ?_ _ | refine blk_drew ?_ | refine blk_alloc ?_ _)); refine blk_put (cs := #[.int .i64 0, .int .i64 0]) ?_ 0 _ rfl; (with_reducible repeat (first | refine blk_drewN ?_ _ | refine blk_drew ?_ | refine blk_alloc ?_ _)); exact BK147.out⟩, ⟨by repeat (first | (with_reducible first | exact HB.out | apply below_alloc | apply pw_below_drewN | apply below_drew1 | refine below_set ?_ GE147.out) | exact HB.out)⟩⟩
    case round =>
      clear H'
      try clear c1
      try clear p2
      try clear c4
      try clear c4b0
      try clear c4b1
      try clear c6
      try clear hcz8_0
      try clear hcz8_1
      try clear hfz8_0
      try clear hfz8_1
      obtain ⟨x7_1, x9_1, x148000_1, x148001_1, rfl, HA, HK1, HO_7, BK147, HB⟩ := hrel
      cases gk with
      | zero => exact absurd HA.out (by simp [spec_GreedyOrder.l0])
      | succ k1 =>
        have H := HA.out
        clear HA
        simp only [spec_GreedyOrder.l0] at H
        by_cases c9 : (x7_1.length : Int) < (l0.length : Int)
        · rw [if_pos c9] at H
          have c9b0 : decide ((x7_1.length : Int) < (l0.length : Int)) = true := decide_eq_true c9
          have c9b1 : decide (x7_1.length < l0.length) = true := decide_eq_true (Int.ofNat_lt.mp c9)
          clear c9
          have H' := Aside0.mk H
          clear H
          obtain ⟨Ao10, co10, eo10⟩ := Kd.R_slice HO_7.out
          subst eo10
          go_wp2
          go_loopg [10, 11, 12] k1 (fun kq v10 v11 v12 w' => ∃ (x10_2 : Int) (x11_2 : Int) (x12_2 : Int), v10 = .int .i64 x10_2 ∧ v11 = .int .i64 x11_2 ∧ v12 = .int .i64 x12_2 ∧ Aside0 (spec_GreedyOrder.l1 kq l0 a1 x7_1 x9_1 x10_2 x11_2 x12_2 x148000_1 x148001_1 = some (r1, r2)) ∧ Aside0 (kq ≤ k1) ∧ Aside0 (Kd.R (Kd.int .i64) 2 w' w.heap.size (fun _ => True) (.slice Ao10 x7_1.length co10) x7_1) ∧ Aside0 (w'.heap[gb147]? = some (.cells #[.int .i64 x148000_1, .int .i64 x148001_1] 90 (0, 0))) ∧ Aside0 (Below w.heap.size w w'))
          case atStart => exact ⟨((-1)), (0), (0), (by first | rfl | (simp; done) | (simp [*]; done)), (by first | rfl | (simp; done) | (simp [*]; done)), (by first | rfl | (simp; done) | (simp [*]; done)), H', ⟨Nat.le_refl _⟩, ⟨by (with_reducible repeat (first | apply Kd.R_alloc | apply Kd.R_drewN | apply Kd.R_drew)); exact HO_7.out⟩, ⟨by (with_reducible repeat (first | refine blk_drewN ?_ _ | refine blk_drew ?_ | refine blk_alloc ?_ _)); exact BK147.out⟩, ⟨by repeat (first | (with_reducible first | exact HB.out | apply below_alloc | apply pw_below_drewN | apply below_drew1 | refine below_set ?_ GE147.out) | exact HB.out)⟩⟩
          case round =>
            clear H'
            try clear c1
            try clear p2
            try clear c4
            try clear c4b0
            try clear c4b1
            try clear c6
            try clear c9
            try clear c9b0
            try clear c9b1
            try clear hcz8_0
            try clear hcz8_1
            try clear hfz8_0
            try clear hfz8_1
            try clear p2
            obtain ⟨x10_2, x11_2, x12_2, rfl, rfl, rfl, HA, HK2, HO_7, BK147, HB⟩ := hrel
            cases gk with
            | zero => exact absurd HA.out (by simp [spec_GreedyOrder.l1])
            | succ k2 =>
              have H := HA.out
              clear HA
              simp only [spec_GreedyOrder.l1] at H
              by_cases c11 : x12_2 < (wrap64 (2 * (l0.length : Int)))
              · rw [if_pos c11] at H
                have c11b0 : decide (x12_2 < (wrap64 (2 * (l0.length : Int)))) = true := decide_eq_true c11
                clear c11
                replace H := Option.bind_eq_some_iff.mp H
                obtain ⟨⟨t157, t158⟩, A120, H⟩ := H
                replace H : (if 0 < (t158.length : Int) then ((spec_l16Square.f x148000_1 x148001_1 ((rd_T90 t158 0).f0) ((rd_T90 t158 0).f1)).bind fun t163 => ((spec_l01Root.f k2 t163).bind fun t164 => (if x9_1 > 0 then (spec_GreedyOrder.j2 k2 l0 a1 x7_1 x9_1 x10_2 x11_2 x12_2 t164 (t157 != x9_1) x148000_1 x148001_1) else (spec_GreedyOrder.j2 k2 l0 a1 x7_1 x9_1 x10_2 x11_2 x12_2 t164 false x148000_1 x148001_1)))) else (none)) = some (r1, r2) := H
                have A12 := Aside0.mk A120
                clear A120
                by_cases c13 : 0 < (t158.length : Int)
                · rw [if_pos c13] at H
                  have c13b0 : decide (0 < (t158.length : Int)) = true := decide_eq_true c13
                  have c13b1 : decide (0 < t158.length) = true := decide_eq_true (by omega)
                  clear c13
                  replace H := Option.bind_eq_some_iff.mp H
                  obtain ⟨t163, A140, H⟩ := H
                  replace H : ((spec_l01Root.f k2 t163).bind fun t164 => (if x9_1 > 0 then (spec_GreedyOrder.j2 k2 l0 a1 x7_1 x9_1 x10_2 x11_2 x12_2 t164 (t157 != x9_1) x148000_1 x148001_1) else (spec_GreedyOrder.j2 k2 l0 a1 x7_1 x9_1 x10_2 x11_2 x12_2 t164 false x148000_1 x148001_1))) = some (r1, r2) := H
                  have A14 := Aside0.mk A140
                  clear A140
                  replace H := Option.bind_eq_some_iff.mp H
                  obtain ⟨t164, A150, H⟩ := H
                  replace H : (if x9_1 > 0 then (spec_GreedyOrder.j2 k2 l0 a1 x7_1 x9_1 x10_2 x11_2 x12_2 t164 (t157 != x9_1) x148000_1 x148001_1) else (spec_GreedyOrder.j2 k2 l0 a1 x7_1 x9_1 x10_2 x11_2 x12_2 t164 false x148000_1 x148001_1)) = some (r1, r2) := H
                  have A15 := Aside0.mk A150
                  clear A150
                  have HC16 := Aside0.mk H
                  clear H
                  try go_wp2_with (first | ((with_reducible refine gate_callee (f := 70) rfl ?_); refine goesL_ (some 38) rfl rfl Try.func70 (by kernel_rfl) rfl #[.slice A0 l0.length c0, .int .i64 x12_2] rfl (by (try simp only [List.map_toArray, List.map_cons, List.map_nil]); first | done | rfl | (simp only [List.length_drop, List.length_take]; rfl)) ?_; (with_reducible refine (spec_l31Stroke.calls k2 (fun k_ => k_ < w.heap.size) _ _ l0 x12_2 t157 t158 _ ?side1 A12.out).mono ?_); (case side1 => exact Kd.V_mk HC0.out (Kd.F_below (Kd.C_F k110_heap HR0.out) (by repeat (first | (with_reducible first | exact HB.out | apply below_alloc | apply pw_below_drewN | apply below_drew1 | refine below_set ?_ GE147.out) | exact HB.out)))); rintro e w17 ⟨v159, rfl, ho0, hb⟩; refine ⟨_, rfl, ?_⟩; have n0_ := Aside0.mk (Kd.R_below (by (with_reducible repeat (first | apply Kd.R_alloc | apply Kd.R_drewN | apply Kd.R_drew)); exact HO_7.out) hb); have n1_ := Aside0.mk (Kd.V_lower (Kd.V_mono (ok' := fun k_ => some k_ ≠ (.slice Ao10 x7_1.length co10 : Value).ownBlock ∧ k_ ≠ gb147) ho0 (fun k_ hk_ => ⟨Or.elim hk_ (fun hs_ => fun e_ => Nat.not_le.2 hs_ (Kd.R_base HO_7.out k_ e_.symm)) (fun hn_ => (Kd.fresh' (Kd.R_lt (by (with_reducible repeat (first | apply Kd.R_alloc | apply Kd.R_drewN | apply Kd.R_drew)); exact HO_7.out)) k_ hn_)), Or.elim hk_ (fun hs_ => fun e_ => Nat.not_le.2 hs_ (by rw [e_]; exact GW147.out)) (fun hn_ => (Kd.freshB (g := gb147) (o := .cells #[.int .i64 x148000_1, .int .i64 x148001_1] 90 (0, 0)) (by (with_reducible repeat (first | refine blk_drewN ?_ _ | refine blk_drew ?_ | refine blk_alloc ?_ _)); exact BK147.out) k_ hn_))⟩)) (below_size (by repeat (first | (with_reducible first | exact HB.out | apply below_alloc | apply pw_below_drewN | apply below_drew1 | refine below_set ?_ GE147.out) | exact HB.out)))); have n2_ := Aside0.mk (blk_below (g := gb147) (o := .cells #[.int .i64 x148000_1, .int .i64 x148001_1] 90 (0, 0)) (by (with_reducible repeat (first | refine blk_drewN ?_ _ | refine blk_drew ?_ | refine blk_alloc ?_ _)); exact BK147.out) hb); have n3_ := Aside0.mk (below_step (by repeat (first | (with_reducible first | exact HB.out | apply below_alloc | apply pw_below_drewN | apply below_drew1 | refine below_set ?_ GE147.out) | exact HB.out)) hb); clear HO_7; clear BK147; clear HB; have HO_7 := n0_; have HO160 := n1_; have BK147 := n2_; have HB := n3_; clear n0_ n1_ n2_ n3_; (try clear hb); (try clear hb2); (try clear hk); (try clear hi); (try clear ho0)) | ((with_reducible refine gate_dst (N := 13) rfl ?_); refine box_event ?hg (N := 13) ?hd (cs := #[.int .i64 0, .slice none 0 0]) (t := 110) ?hr ?_; (case hd => rfl); (case hg => rfl); (case hr => first | (go_simp; done) | (go_simp; rfl)); intro gb161 hg w18 hbox hb; have n0_ := Aside0.mk (Kd.R_below (by (with_reducible repeat (first | apply Kd.R_alloc | apply Kd.R_drewN | apply Kd.R_drew)); exact HO_7.out) hb); have n1_ := Aside0.mk (Kd.V_below (Kd.V_elderB (by (with_reducible repeat (first | apply Kd.V_alloc | apply Kd.V_drewN | apply Kd.V_drew)); exact HO160.out) gb161 (Nat.le_of_eq hg.symm)) hb); have n2_ := Aside0.mk (blk_below (g := gb147) (o := .cells #[.int .i64 x148000_1, .int .i64 x148001_1] 90 (0, 0)) (by (with_reducible repeat (first | refine blk_drewN ?_ _ | refine blk_drew ?_ | refine blk_alloc ?_ _)); exact BK147.out) hb); have n3_ := Aside0.mk (below_step (by repeat (first | (with_reducible first | exact HB.out | apply below_alloc | apply pw_below_drewN | apply below_drew1 | refine below_set ?_ GE147.out) | exact HB.out)) hb); have n4_ := Aside0.mk (hbox); have n5_ := Aside0.mk ((by rw [hg]; exact (below_size (by repeat (first | (with_reducible first | exact HB.out | apply below_alloc | apply pw_below_drewN | apply below_drew1 | refine below_set ?_ GE147.out) | exact HB.out))) : w.heap.size ≤ gb161)); have n6_ := Aside0.mk ((by rw [hg]; exact (below_size (by repeat (first | (with_reducible first | exact HB.out | apply below_alloc | apply pw_below_drewN | apply below_drew1 | refine below_set ?_ GE147.out) | exact HB.out))) : w.heap.size ≤ gb161)); have n7_ := Aside0.mk ((by rw [hg]; exact Nat.ne_of_lt (blk_lt (g := gb147) (o := .cells #[.int .i64 x148000_1, .int .i64 x148001_1] 90 (0, 0)) (by (with_reducible repeat (first | refine blk_drewN ?_ _ | refine blk_drew ?_ | refine blk_alloc ?_ _)); exact BK147.out)) : gb147 ≠ gb161)); have n8_ := Aside0.mk ((by rw [hg]; exact Nat.ne_of_gt (blk_lt (g := gb147) (o := .cells #[.int .i64 x148000_1, .int .i64 x148001_1] 90 (0, 0)) (by (with_reducible repeat (first | refine blk_drewN ?_ _ | refine blk_drew ?_ | refine blk_alloc ?_ _)); exact BK147.out)) : gb161 ≠ gb147)); clear HO_7; clear HO160; clear BK147; clear HB; have HO_7 := n0_; have HO160 := n1_; have BK147 := n2_; have HB := n3_; have BK161 := n4_; have GW161 := n5_; have GE161 := n6_; have NB147_161 := n7_; have NB161_147 := n8_; clear n0_ n1_ n2_ n3_ n4_ n5_ n6_ n7_ n8_; clear hb hbox hg; have hnb19 := NB161_147.out; have hnc19 := NB147_161.out; have hcz20_0 : w18.cell? ⟨gb161, 0, none⟩ = some (.int .i64 0) := (blk_cell BK161.out 0).trans rfl; have hcz20_1 : w18.cell? ⟨gb161, 1, none⟩ = some (.slice none 0 0) := (blk_cell BK161.out 1).trans rfl; have hfz20_0 := blk_frozen BK161.out 0; have hfz20_1 := blk_frozen BK161.out 1; obtain ⟨Ao21, co21, eo21⟩ := Kd.V_slice HO160.out; subst eo21))
                  have n0_ : Aside0 (Kd.R (Kd.int .i64) 2 ((w18.setCell ⟨gb161, 0, none⟩ (.int .i64 t157)).setCell ⟨gb161, 1, none⟩ (.slice Ao21 t158.length co21)) w.heap.size (fun _ => True) (.slice Ao10 x7_1.length co10) x7_1) := ⟨by (with_reducible repeat (first | apply Kd.R_alloc | apply Kd.R_drewN | apply Kd.R_drew)); exact Kd.R_mono (Kd.R_far (p := ⟨gb161, 1, none⟩) (Kd.R_far (p := ⟨gb161, 0, none⟩) (Kd.R_types HO_7.out BK161.out (by decide)) (fun _ hk => hk.2) (.int .i64 t157)) (fun _ hk => hk.2) (.slice Ao21 t158.length co21)) (fun _ hk => trivial)⟩
                  have n1_ : Aside0 (Kd.V k90 90 ((w18.setCell ⟨gb161, 0, none⟩ (.int .i64 t157)).setCell ⟨gb161, 1, none⟩ (.slice Ao21 t158.length co21)) w.heap.size (fun k_ => some k_ ≠ (.slice Ao10 x7_1.length co10 : Value).ownBlock ∧ k_ ≠ gb147 ∧ k_ ≠ gb161) (.slice Ao21 t158.length co21) t158) := ⟨by (with_reducible repeat (first | apply Kd.V_alloc | apply Kd.V_drewN | apply Kd.V_drew)); exact Kd.V_mono (Kd.V_far (p := ⟨gb161, 1, none⟩) (Kd.V_far (p := ⟨gb161, 0, none⟩) (Kd.V_mono HO160.out (fun k_ hk => (⟨hk, hk.2⟩ : _ ∧ k_ ≠ gb161))) (fun _ hk => hk.2) (.int .i64 t157)) (fun _ hk => hk.2) (.slice Ao21 t158.length co21)) (fun _ hk => ⟨hk.1.1.1, ⟨hk.1.1.2, hk.1.2⟩⟩)⟩
                  have n2_ : Aside0 (((w18.setCell ⟨gb161, 0, none⟩ (.int .i64 t157)).setCell ⟨gb161, 1, none⟩ (.slice Ao21 t158.length co21)).heap[gb147]? = some (.cells #[.int .i64 x148000_1, .int .i64 x148001_1] 90 (0, 0))) := ⟨by (with_reducible repeat (first | refine blk_drewN ?_ _ | refine blk_drew ?_ | refine blk_alloc ?_ _)); refine blk_far ?_ NB147_161.out _; (with_reducible repeat (first | refine blk_drewN ?_ _ | refine blk_drew ?_ | refine blk_alloc ?_ _)); refine blk_far ?_ NB147_161.out _; (with_reducible repeat (first | refine blk_drewN ?_ _ | refine blk_drew ?_ | refine blk_alloc ?_ _)); exact BK147.out⟩
                  have n3_ : Aside0 (((w18.setCell ⟨gb161, 0, none⟩ (.int .i64 t157)).setCell ⟨gb161, 1, none⟩ (.slice Ao21 t158.length co21)).heap[gb161]? = some (.cells #[.int .i64 t157, .slice Ao21 t158.length co21] 110 (0, 0))) := ⟨by (with_reducible repeat (first | refine blk_drewN ?_ _ | refine blk_drew ?_ | refine blk_alloc ?_ _)); refine blk_put (cs := #[.int .i64 t157, .slice none 0 0]) ?_ 1 _ rfl; (with_reducible repeat (first | refine blk_drewN ?_ _ | refine blk_drew ?_ | refine blk_alloc ?_ _)); refine blk_put (cs := #[.int .i64 0, .slice none 0 0]) ?_ 0 _ rfl; (with_reducible repeat (first | refine blk_drewN ?_ _ | refine blk_drew ?_ | refine blk_alloc ?_ _)); exact BK161.out⟩
                  have n4_ : Aside0 (Below w.heap.size w ((w18.setCell ⟨gb161, 0, none⟩ (.int .i64 t157)).setCell ⟨gb161, 1, none⟩ (.slice Ao21 t158.length co21))) := ⟨by repeat (first | (with_reducible first | exact HB.out | apply below_alloc | apply pw_below_drewN | apply below_drew1 | refine below_set ?_ GE147.out | refine below_set ?_ GE161.out) | exact HB.out)⟩
                  (try clear HO_7)
                  (try clear HO160)
                  (try clear BK147)
                  (try clear BK161)
                  (try clear HB)
                  generalize ((w18.setCell ⟨gb161, 0, none⟩ (.int .i64 t157)).setCell ⟨gb161, 1, none⟩ (.slice Ao21 t158.length co21)) = w22 at n0_ n1_ n2_ n3_ n4_ ⊢
                  have HO_7 := n0_
                  have HO160 := n1_
                  have BK147 := n2_
                  have BK161 := n3_
                  have HB := n4_
                  clear n0_ n1_ n2_ n3_ n4_
                  have n0_ := Aside0.mk (Kd.R_drew HO_7.out)
                  have n1_ := Aside0.mk (Kd.V_drew HO160.out)
                  have n2_ := Aside0.mk (blk_drew BK147.out)
                  have n3_ := Aside0.mk (blk_drew BK161.out)
                  have n4_ := Aside0.mk (below_drew1 HB.out)
                  clear HO_7
                  clear HO160
                  clear BK147
                  clear BK161
                  clear HB
                  have HO_7 := n0_
                  have HO160 := n1_
                  have BK147 := n2_
                  have BK161 := n3_
                  have HB := n4_
                  clear n0_ n1_ n2_ n3_ n4_
                  have p162 : 0 ≤ (0 : Int) := (by omega)
                  have q162 : 0 < (t158.length : Int) := of_decide_eq_true (by first | (with_reducible assumption) | assumption)
                  obtain ⟨ad162, e162, hx162_0, hx162_1⟩ := at_T90 (Kd.V_reads' HO160.out).2.2 0 p162 q162
                  cases e162
                  have qi162 : (0 < t158.length) = True := eq_true (by omega)
                  (try rw [show ((0 : Int)).toNat = 0 from rfl] at hx162_0)
                  (try rw [show 0 * 2 = 0 from rfl] at hx162_0)
                  (try rw [Addr.add_zero'] at hx162_0)
                  (try rw [show ((0 : Int)).toNat = 0 from rfl] at hx162_1)
                  (try rw [show 0 * 2 = 0 from rfl] at hx162_1)
                  (try rw [Addr.add_zero'] at hx162_1)
                  replace p162 := eq_true p162
                  replace q162 := eq_true q162
                  refine start_ (n := 8) (S := fun w' => w'.cell? ⟨gb147, 0, none⟩ = some (.int .i64 x148000_1) ∧ w'.cell? ⟨gb147, 1, none⟩ = some (.int .i64 x148001_1) ∧ w'.cell? ⟨gb161, 0, none⟩ = some (.int .i64 t157) ∧ w'.cell? ⟨gb161, 1, none⟩ = some (.slice (some ad162) t158.length co21) ∧ w'.cell? ad162 = some (.int .i64 ((rd_T90 t158 0).f0)) ∧ w'.cell? ⟨ad162.block, ad162.off + 1, none⟩ = some (.int .i64 ((rd_T90 t158 0).f1))) (ds := []) #[false, false, false, false, false, false, false, false] (by kernel_rfl) rfl rfl ⟨(blk_cell BK147.out 0).trans rfl, (blk_cell BK147.out 1).trans rfl, (blk_cell BK161.out 0).trans rfl, (blk_cell BK161.out 1).trans rfl, hx162_0, hx162_1⟩ (fun hHeld => ?_); refine with_tabW spec_GreedyOrder.tab12 spec_GreedyOrder.bits12 (fun HT_ HW_ => ?_)
                  generalize w22.drew = w23 at HO_7 HO160 BK147 BK161 HB hx162_0 hx162_1 hHeld ⊢
                  refine pure_ (i := 1) (N := some 40) (v := ?_) (a' := ?_) #[false, true, false, false, false, false, false, false] rfl rfl (any_of HT_.out (by kernel_rfl)) (fun _ _ _ h => h) (Or.inl ⟨by rfl, ?_⟩) ?_ ?_
                  rotate_left
                  · intro w'
                    go_simp
                    with_reducible rfl
                  rotate_left
                  · simp only [Act.put, List.setIfInBounds_toArray, List.set_cons_zero, List.set_cons_succ, i64_w, i32_w]
                    rfl
                  refine take_ (i := 0) (N := some 39) (v := ?_) (a' := ?_) #[true, true, false, false, false, false, false, false] rfl rfl (take_ofW HT_.out HW_.out (by kernel_rfl)) (fun _ _ _ h => h) (Or.inl ⟨by rfl, ?_⟩) hHeld ?_ ?_
                  rotate_left
                  · rintro w' ⟨s0, s1, s2, s3, s4, s5⟩
                    go_simp
                    with_reducible rfl
                  rotate_left
                  · simp only [Act.put, List.setIfInBounds_toArray, List.set_cons_zero, List.set_cons_succ, i64_w, i32_w]
                    rfl
                  refine take_ (i := 2) (N := some 41) (v := ?_) (a' := ?_) #[true, true, true, false, false, false, false, false] rfl rfl (take_ofW HT_.out HW_.out (by kernel_rfl)) (fun _ _ _ h => h) (Or.inl ⟨by rfl, ?_⟩) hHeld ?_ ?_
                  rotate_left
                  · rintro w' ⟨s0, s1, s2, s3, s4, s5⟩
                    go_simp
                    with_reducible rfl
                  rotate_left
                  · simp only [Act.put, List.setIfInBounds_toArray, List.set_cons_zero, List.set_cons_succ, i64_w, i32_w]
                    rfl
                  refine pure_ (i := 3) (N := some 42) (v := ?_) (a' := ?_) #[true, true, true, true, false, false, false, false] rfl rfl (any_of HT_.out (by kernel_rfl)) (fun _ _ _ h => h) (Or.inl ⟨by rfl, ?_⟩) ?_ ?_
                  rotate_left
                  · intro w'
                    go_simp
                    with_reducible rfl
                  rotate_left
                  · simp only [Act.put, List.setIfInBounds_toArray, List.set_cons_zero, List.set_cons_succ, i64_w, i32_w]
                    rfl
                  refine take_ (i := 4) (N := some 43) (v := ?_) (a' := ?_) #[true, true, true, true, true, false, false, false] rfl rfl (take_ofW HT_.out HW_.out (by kernel_rfl)) (fun _ _ _ h => h) (Or.inl ⟨by rfl, ?_⟩) hHeld ?_ ?_
                  rotate_left
                  · rintro w' ⟨s0, s1, s2, s3, s4, s5⟩
                    go_simp
                    with_reducible rfl
                  rotate_left
                  · simp only [Act.put, List.setIfInBounds_toArray, List.set_cons_zero, List.set_cons_succ, i64_w, i32_w]
                    rfl
                  refine one_ (i := 5) (N := some 44) #[true, true, true, true, true, true, false, false] rfl rfl (one_of HT_.out (by kernel_rfl)) (by decide) (fun K hK => ?_)
                  refine goes_ Try.func72 (by kernel_rfl) rfl #[.agg #[.int .i64 x148000_1, .int .i64 x148001_1], .agg #[.int .i64 ((rd_T90 t158 0).f0), .int .i64 ((rd_T90 t158 0).f1)]] (by rfl) rfl rfl (by (try simp only [List.map_toArray, List.map_cons, List.map_nil]); first | done | rfl | (simp only [List.length_drop, List.length_take]; rfl)) ?_
                  with_reducible refine (spec_l16Square.calls x148000_1 x148001_1 ((rd_T90 t158 0).f0) ((rd_T90 t158 0).f1) t163 _ A14.out).mono ?_
                  rintro e w24 ⟨rfl, hb⟩
                  have HS4_ := (hb.cell (World.block_lt_of_cell? _ _ (hHeld.2.2.2.2.1))).trans (hHeld.2.2.2.2.1)
                  have HS5_ := (hb.cell (World.block_lt_of_cell? _ _ (hHeld.2.2.2.2.2))).trans (hHeld.2.2.2.2.2)
                  refine ⟨_, rfl, ?_⟩
                  have n0_ := Aside0.mk (Kd.R_below (by (with_reducible repeat (first | apply Kd.R_alloc | apply Kd.R_drewN | apply Kd.R_drew)); exact HO_7.out) hb)
                  have n1_ := Aside0.mk (Kd.V_below (by (with_reducible repeat (first | apply Kd.V_alloc | apply Kd.V_drewN | apply Kd.V_drew)); exact HO160.out) hb)
                  have n2_ := Aside0.mk (blk_below (g := gb147) (o := .cells #[.int .i64 x148000_1, .int .i64 x148001_1] 90 (0, 0)) (by (with_reducible repeat (first | refine blk_drewN ?_ _ | refine blk_drew ?_ | refine blk_alloc ?_ _)); exact BK147.out) hb)
                  have n3_ := Aside0.mk (blk_below (g := gb161) (o := .cells #[.int .i64 t157, .slice (some ad162) t158.length co21] 110 (0, 0)) (by (with_reducible repeat (first | refine blk_drewN ?_ _ | refine blk_drew ?_ | refine blk_alloc ?_ _)); exact BK161.out) hb)
                  have n4_ := Aside0.mk (below_step (by repeat (first | (with_reducible first | exact HB.out | apply below_alloc | apply pw_below_drewN | apply below_drew1 | refine below_set ?_ GE147.out | refine below_set ?_ GE161.out) | exact HB.out)) hb)
                  clear HO_7
                  clear HO160
                  clear BK147
                  clear BK161
                  clear HB
                  have HO_7 := n0_
                  have HO160 := n1_
                  have BK147 := n2_
                  have BK161 := n3_
                  have HB := n4_
                  clear n0_ n1_ n2_ n3_ n4_
                  (try clear hb)
                  (try clear hb2)
                  (try clear hk)
                  (try clear hi)
                  refine hK.out _ _ ⟨(blk_cell BK147.out 0).trans rfl, (blk_cell BK147.out 1).trans rfl, (blk_cell BK161.out 0).trans rfl, (blk_cell BK161.out 1).trans rfl, HS4_, HS5_⟩ (fun hHeld => ?_)
                  clear hK K
                  refine norm_ (a' := ?_) ?_ ?_
                  rotate_left
                  · show Act.put _ (some 44) _ = _
                    simp only [Act.put, List.setIfInBounds_toArray, List.set_cons_zero, List.set_cons_succ, i64_w, i32_w]
                    rfl
                  refine one_ (i := 6) (N := some 45) #[true, true, true, true, true, true, true, false] rfl rfl (one_of HT_.out (by kernel_rfl)) (by decide) (fun K hK => ?_)
                  refine goes_ Try.func71 (by kernel_rfl) rfl #[.int .i64 t163] (by rfl) rfl rfl (by (try simp only [List.map_toArray, List.map_cons, List.map_nil]); first | done | rfl | (simp only [List.length_drop, List.length_take]; rfl)) ?_
                  with_reducible refine (spec_l01Root.calls k2 t163 t164 _ A15.out).mono ?_
                  rintro e w' ⟨rfl, ⟨nd, rfl⟩⟩
                  refine ⟨_, rfl, ?_⟩
                  refine hK.out _ _ ⟨(blk_cell BK147.out 0).trans rfl, (blk_cell BK147.out 1).trans rfl, (blk_cell BK161.out 0).trans rfl, (blk_cell BK161.out 1).trans rfl, hHeld.2.2.2.2.1, hHeld.2.2.2.2.2⟩ (fun hHeld => ?_)
                  clear hK K
                  refine norm_ (a' := ?_) ?_ ?_
                  rotate_left
                  · show Act.put _ (some 45) _ = _
                    simp only [Act.put, List.setIfInBounds_toArray, List.set_cons_zero, List.set_cons_succ, i64_w, i32_w]
                    rfl
                  refine pure_ (i := 7) (N := some 14) (v := ?_) (a' := ?_) #[true, true, true, true, true, true, true, true] rfl rfl (any_of HT_.out (by kernel_rfl)) (fun _ _ _ h => h) (Or.inl ⟨by rfl, ?_⟩) ?_ ?_
                  rotate_left
                  · intro w'
                    go_simp
                    with_reducible rfl
                  rotate_left
                  · simp only [Act.put, List.setIfInBounds_toArray, List.set_cons_zero, List.set_cons_succ, i64_w, i32_w]
                    rfl
                  refine done_ (done_of HT_.out (by kernel_rfl)) ?_
                  go_upto_region 13 with (fail)
                  go_cut [53] (fun v53 wc => ∃ (kq : Nat) (x53_15 : Bool), v53 = .bool x53_15 ∧ Aside0 (spec_GreedyOrder.j2 kq l0 a1 x7_1 x9_1 x10_2 x11_2 x12_2 t164 x53_15 x148000_1 x148001_1 = some (r1, r2)) ∧ Aside0 (kq ≤ k2) ∧ Aside0 (Kd.R (Kd.int .i64) 2 wc w.heap.size (fun _ => True) (.slice Ao10 x7_1.length co10) x7_1) ∧ Aside0 (Kd.V k90 90 wc w.heap.size (fun k_ => some k_ ≠ ((.slice Ao10 x7_1.length co10) : Value).ownBlock ∧ k_ ≠ gb147 ∧ k_ ≠ gb161) (.slice (some ad162) t158.length co21) t158) ∧ Aside0 (wc.heap[gb147]? = some (.cells #[.int .i64 x148000_1, .int .i64 x148001_1] 90 (0, 0))) ∧ Aside0 (wc.heap[gb161]? = some (.cells #[.int .i64 t157, (.slice (some ad162) t158.length co21)] 110 (0, 0))) ∧ Aside0 (Below w.heap.size w wc))
                  case first =>
                    have H := HC16.out
                    clear HC16
                    by_cases c25 : x9_1 > 0
                    · rw [if_pos c25] at H
                      have c25b0 : decide (0 < x9_1) = true := decide_eq_true c25
                      clear c25
                      (first | rw [c25b0] | (simp only [i64_w, i32_w]; rw [c25b0]) | skip)
                      have H' := Aside0.mk H
                      clear H
                      have hnb26 := NB161_147.out
                      have hnc26 := NB147_161.out
                      have hcz27_0 : w24.cell? ⟨gb161, 0, none⟩ = some (.int .i64 t157) := (blk_cell BK161.out 0).trans rfl
                      have hcz27_1 : w24.cell? ⟨gb161, 1, none⟩ = some (.slice (some ad162) t158.length co21) := (blk_cell BK161.out 1).trans rfl
                      have hfz27_0 := blk_frozen BK161.out 0
                      have hfz27_1 := blk_frozen BK161.out 1
                      go_wp2
                      go_meet
                      case rel => exact ⟨_, ((t157 != x9_1)), (by first | rfl | (simp; done) | (simp [*]; done)), H', ⟨by have := HK1.out; have := HK2.out; first | omega | exact Nat.le_refl _⟩, ⟨by (with_reducible repeat (first | apply Kd.R_alloc | apply Kd.R_drewN | apply Kd.R_drew)); exact HO_7.out⟩, ⟨by (with_reducible repeat (first | apply Kd.V_alloc | apply Kd.V_drewN | apply Kd.V_drew)); exact HO160.out⟩, ⟨by (with_reducible repeat (first | refine blk_drewN ?_ _ | refine blk_drew ?_ | refine blk_alloc ?_ _)); exact BK147.out⟩, ⟨by (with_reducible repeat (first | refine blk_drewN ?_ _ | refine blk_drew ?_ | refine blk_alloc ?_ _)); exact BK161.out⟩, ⟨by repeat (first | (with_reducible first | exact HB.out | apply below_alloc | apply pw_below_drewN | apply below_drew1 | refine below_set ?_ GE147.out | refine below_set ?_ GE161.out) | exact HB.out)⟩⟩
                    · rw [if_neg c25] at H
                      have c25b0 : decide (0 < x9_1) = false := decide_eq_false c25
                      clear c25
                      (first | rw [c25b0] | (simp only [i64_w, i32_w]; rw [c25b0]) | skip)
                      have H' := Aside0.mk H
                      clear H
                      go_wp2
                      go_meet
                      case rel => exact ⟨_, (false), (by first | rfl | (simp; done) | (simp [*]; done)), H', ⟨by have := HK1.out; have := HK2.out; first | omega | exact Nat.le_refl _⟩, ⟨by (with_reducible repeat (first | apply Kd.R_alloc | apply Kd.R_drewN | apply Kd.R_drew)); exact HO_7.out⟩, ⟨by (with_reducible repeat (first | apply Kd.V_alloc | apply Kd.V_drewN | apply Kd.V_drew)); exact HO160.out⟩, ⟨by (with_reducible repeat (first | refine blk_drewN ?_ _ | refine blk_drew ?_ | refine blk_alloc ?_ _)); exact BK147.out⟩, ⟨by (with_reducible repeat (first | refine blk_drewN ?_ _ | refine blk_drew ?_ | refine blk_alloc ?_ _)); exact BK161.out⟩, ⟨by repeat (first | (with_reducible first | exact HB.out | apply below_alloc | apply pw_below_drewN | apply below_drew1 | refine below_set ?_ GE147.out | refine below_set ?_ GE161.out) | exact HB.out)⟩⟩
                  case rest =>
                    clear HC16
                    try clear c1
                    try clear p1
                    try clear q1
                    try clear hx1
                    try clear qi1
                    try clear c2
                    try clear p2
                    try clear c4
                    try clear c4b0
                    try clear c4b1
                    try clear c6
                    try clear p6
                    try clear c7
                    try clear c9
                    try clear c9b0
                    try clear c9b1
                    try clear c11
                    try clear c11b0
                    try clear c13
                    try clear c13b0
                    try clear c13b1
                    try clear c16
                    try clear p16
                    try clear q16
                    try clear hx16
                    try clear qi16
                    try clear c19
                    try clear c25
                    try clear c25b0
                    try clear c26
                    try clear hcz20_0
                    try clear hcz20_1
                    try clear hcz27_0
                    try clear hcz27_1
                    try clear hcz8_0
                    try clear hcz8_1
                    try clear hfz20_0
                    try clear hfz20_1
                    try clear hfz27_0
                    try clear hfz27_1
                    try clear hfz8_0
                    try clear hfz8_1
                    try clear hx162_0
                    try clear hx162_1
                    try clear p162
                    try clear p2
                    try clear q162
                    obtain ⟨kq, x53_15, rfl, HA, HJ15, HO_7, HO_162001, BK147, BK161, HB⟩ := hcut
                    cases kq with
                    | zero => exact absurd HA.out (by simp [spec_GreedyOrder.j2])
                    | succ kj15 =>
                      have H := HA.out
                      clear HA
                      simp only [spec_GreedyOrder.j2] at H
                      have HC28 := Aside0.mk H
                      clear H
                      go_upto_if 53 with (fail)
                      go_cut [14] (fun v14 wc => ∃ (kq : Nat) (x14_27 : Int), v14 = .int .i64 x14_27 ∧ Aside0 (spec_GreedyOrder.j3 kq l0 a1 x7_1 x9_1 x10_2 x11_2 x12_2 x14_27 x148000_1 x148001_1 = some (r1, r2)) ∧ Aside0 (kq ≤ kj15) ∧ Aside0 (Kd.R (Kd.int .i64) 2 wc w.heap.size (fun _ => True) (.slice Ao10 x7_1.length co10) x7_1) ∧ Aside0 (Kd.V k90 90 wc w.heap.size (fun k_ => some k_ ≠ ((.slice Ao10 x7_1.length co10) : Value).ownBlock ∧ k_ ≠ gb147 ∧ k_ ≠ gb161) (.slice (some ad162) t158.length co21) t158) ∧ Aside0 (wc.heap[gb147]? = some (.cells #[.int .i64 x148000_1, .int .i64 x148001_1] 90 (0, 0))) ∧ Aside0 (wc.heap[gb161]? = some (.cells #[.int .i64 t157, (.slice (some ad162) t158.length co21)] 110 (0, 0))) ∧ Aside0 (Below w.heap.size w wc))
                      case first =>
                        have H := HC28.out
                        clear HC28
                        by_cases c29 : x53_15 = true
                        · subst c29
                          have H1 : (spec_GreedyOrder.j3 kj15 l0 a1 x7_1 x9_1 x10_2 x11_2 x12_2 (wrap64 (t164 + a1)) x148000_1 x148001_1) = some (r1, r2) := by rw [if_pos rfl] at H; exact H
                          clear H
                          have H := H1
                          clear H1
                          have H' := Aside0.mk H
                          clear H
                          go_wp2
                          go_meet
                          case rel => exact ⟨_, (wrap64 (t164 + a1)), (by first | rfl | (simp; done) | (simp [*]; done)), H', ⟨by have := HK1.out; have := HK2.out; have := HJ15.out; first | omega | exact Nat.le_refl _⟩, ⟨by (with_reducible repeat (first | apply Kd.R_alloc | apply Kd.R_drewN | apply Kd.R_drew)); exact HO_7.out⟩, ⟨by (with_reducible repeat (first | apply Kd.V_alloc | apply Kd.V_drewN | apply Kd.V_drew)); exact HO_162001.out⟩, ⟨by (with_reducible repeat (first | refine blk_drewN ?_ _ | refine blk_drew ?_ | refine blk_alloc ?_ _)); exact BK147.out⟩, ⟨by (with_reducible repeat (first | refine blk_drewN ?_ _ | refine blk_drew ?_ | refine blk_alloc ?_ _)); exact BK161.out⟩, ⟨by repeat (first | (with_reducible first | exact HB.out | apply below_alloc | apply pw_below_drewN | apply below_drew1 | refine below_set ?_ GE147.out | refine below_set ?_ GE161.out) | exact HB.out)⟩⟩
                        · replace c29 := Bool.eq_false_iff.mpr c29
                          subst c29
                          have H1 : (spec_GreedyOrder.j3 kj15 l0 a1 x7_1 x9_1 x10_2 x11_2 x12_2 t164 x148000_1 x148001_1) = some (r1, r2) := by rw [if_neg (show ¬ (false = true) by decide)] at H; exact H
                          clear H
                          have H := H1
                          clear H1
                          have H' := Aside0.mk H
                          clear H
                          go_wp2
                          go_meet
                          case rel => exact ⟨_, (t164), (by first | rfl | (simp; done) | (simp [*]; done)), H', ⟨by have := HK1.out; have := HK2.out; have := HJ15.out; first | omega | exact Nat.le_refl _⟩, ⟨by (with_reducible repeat (first | apply Kd.R_alloc | apply Kd.R_drewN | apply Kd.R_drew)); exact HO_7.out⟩, ⟨by (with_reducible repeat (first | apply Kd.V_alloc | apply Kd.V_drewN | apply Kd.V_drew)); exact HO_162001.out⟩, ⟨by (with_reducible repeat (first | refine blk_drewN ?_ _ | refine blk_drew ?_ | refine blk_alloc ?_ _)); exact BK147.out⟩, ⟨by (with_reducible repeat (first | refine blk_drewN ?_ _ | refine blk_drew ?_ | refine blk_alloc ?_ _)); exact BK161.out⟩, ⟨by repeat (first | (with_reducible first | exact HB.out | apply below_alloc | apply pw_below_drewN | apply below_drew1 | refine below_set ?_ GE147.out | refine below_set ?_ GE161.out) | exact HB.out)⟩⟩
                      case rest =>
                        clear HC28
                        try clear c1
                        try clear p1
                        try clear q1
                        try clear hx1
                        try clear qi1
                        try clear c2
                        try clear p2
                        try clear c4
                        try clear c4b0
                        try clear c4b1
                        try clear c6
                        try clear p6
                        try clear c7
                        try clear c9
                        try clear c9b0
                        try clear c9b1
                        try clear c11
                        try clear c11b0
                        try clear c13
                        try clear c13b0
                        try clear c13b1
                        try clear c16
                        try clear p16
                        try clear q16
                        try clear hx16
                        try clear qi16
                        try clear c19
                        try clear c25
                        try clear c25b0
                        try clear c26
                        try clear c29
                        try clear hcz20_0
                        try clear hcz20_1
                        try clear hcz27_0
                        try clear hcz27_1
                        try clear hcz8_0
                        try clear hcz8_1
                        try clear hfz20_0
                        try clear hfz20_1
                        try clear hfz27_0
                        try clear hfz27_1
                        try clear hfz8_0
                        try clear hfz8_1
                        try clear hx162_0
                        try clear hx162_1
                        try clear p1
                        try clear p16
                        try clear p162
                        try clear p2
                        try clear p6
                        try clear q1
                        try clear q16
                        try clear q162
                        obtain ⟨kq, x14_27, rfl, HA, HJ27, HO_7, HO_162001, BK147, BK161, HB⟩ := hcut
                        cases kq with
                        | zero => exact absurd HA.out (by simp [spec_GreedyOrder.j3])
                        | succ kj27 =>
                          have H := HA.out
                          clear HA
                          simp only [spec_GreedyOrder.j3] at H
                          replace H := Option.bind_eq_some_iff.mp H
                          obtain ⟨t165, A300, H⟩ := H
                          replace H : (if t165 = true then (spec_GreedyOrder.l1 kj27 l0 a1 x7_1 x9_1 x10_2 x11_2 (wrap64 (x12_2 + 1)) x148000_1 x148001_1) else ((spec_l01Has.f kj27 x7_1 (wrap64 ((wrap64 (x12_2 - (Int.tmod x12_2 2))) + 1))).bind fun t166 => (if t166 = true then (spec_GreedyOrder.l1 kj27 l0 a1 x7_1 x9_1 x10_2 x11_2 (wrap64 (x12_2 + 1)) x148000_1 x148001_1) else (if x10_2 < 0 then (spec_GreedyOrder.l1 kj27 l0 a1 x7_1 x9_1 x12_2 x14_27 (wrap64 (x12_2 + 1)) x148000_1 x148001_1) else (if x14_27 < x11_2 then (spec_GreedyOrder.l1 kj27 l0 a1 x7_1 x9_1 x12_2 x14_27 (wrap64 (x12_2 + 1)) x148000_1 x148001_1) else (spec_GreedyOrder.l1 kj27 l0 a1 x7_1 x9_1 x10_2 x11_2 (wrap64 (x12_2 + 1)) x148000_1 x148001_1)))))) = some (r1, r2) := H
                          have A30 := Aside0.mk A300
                          clear A300
                          by_cases c31 : t165 = true
                          · subst c31
                            have H1 : (spec_GreedyOrder.l1 kj27 l0 a1 x7_1 x9_1 x10_2 x11_2 (wrap64 (x12_2 + 1)) x148000_1 x148001_1) = some (r1, r2) := by rw [if_pos rfl] at H; exact H
                            clear H
                            have H := H1
                            clear H1
                            have H' := Aside0.mk H
                            clear H
                            go_wp2_with (first | ((with_reducible refine gate_callee (f := 73) rfl ?_); refine goesL_ (some 62) rfl rfl Try.func73 (by kernel_rfl) rfl #[.slice Ao10 x7_1.length co10, .int .i64 (wrap64 (x12_2 - (Int.tmod x12_2 2)))] rfl (by (try simp only [List.map_toArray, List.map_cons, List.map_nil]); first | done | rfl | (simp only [List.length_drop, List.length_take]; rfl)) ?_; (with_reducible refine (spec_l01Has.calls kj27 _ _ x7_1 (wrap64 (x12_2 - (Int.tmod x12_2 2))) true _ ?side1 ?side2 A30.out).mono ?_); (case side1 => repeat (first | exact (Kd.R_reads' HO_7.out).2.2 | (with_reducible refine Kd.C_alloc ?_ _) | (with_reducible refine Kd.C_drewN ?_ _) | (with_reducible refine Kd.C_drew ?_))); (case side2 => exact (Kd.R_reads' HO_7.out).2.1); rintro e w' ⟨rfl, ⟨nd, rfl⟩⟩; refine ⟨_, rfl, ?_⟩))
                            go_roundg kj27
                            case measure => have := HK1.out; have := HK2.out; have := HJ15.out; have := HJ27.out; omega
                            case rel => exact ⟨(x10_2), (x11_2), (wrap64 (x12_2 + 1)), (by first | rfl | (simp; done) | (simp [*]; done)), (by first | rfl | (simp; done) | (simp [*]; done)), (by first | rfl | (simp; done) | (simp [*]; done)), H', ⟨by have := HK1.out; have := HK2.out; have := HJ15.out; have := HJ27.out; omega⟩, ⟨by (with_reducible repeat (first | apply Kd.R_alloc | apply Kd.R_drewN | apply Kd.R_drew)); exact HO_7.out⟩, ⟨by (with_reducible repeat (first | refine blk_drewN ?_ _ | refine blk_drew ?_ | refine blk_alloc ?_ _)); exact BK147.out⟩, ⟨by repeat (first | (with_reducible first | exact HB.out | apply below_alloc | apply pw_below_drewN | apply below_drew1 | refine below_set ?_ GE147.out | refine below_set ?_ GE161.out) | exact HB.out)⟩⟩
                          · replace c31 := Bool.eq_false_iff.mpr c31
                            subst c31
                            have H1 : ((spec_l01Has.f kj27 x7_1 (wrap64 ((wrap64 (x12_2 - (Int.tmod x12_2 2))) + 1))).bind fun t166 => (if t166 = true then (spec_GreedyOrder.l1 kj27 l0 a1 x7_1 x9_1 x10_2 x11_2 (wrap64 (x12_2 + 1)) x148000_1 x148001_1) else (if x10_2 < 0 then (spec_GreedyOrder.l1 kj27 l0 a1 x7_1 x9_1 x12_2 x14_27 (wrap64 (x12_2 + 1)) x148000_1 x148001_1) else (if x14_27 < x11_2 then (spec_GreedyOrder.l1 kj27 l0 a1 x7_1 x9_1 x12_2 x14_27 (wrap64 (x12_2 + 1)) x148000_1 x148001_1) else (spec_GreedyOrder.l1 kj27 l0 a1 x7_1 x9_1 x10_2 x11_2 (wrap64 (x12_2 + 1)) x148000_1 x148001_1))))) = some (r1, r2) := by rw [if_neg (show ¬ (false = true) by decide)] at H; exact H
                            clear H
                            have H := H1
                            clear H1
                            replace H := Option.bind_eq_some_iff.mp H
                            obtain ⟨t166, A320, H⟩ := H
                            replace H : (if t166 = true then (spec_GreedyOrder.l1 kj27 l0 a1 x7_1 x9_1 x10_2 x11_2 (wrap64 (x12_2 + 1)) x148000_1 x148001_1) else (if x10_2 < 0 then (spec_GreedyOrder.l1 kj27 l0 a1 x7_1 x9_1 x12_2 x14_27 (wrap64 (x12_2 + 1)) x148000_1 x148001_1) else (if x14_27 < x11_2 then (spec_GreedyOrder.l1 kj27 l0 a1 x7_1 x9_1 x12_2 x14_27 (wrap64 (x12_2 + 1)) x148000_1 x148001_1) else (spec_GreedyOrder.l1 kj27 l0 a1 x7_1 x9_1 x10_2 x11_2 (wrap64 (x12_2 + 1)) x148000_1 x148001_1)))) = some (r1, r2) := H
                            have A32 := Aside0.mk A320
                            clear A320
                            by_cases c33 : t166 = true
                            · subst c33
                              have H1 : (spec_GreedyOrder.l1 kj27 l0 a1 x7_1 x9_1 x10_2 x11_2 (wrap64 (x12_2 + 1)) x148000_1 x148001_1) = some (r1, r2) := by rw [if_pos rfl] at H; exact H
                              clear H
                              have H := H1
                              clear H1
                              have H' := Aside0.mk H
                              clear H
                              go_wp2_with (first | ((with_reducible refine gate_callee (f := 73) rfl ?_); refine goesL_ (some 62) rfl rfl Try.func73 (by kernel_rfl) rfl #[.slice Ao10 x7_1.length co10, .int .i64 (wrap64 (x12_2 - (Int.tmod x12_2 2)))] rfl (by (try simp only [List.map_toArray, List.map_cons, List.map_nil]); first | done | rfl | (simp only [List.length_drop, List.length_take]; rfl)) ?_; (with_reducible refine (spec_l01Has.calls kj27 _ _ x7_1 (wrap64 (x12_2 - (Int.tmod x12_2 2))) false _ ?side1 ?side2 A30.out).mono ?_); (case side1 => repeat (first | exact (Kd.R_reads' HO_7.out).2.2 | (with_reducible refine Kd.C_alloc ?_ _) | (with_reducible refine Kd.C_drewN ?_ _) | (with_reducible refine Kd.C_drew ?_))); (case side2 => exact (Kd.R_reads' HO_7.out).2.1); rintro e w' ⟨rfl, ⟨nd, rfl⟩⟩; refine ⟨_, rfl, ?_⟩) | (go_at_call 73; (with_reducible refine (spec_l01Has.calls kj27 _ _ x7_1 (wrap64 ((wrap64 (x12_2 - (Int.tmod x12_2 2))) + 1)) true _ ?side1 ?side2 A32.out).mono ?_); (case side1 => repeat (first | exact (Kd.R_reads' HO_7.out).2.2 | (with_reducible refine Kd.C_alloc ?_ _) | (with_reducible refine Kd.C_drewN ?_ _) | (with_reducible refine Kd.C_drew ?_))); (case side2 => exact (Kd.R_reads' HO_7.out).2.1); rintro e w' ⟨rfl, ⟨nd, rfl⟩⟩))
                              go_roundg kj27
                              case measure => have := HK1.out; have := HK2.out; have := HJ15.out; have := HJ27.out; omega
                              case rel => exact ⟨(x10_2), (x11_2), (wrap64 (x12_2 + 1)), (by first | rfl | (simp; done) | (simp [*]; done)), (by first | rfl | (simp; done) | (simp [*]; done)), (by first | rfl | (simp; done) | (simp [*]; done)), H', ⟨by have := HK1.out; have := HK2.out; have := HJ15.out; have := HJ27.out; omega⟩, ⟨by (with_reducible repeat (first | apply Kd.R_alloc | apply Kd.R_drewN | apply Kd.R_drew)); exact HO_7.out⟩, ⟨by (with_reducible repeat (first | refine blk_drewN ?_ _ | refine blk_drew ?_ | refine blk_alloc ?_ _)); exact BK147.out⟩, ⟨by repeat (first | (with_reducible first | exact HB.out | apply below_alloc | apply pw_below_drewN | apply below_drew1 | refine below_set ?_ GE147.out | refine below_set ?_ GE161.out) | exact HB.out)⟩⟩
                            · replace c33 := Bool.eq_false_iff.mpr c33
                              subst c33
                              have H1 : (if x10_2 < 0 then (spec_GreedyOrder.l1 kj27 l0 a1 x7_1 x9_1 x12_2 x14_27 (wrap64 (x12_2 + 1)) x148000_1 x148001_1) else (if x14_27 < x11_2 then (spec_GreedyOrder.l1 kj27 l0 a1 x7_1 x9_1 x12_2 x14_27 (wrap64 (x12_2 + 1)) x148000_1 x148001_1) else (spec_GreedyOrder.l1 kj27 l0 a1 x7_1 x9_1 x10_2 x11_2 (wrap64 (x12_2 + 1)) x148000_1 x148001_1))) = some (r1, r2) := by rw [if_neg (show ¬ (false = true) by decide)] at H; exact H
                              clear H
                              have H := H1
                              clear H1
                              by_cases c34 : x10_2 < 0
                              · rw [if_pos c34] at H
                                have c34b0 : decide (x10_2 < 0) = true := decide_eq_true c34
                                clear c34
                                have H' := Aside0.mk H
                                clear H
                                go_wp2_with (first | ((with_reducible refine gate_callee (f := 73) rfl ?_); refine goesL_ (some 62) rfl rfl Try.func73 (by kernel_rfl) rfl #[.slice Ao10 x7_1.length co10, .int .i64 (wrap64 (x12_2 - (Int.tmod x12_2 2)))] rfl (by (try simp only [List.map_toArray, List.map_cons, List.map_nil]); first | done | rfl | (simp only [List.length_drop, List.length_take]; rfl)) ?_; (with_reducible refine (spec_l01Has.calls kj27 _ _ x7_1 (wrap64 (x12_2 - (Int.tmod x12_2 2))) false _ ?side1 ?side2 A30.out).mono ?_); (case side1 => repeat (first | exact (Kd.R_reads' HO_7.out).2.2 | (with_reducible refine Kd.C_alloc ?_ _) | (with_reducible refine Kd.C_drewN ?_ _) | (with_reducible refine Kd.C_drew ?_))); (case side2 => exact (Kd.R_reads' HO_7.out).2.1); rintro e w' ⟨rfl, ⟨nd, rfl⟩⟩; refine ⟨_, rfl, ?_⟩) | (go_at_call 73; (with_reducible refine (spec_l01Has.calls kj27 _ _ x7_1 (wrap64 ((wrap64 (x12_2 - (Int.tmod x12_2 2))) + 1)) false _ ?side1 ?side2 A32.out).mono ?_); (case side1 => repeat (first | exact (Kd.R_reads' HO_7.out).2.2 | (with_reducible refine Kd.C_alloc ?_ _) | (with_reducible refine Kd.C_drewN ?_ _) | (with_reducible refine Kd.C_drew ?_))); (case side2 => exact (Kd.R_reads' HO_7.out).2.1); rintro e w' ⟨rfl, ⟨nd, rfl⟩⟩))
                                go_roundg kj27
                                case measure => have := HK1.out; have := HK2.out; have := HJ15.out; have := HJ27.out; omega
                                case rel => exact ⟨(x12_2), (x14_27), (wrap64 (x12_2 + 1)), (by first | rfl | (simp; done) | (simp [*]; done)), (by first | rfl | (simp; done) | (simp [*]; done)), (by first | rfl | (simp; done) | (simp [*]; done)), H', ⟨by have := HK1.out; have := HK2.out; have := HJ15.out; have := HJ27.out; omega⟩, ⟨by (with_reducible repeat (first | apply Kd.R_alloc | apply Kd.R_drewN | apply Kd.R_drew)); exact HO_7.out⟩, ⟨by (with_reducible repeat (first | refine blk_drewN ?_ _ | refine blk_drew ?_ | refine blk_alloc ?_ _)); exact BK147.out⟩, ⟨by repeat (first | (with_reducible first | exact HB.out | apply below_alloc | apply pw_below_drewN | apply below_drew1 | refine below_set ?_ GE147.out | refine below_set ?_ GE161.out) | exact HB.out)⟩⟩
                              · rw [if_neg c34] at H
                                have c34b0 : decide (x10_2 < 0) = false := decide_eq_false c34
                                clear c34
                                by_cases c35 : x14_27 < x11_2
                                · rw [if_pos c35] at H
                                  have c35b0 : decide (x14_27 < x11_2) = true := decide_eq_true c35
                                  clear c35
                                  have H' := Aside0.mk H
                                  clear H
                                  go_wp2_with (first | ((with_reducible refine gate_callee (f := 73) rfl ?_); refine goesL_ (some 62) rfl rfl Try.func73 (by kernel_rfl) rfl #[.slice Ao10 x7_1.length co10, .int .i64 (wrap64 (x12_2 - (Int.tmod x12_2 2)))] rfl (by (try simp only [List.map_toArray, List.map_cons, List.map_nil]); first | done | rfl | (simp only [List.length_drop, List.length_take]; rfl)) ?_; (with_reducible refine (spec_l01Has.calls kj27 _ _ x7_1 (wrap64 (x12_2 - (Int.tmod x12_2 2))) false _ ?side1 ?side2 A30.out).mono ?_); (case side1 => repeat (first | exact (Kd.R_reads' HO_7.out).2.2 | (with_reducible refine Kd.C_alloc ?_ _) | (with_reducible refine Kd.C_drewN ?_ _) | (with_reducible refine Kd.C_drew ?_))); (case side2 => exact (Kd.R_reads' HO_7.out).2.1); rintro e w' ⟨rfl, ⟨nd, rfl⟩⟩; refine ⟨_, rfl, ?_⟩) | (go_at_call 73; (with_reducible refine (spec_l01Has.calls kj27 _ _ x7_1 (wrap64 ((wrap64 (x12_2 - (Int.tmod x12_2 2))) + 1)) false _ ?side1 ?side2 A32.out).mono ?_); (case side1 => repeat (first | exact (Kd.R_reads' HO_7.out).2.2 | (with_reducible refine Kd.C_alloc ?_ _) | (with_reducible refine Kd.C_drewN ?_ _) | (with_reducible refine Kd.C_drew ?_))); (case side2 => exact (Kd.R_reads' HO_7.out).2.1); rintro e w' ⟨rfl, ⟨nd, rfl⟩⟩))
                                  go_roundg kj27
                                  case measure => have := HK1.out; have := HK2.out; have := HJ15.out; have := HJ27.out; omega
                                  case rel => exact ⟨(x12_2), (x14_27), (wrap64 (x12_2 + 1)), (by first | rfl | (simp; done) | (simp [*]; done)), (by first | rfl | (simp; done) | (simp [*]; done)), (by first | rfl | (simp; done) | (simp [*]; done)), H', ⟨by have := HK1.out; have := HK2.out; have := HJ15.out; have := HJ27.out; omega⟩, ⟨by (with_reducible repeat (first | apply Kd.R_alloc | apply Kd.R_drewN | apply Kd.R_drew)); exact HO_7.out⟩, ⟨by (with_reducible repeat (first | refine blk_drewN ?_ _ | refine blk_drew ?_ | refine blk_alloc ?_ _)); exact BK147.out⟩, ⟨by repeat (first | (with_reducible first | exact HB.out | apply below_alloc | apply pw_below_drewN | apply below_drew1 | refine below_set ?_ GE147.out | refine below_set ?_ GE161.out) | exact HB.out)⟩⟩
                                · rw [if_neg c35] at H
                                  have c35b0 : decide (x14_27 < x11_2) = false := decide_eq_false c35
                                  clear c35
                                  have H' := Aside0.mk H
                                  clear H
                                  go_wp2_with (first | ((with_reducible refine gate_callee (f := 73) rfl ?_); refine goesL_ (some 62) rfl rfl Try.func73 (by kernel_rfl) rfl #[.slice Ao10 x7_1.length co10, .int .i64 (wrap64 (x12_2 - (Int.tmod x12_2 2)))] rfl (by (try simp only [List.map_toArray, List.map_cons, List.map_nil]); first | done | rfl | (simp only [List.length_drop, List.length_take]; rfl)) ?_; (with_reducible refine (spec_l01Has.calls kj27 _ _ x7_1 (wrap64 (x12_2 - (Int.tmod x12_2 2))) false _ ?side1 ?side2 A30.out).mono ?_); (case side1 => repeat (first | exact (Kd.R_reads' HO_7.out).2.2 | (with_reducible refine Kd.C_alloc ?_ _) | (with_reducible refine Kd.C_drewN ?_ _) | (with_reducible refine Kd.C_drew ?_))); (case side2 => exact (Kd.R_reads' HO_7.out).2.1); rintro e w' ⟨rfl, ⟨nd, rfl⟩⟩; refine ⟨_, rfl, ?_⟩) | (go_at_call 73; (with_reducible refine (spec_l01Has.calls kj27 _ _ x7_1 (wrap64 ((wrap64 (x12_2 - (Int.tmod x12_2 2))) + 1)) false _ ?side1 ?side2 A32.out).mono ?_); (case side1 => repeat (first | exact (Kd.R_reads' HO_7.out).2.2 | (with_reducible refine Kd.C_alloc ?_ _) | (with_reducible refine Kd.C_drewN ?_ _) | (with_reducible refine Kd.C_drew ?_))); (case side2 => exact (Kd.R_reads' HO_7.out).2.1); rintro e w' ⟨rfl, ⟨nd, rfl⟩⟩))
                                  go_roundg kj27
                                  case measure => have := HK1.out; have := HK2.out; have := HJ15.out; have := HJ27.out; omega
                                  case rel => exact ⟨(x10_2), (x11_2), (wrap64 (x12_2 + 1)), (by first | rfl | (simp; done) | (simp [*]; done)), (by first | rfl | (simp; done) | (simp [*]; done)), (by first | rfl | (simp; done) | (simp [*]; done)), H', ⟨by have := HK1.out; have := HK2.out; have := HJ15.out; have := HJ27.out; omega⟩, ⟨by (with_reducible repeat (first | apply Kd.R_alloc | apply Kd.R_drewN | apply Kd.R_drew)); exact HO_7.out⟩, ⟨by (with_reducible repeat (first | refine blk_drewN ?_ _ | refine blk_drew ?_ | refine blk_alloc ?_ _)); exact BK147.out⟩, ⟨by repeat (first | (with_reducible first | exact HB.out | apply below_alloc | apply pw_below_drewN | apply below_drew1 | refine below_set ?_ GE147.out | refine below_set ?_ GE161.out) | exact HB.out)⟩⟩
                · rw [if_neg c13] at H
                  exact absurd H (by simp)
              · rw [if_neg c11] at H
                have c11b0 : decide (x12_2 < (wrap64 (2 * (l0.length : Int)))) = false := decide_eq_false c11
                clear c11
                by_cases c36 : x7_1.length < 17592186044416
                · rw [if_pos c36] at H
                  have LMc36 := Aside0.mk c36
                  clear c36
                  obtain ⟨y148, hy148⟩ : ∃ y_ : List Int, y_ = (x7_1 ++ [x10_2]) := ⟨_, rfl⟩
                  replace H : ((spec_l31Stroke.f k2 l0 x10_2).bind fun bt151 => (if 0 ≤ (wrap64 ((bt151.2.length : Int) - 1)) then (if (wrap64 ((bt151.2.length : Int) - 1)) < (bt151.2.length : Int) then (spec_GreedyOrder.l0 k2 l0 a1 y148 bt151.1 ((rd_T90 bt151.2 (wrap64 ((bt151.2.length : Int) - 1))).f0) ((rd_T90 bt151.2 (wrap64 ((bt151.2.length : Int) - 1))).f1)) else (none)) else (none))) = some (r1, r2) := by first | (rw [hy148]; with_reducible exact H) | (have H2_ := (Option.bind_some _ _).symm.trans H; rw [hy148]; with_reducible exact H2_) | (have H2_ := (Option.bind_some _ _).symm.trans H; with_reducible exact H2_) | with_reducible exact H | (rw [hy148]; exact H) | exact H
                  have Ny148 := Aside0.mk hy148
                  clear hy148
                  replace H := Option.bind_eq_some_iff.mp H
                  obtain ⟨⟨t151, t152⟩, A370, H⟩ := H
                  replace H : (if 0 ≤ (wrap64 ((t152.length : Int) - 1)) then (if (wrap64 ((t152.length : Int) - 1)) < (t152.length : Int) then (spec_GreedyOrder.l0 k2 l0 a1 y148 t151 ((rd_T90 t152 (wrap64 ((t152.length : Int) - 1))).f0) ((rd_T90 t152 (wrap64 ((t152.length : Int) - 1))).f1)) else (none)) else (none)) = some (r1, r2) := H
                  have A37 := Aside0.mk A370
                  clear A370
                  obtain ⟨ji38, hji38⟩ : ∃ j_ : Int, (wrap64 ((t152.length : Int) - 1)) = j_ := ⟨_, rfl⟩
                  replace H : (if 0 ≤ (ji38) then (if (ji38) < (t152.length : Int) then (spec_GreedyOrder.l0 k2 l0 a1 y148 t151 ((rd_T90 t152 (ji38)).f0) ((rd_T90 t152 (ji38)).f1)) else (none)) else (none)) = some (r1, r2) := by first | (rw [hji38] at H; exact H) | (simp only [hji38] at H ⊢; exact H)
                  (try rw [hji38] at A37)
                  have hji38w : (IntKind.i64.wrap ((t152.length : Int) - 1)) = ji38 := (i64_w _).trans hji38
                  by_cases c39 : 0 ≤ (ji38)
                  · rw [if_pos c39] at H
                    have c39b0 : decide (0 ≤ (ji38)) = true := decide_eq_true c39
                    clear c39
                    by_cases c40 : (ji38) < (t152.length : Int)
                    · rw [if_pos c40] at H
                      have c40b0 : decide ((ji38) < (t152.length : Int)) = true := decide_eq_true c40
                      clear c40
                      have H' := Aside0.mk H
                      clear H
                      go_wp2_with (first | ((with_reducible refine gate_builtin (b := .append) (xs := #[.tmp 85, .tmp 87]) rfl ?_); at_builtin; refine Kd.R_append (Kd.int .i64) (w0 := w) w.heap.size rfl (.tmp 85) (.tmp 87) 24 2 (.int .i64 0) 8 rfl Try.underlying24 info2 rfl (by decide) (by omega) (.slice Ao10 x7_1.length co10) x7_1 x10_2 [.int .i64 x10_2] (fun _ => True) (fun _ => False) rfl rfl ?aP (fun _ hk => hk.elim) ?aF ?aO ?aB ?aS ?aL ?_; (case aP => exact rfl); (case aB => exact (by repeat (first | (with_reducible first | exact HB.out | apply below_alloc | apply pw_below_drewN | apply below_drew1 | refine below_set ?_ GE147.out) | exact HB.out))); (case aF => exact (fun _ _ => trivial)); (case aO => exact (by (with_reducible repeat (first | apply Kd.R_alloc | apply Kd.R_drewN | apply Kd.R_drew)); exact HO_7.out)); (case aS => exact (below_size (by repeat (first | (with_reducible first | exact HB.out | apply below_alloc | apply pw_below_drewN | apply below_drew1 | refine below_set ?_ GE147.out) | exact HB.out)))); (case aL => have := LMc36.out; omega); intro v149 w41 ho hb hg hat; rw [← Ny148.out] at ho; have n0_ := Aside0.mk (blk_grown (g := gb147) (o := .cells #[.int .i64 x148000_1, .int .i64 x148001_1] 90 (0, 0)) (by (with_reducible repeat (first | refine blk_drewN ?_ _ | refine blk_drew ?_ | refine blk_alloc ?_ _)); exact BK147.out) hg (Kd.R_ne HO_7.out BK147.out (by decide))); have n1_ := Aside0.mk (hb); have n2_ := Aside0.mk (ho); clear BK147; clear HB; clear HO_7; have BK147 := n0_; have HB := n1_; have HO150 := n2_; clear n0_ n1_ n2_; clear ho hb hg hat) | ((with_reducible refine gate_callee (f := 70) rfl ?_); refine goesL_ (some 91) rfl rfl Try.func70 (by kernel_rfl) rfl #[.slice A0 l0.length c0, .int .i64 x10_2] rfl (by (try simp only [List.map_toArray, List.map_cons, List.map_nil]); first | done | rfl | (simp only [List.length_drop, List.length_take]; rfl)) ?_; (with_reducible refine (spec_l31Stroke.calls k2 (fun k_ => k_ < w.heap.size) _ _ l0 x10_2 t151 t152 _ ?side1 A37.out).mono ?_); (case side1 => exact Kd.V_mk HC0.out (Kd.F_below (Kd.C_F k110_heap HR0.out) (by repeat (first | (with_reducible first | exact HB.out | apply below_alloc | apply pw_below_drewN | apply below_drew1 | refine below_set ?_ GE147.out) | exact HB.out)))); rintro e w42 ⟨v153, rfl, ho0, hb⟩; refine ⟨_, rfl, ?_⟩; have n0_ := Aside0.mk (Kd.R_below (by (with_reducible repeat (first | apply Kd.R_alloc | apply Kd.R_drewN | apply Kd.R_drew)); exact HO150.out) hb); have n1_ := Aside0.mk (Kd.V_lower (Kd.V_mono (ok' := fun k_ => some k_ ≠ (v149 : Value).ownBlock ∧ k_ ≠ gb147) ho0 (fun k_ hk_ => ⟨Or.elim hk_ (fun hs_ => fun e_ => Nat.not_le.2 hs_ (Kd.R_base HO150.out k_ e_.symm)) (fun hn_ => (Kd.fresh' (Kd.R_lt (by (with_reducible repeat (first | apply Kd.R_alloc | apply Kd.R_drewN | apply Kd.R_drew)); exact HO150.out)) k_ hn_)), Or.elim hk_ (fun hs_ => fun e_ => Nat.not_le.2 hs_ (by rw [e_]; exact GW147.out)) (fun hn_ => (Kd.freshB (g := gb147) (o := .cells #[.int .i64 x148000_1, .int .i64 x148001_1] 90 (0, 0)) (by (with_reducible repeat (first | refine blk_drewN ?_ _ | refine blk_drew ?_ | refine blk_alloc ?_ _)); exact BK147.out) k_ hn_))⟩)) (below_size (by repeat (first | (with_reducible first | exact HB.out | apply below_alloc | apply pw_below_drewN | apply below_drew1 | refine below_set ?_ GE147.out) | exact HB.out)))); have n2_ := Aside0.mk (blk_below (g := gb147) (o := .cells #[.int .i64 x148000_1, .int .i64 x148001_1] 90 (0, 0)) (by (with_reducible repeat (first | refine blk_drewN ?_ _ | refine blk_drew ?_ | refine blk_alloc ?_ _)); exact BK147.out) hb); have n3_ := Aside0.mk (below_step (by repeat (first | (with_reducible first | exact HB.out | apply below_alloc | apply pw_below_drewN | apply below_drew1 | refine below_set ?_ GE147.out) | exact HB.out)) hb); clear HO150; clear BK147; clear HB; have HO150 := n0_; have HO154 := n1_; have BK147 := n2_; have HB := n3_; clear n0_ n1_ n2_ n3_; (try clear hb); (try clear hb2); (try clear hk); (try clear hi); (try clear ho0)) | ((with_reducible refine gate_dst (N := 15) rfl ?_); refine box_event ?hg (N := 15) ?hd (cs := #[.int .i64 0, .slice none 0 0]) (t := 110) ?hr ?_; (case hd => rfl); (case hg => rfl); (case hr => first | (go_simp; done) | (go_simp; rfl)); intro gb155 hg w43 hbox hb; have n0_ := Aside0.mk (Kd.R_below (by (with_reducible repeat (first | apply Kd.R_alloc | apply Kd.R_drewN | apply Kd.R_drew)); exact HO150.out) hb); have n1_ := Aside0.mk (Kd.V_below (Kd.V_elderB (by (with_reducible repeat (first | apply Kd.V_alloc | apply Kd.V_drewN | apply Kd.V_drew)); exact HO154.out) gb155 (Nat.le_of_eq hg.symm)) hb); have n2_ := Aside0.mk (blk_below (g := gb147) (o := .cells #[.int .i64 x148000_1, .int .i64 x148001_1] 90 (0, 0)) (by (with_reducible repeat (first | refine blk_drewN ?_ _ | refine blk_drew ?_ | refine blk_alloc ?_ _)); exact BK147.out) hb); have n3_ := Aside0.mk (below_step (by repeat (first | (with_reducible first | exact HB.out | apply below_alloc | apply pw_below_drewN | apply below_drew1 | refine below_set ?_ GE147.out) | exact HB.out)) hb); have n4_ := Aside0.mk (hbox); have n5_ := Aside0.mk ((by rw [hg]; exact (below_size (by repeat (first | (with_reducible first | exact HB.out | apply below_alloc | apply pw_below_drewN | apply below_drew1 | refine below_set ?_ GE147.out) | exact HB.out))) : w.heap.size ≤ gb155)); have n6_ := Aside0.mk ((by rw [hg]; exact (below_size (by repeat (first | (with_reducible first | exact HB.out | apply below_alloc | apply pw_below_drewN | apply below_drew1 | refine below_set ?_ GE147.out) | exact HB.out))) : w.heap.size ≤ gb155)); have n7_ := Aside0.mk ((by rw [hg]; exact Nat.ne_of_lt (blk_lt (g := gb147) (o := .cells #[.int .i64 x148000_1, .int .i64 x148001_1] 90 (0, 0)) (by (with_reducible repeat (first | refine blk_drewN ?_ _ | refine blk_drew ?_ | refine blk_alloc ?_ _)); exact BK147.out)) : gb147 ≠ gb155)); have n8_ := Aside0.mk ((by rw [hg]; exact Nat.ne_of_gt (blk_lt (g := gb147) (o := .cells #[.int .i64 x148000_1, .int .i64 x148001_1] 90 (0, 0)) (by (with_reducible repeat (first | refine blk_drewN ?_ _ | refine blk_drew ?_ | refine blk_alloc ?_ _)); exact BK147.out)) : gb155 ≠ gb147)); clear HO150; clear HO154; clear BK147; clear HB; have HO150 := n0_; have HO154 := n1_; have BK147 := n2_; have HB := n3_; have BK155 := n4_; have GW155 := n5_; have GE155 := n6_; have NB147_155 := n7_; have NB155_147 := n8_; clear n0_ n1_ n2_ n3_ n4_ n5_ n6_ n7_ n8_; clear hb hbox hg; have hnb44 := NB155_147.out; have hnc44 := NB147_155.out; have hcz45_0 : w43.cell? ⟨gb155, 0, none⟩ = some (.int .i64 0) := (blk_cell BK155.out 0).trans rfl; have hcz45_1 : w43.cell? ⟨gb155, 1, none⟩ = some (.slice none 0 0) := (blk_cell BK155.out 1).trans rfl; have hfz45_0 := blk_frozen BK155.out 0; have hfz45_1 := blk_frozen BK155.out 1; obtain ⟨Ao46, co46, eo46⟩ := Kd.V_slice HO154.out; subst eo46; have p156 : 0 ≤ ((ji38) : Int) := of_decide_eq_true (by first | (with_reducible assumption) | assumption); have q156 : (ji38) < (t152.length : Int) := of_decide_eq_true (by first | (with_reducible assumption) | assumption); obtain ⟨ad156, e156, hx156_0, hx156_1⟩ := at_T90 (Kd.V_reads' HO154.out).2.2 (ji38) p156 q156; cases e156; have hn156_0 : ad156.block ≠ gb155 := (by obtain ⟨_, _, e_, _, _, _, h_⟩ := Kd.F_get (Kd.V_F HO154.out) z90 (ji38) p156 q156; cases e_; exact (h_ (by decide)).2); have hn156_1 := hn156_0; replace hx156_0 := (cell_far (p := ⟨gb155, 0, none⟩) (by first | (rw [add_block]; exact hn156_0) | (show (Addr.add _ _).block ≠ _; rw [add_block]; exact hn156_0) | exact hn156_0) (.int .i64 t151)).trans hx156_0; replace hx156_1 := (cell_far (p := ⟨gb155, 0, none⟩) (by first | (rw [add_block]; exact hn156_0) | (show (Addr.add _ _).block ≠ _; rw [add_block]; exact hn156_0) | exact hn156_0) (.int .i64 t151)).trans hx156_1; replace hx156_0 := (cell_far (p := ⟨gb155, 1, none⟩) (by first | (rw [add_block]; exact hn156_1) | (show (Addr.add _ _).block ≠ _; rw [add_block]; exact hn156_1) | exact hn156_1) (.slice (some ad156) t152.length co46)).trans hx156_0; replace hx156_1 := (cell_far (p := ⟨gb155, 1, none⟩) (by first | (rw [add_block]; exact hn156_1) | (show (Addr.add _ _).block ≠ _; rw [add_block]; exact hn156_1) | exact hn156_1) (.slice (some ad156) t152.length co46)).trans hx156_1; clear hn156_0; clear hn156_1; replace p156 := eq_true p156; replace q156 := eq_true q156; have hcz47_0 : w43.cell? ⟨gb147, 0, none⟩ = some (.int .i64 x148000_1) := (blk_cell BK147.out 0).trans rfl; have hcz47_1 : w43.cell? ⟨gb147, 1, none⟩ = some (.int .i64 x148001_1) := (blk_cell BK147.out 1).trans rfl; have hfz47_0 := blk_frozen BK147.out 0; have hfz47_1 := blk_frozen BK147.out 1))
                      go_roundg k2
                      case measure => have := HK1.out; have := HK2.out; omega
                      case rel => exact ⟨(y148), (t151), ((rd_T90 t152 (ji38)).f0), ((rd_T90 t152 (ji38)).f1), (by first | rfl | (simp; done) | (simp [*]; done)), H', ⟨by have := HK1.out; have := HK2.out; omega⟩, ⟨by (with_reducible repeat (first | apply Kd.R_alloc | apply Kd.R_drewN | apply Kd.R_drew)); exact Kd.R_mono (Kd.R_far (p := ⟨gb147, 1, none⟩) (Kd.R_far (p := ⟨gb147, 0, none⟩) (Kd.R_far (p := ⟨gb155, 1, none⟩) (Kd.R_far (p := ⟨gb155, 0, none⟩) (Kd.R_types (Kd.R_types HO150.out BK155.out (by decide)) BK147.out (by decide)) (fun _ hk => hk.1.2) (.int .i64 t151)) (fun _ hk => hk.1.2) (.slice (some ad156) t152.length co46)) (fun _ hk => hk.2) (.int .i64 ((rd_T90 t152 (ji38)).f0))) (fun _ hk => hk.2) (.int .i64 ((rd_T90 t152 (ji38)).f1))) (fun _ hk => trivial)⟩, ⟨by (with_reducible repeat (first | refine blk_drewN ?_ _ | refine blk_drew ?_ | refine blk_alloc ?_ _)); refine blk_put (cs := #[.int .i64 ((rd_T90 t152 (ji38)).f0), .int .i64 x148001_1]) ?_ 1 _ rfl; (with_reducible repeat (first | refine blk_drewN ?_ _ | refine blk_drew ?_ | refine blk_alloc ?_ _)); refine blk_put (cs := #[.int .i64 x148000_1, .int .i64 x148001_1]) ?_ 0 _ rfl; (with_reducible repeat (first | refine blk_drewN ?_ _ | refine blk_drew ?_ | refine blk_alloc ?_ _)); refine blk_far ?_ NB147_155.out _; (with_reducible repeat (first | refine blk_drewN ?_ _ | refine blk_drew ?_ | refine blk_alloc ?_ _)); refine blk_far ?_ NB147_155.out _; (with_reducible repeat (first | refine blk_drewN ?_ _ | refine blk_drew ?_ | refine blk_alloc ?_ _)); exact BK147.out⟩, ⟨by repeat (first | (with_reducible first | exact HB.out | apply below_alloc | apply pw_below_drewN | apply below_drew1 | refine below_set ?_ GE147.out | refine below_set ?_ GE155.out) | exact HB.out)⟩⟩
                    · rw [if_neg c40] at H
                      exact absurd H (by simp)
                  · rw [if_neg c39] at H
                    exact absurd H (by simp)
                · rw [if_neg c36] at H
                  exact absurd H (by simp)
        · rw [if_neg c9] at H
          have c9b0 : decide ((x7_1.length : Int) < (l0.length : Int)) = false := decide_eq_false c9
          have c9b1 : decide (x7_1.length < l0.length) = false := decide_eq_false (fun h => c9 (Int.ofNat_lt.mpr h))
          clear c9
          simp only [Option.some.injEq, Prod.mk.injEq] at H
          obtain ⟨rfl, rfl⟩ := H
          obtain ⟨Ao48, co48, eo48⟩ := Kd.R_slice HO_7.out
          subst eo48
          go_wp2
          go_ret2
          exact ⟨_, by first | rfl | (simp [errW_none, errW_some] <;> rfl) | (simp [*, errW_none, errW_some] <;> rfl), by (with_reducible repeat (first | apply Kd.R_alloc | apply Kd.R_drewN | apply Kd.R_drew)); exact HO_7.out, by repeat (first | (with_reducible first | exact HB.out | apply below_alloc | apply pw_below_drewN | apply below_drew1 | refine below_set ?_ GE147.out) | exact HB.out)⟩
  · rw [if_neg c4] at H
    have c4b0 : (t143 == 0) = false := beq_eq_false_iff_ne.mpr c4
    have c4b1 : (t143 != 0) = true := bne_iff_ne.mpr c4
    simp only [Option.some.injEq, Prod.mk.injEq] at H
    obtain ⟨rfl, rfl⟩ := H
    go_enter Try.func16, Try.ntmps16
    go_wp2_with (first | ((with_reducible refine gate_callee (f := 69) rfl ?_); refine goesL_ (some 18) rfl rfl Try.func69 (by kernel_rfl) rfl #[.slice A0 l0.length c0, .int .i64 a1] rfl (by (try simp only [List.map_toArray, List.map_cons, List.map_nil]); first | done | rfl | (simp only [List.length_drop, List.length_take]; rfl)) ?_; (with_reducible refine (spec_l31Code.calls k _ _ l0 a1 t143 _ ?side1 ?side2 A3.out).mono ?_); (case side1 => repeat (first | exact HR0.out | (with_reducible refine Kd.C_alloc ?_ _) | (with_reducible refine Kd.C_drewN ?_ _) | (with_reducible refine Kd.C_drew ?_))); (case side2 => exact HC0.out); rintro e w' ⟨rfl, ⟨nd, rfl⟩⟩; refine ⟨_, rfl, ?_⟩))
    go_ret2
    exact ⟨_, by first | rfl | (simp [errW_none, errW_some] <;> rfl) | (simp [*, errW_none, errW_some] <;> rfl), by first | exact Kd.R_nil _ _ _ _ _ | exact Kd.N_nil _ _ _ _ _ | exact Kd.V_nil _ _ _ _ _ | exact Kd.Q_nil _ _ _ _ _ | exact Kd.S_nil _ _ _ _ _, by repeat (first | (with_reducible first | exact HB.out | apply below_alloc | apply pw_below_drewN | apply below_drew1) | exact HB.out)⟩

end Go.Proofs.Ytgpdjpololkhbaa.F

namespace Go.Proofs.Ytgpdjpololkhbaa.Pure
open Go.RowKit Go.Proofs.Ytgpdjpololkhbaa.F Go.Proofs.YtgpdjpololkhbaaW.PrintWords Go.Proofs.YtgpdjpololkhbaaW.PrintLast Go.Proofs.YtgpdjpololkhbaaW.PrintMore Go.Proofs.YtgpdjpololkhbaaB
set_option linter.unusedVariables false
set_option linter.unusedSimpArgs false
theorem spec_l01Has_l0 (l : List Int) (hl : l.length ≤ 1048576) (a : Int) : ∀ (ys : List Int) (m : Nat), l.drop m = ys → Ev (fun k => spec_l01Has.l0 k l a m) (decide (a ∈ ys))
  | [], m, h => by
    have := drop_nil h
    exact ev_step (fun _ => rfl) (ev_neg (by omega) (ev_now (by simp)))
  | y :: ys, m, h => by
    obtain ⟨hm, _, hd⟩ := drop_cons h
    have e : rd l (m : Int) = y := (drop_cons h).2.1 _
    refine ev_step (fun _ => rfl) (ev_pos (by omega) (ev_pos (by omega) ?_))
    rw [e, w64 (by omega) (by omega)]
    refine ev_ite (fun hq => ev_now ?_) (fun hq => ev_eq (spec_l01Has_l0 l hl a ys (m + 1) hd) ?_)
    · subst hq
      simp
    · have : ¬ a = y := fun h => hq h.symm
      simp [this]
theorem spec_l01Has_f (l : List Int) (hl : l.length ≤ 1048576) (a : Int) : Ev (fun k => spec_l01Has.f k l a) (decide (a ∈ l)) := spec_l01Has_l0 l hl a l 0 rfl

end Go.Proofs.Ytgpdjpololkhbaa.Pure

namespace Go.Proofs.Ytgpdjpololkhbaa.Pure
open Go.RowKit Go.Proofs.Ytgpdjpololkhbaa.F Go.Proofs.YtgpdjpololkhbaaW.PrintWords Go.Proofs.YtgpdjpololkhbaaW.PrintLast Go.Proofs.YtgpdjpololkhbaaW.PrintMore Go.Proofs.YtgpdjpololkhbaaB
set_option linter.unusedVariables false
set_option linter.unusedSimpArgs false
theorem spec_l01In_f (a b c : Int) : spec_l01In.f a b c = some (inB a b c) := inB_if a b c

end Go.Proofs.Ytgpdjpololkhbaa.Pure

namespace Go.Proofs.Ytgpdjpololkhbaa.Pure
open Go.RowKit Go.Proofs.Ytgpdjpololkhbaa.F Go.Proofs.YtgpdjpololkhbaaW.PrintWords Go.Proofs.YtgpdjpololkhbaaW.PrintLast Go.Proofs.YtgpdjpololkhbaaW.PrintMore Go.Proofs.YtgpdjpololkhbaaB
set_option linter.unusedVariables false
set_option linter.unusedSimpArgs false
theorem spec_l14Point_f (a b : Int) : spec_l14Point.f a b = some (inB a (-1000000) 1000000 && inB b (-1000000) 1000000) := by
  simp only [spec_l14Point.f, spec_l01In_f, Option.bind_some]
  cases inB a (-1000000) 1000000 <;> simp

end Go.Proofs.Ytgpdjpololkhbaa.Pure

namespace Go.Proofs.Ytgpdjpololkhbaa.Pure
open Go.RowKit Go.Proofs.Ytgpdjpololkhbaa.F Go.Proofs.YtgpdjpololkhbaaW.PrintWords Go.Proofs.YtgpdjpololkhbaaW.PrintLast Go.Proofs.YtgpdjpololkhbaaW.PrintMore Go.Proofs.YtgpdjpololkhbaaB
set_option linter.unusedVariables false
set_option linter.unusedSimpArgs false
theorem spec_l16Points_l0 (xs : List S90) (hx : xs.length ≤ 9223372036854775807) : ∀ (ys : List S90) (m : Nat), xs.drop m = ys → Ev (fun k => spec_l16Points.l0 k xs m) (ys.all ptB)
  | [], m, h => by
    have := drop_nil h
    exact ev_step (fun _ => rfl) (ev_neg (by omega) (ev_now rfl))
  | y :: ys, m, h => by
    obtain ⟨hm, _, hd⟩ := drop_cons h
    refine ev_step (fun _ => rfl) (ev_pos (by omega) (ev_pos (by omega) ?_))
    rw [rdP h, w64 (by omega) (by omega)]
    refine ev_some (spec_l14Point_f _ _) ?_
    rw [List.all_cons, show (inB y.f0 (-1000000) 1000000 && inB y.f1 (-1000000) 1000000) = ptB y from rfl]
    cases ptB y
    · exact ev_neg (by simp) (ev_now (by simp))
    · exact ev_pos rfl (ev_eq (spec_l16Points_l0 xs hx ys (m + 1) hd) (by simp))
theorem spec_l16Points_f (xs : List S90) (hx : xs.length ≤ 9223372036854775807) : Ev (fun k => spec_l16Points.f k xs) (xs.all ptB) := spec_l16Points_l0 xs hx xs 0 rfl

end Go.Proofs.Ytgpdjpololkhbaa.Pure

namespace Go.Proofs.Ytgpdjpololkhbaa.Pure
open Go.RowKit Go.Proofs.Ytgpdjpololkhbaa.F Go.Proofs.YtgpdjpololkhbaaW.PrintWords Go.Proofs.YtgpdjpololkhbaaW.PrintLast Go.Proofs.YtgpdjpololkhbaaW.PrintMore Go.Proofs.YtgpdjpololkhbaaB
set_option linter.unusedVariables false
set_option linter.unusedSimpArgs false
theorem spec_IsLine_f (l : List S90) : Ev (fun k => spec_IsLine.f k l) (lineB l) := by
  unfold lineB
  by_cases h : l.length ≤ 200
  · rw [decide_eq_true h, Bool.true_and]
    exact ev_pos (by omega) (ev_bind (spec_l16Points_f l (by omega)) (ev_now rfl))
  · rw [decide_eq_false h, Bool.false_and]
    exact ev_neg (by omega) (ev_now rfl)

end Go.Proofs.Ytgpdjpololkhbaa.Pure

namespace Go.Proofs.Ytgpdjpololkhbaa.Pure
open Go.RowKit Go.Proofs.Ytgpdjpololkhbaa.F Go.Proofs.YtgpdjpololkhbaaW.PrintWords Go.Proofs.YtgpdjpololkhbaaW.PrintLast Go.Proofs.YtgpdjpololkhbaaW.PrintMore Go.Proofs.YtgpdjpololkhbaaB
set_option linter.unusedVariables false
set_option linter.unusedSimpArgs false
theorem spec_l28Pen_f (a : Int) : spec_l28Pen.f a = some (inB a 1 8) := by
  simp only [spec_l28Pen.f, spec_l01In_f, Option.bind_some]

end Go.Proofs.Ytgpdjpololkhbaa.Pure

namespace Go.Proofs.Ytgpdjpololkhbaa.Pure
open Go.RowKit Go.Proofs.Ytgpdjpololkhbaa.F Go.Proofs.YtgpdjpololkhbaaW.PrintWords Go.Proofs.YtgpdjpololkhbaaW.PrintLast Go.Proofs.YtgpdjpololkhbaaW.PrintMore Go.Proofs.YtgpdjpololkhbaaB
set_option linter.unusedVariables false
set_option linter.unusedSimpArgs false
theorem spec_l28Code_l0 (xs : List S110) (hx : xs.length ≤ 9223372036854775807) : ∀ (ys : List S110) (m : Nat), xs.drop m = ys →
    Ev (fun k => spec_l28Code.l0 k xs m) (if ys.all strokeB = true then (if 40 < xs.length then 3 else 0) else 1)
  | [], m, h => by
    have := drop_nil h
    refine ev_step (fun _ => rfl) (ev_neg (by omega) (ev_now ?_))
    simp only [List.all_nil, if_true]
    by_cases h4 : 40 < xs.length
    · rw [if_pos (by omega), if_pos h4]
    · rw [if_neg (by omega), if_neg h4]
  | y :: ys, m, h => by
    obtain ⟨hm, _, hd⟩ := drop_cons h
    refine ev_step (fun _ => rfl) (ev_pos (by omega) (ev_pos (by omega) ?_))
    rw [rdS h, w64 (by omega) (by omega)]
    refine ev_some (spec_l28Pen_f _) ?_
    have ih := spec_l28Code_l0 xs hx ys (m + 1) hd
    rw [List.all_cons, show strokeB y = (inB y.f0 1 8 && lineB y.f1 && decide (2 ≤ y.f1.length)) from rfl]
    cases inB y.f0 1 8
    · exact ev_neg (by simp) (ev_now (by simp))
    refine ev_pos rfl (ev_bind (spec_IsLine_f y.f1) ?_)
    cases lineB y.f1
    · exact ev_neg (by simp) (ev_now (by simp))
    refine ev_pos rfl (ev_ite (fun h2 => ev_now ?_) (fun h2 => ev_eq ih ?_))
    · rw [decide_eq_false (show ¬ 2 ≤ y.f1.length by omega)]; simp
    · rw [decide_eq_true (show 2 ≤ y.f1.length by omega)]; simp
theorem spec_l28Code_f (xs : List S110) (hx : xs.length ≤ 9223372036854775807) : Ev (fun k => spec_l28Code.f k xs) (codeS xs) := spec_l28Code_l0 xs hx xs 0 rfl

end Go.Proofs.Ytgpdjpololkhbaa.Pure

namespace Go.Proofs.Ytgpdjpololkhbaa.Pure
open Go.RowKit Go.Proofs.Ytgpdjpololkhbaa.F Go.Proofs.YtgpdjpololkhbaaW.PrintWords Go.Proofs.YtgpdjpololkhbaaW.PrintLast Go.Proofs.YtgpdjpololkhbaaW.PrintMore Go.Proofs.YtgpdjpololkhbaaB
set_option linter.unusedVariables false
set_option linter.unusedSimpArgs false
theorem spec_l31Code_f (xs : List S110) (a : Int) (hx : xs.length ≤ 9223372036854775807) : Ev (fun k => spec_l31Code.f k xs a) (codeSC xs a) := by
  refine ev_bind (spec_l28Code_f xs hx) ?_
  by_cases h : codeS xs = 0
  · rw [show codeSC xs a = (if inB a 0 1000000 = true then 0 else 2) from if_pos h]
    refine ev_pos h (ev_some (spec_l01In_f _ _ _) ?_)
    cases inB a 0 1000000
    · exact ev_neg (by simp) (ev_now rfl)
    · exact ev_pos rfl (ev_now (by rw [h]; rfl))
  · rw [show codeSC xs a = codeS xs from if_neg h]
    exact ev_neg h (ev_now rfl)

end Go.Proofs.Ytgpdjpololkhbaa.Pure

namespace Go.Proofs.Ytgpdjpololkhbaa.Pure
open Go.RowKit Go.Proofs.Ytgpdjpololkhbaa.F Go.Proofs.YtgpdjpololkhbaaW.PrintWords Go.Proofs.YtgpdjpololkhbaaW.PrintLast Go.Proofs.YtgpdjpololkhbaaW.PrintMore Go.Proofs.YtgpdjpololkhbaaB
set_option linter.unusedVariables false
set_option linter.unusedSimpArgs false
theorem spec_ReverseLine_l0 (l : List S90) (hl : l.length ≤ 1048576) : ∀ (d : Nat) (out : List S90), d ≤ l.length → out.length + d ≤ l.length →
    Ev (fun k => spec_ReverseLine.l0 k l out ((d : Int) - 1)) (out ++ (l.take d).reverse, 0) := by
  intro d
  induction d with
  | zero =>
    intro out hd ho
    refine ev_step (fun _ => rfl) (ev_neg (by omega) (ev_now ?_))
    simp
  | succ d ih =>
    intro out hd ho
    obtain ⟨y, hy⟩ : ∃ y, l[d]? = some y := ⟨l[d], List.getElem?_eq_getElem (by omega)⟩
    have hdr : l.drop d = y :: l.drop (d + 1) := by
      rw [List.getElem?_eq_getElem (by omega)] at hy
      injection hy with hy
      rw [← hy]
      exact List.drop_eq_getElem_cons (by omega)
    rw [show ((d + 1 : Nat) : Int) - 1 = (d : Int) by omega]
    refine ev_step (fun _ => rfl) (ev_pos (by omega) (ev_pos (by omega) (ev_pos (by omega) (ev_pos (by omega) ?_))))
    rw [rdP hdr, w64 (by omega) (by omega)]
    refine ev_eq (ih _ (by omega) (by simp; omega)) ?_
    rw [take_snoc hdr, List.reverse_append, List.append_assoc]
    rfl
theorem spec_ReverseLine_f (l : List S90) (hl : lineB l = true) : Ev (fun k => spec_ReverseLine.f k l) (l.reverse, 0) := by
  have h2 : l.length ≤ 200 := by
    unfold lineB at hl
    simp only [Bool.and_eq_true, decide_eq_true_eq] at hl
    exact hl.1
  refine ev_bind (spec_IsLine_f l) ?_
  rw [hl]
  refine ev_pos rfl ?_
  rw [w64 (by omega) (by omega)]
  have h := spec_ReverseLine_l0 l (by omega) l.length [] (by omega) (by simp)
  rw [List.take_length] at h
  exact h

end Go.Proofs.Ytgpdjpololkhbaa.Pure

namespace Go.Proofs.Ytgpdjpololkhbaa.Pure
open Go.RowKit Go.Proofs.Ytgpdjpololkhbaa.F Go.Proofs.YtgpdjpololkhbaaW.PrintWords Go.Proofs.YtgpdjpololkhbaaW.PrintLast Go.Proofs.YtgpdjpololkhbaaW.PrintMore Go.Proofs.YtgpdjpololkhbaaB
set_option linter.unusedVariables false
set_option linter.unusedSimpArgs false
theorem spec_l31Stroke_f (xs : List S110) (h : codeS xs = 0) (a : Int) (h0 : 0 ≤ a) (h1 : a ≤ 2 * xs.length - 1) : Ev (fun k => spec_l31Stroke.f k xs a) ((numS xs a).f0, (numS xs a).f1) := by
  have hz := codeS_zero h
  have hm := rdS_mem (xs := xs) (a := a / 2) (by omega) (by omega)
  have hl := lineB_of h hm
  unfold spec_l31Stroke.f numS
  rw [tmod2 h0, half_w h0 (by omega)]
  refine ev_ite (fun hq => ?_) (fun hq => ?_)
  · rw [if_pos hq]
    refine ev_pos (by omega) (ev_pos (by omega) ?_)
    exact ev_bind (ev_bind (spec_ReverseLine_f _ hl) (ev_now rfl)) (ev_now rfl)
  · rw [if_neg hq]
    exact ev_pos (by omega) (ev_pos (by omega) (ev_now rfl))

end Go.Proofs.Ytgpdjpololkhbaa.Pure

namespace Go.Proofs.Ytgpdjpololkhbaa.Pure
open Go.RowKit Go.Proofs.Ytgpdjpololkhbaa.F Go.Proofs.YtgpdjpololkhbaaW.PrintWords Go.Proofs.YtgpdjpololkhbaaW.PrintLast Go.Proofs.YtgpdjpololkhbaaW.PrintMore Go.Proofs.YtgpdjpololkhbaaB
set_option linter.unusedVariables false
set_option linter.unusedSimpArgs false
/-- Which strokes an order has. -/
def relG (n : Nat) (used : List Bool) (order : List Int) : Prop := ∀ i : Nat, i < n → (used.getD i false = true ↔ (2 * (i : Int) ∈ order ∨ 2 * (i : Int) + 1 ∈ order))
theorem relG_set {n : Nat} {used : List Bool} {order : List Int} (h : relG n used order) (hu : used.length = n) {k : Int} (hf : freeG n used k) : relG n (used.set (k / 2).toNat true) (order ++ [k]) := fun i hi => by
  have h0 := hf.1
  have h1 := hf.2.1
  rw [List.getD_eq_getElem?_getD, List.getElem?_set]
  by_cases e : (k / 2).toNat = i
  · rw [if_pos e, if_pos (by omega)]
    refine ⟨fun _ => ?_, fun _ => rfl⟩
    by_cases hp : k = 2 * (i : Int)
    · exact .inl (by simp [hp])
    · exact .inr (by simp [show k = 2 * (i : Int) + 1 by omega])
  · rw [if_neg e, ← List.getD_eq_getElem?_getD, h i hi]
    have e1 : ¬ 2 * (i : Int) = k := by omega
    have e2 : ¬ 2 * (i : Int) + 1 = k := by omega
    simp [e1, e2]
theorem spec_GreedyOrder_j3 (xs : List S110) (chg pen best least k c a b : Int) (used : List Bool) (order : List Int) (hrel : relG xs.length used order) (ho : order.length ≤ 1000) (h0 : 0 ≤ k) (h1 : k ≤ 2 * xs.length - 1) (hn : xs.length ≤ 40) (res : List Int × Int)
    (H1 : used.getD (k / 2).toNat false = true → Ev (fun q => spec_GreedyOrder.l1 q xs chg order pen best least (k + 1) a b) res)
    (H2 : ¬ used.getD (k / 2).toNat false = true → best < 0 → Ev (fun q => spec_GreedyOrder.l1 q xs chg order pen k c (k + 1) a b) res)
    (H3 : ¬ used.getD (k / 2).toNat false = true → ¬ best < 0 → c < least → Ev (fun q => spec_GreedyOrder.l1 q xs chg order pen k c (k + 1) a b) res)
    (H4 : ¬ used.getD (k / 2).toNat false = true → ¬ best < 0 → ¬ c < least → Ev (fun q => spec_GreedyOrder.l1 q xs chg order pen best least (k + 1) a b) res) :
    Ev (fun q => spec_GreedyOrder.j3 q xs chg order pen best least k c a b) res := by
  have hr := hrel (k / 2).toNat (by omega)
  rw [show (((k / 2).toNat : Nat) : Int) = k / 2 by omega] at hr
  have s1 := spec_l01Has_f order (by omega) (2 * (k / 2))
  have s2 := spec_l01Has_f order (by omega) (2 * (k / 2) + 1)
  refine ev_step (fun _ => rfl) ?_
  show Ev (fun n => (spec_l01Has.f n order (wrap64 (k - (Int.tmod k 2)))).bind fun t165 => (if t165 = true then (spec_GreedyOrder.l1 n xs chg order pen best least (wrap64 (k + 1)) a b) else ((spec_l01Has.f n order (wrap64 ((wrap64 (k - (Int.tmod k 2))) + 1))).bind fun t166 => (if t166 = true then (spec_GreedyOrder.l1 n xs chg order pen best least (wrap64 (k + 1)) a b) else (if best < 0 then (spec_GreedyOrder.l1 n xs chg order pen k c (wrap64 (k + 1)) a b) else (if c < least then (spec_GreedyOrder.l1 n xs chg order pen k c (wrap64 (k + 1)) a b) else (spec_GreedyOrder.l1 n xs chg order pen best least (wrap64 (k + 1)) a b))))))) res
  rw [tmod2 h0, w64 (x := k - k % 2) (by omega) (by omega), w64 (x := k - k % 2 + 1) (by omega) (by omega), w64 (x := k + 1) (by omega) (by omega), show k - k % 2 = 2 * (k / 2) by omega]
  refine ev_bind s1 (ev_ite (fun hq => H1 (hr.2 (.inl (of_decide_eq_true hq)))) (fun hq => ev_bind s2 (ev_ite (fun hp => H1 (hr.2 (.inr (of_decide_eq_true hp)))) (fun hp => ?_))))
  have hnu : ¬ used.getD (k / 2).toNat false = true := fun hu => by
    rcases hr.1 hu with h | h
    · exact hq (decide_eq_true h)
    · exact hp (decide_eq_true h)
  exact ev_ite (fun hb => H2 hnu hb) (fun hb => ev_ite (fun hl => H3 hnu hb hl) (fun hl => H4 hnu hb hl))
theorem spec_GreedyOrder_j2 (xs : List S110) (chg pen best least k c a b : Int) (order : List Int) (x : Bool) (d : Int) (res : List Int × Int) (hc : c = if x = true then wrap64 (d + chg) else d) (h : Ev (fun q => spec_GreedyOrder.j3 q xs chg order pen best least k c a b) res) : Ev (fun q => spec_GreedyOrder.j2 q xs chg order pen best least k d x a b) res := by
  refine ev_step (fun _ => rfl) (ev_ite (fun hx => ?_) (fun hx => ?_))
  · rw [if_pos hx] at hc
    rw [← hc]
    exact h
  · rw [if_neg hx] at hc
    rw [← hc]
    exact h
theorem spec_GreedyOrder_l1 (xs : List S110) (hz : codeS xs = 0) (chg : Int) (used : List Bool) (hu : used.length = xs.length) (order : List Int) (hrel : relG xs.length used order) (a b pen : Int) (hp : 0 ≤ pen) (res : List Int × Int) : ∀ (d : Nat) (best least : Int), d ≤ 2 * xs.length → ((freeG xs.length used best) ∨ (best < 0 ∧ ∃ k, 2 * (xs.length : Int) - d ≤ k ∧ freeG xs.length used k)) →
    (∀ k, k = pickG xs used chg pen a b d best least → freeG xs.length used k → Ev (fun q => spec_GreedyOrder.l0 q xs chg (order ++ [k]) (numS xs k).f0 (rd_T90 (numS xs k).f1 ((numS xs k).f1.length - 1)).f0 (rd_T90 (numS xs k).f1 ((numS xs k).f1.length - 1)).f1) res) →
    order.length ≤ 1000 →
    Ev (fun q => spec_GreedyOrder.l1 q xs chg order pen best least (2 * (xs.length : Int) - d) a b) res
  | 0, best, least, hd, hf, hc, ho => by
    have h40 := (codeS_zero hz).1
    have hfree := pickG_free xs used chg pen a b 0 best least hd hf
    have hc := hc best rfl hfree
    have hfr : freeG xs.length used best := hfree
    obtain ⟨f0, f1, f2⟩ := hfr
    have hn := numS_len hz f0 f1
    refine ev_step (fun _ => rfl) ?_
    show Ev (fun n => if (2 * (xs.length : Int) - (0 : Nat)) < (wrap64 (2 * (xs.length : Int))) then ((spec_l31Stroke.f n xs (2 * (xs.length : Int) - (0 : Nat))).bind fun bt157 => (if 0 < (bt157.2.length : Int) then ((spec_l16Square.f a b ((rd_T90 bt157.2 0).f0) ((rd_T90 bt157.2 0).f1)).bind fun t163 => ((spec_l01Root.f n t163).bind fun t164 => (if pen > 0 then (spec_GreedyOrder.j2 n xs chg order pen best least (2 * (xs.length : Int) - (0 : Nat)) t164 (bt157.1 != pen) a b) else (spec_GreedyOrder.j2 n xs chg order pen best least (2 * (xs.length : Int) - (0 : Nat)) t164 false a b)))) else (none))) else (if order.length < 17592186044416 then ((spec_l31Stroke.f n xs best).bind fun bt151 => (if 0 ≤ (wrap64 ((bt151.2.length : Int) - 1)) then (if (wrap64 ((bt151.2.length : Int) - 1)) < (bt151.2.length : Int) then (spec_GreedyOrder.l0 n xs chg (order ++ [best]) bt151.1 ((rd_T90 bt151.2 (wrap64 ((bt151.2.length : Int) - 1))).f0) ((rd_T90 bt151.2 (wrap64 ((bt151.2.length : Int) - 1))).f1)) else (none)) else (none))) else (none))) res
    rw [w64 (x := 2 * (xs.length : Int)) (by omega) (by omega)]
    refine ev_neg (by omega) (ev_pos (by omega) (ev_bind (spec_l31Stroke_f xs hz best f0 f1) ?_))
    show Ev (fun n => if 0 ≤ wrap64 (((numS xs best).f1.length : Int) - 1) then (if wrap64 (((numS xs best).f1.length : Int) - 1) < ((numS xs best).f1.length : Int) then (spec_GreedyOrder.l0 n xs chg (order ++ [best]) (numS xs best).f0 ((rd_T90 (numS xs best).f1 (wrap64 (((numS xs best).f1.length : Int) - 1))).f0) ((rd_T90 (numS xs best).f1 (wrap64 (((numS xs best).f1.length : Int) - 1))).f1)) else (none)) else (none)) res
    rw [w64 (x := ((numS xs best).f1.length : Int) - 1) (by omega) (by omega)]
    exact ev_pos (by omega) (ev_pos (by omega) hc)
  | d + 1, best, least, hd, hf, hc, ho => by
    have h40 := (codeS_zero hz).1
    have hk0 : 0 ≤ 2 * (xs.length : Int) - (d + 1 : Nat) := by omega
    have hk1 : 2 * (xs.length : Int) - (d + 1 : Nat) ≤ 2 * xs.length - 1 := by omega
    have hs := pickG_succ xs used chg pen a b d best least _ rfl
    have hnx : 2 * (xs.length : Int) - (d + 1 : Nat) + 1 = 2 * (xs.length : Int) - d := by omega
    have hfk : ¬ used.getD ((2 * (xs.length : Int) - (d + 1 : Nat)) / 2).toNat false = true → freeG xs.length used (2 * (xs.length : Int) - (d + 1 : Nat)) := fun hn => ⟨by omega, by omega, by simpa using hn⟩
    have hnot : used.getD ((2 * (xs.length : Int) - (d + 1 : Nat)) / 2).toNat false = true → ∀ k, 2 * (xs.length : Int) - (d + 1 : Nat) ≤ k → freeG xs.length used k → 2 * (xs.length : Int) - d ≤ k := fun hu k hk hfr => by
      have : k ≠ 2 * (xs.length : Int) - (d + 1 : Nat) := fun e => by
        have := hfr.2.2
        rw [e, hu] at this
        cases this
      omega
    generalize 2 * (xs.length : Int) - (d + 1 : Nat) = k at *
    have hn := numS_len hz hk0 hk1
    have core : Ev (fun q => spec_GreedyOrder.j3 q xs chg order pen best least k (costG xs chg pen a b k) a b) res := by
      refine spec_GreedyOrder_j3 xs chg pen best least k _ a b used order hrel ho hk0 hk1 h40 res (fun hq => ?_) (fun hq hb => ?_) (fun hq hb hl => ?_) (fun hq hb hl => ?_)
      · rw [if_pos hq] at hs
        rw [hnx]
        refine spec_GreedyOrder_l1 xs hz chg used hu order hrel a b pen hp res d best least (by omega) ?_ (fun k' e hfr => hc k' (e.trans hs.symm) hfr) ho
        rcases hf with hf | ⟨hb, k', hk', hfr⟩
        · exact .inl hf
        · exact .inr ⟨hb, k', hnot hq k' hk' hfr, hfr⟩
      · rw [if_neg hq, if_pos hb] at hs
        rw [hnx]
        exact spec_GreedyOrder_l1 xs hz chg used hu order hrel a b pen hp res d _ _ (by omega) (.inl (hfk hq)) (fun k' e hfr => hc k' (e.trans hs.symm) hfr) ho
      · rw [if_neg hq, if_neg hb, if_pos hl] at hs
        rw [hnx]
        exact spec_GreedyOrder_l1 xs hz chg used hu order hrel a b pen hp res d _ _ (by omega) (.inl (hfk hq)) (fun k' e hfr => hc k' (e.trans hs.symm) hfr) ho
      · rw [if_neg hq, if_neg hb, if_neg hl] at hs
        rw [hnx]
        refine spec_GreedyOrder_l1 xs hz chg used hu order hrel a b pen hp res d _ _ (by omega) (.inl ?_) (fun k' e hfr => hc k' (e.trans hs.symm) hfr) ho
        rcases hf with hf | ⟨hb2, _⟩
        · exact hf
        · exact absurd hb2 hb
    refine ev_step (fun _ => rfl) ?_
    show Ev (fun n => if k < (wrap64 (2 * (xs.length : Int))) then ((spec_l31Stroke.f n xs k).bind fun bt157 => (if 0 < (bt157.2.length : Int) then ((spec_l16Square.f a b ((rd_T90 bt157.2 0).f0) ((rd_T90 bt157.2 0).f1)).bind fun t163 => ((spec_l01Root.f n t163).bind fun t164 => (if pen > 0 then (spec_GreedyOrder.j2 n xs chg order pen best least k t164 (bt157.1 != pen) a b) else (spec_GreedyOrder.j2 n xs chg order pen best least k t164 false a b)))) else (none))) else (if order.length < 17592186044416 then ((spec_l31Stroke.f n xs best).bind fun bt151 => (if 0 ≤ (wrap64 ((bt151.2.length : Int) - 1)) then (if (wrap64 ((bt151.2.length : Int) - 1)) < (bt151.2.length : Int) then (spec_GreedyOrder.l0 n xs chg (order ++ [best]) bt151.1 ((rd_T90 bt151.2 (wrap64 ((bt151.2.length : Int) - 1))).f0) ((rd_T90 bt151.2 (wrap64 ((bt151.2.length : Int) - 1))).f1)) else (none)) else (none))) else (none))) res
    rw [w64 (x := 2 * (xs.length : Int)) (by omega) (by omega)]
    refine ev_pos (by omega) (ev_bind (spec_l31Stroke_f xs hz k hk0 hk1) (ev_pos (by show (0 : Int) < ((numS xs k).f1.length : Int); omega) (ev_some rfl (ev_bind (spec_l01Root_f _) (ev_ite (fun hpp => ?_) (fun hpp => ?_))))))
    · refine spec_GreedyOrder_j2 xs chg pen best least k _ a b order _ _ res ?_ core
      show costG xs chg pen a b k = if ((numS xs k).f0 != pen) = true then wrap64 (dG xs a b k + chg) else dG xs a b k
      unfold costG
      rw [if_neg (by omega)]
      by_cases e : pen = (numS xs k).f0
      · rw [if_pos e, if_neg (by simp [e])]
      · rw [if_neg e, if_pos (by simpa using fun h => e h.symm)]
    · refine spec_GreedyOrder_j2 xs chg pen best least k _ a b order _ _ res ?_ core
      show costG xs chg pen a b k = if false = true then wrap64 (dG xs a b k + chg) else dG xs a b k
      unfold costG
      rw [if_pos (by omega), if_neg (by simp)]
theorem numS_pen {xs : List S110} (h : codeS xs = 0) {k : Int} (h0 : 0 ≤ k) (h1 : k ≤ 2 * xs.length - 1) : 0 ≤ (numS xs k).f0 := by
  have hm := rdS_mem (xs := xs) (a := k / 2) (by omega) (by omega)
  have h2 := (codeS_zero h).2 _ hm
  unfold strokeB at h2
  simp only [Bool.and_eq_true] at h2
  have h3 := inB_true h2.1.1
  unfold numS
  split
  · show 0 ≤ (rd_T110 xs (k / 2)).f0
    omega
  · omega
theorem spec_GreedyOrder_l0 (xs : List S110) (hz : codeS xs = 0) (chg : Int) : ∀ (r : Nat) (used : List Bool) (order : List Int) (pen a b : Int), r ≤ xs.length → used.length = xs.length → cntF used = r → order.length + r = xs.length → relG xs.length used order → 0 ≤ pen →
    Ev (fun q => spec_GreedyOrder.l0 q xs chg order pen a b) (order ++ greedyG xs chg r used pen a b, 0)
  | 0, used, order, pen, a, b, hr, hu, hc, ho, hrel, hp => by
    refine ev_step (fun _ => rfl) (ev_neg (by omega) (ev_now ?_))
    rw [show greedyG xs chg 0 used pen a b = [] from rfl, List.append_nil]
  | r + 1, used, order, pen, a, b, hr, hu, hc, ho, hrel, hp => by
    have h40 := (codeS_zero hz).1
    obtain ⟨i, hi, hfi⟩ := cntF_pos used (by omega)
    have hfr : freeG xs.length used (2 * (i : Int)) := ⟨by omega, by omega, by rw [show (2 * (i : Int) / 2).toNat = i by omega]; exact hfi⟩
    refine ev_step (fun _ => rfl) (ev_pos (by omega) ?_)
    have key := spec_GreedyOrder_l1 xs hz chg used hu order hrel a b pen hp (order ++ greedyG xs chg (r + 1) used pen a b, 0) (2 * xs.length) (-1) 0 (Nat.le_refl _) (.inr ⟨by omega, 2 * (i : Int), by omega, hfr⟩) (fun k hk hf => ?_) (by omega)
    · rw [show (2 * (xs.length : Int) - (2 * xs.length : Nat)) = 0 by omega] at key
      exact key
    · rw [greedyG_succ xs chg r used pen a b k hk]
      have h1 := hf.1
      have h2 := hf.2.1
      have hcs := cntF_set used (k / 2).toNat (by omega) hf.2.2
      have ih := spec_GreedyOrder_l0 xs hz chg r (used.set (k / 2).toNat true) (order ++ [k]) (numS xs k).f0 (rd_T90 (numS xs k).f1 ((numS xs k).f1.length - 1)).f0 (rd_T90 (numS xs k).f1 ((numS xs k).f1.length - 1)).f1 (by omega) (by rw [List.length_set]; exact hu) (by omega) (by simp; omega) (relG_set hrel hu hf) (numS_pen hz h1 h2)
      refine ev_eq ih ?_
      rw [List.append_assoc]
      rfl
theorem spec_GreedyOrder_f (xs : List S110) (chg : Int) (hx : xs.length ≤ 9223372036854775807) : Ev (fun q => spec_GreedyOrder.f q xs chg) (resGreedy xs chg) := by
  refine ev_bind (spec_l31Code_f xs chg hx) ?_
  unfold resGreedy
  refine ev_ite (fun h => ?_) (fun h => ?_)
  · rw [if_pos h]
    have hz := (codeSC_zero h).1
    have h40 := (codeS_zero hz).1
    refine spec_GreedyOrder_l0 xs hz chg xs.length (List.replicate xs.length false) [] 0 0 0 (Nat.le_refl _) (List.length_replicate ..) (cntF_new _) (by simp) (fun i hi => ?_) (Int.le_refl _)
    rw [List.getD_eq_getElem?_getD, List.getElem?_replicate, if_pos hi]
    simp
  · rw [if_neg h]
    exact ev_now rfl

end Go.Proofs.Ytgpdjpololkhbaa.Pure

namespace Go.Proofs.Ytgpdjpololkhbaa.Pure
open Go.RowKit Go.Proofs.Ytgpdjpololkhbaa.F Go.Proofs.YtgpdjpololkhbaaW.PrintWords Go.Proofs.YtgpdjpololkhbaaW.PrintLast Go.Proofs.YtgpdjpololkhbaaW.PrintMore Go.Proofs.YtgpdjpololkhbaaB
set_option linter.unusedVariables false
set_option linter.unusedSimpArgs false
theorem EQ_Int64S (A A' : Option Addr) (c c' : Nat) (l : List Int) (w : World) (hr : Kd.C (Kd.int .i64) w A l.length l) (hc : l.length ≤ c) (hr' : Kd.C (Kd.int .i64) w A' l.length l) (hc' : l.length ≤ c') (h : Ev (fun k => laws_eqInt64S.f k l l) true) :
    Calls Try.prog 19 #[.slice A l.length c, .slice A' l.length c'] w fun e w' => e = .returned (.bool true) ∧ Below w.heap.size w w' := by
  obtain ⟨k, h⟩ := h.rounds
  exact (laws_eqInt64S.calls k A c l A' c' l true w hr hc hr' hc' h).mono fun e w' ⟨h1, h2⟩ => ⟨h1, h2.below⟩

end Go.Proofs.Ytgpdjpololkhbaa.Pure

namespace Go.Proofs.Ytgpdjpololkhbaa.Pure
open Go.RowKit Go.Proofs.Ytgpdjpololkhbaa.F Go.Proofs.YtgpdjpololkhbaaW.PrintWords Go.Proofs.YtgpdjpololkhbaaW.PrintLast Go.Proofs.YtgpdjpololkhbaaW.PrintMore Go.Proofs.YtgpdjpololkhbaaB
set_option linter.unusedVariables false
set_option linter.unusedSimpArgs false
theorem EQ_StrokeS (A A' : Option Addr) (c c' : Nat) (l : List S110) (w : World) (hr : Kd.C k110 w A l.length l) (hc : l.length ≤ c) (hr' : Kd.C k110 w A' l.length l) (hc' : l.length ≤ c') (h : Ev (fun k => laws_eqStrokeS.f k l l) true) :
    Calls Try.prog 20 #[.slice A l.length c, .slice A' l.length c'] w fun e w' => e = .returned (.bool true) ∧ Below w.heap.size w w' := by
  obtain ⟨k, h⟩ := h.rounds
  exact (laws_eqStrokeS.calls k A c l A' c' l true w hr hc hr' hc' h).mono fun e w' ⟨h1, h2⟩ => ⟨h1, h2⟩

end Go.Proofs.Ytgpdjpololkhbaa.Pure

namespace Go.Proofs.Ytgpdjpololkhbaa.Pure
open Go.RowKit Go.Proofs.Ytgpdjpololkhbaa.F Go.Proofs.YtgpdjpololkhbaaW.PrintWords Go.Proofs.YtgpdjpololkhbaaW.PrintLast Go.Proofs.YtgpdjpololkhbaaW.PrintMore Go.Proofs.YtgpdjpololkhbaaB
set_option linter.unusedVariables false
set_option linter.unusedSimpArgs false
theorem HD_Int64S (A : Option Addr) (c m : Nat) (l : List Int) (a n : Int) (w : World) (hm : l.length = m) (hr : Kd.C (Kd.int .i64) w A l.length l) (hc : l.length ≤ c) (h : Ev (fun k => laws_heldInt64S.f k l a) n) :
    Calls Try.prog 23 #[.slice A m c, .int .i64 a] w fun e w' => e = .returned (.int .i64 n) ∧ Below w.heap.size w w' := by
  obtain ⟨k, h⟩ := h.rounds
  subst hm
  exact (laws_heldInt64S.calls k A c l a n w hr hc h).mono fun e w' ⟨h1, h2⟩ => ⟨h1, h2.below⟩

end Go.Proofs.Ytgpdjpololkhbaa.Pure

namespace Go.Proofs.Ytgpdjpololkhbaa.Pure
open Go.RowKit Go.Proofs.Ytgpdjpololkhbaa.F Go.Proofs.YtgpdjpololkhbaaW.PrintWords Go.Proofs.YtgpdjpololkhbaaW.PrintLast Go.Proofs.YtgpdjpololkhbaaW.PrintMore Go.Proofs.YtgpdjpololkhbaaB
set_option linter.unusedVariables false
set_option linter.unusedSimpArgs false
theorem MK_Int64S (P : Nat → Prop) (A : Option Addr) (c : Nat) (l ys : List Int) (a n : Int) (w0 w : World) (hB : Below w0.heap.size w0 w) (hO : Kd.R (Kd.int .i64) 2 w w0.heap.size P (.slice A l.length c) l) (h : Ev (fun k => laws_markInt64S.f k l a) (n, ys)) :
    Calls Try.prog 22 #[.slice A l.length c, .int .i64 a] w fun e w' => e = .returned (.int .i64 n) ∧ Kd.R (Kd.int .i64) 2 w' w0.heap.size (fun k => P k ∨ w.heap.size ≤ k) (.slice A l.length c) ys ∧ Below w0.heap.size w0 w' ∧ Kept w w' P := by
  obtain ⟨k, h⟩ := h.rounds
  exact laws_markInt64S.calls k P _ l a n ys w0 w hB hO h

end Go.Proofs.Ytgpdjpololkhbaa.Pure

namespace Go.Proofs.Ytgpdjpololkhbaa.Pure
open Go.RowKit Go.Proofs.Ytgpdjpololkhbaa.F Go.Proofs.YtgpdjpololkhbaaW.PrintWords Go.Proofs.YtgpdjpololkhbaaW.PrintLast Go.Proofs.YtgpdjpololkhbaaW.PrintMore Go.Proofs.YtgpdjpololkhbaaB
set_option linter.unusedVariables false
set_option linter.unusedSimpArgs false
section
variable {α : Type} {d : Kd α} {e : Nat} {w : World} {base : Nat} {ok : Nat → Prop} {A : Option Addr} {n c : Nat} {xs : List α}
theorem Kd.R_now (h : d.R e w base ok (.slice A n c) xs) (hl : xs.length = n) : xs.length ≤ c ∧ d.C w A xs.length xs := by
  obtain ⟨h1, h2, h3⟩ := Kd.R_reads' h
  exact ⟨by omega, h3⟩
theorem Kd.S_now (h : Kd.S d e w base ok (.slice A n c) xs) (hl : xs.length = n) : xs.length ≤ c ∧ d.C w A xs.length xs := by
  obtain ⟨h1, h2, h3⟩ := Kd.S_reads' h
  exact ⟨by omega, h3⟩
end

end Go.Proofs.Ytgpdjpololkhbaa.Pure

namespace Go.Proofs.Ytgpdjpololkhbaa.Pure
open Go.RowKit Go.Proofs.Ytgpdjpololkhbaa.F Go.Proofs.YtgpdjpololkhbaaW.PrintWords Go.Proofs.YtgpdjpololkhbaaW.PrintLast Go.Proofs.YtgpdjpololkhbaaW.PrintMore Go.Proofs.YtgpdjpololkhbaaB
set_option linter.unusedVariables false
set_option linter.unusedSimpArgs false
theorem SZ_StrokeS (A : Option Addr) (c : Nat) (l : List S106) (a n : Int) (w : World) (hr : Kd.C k106 w A l.length l) (hc : l.length ≤ c) (h : Ev (fun k => laws_szStrokeS.f k l a) n) :
    Calls Try.prog 15 #[.slice A l.length c, .int .i64 a] w fun e w' => e = .returned (.int .i64 n) ∧ Below w.heap.size w w' := by
  obtain ⟨k, h⟩ := h.rounds
  exact (laws_szStrokeS.calls k A c l a n w hr hc h).mono fun e w' ⟨h1, h2⟩ => ⟨h1, h2⟩

end Go.Proofs.Ytgpdjpololkhbaa.Pure

namespace Go.Proofs.Ytgpdjpololkhbaa.Pure
open Go.RowKit Go.Proofs.Ytgpdjpololkhbaa.F Go.Proofs.YtgpdjpololkhbaaW.PrintWords Go.Proofs.YtgpdjpololkhbaaW.PrintLast Go.Proofs.YtgpdjpololkhbaaW.PrintMore Go.Proofs.YtgpdjpololkhbaaB
set_option linter.unusedVariables false
set_option linter.unusedSimpArgs false
theorem TO_StrokeS (A : Option Addr) (c : Nat) (l : List S106) (xs : List S110) (w : World) (hr : Kd.C k106 w A l.length l) (hc : l.length ≤ c) (h : Ev (fun k => laws_toStrokeS.f k l) xs) :
    Calls Try.prog 17 #[.slice A l.length c] w fun e w' => ∃ A' c', e = .returned (.slice A' xs.length c') ∧ Kd.S k110 110 w' w.heap.size (fun k => w.heap.size ≤ k ∧ k < w'.heap.size) (.slice A' xs.length c') xs ∧ Below w.heap.size w w' := by
  obtain ⟨k, h⟩ := h.rounds
  refine (laws_toStrokeS.calls k A c l xs w hr hc h).mono fun e w' ⟨v, h1, h2, h3⟩ => ?_
  obtain ⟨A', c', rfl⟩ := Kd.S_slice h2
  exact ⟨A', c', h1, Kd.S_mono (Kd.S_bound h2) (fun k hk => ⟨hk.2.1, hk.2.2.1⟩), h3⟩

end Go.Proofs.Ytgpdjpololkhbaa.Pure

namespace Go.Proofs.Ytgpdjpololkhbaa.Pure
open Go.RowKit Go.Proofs.Ytgpdjpololkhbaa.F Go.Proofs.YtgpdjpololkhbaaW.PrintWords Go.Proofs.YtgpdjpololkhbaaW.PrintLast Go.Proofs.YtgpdjpololkhbaaW.PrintMore Go.Proofs.YtgpdjpololkhbaaB
set_option linter.unusedVariables false
set_option linter.unusedSimpArgs false
set_option maxHeartbeats 8000000 in
set_option maxRecDepth 100000 in
theorem early0_FnExactGreedyOrder (A0 : Option Addr) (c0 : Nat) (l0 : List S106) (a1 : Int) (n0 : Int) (w : World) (hr0 : Kd.C k106 w A0 l0.length l0) (hc0 : l0.length ≤ c0) (Hsz0 : Ev (fun k => laws_szStrokeS.f k l0 1048576) n0) (Hn0 : n0 < 0) :
    Calls Try.prog 3 #[.slice A0 l0.length c0, .int .i64 a1] w fun e w' => e = .returned (.bool true) ∧ Below w.heap.size w w' := by
  have HB := Aside0.mk (Below.refl w.heap.size w)
  have HR0 := Aside0.mk hr0
  have HC0 := Aside0.mk hc0
  clear hr0 hc0
  have QHsz0 := Aside0.mk Hsz0
  clear Hsz0
  go_enter Try.func3, Try.ntmps3
  go_wp2_with fail
  refine (SZ_StrokeS A0 c0 l0 1048576 n0 _ (Kd.C_below HR0.out HB.out) HC0.out QHsz0.out).mono ?_
  rintro e w1 ⟨rfl, hb⟩
  have n_ := Aside0.mk (HB.out.trans (hb.mono HB.out.size))
  clear HB hb
  have HB := n_
  clear n_
  go_wp2
  go_ret
  exact ⟨rfl, HB.out⟩
set_option maxHeartbeats 8000000 in
set_option maxRecDepth 100000 in
theorem walk_FnExactGreedyOrder (A0 : Option Addr) (c0 : Nat) (l0 : List S106) (x0 : List S110) (n0 : Int) (a1 : Int) (r0 : List Int) (r1 : Int) (ya0 : List S110) (ma0 : Int) (yr0 : List Int) (mr0 : Int) (w : World) (hr0 : Kd.C k106 w A0 l0.length l0) (hc0 : l0.length ≤ c0) (Hsz0 : Ev (fun k => laws_szStrokeS.f k l0 1048576) n0) (Hn0 : 0 ≤ n0) (Ht0 : Ev (fun k => laws_toStrokeS.f k l0) x0) (Hx0 : Ev (fun k => laws_eqStrokeS.f k x0 x0) true) (Hs : Ev (fun k => spec_GreedyOrder.f k x0 a1) (r0, r1)) (Hi : Ev (fun k => impl_GreedyOrder.f k x0 a1) (r0, r1)) (He0 : Ev (fun k => laws_eqInt64S.f k r0 r0) true) (Hma0 : MarkSt x0 ya0 1 ma0) (Hmn0 : 0 ≤ ma0) (Hmr0 : Ev (fun k => laws_markInt64S.f k r0 1) (mr0, yr0)) (Hrn0 : 0 ≤ mr0) (Hl0 : yr0.length = r0.length) (Hh0 : Ev (fun k => laws_heldInt64S.f k yr0 1) mr0) :
    Calls Try.prog 3 #[.slice A0 l0.length c0, .int .i64 a1] w fun e w' => e = .returned (.bool true) ∧ Below w.heap.size w w' := by
  have HB := Aside0.mk (Below.refl w.heap.size w)
  have HR0 := Aside0.mk hr0
  have HC0 := Aside0.mk hc0
  clear hr0 hc0
  have QHsz0 := Aside0.mk Hsz0
  clear Hsz0
  have QHt0 := Aside0.mk Ht0
  clear Ht0
  have QHx0 := Aside0.mk Hx0
  clear Hx0
  have QHs := Aside0.mk Hs
  clear Hs
  have QHi := Aside0.mk Hi
  clear Hi
  have QHe0 := Aside0.mk He0
  clear He0
  have QHma0 := Aside0.mk Hma0
  clear Hma0
  have QHmr0 := Aside0.mk Hmr0
  clear Hmr0
  have QHl0 := Aside0.mk Hl0
  clear Hl0
  have QHh0 := Aside0.mk Hh0
  clear Hh0
  have hcc : ∀ r : Int, (r != r) = false := fun r => by simp
  go_enter Try.func3, Try.ntmps3
  go_wp2_with fail
  refine (SZ_StrokeS A0 c0 l0 1048576 n0 _ (Kd.C_below HR0.out HB.out) HC0.out QHsz0.out).mono ?_
  rintro e w1 ⟨rfl, hb⟩
  have HZ2 := Aside0.mk hb.size
  have n_ := Aside0.mk (HB.out.trans (hb.mono HB.out.size))
  clear HB hb
  have HB := n_
  clear n_
  go_wp2_with fail
  refine (TO_StrokeS A0 c0 l0 x0 _ (Kd.C_below HR0.out HB.out) HC0.out QHt0.out).mono ?_
  rintro e w3 ⟨B4, d4, rfl, hO, hb⟩
  have HZ5 := Aside0.mk hb.size
  have n_ := Aside0.mk (HB.out.trans (hb.mono HB.out.size))
  clear HB hb
  have HB := n_
  clear n_
  have HO4 := Aside0.mk hO
  clear hO
  go_wp2_with fail
  obtain ⟨kHs7, hHs7⟩ := QHs.out.rounds
  refine (spec_GreedyOrder.calls kHs7 B4 d4 x0 a1 r0 r1 _ (Kd.S_reads' HO4.out).2.2 (Kd.S_reads' HO4.out).2.1 hHs7).mono ?_
  clear hHs7
  rintro e w6 ⟨v7_0, rfl, ho7_0, hb⟩
  obtain ⟨Bv7_0, dv7_0, rfl⟩ := Kd.R_slice ho7_0
  have HO7 := Aside0.mk (Kd.R_mono (Kd.R_bound ho7_0) (ok' := fun k_ => w3.heap.size ≤ k_ ∧ k_ < w6.heap.size) (fun k_ h_ => ⟨h_.2.1, h_.2.2.1⟩))
  clear ho7_0
  have n_ := Aside0.mk (Kd.S_below HO4.out hb)
  clear HO4
  have HO4 := n_
  clear n_
  have HZ8 := Aside0.mk hb.size
  have n_ := Aside0.mk (HB.out.trans (hb.mono HB.out.size))
  clear HB hb
  have HB := n_
  clear n_
  go_wp2_with fail
  clear HO4
  refine (TO_StrokeS A0 c0 l0 x0 _ (Kd.C_below HR0.out HB.out) HC0.out QHt0.out).mono ?_
  rintro e w9 ⟨B10, d10, rfl, hO, hb⟩
  have n_ := Aside0.mk (Kd.R_below HO7.out hb)
  clear HO7
  have HO7 := n_
  clear n_
  have HZ11 := Aside0.mk hb.size
  have n_ := Aside0.mk (HB.out.trans (hb.mono HB.out.size))
  clear HB hb
  have HB := n_
  clear n_
  have HO10 := Aside0.mk hO
  clear hO
  go_wp2_with fail
  obtain ⟨kHi13, hHi13⟩ := QHi.out.rounds
  refine (impl_GreedyOrder.calls kHi13 B10 d10 x0 a1 r0 r1 _ (Kd.S_reads' HO10.out).2.2 (Kd.S_reads' HO10.out).2.1 hHi13).mono ?_
  clear hHi13
  rintro e w12 ⟨v13_0, rfl, ho13_0, hb⟩
  obtain ⟨Bv13_0, dv13_0, rfl⟩ := Kd.R_slice ho13_0
  have HO13 := Aside0.mk (Kd.R_mono (Kd.R_bound ho13_0) (ok' := fun k_ => w9.heap.size ≤ k_ ∧ k_ < w12.heap.size) (fun k_ h_ => ⟨h_.2.1, h_.2.2.1⟩))
  clear ho13_0
  have n_ := Aside0.mk (Kd.R_below HO7.out hb)
  clear HO7
  have HO7 := n_
  clear n_
  have n_ := Aside0.mk (Kd.S_below HO10.out hb)
  clear HO10
  have HO10 := n_
  clear n_
  have HZ14 := Aside0.mk hb.size
  have n_ := Aside0.mk (HB.out.trans (hb.mono HB.out.size))
  clear HB hb
  have HB := n_
  clear n_
  go_wp2_with fail
  refine (EQ_Int64S Bv13_0 Bv7_0 dv13_0 dv7_0 r0 _ (Kd.R_reads' HO13.out).2.2 (Kd.R_reads' HO13.out).2.1 (Kd.R_reads' HO7.out).2.2 (Kd.R_reads' HO7.out).2.1 QHe0.out).mono ?_
  rintro e w15 ⟨rfl, hb⟩
  have n_ := Aside0.mk (Kd.R_below HO7.out hb)
  clear HO7
  have HO7 := n_
  clear n_
  have n_ := Aside0.mk (Kd.S_below HO10.out hb)
  clear HO10
  have HO10 := n_
  clear n_
  have n_ := Aside0.mk (Kd.R_below HO13.out hb)
  clear HO13
  have HO13 := n_
  clear n_
  have HZ16 := Aside0.mk hb.size
  have n_ := Aside0.mk (HB.out.trans (hb.mono HB.out.size))
  clear HB hb
  have HB := n_
  clear n_
  go_wp2_with fail
  refine (TO_StrokeS A0 c0 l0 x0 _ (Kd.C_below HR0.out HB.out) HC0.out QHt0.out).mono ?_
  rintro e w17 ⟨B18, d18, rfl, hO, hb⟩
  have n_ := Aside0.mk (Kd.R_below HO7.out hb)
  clear HO7
  have HO7 := n_
  clear n_
  have n_ := Aside0.mk (Kd.S_below HO10.out hb)
  clear HO10
  have HO10 := n_
  clear n_
  have n_ := Aside0.mk (Kd.R_below HO13.out hb)
  clear HO13
  have HO13 := n_
  clear n_
  have HZ19 := Aside0.mk hb.size
  have n_ := Aside0.mk (HB.out.trans (hb.mono HB.out.size))
  clear HB hb
  have HB := n_
  clear n_
  have HO18 := Aside0.mk hO
  clear hO
  go_wp2_with fail
  refine (EQ_StrokeS B10 B18 d10 d18 x0 _ (Kd.S_reads' HO10.out).2.2 (Kd.S_reads' HO10.out).2.1 (Kd.S_reads' HO18.out).2.2 (Kd.S_reads' HO18.out).2.1 QHx0.out).mono ?_
  rintro e w20 ⟨rfl, hb⟩
  have n_ := Aside0.mk (Kd.R_below HO7.out hb)
  clear HO7
  have HO7 := n_
  clear n_
  have n_ := Aside0.mk (Kd.S_below HO10.out hb)
  clear HO10
  have HO10 := n_
  clear n_
  have n_ := Aside0.mk (Kd.R_below HO13.out hb)
  clear HO13
  have HO13 := n_
  clear n_
  have n_ := Aside0.mk (Kd.S_below HO18.out hb)
  clear HO18
  have HO18 := n_
  clear n_
  have HZ21 := Aside0.mk hb.size
  have n_ := Aside0.mk (HB.out.trans (hb.mono HB.out.size))
  clear HB hb
  have HB := n_
  clear n_
  go_wp2_with fail
  clear HO18
  refine (MK_StrokeS (fun k_ => w6.heap.size ≤ k_ ∧ k_ < w9.heap.size) B10 d10 x0 ya0 1 ma0 w _ HB.out (Kd.S_lower HO10.out (by have := HZ2.out; have := HZ5.out; have := HZ8.out; have := HZ11.out; have := HZ14.out; have := HZ16.out; have := HZ19.out; have := HZ21.out; omega)) QHma0.out).mono ?_
  rintro e w22 ⟨rfl, hO, hB2, hK⟩
  have n_ := Aside0.mk (Kd.R_kept HO7.out hK (fun k_ h_ h2_ => by have := HZ2.out; have := HZ5.out; have := HZ8.out; have := HZ11.out; have := HZ14.out; have := HZ16.out; have := HZ19.out; have := HZ21.out; obtain ⟨h3_, h4_⟩ := h2_; rcases h_ with h_ <;> omega))
  clear HO7
  have HO7 := n_
  clear n_
  have n_ := Aside0.mk (Kd.R_kept HO13.out hK (fun k_ h_ h2_ => by have := HZ2.out; have := HZ5.out; have := HZ8.out; have := HZ11.out; have := HZ14.out; have := HZ16.out; have := HZ19.out; have := HZ21.out; obtain ⟨h3_, h4_⟩ := h2_; rcases h_ with h_ <;> omega))
  clear HO13
  have HO13 := n_
  clear n_
  have HZ23 := Aside0.mk hK.1
  clear HB
  have HB := Aside0.mk hB2
  clear HO10
  clear hO hB2 hK
  go_wp2_with fail
  refine (EQ_Int64S Bv13_0 Bv7_0 dv13_0 dv7_0 r0 _ (Kd.R_reads' HO13.out).2.2 (Kd.R_reads' HO13.out).2.1 (Kd.R_reads' HO7.out).2.2 (Kd.R_reads' HO7.out).2.1 QHe0.out).mono ?_
  rintro e w24 ⟨rfl, hb⟩
  have n_ := Aside0.mk (Kd.R_below HO7.out hb)
  clear HO7
  have HO7 := n_
  clear n_
  have n_ := Aside0.mk (Kd.R_below HO13.out hb)
  clear HO13
  have HO13 := n_
  clear n_
  have HZ25 := Aside0.mk hb.size
  have n_ := Aside0.mk (HB.out.trans (hb.mono HB.out.size))
  clear HB hb
  have HB := n_
  clear n_
  go_wp2_with fail
  refine (MK_Int64S (fun k_ => w9.heap.size ≤ k_ ∧ k_ < w12.heap.size) Bv13_0 dv13_0 r0 yr0 1 mr0 w _ HB.out (Kd.R_lower HO13.out (by have := HZ2.out; have := HZ5.out; have := HZ8.out; have := HZ11.out; have := HZ14.out; have := HZ16.out; have := HZ19.out; have := HZ21.out; have := HZ23.out; have := HZ25.out; omega)) QHmr0.out).mono ?_
  rintro e w26 ⟨rfl, hO, hB2, hK⟩
  have n_ := Aside0.mk (Kd.R_kept HO7.out hK (fun k_ h_ h2_ => by have := HZ2.out; have := HZ5.out; have := HZ8.out; have := HZ11.out; have := HZ14.out; have := HZ16.out; have := HZ19.out; have := HZ21.out; have := HZ23.out; have := HZ25.out; obtain ⟨h3_, h4_⟩ := h2_; rcases h_ with h_ <;> omega))
  clear HO7
  have HO7 := n_
  clear n_
  have HZ27 := Aside0.mk hK.1
  clear HB
  have HB := Aside0.mk hB2
  clear HO13
  have HO13 := Aside0.mk hO
  clear hO hB2 hK
  go_wp2_with fail
  refine (HD_Int64S Bv13_0 dv13_0 r0.length yr0 1 mr0 _ QHl0.out (Kd.R_now HO13.out QHl0.out).2 (Kd.R_now HO13.out QHl0.out).1 QHh0.out).mono ?_
  rintro e w28 ⟨rfl, hb⟩
  have n_ := Aside0.mk (Kd.R_below HO7.out hb)
  clear HO7
  have HO7 := n_
  clear n_
  have n_ := Aside0.mk (Kd.R_below HO13.out hb)
  clear HO13
  have HO13 := n_
  clear n_
  have HZ29 := Aside0.mk hb.size
  have n_ := Aside0.mk (HB.out.trans (hb.mono HB.out.size))
  clear HB hb
  have HB := n_
  clear n_
  go_wp2_with fail
  refine (TO_StrokeS A0 c0 l0 x0 _ (Kd.C_below HR0.out HB.out) HC0.out QHt0.out).mono ?_
  rintro e w30 ⟨B31, d31, rfl, hO, hb⟩
  have n_ := Aside0.mk (Kd.R_below HO7.out hb)
  clear HO7
  have HO7 := n_
  clear n_
  have n_ := Aside0.mk (Kd.R_below HO13.out hb)
  clear HO13
  have HO13 := n_
  clear n_
  have HZ32 := Aside0.mk hb.size
  have n_ := Aside0.mk (HB.out.trans (hb.mono HB.out.size))
  clear HB hb
  have HB := n_
  clear n_
  have HO31 := Aside0.mk hO
  clear hO
  go_wp2_with fail
  obtain ⟨kHi34, hHi34⟩ := QHi.out.rounds
  refine (impl_GreedyOrder.calls kHi34 B31 d31 x0 a1 r0 r1 _ (Kd.S_reads' HO31.out).2.2 (Kd.S_reads' HO31.out).2.1 hHi34).mono ?_
  clear hHi34
  rintro e w33 ⟨v34_0, rfl, ho34_0, hb⟩
  obtain ⟨Bv34_0, dv34_0, rfl⟩ := Kd.R_slice ho34_0
  have HO34 := Aside0.mk (Kd.R_mono (Kd.R_bound ho34_0) (ok' := fun k_ => w30.heap.size ≤ k_ ∧ k_ < w33.heap.size) (fun k_ h_ => ⟨h_.2.1, h_.2.2.1⟩))
  clear ho34_0
  have n_ := Aside0.mk (Kd.R_below HO7.out hb)
  clear HO7
  have HO7 := n_
  clear n_
  have n_ := Aside0.mk (Kd.R_below HO13.out hb)
  clear HO13
  have HO13 := n_
  clear n_
  have n_ := Aside0.mk (Kd.S_below HO31.out hb)
  clear HO31
  have HO31 := n_
  clear n_
  have HZ35 := Aside0.mk hb.size
  have n_ := Aside0.mk (HB.out.trans (hb.mono HB.out.size))
  clear HB hb
  have HB := n_
  clear n_
  go_wp2_with fail
  clear HO31
  refine (EQ_Int64S Bv34_0 Bv7_0 dv34_0 dv7_0 r0 _ (Kd.R_reads' HO34.out).2.2 (Kd.R_reads' HO34.out).2.1 (Kd.R_reads' HO7.out).2.2 (Kd.R_reads' HO7.out).2.1 QHe0.out).mono ?_
  rintro e w36 ⟨rfl, hb⟩
  have n_ := Aside0.mk (Kd.R_below HO7.out hb)
  clear HO7
  have HO7 := n_
  clear n_
  have n_ := Aside0.mk (Kd.R_below HO13.out hb)
  clear HO13
  have HO13 := n_
  clear n_
  have n_ := Aside0.mk (Kd.R_below HO34.out hb)
  clear HO34
  have HO34 := n_
  clear n_
  have HZ37 := Aside0.mk hb.size
  have n_ := Aside0.mk (HB.out.trans (hb.mono HB.out.size))
  clear HB hb
  have HB := n_
  clear n_
  go_wp2_with fail
  clear HO34
  refine (HD_Int64S Bv13_0 dv13_0 r0.length yr0 1 mr0 _ QHl0.out (Kd.R_now HO13.out QHl0.out).2 (Kd.R_now HO13.out QHl0.out).1 QHh0.out).mono ?_
  rintro e w38 ⟨rfl, hb⟩
  have n_ := Aside0.mk (Kd.R_below HO7.out hb)
  clear HO7
  have HO7 := n_
  clear n_
  have n_ := Aside0.mk (Kd.R_below HO13.out hb)
  clear HO13
  have HO13 := n_
  clear n_
  have HZ39 := Aside0.mk hb.size
  have n_ := Aside0.mk (HB.out.trans (hb.mono HB.out.size))
  clear HB hb
  have HB := n_
  clear n_
  try go_wp2
  go_ret
  exact ⟨rfl, HB.out⟩

end Go.Proofs.Ytgpdjpololkhbaa.Pure

namespace Go.Proofs.Ytgpdjpololkhbaa.Pure
open Go.RowKit Go.Proofs.Ytgpdjpololkhbaa.F Go.Proofs.YtgpdjpololkhbaaW.PrintWords Go.Proofs.YtgpdjpololkhbaaW.PrintLast Go.Proofs.YtgpdjpololkhbaaW.PrintMore Go.Proofs.YtgpdjpololkhbaaB
set_option linter.unusedVariables false
set_option linter.unusedSimpArgs false
theorem walkFnExactGreedyOrder (A0 : Option Addr) (c0 : Nat) (l0 : (List S106)) (a1 : Int) (w : World) (hr0 : Kd.C k106 w A0 l0.length l0) (hc0 : l0.length ≤ c0) (hm0 : l0.length ≤ maxLen) (hg0 : ∀ y ∈ l0, g106 y) (hg1 : (Lit.int .i64 a1).wf = true) :
    Calls Try.prog 3 #[.slice A0 l0.length c0, .int .i64 a1] w fun e w' => e = .returned (.bool true) ∧ Below w.heap.size w w' := by
  unfold maxLen at hm0
  have hi : ∀ x ∈ l0, x.f1.length ≤ 9223372036854775807 := fun x hx => (hg0 x hx).2.1
  have hs := laws_szStrokeS_f l0 1048576 (by omega) (by omega) hm0 hi
  by_cases h : (1048576 : Int) < l0.length + total szStroke l0
  · rw [if_pos h] at hs
    exact early0_FnExactGreedyOrder A0 c0 l0 a1 (-1) w hr0 hc0 hs (by omega)
  rw [if_neg h] at hs
  obtain ⟨s1, s2⟩ := szStroke_small l0 h
  have t := laws_toStrokeS_f l0 s1 s2
  have sm := toSt_small l0 s2
  have sl : (l0.map toSt).length ≤ 1048576 := by rw [List.length_map]; exact s1
  obtain ⟨mk, mk0, _⟩ := markSt_arg l0 1 (by omega) (by omega) h
  generalize l0.map toSt = zs at *
  have rl := resGreedy_length zs a1
  have hS := spec_GreedyOrder_f zs a1 (by omega)
  have hI := impl_GreedyOrder_f zs a1 (by omega)
  generalize resGreedy zs a1 = r at *
  obtain ⟨r0, r1⟩ := r
  simp only at rl
  exact walk_FnExactGreedyOrder A0 c0 l0 zs _ a1 r0 r1 _ _ _ _ w hr0 hc0 hs (by omega) t (laws_eqStrokeS_f zs (by omega) (fun x hx => by have := sm x hx; omega)) hS hI (laws_eqInt64S_f r0 (by omega)) mk mk0
    (laws_markInt64S_f r0 1 (by omega) (by omega) (by omega)) (by omega) (markI_length _ _) (laws_heldInt64S_f r0 1 (by omega) (by omega) (by omega))

end Go.Proofs.Ytgpdjpololkhbaa.Pure

namespace Go.Proofs.Ytgpdjpololkhbaa.fnExactGreedyOrder
open Go.ChangeShapes Go.WideShapes Go.ChangeAt Go.RowKit Go.Proofs.YtgpdjpololkhbaaO Go.Proofs.Ytgpdjpololkhbaa.F Go.Proofs.YtgpdjpololkhbaaW.PrintWords
open Go.ChangeMaps (open_string shut_string)
set_option linter.unusedVariables false
theorem own : ownKnob Try.prog.godebug = none := by kernel_rfl
theorem laidOut : laidOutB Try.prog = true := by kernel_rfl
set_option maxRecDepth 100000 in
theorem lifted (os : Os) (started : os.Started) (H : Type) (enc : TypeId × Value → H) :
    ReturnsInHanded {} Try.checked os 3 .any (Rows.fnExactGreedyOrderSpec.pre6 enc Try.prog Try.f3 Rows.fnExactGreedyOrderRow.domain false) (Rows.fnExactGreedyOrderSpec.post enc Try.prog Try.f3 false true false false) := by
  refine returnsInHanded_of_change (C := Try.checked) own started (by kernel_rfl) Try.func3
    (ChangeSpec.witness6 (enc := enc) (C := Try.checked) false ⟨#[], #[.slice none 0 0, .int .i64 0], []⟩ 8 (by kernel_rfl) (by kernel_rfl) (by kernel_rfl) (by kernel_rfl)) ?_
  intro W base args ds gs before hval0 hW hcnd _
  have hval : ∀ (j : Nat) t v, Try.f3.params[j]? = some t → args[j]? = some v → Value.okWide Try.prog W .any base t v := hval0
  have hW' := hW
  obtain ⟨p, q, hA0, hV, rfl, hfz, hnd⟩ := hW
  have hA : DataW.TrodAll enc Try.prog W 0 (fun _ => true) true Try.f3.params.toList args.toList ds p := hA0
  rw [Try.params3] at hA hval
  obtain ⟨v0, vs0, d0, ds0, p0, q0, hargs, rfl, rfl, h0, r0⟩ := trodAll_cons hA
  obtain ⟨v1, vs1, d1, ds1, p1, q1, rfl, rfl, rfl, h1, r1⟩ := trodAll_cons r0
  obtain ⟨rfl, rfl, rfl⟩ := trodAll_nil r1
  obtain rfl : args = #[v0, v1] := by cases args; simp_all
  obtain ⟨rfl, rfl⟩ := trodVars_none hV
  obtain ⟨a0, len0, cap0, rfl⟩ := okWide_slice Try.underlying22 (hval 0 22 v0 rfl rfl)
  have k0_ := h0
  have lt0 : ∀ x ∈ p0, x.block < W.heap.size := by obtain ⟨m, hm⟩ := k0_; exact DataW.trod_lt m _ _ _ hm
  obtain ⟨fuel0, hf0⟩ := h0
  obtain ⟨A0, l0, c0, hcs0, hc0, hb0, hr0, hg0⟩ := opens_row (d := k106) (G := g106) Try.underlying22 (by kernel_rfl) o106 hf0
  simp [Value.cells] at hcs0
  obtain ⟨rfl, rfl, rfl⟩ := hcs0
  obtain ⟨a1, rfl, rfl, rfl, hg1⟩ := open_int Try.underlying2 (hval 1 2 v1 rfl rfl) h1
  clear hA0 hval0
  refine (Pure.walkFnExactGreedyOrder _ _ l0 a1 W hr0 hc0 (Nat.le_trans hc0 hb0) hg0 hg1).mono fun e W' ⟨he, bel⟩ => ?_
  subst he
  exact ⟨_, rfl, _, _, _, [], _, [], hW', trodAll_mk1 (shut_bool Try.underlying4 _), (trodAll_cons_mk (Below.trod laidOut (by kernel_rfl) (of_decide_eq_true (by kernel_rfl)) k0_ bel lt0) (trodAll_cons_mk (shut_int Try.underlying2 hg1) trodAll_mk0)), rfl, bel.frame _, fun h => by cases h⟩
theorem over : Rows.fnExactGreedyOrderRow.holds Try.pinned (OpenSpec.ofChange Rows.fnExactGreedyOrderSpec) :=
  OpenClaim.holds_of_wide 3 Try.f3 rfl rfl rfl rfl rfl rfl rfl ⟨rfl, rfl, rfl, rfl, rfl⟩ rfl rfl rfl rfl rfl (by kernel_rfl) Try.func3 (by kernel_rfl)
    (of_decide_eq_true (by kernel_rfl)) (by unfold Func.isWrapper; first | (rw [if_pos (by decide +kernel)]; kernel_rfl) | (rw [if_neg (by decide +kernel)]; exact ⟨rfl, rfl⟩))
    (fun os started H enc _ => lifted os started H enc)
theorem proved : Rows.FnExactGreedyOrderSaid := over
end Go.Proofs.Ytgpdjpololkhbaa.fnExactGreedyOrder
namespace Go.Proofs.Ytgpdjpololkhbaa
/-- The row, under a short name, for the claim. -/
theorem fnExactGreedyOrder_holds : Rows.FnExactGreedyOrderSaid := fnExactGreedyOrder.proved
end Go.Proofs.Ytgpdjpololkhbaa
#print axioms Go.Proofs.Ytgpdjpololkhbaa.fnExactGreedyOrder_holds
