/-
  A part of the proof of FnExactStrayStrokes: contracts of the Go functions that it reaches, and plain statements on what they come to; each says its own conditions.
-/
import Derived.Test.YtgpdjpololkhbaaKFnExactStrayStrokes5

namespace Go.Proofs.Ytgpdjpololkhbaa.F
open Go.RowKit Go.Proofs.YtgpdjpololkhbaaW.PrintWords Go.Proofs.YtgpdjpololkhbaaW.PrintLast Go.Proofs.YtgpdjpololkhbaaW.PrintMore
attribute [local go_sem] max2_int min2_int max_two min_two max_three min_three max_four min_four   -- for this text's walks alone
set_option linter.unusedVariables false
set_option linter.unusedSimpArgs false

/-! ### spec_StrayStrokes: function 61 -/
mutual
def spec_StrayStrokes.l0 : Nat → List (S110) → List (S172) → Int → List Int → Int → Option (List Int × Int)
  | 0, _, _, _, _, _ => none
  | k + 1, x0, x1, x2, x9, x10 => if x10 < (x0.length : Int) then (spec_StrayStrokes.l1 k x0 x1 x2 x9 x10 false 0) else (some (x9, 0))
def spec_StrayStrokes.l1 : Nat → List (S110) → List (S172) → Int → List Int → Int → Bool → Int → Option (List Int × Int)
  | 0, _, _, _, _, _, _, _ => none
  | k + 1, x0, x1, x2, x9, x10, x11, x12 => if 0 ≤ x10 then (if x10 < (x0.length : Int) then (if x12 < (((rd_T110 x0 x10).f1).length : Int) then (spec_StrayStrokes.l2 k x0 x1 x2 x9 x10 x11 x12 false 0) else (if x11 = true then (if x9.length < 17592186044416 then (spec_StrayStrokes.l0 k x0 x1 x2 (x9 ++ [x10]) (wrap64 (x10 + 1))) else (none)) else (spec_StrayStrokes.l0 k x0 x1 x2 x9 (wrap64 (x10 + 1))))) else (none)) else (none)
def spec_StrayStrokes.l2 : Nat → List (S110) → List (S172) → Int → List Int → Int → Bool → Int → Bool → Int → Option (List Int × Int)
  | 0, _, _, _, _, _, _, _, _, _ => none
  | k + 1, x0, x1, x2, x9, x10, x11, x12, x13, x14 => if x14 < (x1.length : Int) then (spec_StrayStrokes.l3 k x0 x1 x2 x9 x10 x11 x12 x13 x14 0) else (if x11 = true then (spec_StrayStrokes.l1 k x0 x1 x2 x9 x10 true (wrap64 (x12 + 1))) else (spec_StrayStrokes.l1 k x0 x1 x2 x9 x10 (!x13) (wrap64 (x12 + 1))))
def spec_StrayStrokes.l3 : Nat → List (S110) → List (S172) → Int → List Int → Int → Bool → Int → Bool → Int → Int → Option (List Int × Int)
  | 0, _, _, _, _, _, _, _, _, _, _ => none
  | k + 1, x0, x1, x2, x9, x10, x11, x12, x13, x14, x15 => if 0 ≤ x14 then (if x14 < (x1.length : Int) then (if x15 < (((rd_T172 x1 x14).f2).length : Int) then (if x13 = true then (spec_StrayStrokes.l3 k x0 x1 x2 x9 x10 x11 x12 true x14 (wrap64 (x15 + 1))) else (if 0 ≤ x10 then (if x10 < (x0.length : Int) then (if 0 ≤ x12 then (if x12 < (((rd_T110 x0 x10).f1).length : Int) then (if 0 ≤ x15 then ((spec_l16Square.f ((rd_T90 ((rd_T110 x0 x10).f1) x12).f0) ((rd_T90 ((rd_T110 x0 x10).f1) x12).f1) ((rd_T90 ((rd_T172 x1 x14).f2) x15).f0) ((rd_T90 ((rd_T172 x1 x14).f2) x15).f1)).bind fun t1152 => (spec_StrayStrokes.l3 k x0 x1 x2 x9 x10 x11 x12 (decide (t1152 ≤ (wrap64 (x2 * x2)))) x14 (wrap64 (x15 + 1)))) else (none)) else (none)) else (none)) else (none)) else (none))) else (spec_StrayStrokes.l2 k x0 x1 x2 x9 x10 x11 x12 x13 (wrap64 (x14 + 1)))) else (none)) else (none)
end
def spec_StrayStrokes.f (k : Nat) (l0 : List (S110)) (l1 : List (S172)) (a2 : Int) : Option (List Int × Int) := (spec_l32Code.f k l0 l1 a2).bind fun t1139 => (if t1139 = 0 then (spec_StrayStrokes.l0 k l0 l1 a2 (([] : List Int)) 0) else (some (([] : List Int), t1139)))
theorem spec_StrayStrokes.mono_l : ∀ k, (∀ y0 y1 y2 y3 y4, LeO (spec_StrayStrokes.l0 k y0 y1 y2 y3 y4) (spec_StrayStrokes.l0 (k + 1) y0 y1 y2 y3 y4)) ∧ (∀ y0 y1 y2 y3 y4 y5 y6, LeO (spec_StrayStrokes.l1 k y0 y1 y2 y3 y4 y5 y6) (spec_StrayStrokes.l1 (k + 1) y0 y1 y2 y3 y4 y5 y6)) ∧ (∀ y0 y1 y2 y3 y4 y5 y6 y7 y8, LeO (spec_StrayStrokes.l2 k y0 y1 y2 y3 y4 y5 y6 y7 y8) (spec_StrayStrokes.l2 (k + 1) y0 y1 y2 y3 y4 y5 y6 y7 y8)) ∧ (∀ y0 y1 y2 y3 y4 y5 y6 y7 y8 y9, LeO (spec_StrayStrokes.l3 k y0 y1 y2 y3 y4 y5 y6 y7 y8 y9) (spec_StrayStrokes.l3 (k + 1) y0 y1 y2 y3 y4 y5 y6 y7 y8 y9))
  | 0 => ⟨fun _ _ _ _ _ r h => by simp [spec_StrayStrokes.l0] at h, fun _ _ _ _ _ _ _ r h => by simp [spec_StrayStrokes.l1] at h, fun _ _ _ _ _ _ _ _ _ r h => by simp [spec_StrayStrokes.l2] at h, fun _ _ _ _ _ _ _ _ _ _ r h => by simp [spec_StrayStrokes.l3] at h⟩
  | k + 1 => by
    obtain ⟨ih0, ih1, ih2, ih3⟩ := spec_StrayStrokes.mono_l k
    refine ⟨?_, ?_, ?_, ?_⟩
    · intro y0 y1 y2 y3 y4
      unfold spec_StrayStrokes.l0
      repeat' first
      | (with_reducible exact ih0 _ _ _ _ _)
      | (with_reducible exact ih1 _ _ _ _ _ _ _)
      | (with_reducible exact ih2 _ _ _ _ _ _ _ _ _)
      | (with_reducible exact ih3 _ _ _ _ _ _ _ _ _ _)
      | (with_reducible exact spec_l32Code.mono _ _ _ _)
      | (with_reducible exact LeO.refl _)
      | (with_reducible exact LeO.none _)
      | (with_reducible refine LeO.ite ?_ ?_)
      | (with_reducible refine LeO.bind ?_ (fun _ => ?_))
      | exact ih0 _ _ _ _ _
      | exact ih1 _ _ _ _ _ _ _
      | exact ih2 _ _ _ _ _ _ _ _ _
      | exact ih3 _ _ _ _ _ _ _ _ _ _
      | exact spec_l32Code.mono _ _ _ _
      | exact LeO.none _
      | refine LeO.ite ?_ ?_
      | refine LeO.bind ?_ (fun _ => ?_)
    · intro y0 y1 y2 y3 y4 y5 y6
      unfold spec_StrayStrokes.l1
      repeat' first
      | (with_reducible exact ih0 _ _ _ _ _)
      | (with_reducible exact ih1 _ _ _ _ _ _ _)
      | (with_reducible exact ih2 _ _ _ _ _ _ _ _ _)
      | (with_reducible exact ih3 _ _ _ _ _ _ _ _ _ _)
      | (with_reducible exact spec_l32Code.mono _ _ _ _)
      | (with_reducible exact LeO.refl _)
      | (with_reducible exact LeO.none _)
      | (with_reducible refine LeO.ite ?_ ?_)
      | (with_reducible refine LeO.bind ?_ (fun _ => ?_))
      | exact ih0 _ _ _ _ _
      | exact ih1 _ _ _ _ _ _ _
      | exact ih2 _ _ _ _ _ _ _ _ _
      | exact ih3 _ _ _ _ _ _ _ _ _ _
      | exact spec_l32Code.mono _ _ _ _
      | exact LeO.none _
      | refine LeO.ite ?_ ?_
      | refine LeO.bind ?_ (fun _ => ?_)
    · intro y0 y1 y2 y3 y4 y5 y6 y7 y8
      unfold spec_StrayStrokes.l2
      repeat' first
      | (with_reducible exact ih0 _ _ _ _ _)
      | (with_reducible exact ih1 _ _ _ _ _ _ _)
      | (with_reducible exact ih2 _ _ _ _ _ _ _ _ _)
      | (with_reducible exact ih3 _ _ _ _ _ _ _ _ _ _)
      | (with_reducible exact spec_l32Code.mono _ _ _ _)
      | (with_reducible exact LeO.refl _)
      | (with_reducible exact LeO.none _)
      | (with_reducible refine LeO.ite ?_ ?_)
      | (with_reducible refine LeO.bind ?_ (fun _ => ?_))
      | exact ih0 _ _ _ _ _
      | exact ih1 _ _ _ _ _ _ _
      | exact ih2 _ _ _ _ _ _ _ _ _
      | exact ih3 _ _ _ _ _ _ _ _ _ _
      | exact spec_l32Code.mono _ _ _ _
      | exact LeO.none _
      | refine LeO.ite ?_ ?_
      | refine LeO.bind ?_ (fun _ => ?_)
    · intro y0 y1 y2 y3 y4 y5 y6 y7 y8 y9
      unfold spec_StrayStrokes.l3
      repeat' first
      | (with_reducible exact ih0 _ _ _ _ _)
      | (with_reducible exact ih1 _ _ _ _ _ _ _)
      | (with_reducible exact ih2 _ _ _ _ _ _ _ _ _)
      | (with_reducible exact ih3 _ _ _ _ _ _ _ _ _ _)
      | (with_reducible exact spec_l32Code.mono _ _ _ _)
      | (with_reducible exact LeO.refl _)
      | (with_reducible exact LeO.none _)
      | (with_reducible refine LeO.ite ?_ ?_)
      | (with_reducible refine LeO.bind ?_ (fun _ => ?_))
      | exact ih0 _ _ _ _ _
      | exact ih1 _ _ _ _ _ _ _
      | exact ih2 _ _ _ _ _ _ _ _ _
      | exact ih3 _ _ _ _ _ _ _ _ _ _
      | exact spec_l32Code.mono _ _ _ _
      | exact LeO.none _
      | refine LeO.ite ?_ ?_
      | refine LeO.bind ?_ (fun _ => ?_)
theorem spec_StrayStrokes.mono : ∀ a0 a1 a2 k, LeO (spec_StrayStrokes.f k a0 a1 a2) (spec_StrayStrokes.f (k + 1) a0 a1 a2) := by
  intro a0 a1 a2 k
  obtain ⟨ih0, ih1, ih2, ih3⟩ := spec_StrayStrokes.mono_l k
  unfold spec_StrayStrokes.f
  repeat' first
      | (with_reducible exact ih0 _ _ _ _ _)
      | (with_reducible exact ih1 _ _ _ _ _ _ _)
      | (with_reducible exact ih2 _ _ _ _ _ _ _ _ _)
      | (with_reducible exact ih3 _ _ _ _ _ _ _ _ _ _)
      | (with_reducible exact spec_l32Code.mono _ _ _ _)
      | (with_reducible exact LeO.refl _)
      | (with_reducible exact LeO.none _)
      | (with_reducible refine LeO.ite ?_ ?_)
      | (with_reducible refine LeO.bind ?_ (fun _ => ?_))
      | exact ih0 _ _ _ _ _
      | exact ih1 _ _ _ _ _ _ _
      | exact ih2 _ _ _ _ _ _ _ _ _
      | exact ih3 _ _ _ _ _ _ _ _ _ _
      | exact spec_l32Code.mono _ _ _ _
      | exact LeO.none _
      | refine LeO.ite ?_ ?_
      | refine LeO.bind ?_ (fun _ => ?_)
def spec_StrayStrokes.T19 : Bool × List (List Nat × List Nat) := (true, [([], []), ([0], [0]), ([1], [1]), ([1], [1]), ([2, 3, 1], [1, 2, 3]), ([4, 1], [1, 4]), ([5, 1], [1, 5]), ([1], [1]), ([6, 7, 1], [1, 6, 7]), ([8, 1], [1, 8]), ([1], [1]), ([1], [1]), ([10, 11, 1], [1, 10, 11]), ([12, 1], [1, 12]), ([13, 1], [1, 13]), ([1], [1]), ([14, 15, 1], [1, 14, 15]), ([16, 1], [1, 16]), ([9, 17, 1, 1], [1, 9, 17]), ([1], [1]), ([1], [1]), ([19, 20, 1], [1, 19, 20]), ([18, 21, 1], [1, 18, 21]), ([1, 22], [1, 22]), ([23, 18, 0, 1, 2, 3, 4, 5, 6, 7, 8, 9, 10, 11, 12, 13, 14, 15, 16, 17, 18, 19, 20, 21, 22, 23], [0, 23])])
def spec_StrayStrokes.B19 : List Nat := [0, 1, 3, 3, 15, 31, 63, 3, 255, 511, 3, 3, 3075, 7171, 15363, 3, 64515, 130051, 262143, 3, 3, 1572867, 4194303, 8388607, 16777215]
theorem spec_StrayStrokes.tab19 : rtab .any (opsOf Try.f61 19) = spec_StrayStrokes.T19 := by kernel_rfl
theorem spec_StrayStrokes.bits19 : waitsOk spec_StrayStrokes.T19.2 spec_StrayStrokes.B19 = true := by kernel_rfl
set_option maxHeartbeats 8000000 in
set_option maxRecDepth 100000 in
theorem spec_StrayStrokes.calls (k : Nat) (A0 : Option Addr) (c0 : Nat) (l0 : List (S110)) (A1 : Option Addr) (c1 : Nat) (l1 : List (S172)) (a2 : Int) (r1 : List Int) (r2 : Int) (w : World) (hr0 : Kd.C k110 w A0 l0.length l0) (hc0 : l0.length ≤ c0) (hr1 : Kd.C k172 w A1 l1.length l1) (hc1 : l1.length ≤ c1) (h : spec_StrayStrokes.f k l0 l1 a2 = some (r1, r2)) :
    Calls Try.prog 61 #[.slice A0 l0.length c0, .slice A1 l1.length c1, .int .i64 a2] w fun e w' => ∃ v0_ : Value, e = .returned (.tuple #[v0_, .int .i64 r2]) ∧ Kd.R (Kd.int .i64) 2 w' w.heap.size (fun _ => True) v0_ r1 ∧ Below w.heap.size w w' := by
  have hu90 := Try.underlying90
  have HR0 := Aside0.mk hr0
  have HC0 := Aside0.mk hc0
  clear hr0 hc0
  have HR1 := Aside0.mk hr1
  have HC1 := Aside0.mk hc1
  clear hr1 hc1
  have HB := Aside0.mk (Below.refl w.heap.size w)
  have H : ((spec_l32Code.f k l0 l1 a2).bind fun t1139 => (if t1139 = 0 then (spec_StrayStrokes.l0 k l0 l1 a2 (([] : List Int)) 0) else (some (([] : List Int), t1139)))) = some (r1, r2) := h
  clear h
  replace H := Option.bind_eq_some_iff.mp H
  obtain ⟨t1139, A40, H⟩ := H
  replace H : (if t1139 = 0 then (spec_StrayStrokes.l0 k l0 l1 a2 (([] : List Int)) 0) else (some (([] : List Int), t1139))) = some (r1, r2) := H
  have A4 := Aside0.mk A40
  clear A40
  by_cases c5 : t1139 = 0
  · rw [if_pos c5] at H
    have c5b0 : (t1139 == 0) = true := beq_iff_eq.mpr c5
    have c5b1 : (t1139 != 0) = false := bne_eq_false_iff_eq.mpr c5
    clear c5
    obtain ⟨y1140, hy1140⟩ : ∃ y_ : List Int, y_ = (([] : List Int)) := ⟨_, rfl⟩
    replace H : (spec_StrayStrokes.l0 k l0 l1 a2 y1140 0) = some (r1, r2) := by first | (rw [hy1140]; with_reducible exact H) | (have H2_ := (Option.bind_some _ _).symm.trans H; rw [hy1140]; with_reducible exact H2_) | (have H2_ := (Option.bind_some _ _).symm.trans H; with_reducible exact H2_) | with_reducible exact H | (rw [hy1140]; exact H) | exact H
    have Ny1140 := Aside0.mk hy1140
    clear hy1140
    have H' := Aside0.mk H
    clear H
    go_enter Try.func61, Try.ntmps61
    go_wp2_with (first | ((with_reducible refine gate_callee (f := 127) rfl ?_); refine goesL_ (some 19) rfl rfl Try.func127 (by kernel_rfl) rfl #[.slice A0 l0.length c0, .slice A1 l1.length c1, .int .i64 a2] rfl (by (try simp only [List.map_toArray, List.map_cons, List.map_nil]); first | done | rfl | (simp only [List.length_drop, List.length_take]; rfl)) ?_; (with_reducible refine (spec_l32Code.calls k _ _ l0 _ _ l1 a2 t1139 _ ?side1 ?side2 ?side3 ?side4 A4.out).mono ?_); (case side1 => repeat (first | exact HR0.out | (with_reducible refine Kd.C_alloc ?_ _) | (with_reducible refine Kd.C_drewN ?_ _) | (with_reducible refine Kd.C_drew ?_))); (case side2 => exact HC0.out); (case side3 => repeat (first | exact HR1.out | (with_reducible refine Kd.C_alloc ?_ _) | (with_reducible refine Kd.C_drewN ?_ _) | (with_reducible refine Kd.C_drew ?_))); (case side4 => exact HC1.out); rintro e w' ⟨rfl, ⟨nd, rfl⟩⟩; refine ⟨_, rfl, ?_⟩) | ((with_reducible refine gate_dst (N := 23) rfl ?_); refine Kd.R_lit (Kd.int .i64) _ 2 ?hg (N := 23) ?hd (xs := ([] : List Int)) (inner := []) (ok := fun _ => True) (okp := fun _ => True) ?hr ?hp (fun _ hk => hk) trivial (Below.refl _ _) (Nat.le_refl _) (by simp) ?_; (case hd => rfl); (case hg => rfl); (case hr => first | (go_simp; done) | (go_simp; rfl)); (case hp => exact (Reps.none _ _)); intro v1141 w6 ho7 hb hg_ hnew_; clear hg_ hnew_; (first | rw [← Ny1140.out] at ho7 | (simp only [Int.reduceToNat] at ho7; rw [← Ny1140.out] at ho7)); have n0_ := Aside0.mk (Kd.R_lower ho7 (below_size (by repeat (first | (with_reducible first | exact HB.out | apply below_alloc | apply pw_below_drewN | apply below_drew1) | exact HB.out)))); have n1_ := Aside0.mk (below_step (by repeat (first | (with_reducible first | exact HB.out | apply below_alloc | apply pw_below_drewN | apply below_drew1) | exact HB.out)) hb); clear HB; have HO1142 := n0_; have HB := n1_; clear n0_ n1_; clear hb ho7))
    go_loopg [9, 10] k (fun kq v9 v10 w' => ∃ (x9_1 : List Int) (x10_1 : Int), v10 = .int .i64 x10_1 ∧ Aside0 (spec_StrayStrokes.l0 kq l0 l1 a2 x9_1 x10_1 = some (r1, r2)) ∧ Aside0 (kq ≤ k) ∧ Aside0 (Kd.R (Kd.int .i64) 2 w' w.heap.size (fun _ => True) v9 x9_1) ∧ Aside0 (Below w.heap.size w w'))
    case atStart => exact ⟨(y1140), (0), (by first | rfl | (simp; done) | (simp [*]; done)), H', ⟨Nat.le_refl _⟩, ⟨by (with_reducible repeat (first | apply Kd.R_alloc | apply Kd.R_drewN | apply Kd.R_drew)); exact HO1142.out⟩, ⟨by repeat (first | (with_reducible first | exact HB.out | apply below_alloc | apply pw_below_drewN | apply below_drew1) | exact HB.out)⟩⟩
    case round =>
      clear H'
      try clear c1
      try clear p2
      try clear c5
      try clear c5b0
      try clear c5b1
      try clear c6
      obtain ⟨x9_1, x10_1, rfl, HA, HK1, HO_9, HB⟩ := hrel
      cases gk with
      | zero => exact absurd HA.out (by simp [spec_StrayStrokes.l0])
      | succ k1 =>
        have H := HA.out
        clear HA
        simp only [spec_StrayStrokes.l0] at H
        by_cases c8 : x10_1 < (l0.length : Int)
        · rw [if_pos c8] at H
          have c8b0 : decide (x10_1 < (l0.length : Int)) = true := decide_eq_true c8
          clear c8
          have H' := Aside0.mk H
          clear H
          go_wp2
          go_loopg [11, 12] k1 (fun kq v11 v12 w' => ∃ (x11_2 : Bool) (x12_2 : Int), v11 = .bool x11_2 ∧ v12 = .int .i64 x12_2 ∧ Aside0 (spec_StrayStrokes.l1 kq l0 l1 a2 x9_1 x10_1 x11_2 x12_2 = some (r1, r2)) ∧ Aside0 (kq ≤ k1) ∧ Aside0 (Kd.R (Kd.int .i64) 2 w' w.heap.size (fun _ => True) u9 x9_1) ∧ Aside0 (Below w.heap.size w w'))
          case atStart => exact ⟨(false), (0), (by first | rfl | (simp; done) | (simp [*]; done)), (by first | rfl | (simp; done) | (simp [*]; done)), H', ⟨Nat.le_refl _⟩, ⟨by (with_reducible repeat (first | apply Kd.R_alloc | apply Kd.R_drewN | apply Kd.R_drew)); exact HO_9.out⟩, ⟨by repeat (first | (with_reducible first | exact HB.out | apply below_alloc | apply pw_below_drewN | apply below_drew1) | exact HB.out)⟩⟩
          case round =>
            clear H'
            try clear c1
            try clear p2
            try clear c5
            try clear c5b0
            try clear c5b1
            try clear c6
            try clear c8
            try clear c8b0
            try clear p2
            obtain ⟨x11_2, x12_2, rfl, rfl, HA, HK2, HO_9, HB⟩ := hrel
            cases gk with
            | zero => exact absurd HA.out (by simp [spec_StrayStrokes.l1])
            | succ k2 =>
              have H := HA.out
              clear HA
              simp only [spec_StrayStrokes.l1] at H
              by_cases c9 : 0 ≤ x10_1
              · rw [if_pos c9] at H
                have c9b0 : decide (0 ≤ x10_1) = true := decide_eq_true c9
                clear c9
                by_cases c10 : x10_1 < (l0.length : Int)
                · rw [if_pos c10] at H
                  have c10b0 : decide (x10_1 < (l0.length : Int)) = true := decide_eq_true c10
                  clear c10
                  by_cases c11 : x12_2 < (((rd_T110 l0 x10_1).f1).length : Int)
                  · rw [if_pos c11] at H
                    have c11b0 : decide (x12_2 < (((rd_T110 l0 x10_1).f1).length : Int)) = true := decide_eq_true c11
                    clear c11
                    have H' := Aside0.mk H
                    clear H
                    have p1143 : 0 ≤ (x10_1 : Int) := of_decide_eq_true (by first | (with_reducible assumption) | assumption)
                    have q1143 : x10_1 < (l0.length : Int) := of_decide_eq_true (by first | (with_reducible assumption) | assumption)
                    obtain ⟨ad1143, A1143_1, c1143_1, e1143, hx1143_0, hx1143_1, hl1143_1, hi1143_1⟩ := at_T110 HR0.out x10_1 p1143 q1143
                    cases e1143
                    replace hx1143_0 := (HB.out.cell (World.block_lt_of_cell? w _ hx1143_0)).trans hx1143_0
                    replace hx1143_1 := (HB.out.cell (World.block_lt_of_cell? w _ hx1143_1)).trans hx1143_1
                    have HR1143_1 := Aside0.mk hi1143_1
                    have HC1143_1 := Aside0.mk hl1143_1
                    clear hi1143_1 hl1143_1
                    replace p1143 := eq_true p1143
                    replace q1143 := eq_true q1143
                    go_wp2
                    go_loopg [13, 14] k2 (fun kq v13 v14 w' => ∃ (x13_3 : Bool) (x14_3 : Int), v13 = .bool x13_3 ∧ v14 = .int .i64 x14_3 ∧ Aside0 (spec_StrayStrokes.l2 kq l0 l1 a2 x9_1 x10_1 x11_2 x12_2 x13_3 x14_3 = some (r1, r2)) ∧ Aside0 (kq ≤ k2) ∧ Aside0 (Kd.R (Kd.int .i64) 2 w' w.heap.size (fun _ => True) u9 x9_1) ∧ Aside0 (Below w.heap.size w w'))
                    case atStart => exact ⟨(false), (0), (by first | rfl | (simp; done) | (simp [*]; done)), (by first | rfl | (simp; done) | (simp [*]; done)), H', ⟨Nat.le_refl _⟩, ⟨by (with_reducible repeat (first | apply Kd.R_alloc | apply Kd.R_drewN | apply Kd.R_drew)); exact HO_9.out⟩, ⟨by repeat (first | (with_reducible first | exact HB.out | apply below_alloc | apply pw_below_drewN | apply below_drew1) | exact HB.out)⟩⟩
                    case round =>
                      clear H'
                      try clear c1
                      try clear p1
                      try clear q1
                      try clear hx1
                      try clear p2
                      try clear c5
                      try clear c5b0
                      try clear c5b1
                      try clear c6
                      try clear c8
                      try clear c8b0
                      try clear c9
                      try clear c9b0
                      try clear c10
                      try clear c10b0
                      try clear c11
                      try clear c11b0
                      try clear p11
                      try clear q11
                      try clear hx11
                      try clear hx1143_0
                      try clear hx1143_1
                      try clear p1143
                      try clear p2
                      try clear q1143
                      obtain ⟨x13_3, x14_3, rfl, rfl, HA, HK3, HO_9, HB⟩ := hrel
                      cases gk with
                      | zero => exact absurd HA.out (by simp [spec_StrayStrokes.l2])
                      | succ k3 =>
                        have H := HA.out
                        clear HA
                        simp only [spec_StrayStrokes.l2] at H
                        by_cases c12 : x14_3 < (l1.length : Int)
                        · rw [if_pos c12] at H
                          have c12b0 : decide (x14_3 < (l1.length : Int)) = true := decide_eq_true c12
                          clear c12
                          have H' := Aside0.mk H
                          clear H
                          go_wp2
                          go_loopg [13, 15] k3 (fun kq v13 v15 w' => ∃ (x13_4 : Bool) (x15_4 : Int), v13 = .bool x13_4 ∧ v15 = .int .i64 x15_4 ∧ Aside0 (spec_StrayStrokes.l3 kq l0 l1 a2 x9_1 x10_1 x11_2 x12_2 x13_4 x14_3 x15_4 = some (r1, r2)) ∧ Aside0 (kq ≤ k3) ∧ Aside0 (Kd.R (Kd.int .i64) 2 w' w.heap.size (fun _ => True) u9 x9_1) ∧ Aside0 (Below w.heap.size w w'))
                          case atStart => exact ⟨(x13_3), (0), (by first | rfl | (simp; done) | (simp [*]; done)), (by first | rfl | (simp; done) | (simp [*]; done)), H', ⟨Nat.le_refl _⟩, ⟨by (with_reducible repeat (first | apply Kd.R_alloc | apply Kd.R_drewN | apply Kd.R_drew)); exact HO_9.out⟩, ⟨by repeat (first | (with_reducible first | exact HB.out | apply below_alloc | apply pw_below_drewN | apply below_drew1) | exact HB.out)⟩⟩
                          case round =>
                            clear H'
                            try clear c1
                            try clear p1
                            try clear q1
                            try clear hx1
                            try clear p2
                            try clear c5
                            try clear c5b0
                            try clear c5b1
                            try clear c6
                            try clear c8
                            try clear c8b0
                            try clear c9
                            try clear c9b0
                            try clear c10
                            try clear c10b0
                            try clear c11
                            try clear c11b0
                            try clear p11
                            try clear q11
                            try clear hx11
                            try clear c12
                            try clear c12b0
                            try clear hx1143_0
                            try clear hx1143_1
                            try clear p1
                            try clear p11
                            try clear p1143
                            try clear p2
                            try clear q1
                            try clear q11
                            try clear q1143
                            obtain ⟨x13_4, x15_4, rfl, rfl, HA, HK4, HO_9, HB⟩ := hrel
                            cases gk with
                            | zero => exact absurd HA.out (by simp [spec_StrayStrokes.l3])
                            | succ k4 =>
                              have H := HA.out
                              clear HA
                              simp only [spec_StrayStrokes.l3] at H
                              by_cases c13 : 0 ≤ x14_3
                              · rw [if_pos c13] at H
                                have c13b0 : decide (0 ≤ x14_3) = true := decide_eq_true c13
                                clear c13
                                by_cases c14 : x14_3 < (l1.length : Int)
                                · rw [if_pos c14] at H
                                  have c14b0 : decide (x14_3 < (l1.length : Int)) = true := decide_eq_true c14
                                  clear c14
                                  by_cases c15 : x15_4 < (((rd_T172 l1 x14_3).f2).length : Int)
                                  · rw [if_pos c15] at H
                                    have c15b0 : decide (x15_4 < (((rd_T172 l1 x14_3).f2).length : Int)) = true := decide_eq_true c15
                                    clear c15
                                    by_cases c16 : x13_4 = true
                                    · subst c16
                                      have H1 : (spec_StrayStrokes.l3 k4 l0 l1 a2 x9_1 x10_1 x11_2 x12_2 true x14_3 (wrap64 (x15_4 + 1))) = some (r1, r2) := by rw [if_pos rfl] at H; exact H
                                      clear H
                                      have H := H1
                                      clear H1
                                      have H' := Aside0.mk H
                                      clear H
                                      have p1147 : 0 ≤ (x14_3 : Int) := of_decide_eq_true (by first | (with_reducible assumption) | assumption)
                                      have q1147 : x14_3 < (l1.length : Int) := of_decide_eq_true (by first | (with_reducible assumption) | assumption)
                                      obtain ⟨ad1147, A1147_2, c1147_2, e1147, hx1147_0, hx1147_1, hx1147_2, hl1147_2, hi1147_2⟩ := at_T172 HR1.out x14_3 p1147 q1147
                                      cases e1147
                                      replace hx1147_0 := (HB.out.cell (World.block_lt_of_cell? w _ hx1147_0)).trans hx1147_0
                                      replace hx1147_1 := (HB.out.cell (World.block_lt_of_cell? w _ hx1147_1)).trans hx1147_1
                                      replace hx1147_2 := (HB.out.cell (World.block_lt_of_cell? w _ hx1147_2)).trans hx1147_2
                                      have HR1147_2 := Aside0.mk hi1147_2
                                      have HC1147_2 := Aside0.mk hl1147_2
                                      clear hi1147_2 hl1147_2
                                      replace p1147 := eq_true p1147
                                      replace q1147 := eq_true q1147
                                      try go_wp2
                                      have n0_ := Aside0.mk (Kd.R_drew HO_9.out)
                                      have n1_ := Aside0.mk (below_drew1 HB.out)
                                      clear HO_9
                                      clear HB
                                      have HO_9 := n0_
                                      have HB := n1_
                                      clear n0_ n1_
                                      refine start_ (n := 25) (S := fun w' => True) (ds := []) #[false, false, false, false, false, false, false, false, false, false, false, false, false, false, false, false, false, false, false, false, false, false, false, false, false] (by kernel_rfl) rfl rfl trivial (fun hHeld => ?_); refine with_tabW spec_StrayStrokes.tab19 spec_StrayStrokes.bits19 (fun HT_ HW_ => ?_)
                                      generalize wr.drew = w17 at HO_9 HB hHeld ⊢
                                      refine pure_ (i := 0) (N := some 56) (v := ?_) (a' := ?_) #[true, false, false, false, false, false, false, false, false, false, false, false, false, false, false, false, false, false, false, false, false, false, false, false, false] rfl rfl (any_of HT_.out (by kernel_rfl)) (fun _ _ _ h => h) (Or.inl ⟨by rfl, ?_⟩) ?_ ?_
                                      rotate_left
                                      · intro w'
                                        go_simp
                                        with_reducible rfl
                                      rotate_left
                                      · simp only [Act.put, List.setIfInBounds_toArray, List.set_cons_zero, List.set_cons_succ, i64_w, i32_w]
                                        rfl
                                      refine pure_ (i := 1) (N := some 57) (v := ?_) (a' := ?_) #[true, true, false, false, false, false, false, false, false, false, false, false, false, false, false, false, false, false, false, false, false, false, false, false, false] rfl rfl (any_of HT_.out (by kernel_rfl)) (fun _ _ _ h => h) (Or.inl ⟨by rfl, ?_⟩) ?_ ?_
                                      rotate_left
                                      · intro w'
                                        go_simp
                                        with_reducible rfl
                                      rotate_left
                                      · simp only [Act.put, List.setIfInBounds_toArray, List.set_cons_zero, List.set_cons_succ, i64_w, i32_w]
                                        rfl
                                      refine pure_ (i := 2) (N := some 58) (v := undef) (a' := ?_) #[true, true, true, false, false, false, false, false, false, false, false, false, false, false, false, false, false, false, false, false, false, false, false, false, false] rfl rfl (any_of HT_.out (by kernel_rfl)) (fun _ _ _ h => h) (Or.inr ⟨by rfl, rfl⟩) ?_ ?_
                                      rotate_left
                                      · simp only [Act.put, List.setIfInBounds_toArray, List.set_cons_zero, List.set_cons_succ, i64_w, i32_w]
                                        rfl
                                      refine pure_ (i := 3) (N := some 59) (v := undef) (a' := ?_) #[true, true, true, true, false, false, false, false, false, false, false, false, false, false, false, false, false, false, false, false, false, false, false, false, false] rfl rfl (any_of HT_.out (by kernel_rfl)) (fun _ _ _ h => h) (Or.inr ⟨by rfl, rfl⟩) ?_ ?_
                                      rotate_left
                                      · simp only [Act.put, List.setIfInBounds_toArray, List.set_cons_zero, List.set_cons_succ, i64_w, i32_w]
                                        rfl
                                      refine pure_ (i := 4) (N := some 60) (v := undef) (a' := ?_) #[true, true, true, true, true, false, false, false, false, false, false, false, false, false, false, false, false, false, false, false, false, false, false, false, false] rfl rfl (any_of HT_.out (by kernel_rfl)) (fun _ _ _ h => h) (Or.inr ⟨by rfl, rfl⟩) ?_ ?_
                                      rotate_left
                                      · simp only [Act.put, List.setIfInBounds_toArray, List.set_cons_zero, List.set_cons_succ, i64_w, i32_w]
                                        rfl
                                      refine pure_ (i := 5) (N := some 61) (v := undef) (a' := ?_) #[true, true, true, true, true, true, false, false, false, false, false, false, false, false, false, false, false, false, false, false, false, false, false, false, false] rfl rfl (any_of HT_.out (by kernel_rfl)) (fun _ _ _ h => h) (Or.inr ⟨by rfl, rfl⟩) ?_ ?_
                                      rotate_left
                                      · simp only [Act.put, List.setIfInBounds_toArray, List.set_cons_zero, List.set_cons_succ, i64_w, i32_w]
                                        rfl
                                      refine pure_ (i := 6) (N := some 62) (v := undef) (a' := ?_) #[true, true, true, true, true, true, true, false, false, false, false, false, false, false, false, false, false, false, false, false, false, false, false, false, false] rfl rfl (any_of HT_.out (by kernel_rfl)) (fun _ _ _ h => h) (Or.inr ⟨by rfl, rfl⟩) ?_ ?_
                                      rotate_left
                                      · simp only [Act.put, List.setIfInBounds_toArray, List.set_cons_zero, List.set_cons_succ, i64_w, i32_w]
                                        rfl
                                      refine pure_ (i := 7) (N := some 63) (v := undef) (a' := ?_) #[true, true, true, true, true, true, true, true, false, false, false, false, false, false, false, false, false, false, false, false, false, false, false, false, false] rfl rfl (any_of HT_.out (by kernel_rfl)) (fun _ _ _ h => h) (Or.inr ⟨by rfl, rfl⟩) ?_ ?_
                                      rotate_left
                                      · simp only [Act.put, List.setIfInBounds_toArray, List.set_cons_zero, List.set_cons_succ, i64_w, i32_w]
                                        rfl
                                      refine pure_ (i := 8) (N := some 64) (v := undef) (a' := ?_) #[true, true, true, true, true, true, true, true, true, false, false, false, false, false, false, false, false, false, false, false, false, false, false, false, false] rfl rfl (any_of HT_.out (by kernel_rfl)) (fun _ _ _ h => h) (Or.inr ⟨by rfl, rfl⟩) ?_ ?_
                                      rotate_left
                                      · simp only [Act.put, List.setIfInBounds_toArray, List.set_cons_zero, List.set_cons_succ, i64_w, i32_w]
                                        rfl
                                      refine pure_ (i := 9) (N := some 65) (v := undef) (a' := ?_) #[true, true, true, true, true, true, true, true, true, true, false, false, false, false, false, false, false, false, false, false, false, false, false, false, false] rfl rfl (any_of HT_.out (by kernel_rfl)) (fun _ _ _ h => h) (Or.inr ⟨by rfl, rfl⟩) ?_ ?_
                                      rotate_left
                                      · simp only [Act.put, List.setIfInBounds_toArray, List.set_cons_zero, List.set_cons_succ, i64_w, i32_w]
                                        rfl
                                      refine pure_ (i := 10) (N := some 66) (v := undef) (a' := ?_) #[true, true, true, true, true, true, true, true, true, true, true, false, false, false, false, false, false, false, false, false, false, false, false, false, false] rfl rfl (any_of HT_.out (by kernel_rfl)) (fun _ _ _ h => h) (Or.inr ⟨by rfl, rfl⟩) ?_ ?_
                                      rotate_left
                                      · simp only [Act.put, List.setIfInBounds_toArray, List.set_cons_zero, List.set_cons_succ, i64_w, i32_w]
                                        rfl
                                      refine pure_ (i := 11) (N := some 67) (v := undef) (a' := ?_) #[true, true, true, true, true, true, true, true, true, true, true, true, false, false, false, false, false, false, false, false, false, false, false, false, false] rfl rfl (any_of HT_.out (by kernel_rfl)) (fun _ _ _ h => h) (Or.inr ⟨by rfl, rfl⟩) ?_ ?_
                                      rotate_left
                                      · simp only [Act.put, List.setIfInBounds_toArray, List.set_cons_zero, List.set_cons_succ, i64_w, i32_w]
                                        rfl
                                      refine pure_ (i := 12) (N := some 68) (v := undef) (a' := ?_) #[true, true, true, true, true, true, true, true, true, true, true, true, true, false, false, false, false, false, false, false, false, false, false, false, false] rfl rfl (any_of HT_.out (by kernel_rfl)) (fun _ _ _ h => h) (Or.inr ⟨by rfl, rfl⟩) ?_ ?_
                                      rotate_left
                                      · simp only [Act.put, List.setIfInBounds_toArray, List.set_cons_zero, List.set_cons_succ, i64_w, i32_w]
                                        rfl
                                      refine pure_ (i := 13) (N := some 69) (v := undef) (a' := ?_) #[true, true, true, true, true, true, true, true, true, true, true, true, true, true, false, false, false, false, false, false, false, false, false, false, false] rfl rfl (any_of HT_.out (by kernel_rfl)) (fun _ _ _ h => h) (Or.inr ⟨by rfl, rfl⟩) ?_ ?_
                                      rotate_left
                                      · simp only [Act.put, List.setIfInBounds_toArray, List.set_cons_zero, List.set_cons_succ, i64_w, i32_w]
                                        rfl
                                      refine pure_ (i := 14) (N := some 70) (v := undef) (a' := ?_) #[true, true, true, true, true, true, true, true, true, true, true, true, true, true, true, false, false, false, false, false, false, false, false, false, false] rfl rfl (any_of HT_.out (by kernel_rfl)) (fun _ _ _ h => h) (Or.inr ⟨by rfl, rfl⟩) ?_ ?_
                                      rotate_left
                                      · simp only [Act.put, List.setIfInBounds_toArray, List.set_cons_zero, List.set_cons_succ, i64_w, i32_w]
                                        rfl
                                      refine pure_ (i := 15) (N := some 71) (v := undef) (a' := ?_) #[true, true, true, true, true, true, true, true, true, true, true, true, true, true, true, true, false, false, false, false, false, false, false, false, false] rfl rfl (any_of HT_.out (by kernel_rfl)) (fun _ _ _ h => h) (Or.inr ⟨by rfl, rfl⟩) ?_ ?_
                                      rotate_left
                                      · simp only [Act.put, List.setIfInBounds_toArray, List.set_cons_zero, List.set_cons_succ, i64_w, i32_w]
                                        rfl
                                      refine pure_ (i := 16) (N := some 72) (v := undef) (a' := ?_) #[true, true, true, true, true, true, true, true, true, true, true, true, true, true, true, true, true, false, false, false, false, false, false, false, false] rfl rfl (any_of HT_.out (by kernel_rfl)) (fun _ _ _ h => h) (Or.inr ⟨by rfl, rfl⟩) ?_ ?_
                                      rotate_left
                                      · simp only [Act.put, List.setIfInBounds_toArray, List.set_cons_zero, List.set_cons_succ, i64_w, i32_w]
                                        rfl
                                      refine pure_ (i := 17) (N := some 73) (v := undef) (a' := ?_) #[true, true, true, true, true, true, true, true, true, true, true, true, true, true, true, true, true, true, false, false, false, false, false, false, false] rfl rfl (any_of HT_.out (by kernel_rfl)) (fun _ _ _ h => h) (Or.inr ⟨by rfl, rfl⟩) ?_ ?_
                                      rotate_left
                                      · simp only [Act.put, List.setIfInBounds_toArray, List.set_cons_zero, List.set_cons_succ, i64_w, i32_w]
                                        rfl
                                      refine pure_ (i := 18) (N := some 74) (v := undef) (a' := ?_) #[true, true, true, true, true, true, true, true, true, true, true, true, true, true, true, true, true, true, true, false, false, false, false, false, false] rfl rfl (any_of HT_.out (by kernel_rfl)) (fun _ _ _ h => h) (Or.inr ⟨by rfl, rfl⟩) ?_ ?_
                                      rotate_left
                                      · simp only [Act.put, List.setIfInBounds_toArray, List.set_cons_zero, List.set_cons_succ, i64_w, i32_w]
                                        rfl
                                      refine pure_ (i := 19) (N := some 75) (v := undef) (a' := ?_) #[true, true, true, true, true, true, true, true, true, true, true, true, true, true, true, true, true, true, true, true, false, false, false, false, false] rfl rfl (any_of HT_.out (by kernel_rfl)) (fun _ _ _ h => h) (Or.inr ⟨by rfl, rfl⟩) ?_ ?_
                                      rotate_left
                                      · simp only [Act.put, List.setIfInBounds_toArray, List.set_cons_zero, List.set_cons_succ, i64_w, i32_w]
                                        rfl
                                      refine pure_ (i := 20) (N := some 76) (v := undef) (a' := ?_) #[true, true, true, true, true, true, true, true, true, true, true, true, true, true, true, true, true, true, true, true, true, false, false, false, false] rfl rfl (any_of HT_.out (by kernel_rfl)) (fun _ _ _ h => h) (Or.inr ⟨by rfl, rfl⟩) ?_ ?_
                                      rotate_left
                                      · simp only [Act.put, List.setIfInBounds_toArray, List.set_cons_zero, List.set_cons_succ, i64_w, i32_w]
                                        rfl
                                      refine pure_ (i := 21) (N := some 77) (v := undef) (a' := ?_) #[true, true, true, true, true, true, true, true, true, true, true, true, true, true, true, true, true, true, true, true, true, true, false, false, false] rfl rfl (any_of HT_.out (by kernel_rfl)) (fun _ _ _ h => h) (Or.inr ⟨by rfl, rfl⟩) ?_ ?_
                                      rotate_left
                                      · simp only [Act.put, List.setIfInBounds_toArray, List.set_cons_zero, List.set_cons_succ, i64_w, i32_w]
                                        rfl
                                      refine pure_ (i := 22) (N := some 78) (v := undef) (a' := ?_) #[true, true, true, true, true, true, true, true, true, true, true, true, true, true, true, true, true, true, true, true, true, true, true, false, false] rfl rfl (any_of HT_.out (by kernel_rfl)) (fun _ _ _ h => h) (Or.inr ⟨by rfl, rfl⟩) ?_ ?_
                                      rotate_left
                                      · simp only [Act.put, List.setIfInBounds_toArray, List.set_cons_zero, List.set_cons_succ, i64_w, i32_w]
                                        rfl
                                      refine pure_ (i := 23) (N := some 79) (v := ?_) (a' := ?_) #[true, true, true, true, true, true, true, true, true, true, true, true, true, true, true, true, true, true, true, true, true, true, true, true, false] rfl rfl (any_of HT_.out (by kernel_rfl)) (fun _ _ _ h => h) (Or.inl ⟨by rfl, ?_⟩) ?_ ?_
                                      rotate_left
                                      · intro w'
                                        go_simp
                                        with_reducible rfl
                                      rotate_left
                                      · simp only [Act.put, List.setIfInBounds_toArray, List.set_cons_zero, List.set_cons_succ, i64_w, i32_w]
                                        rfl
                                      refine pure_ (i := 24) (N := some 13) (v := ?_) (a' := ?_) #[true, true, true, true, true, true, true, true, true, true, true, true, true, true, true, true, true, true, true, true, true, true, true, true, true] rfl rfl (any_of HT_.out (by kernel_rfl)) (fun _ _ _ h => h) (Or.inl ⟨by rfl, ?_⟩) ?_ ?_
                                      rotate_left
                                      · intro w'
                                        go_simp
                                        with_reducible rfl
                                      rotate_left
                                      · simp only [Act.put, List.setIfInBounds_toArray, List.set_cons_zero, List.set_cons_succ, i64_w, i32_w]
                                        rfl
                                      refine done_ (done_of HT_.out (by kernel_rfl)) ?_
                                      try go_wp2
                                      go_roundg k4
                                      case measure => have := HK1.out; have := HK2.out; have := HK3.out; have := HK4.out; omega
                                      case rel => exact ⟨(true), (wrap64 (x15_4 + 1)), (by first | rfl | (simp; done) | (simp [*]; done)), (by first | rfl | (simp; done) | (simp [*]; done)), H', ⟨by have := HK1.out; have := HK2.out; have := HK3.out; have := HK4.out; omega⟩, ⟨by (with_reducible repeat (first | apply Kd.R_alloc | apply Kd.R_drewN | apply Kd.R_drew)); exact HO_9.out⟩, ⟨by repeat (first | (with_reducible first | exact HB.out | apply below_alloc | apply pw_below_drewN | apply below_drew1) | exact HB.out)⟩⟩
                                    · replace c16 := Bool.eq_false_iff.mpr c16
                                      subst c16
                                      have H1 : (if 0 ≤ x10_1 then (if x10_1 < (l0.length : Int) then (if 0 ≤ x12_2 then (if x12_2 < (((rd_T110 l0 x10_1).f1).length : Int) then (if 0 ≤ x15_4 then ((spec_l16Square.f ((rd_T90 ((rd_T110 l0 x10_1).f1) x12_2).f0) ((rd_T90 ((rd_T110 l0 x10_1).f1) x12_2).f1) ((rd_T90 ((rd_T172 l1 x14_3).f2) x15_4).f0) ((rd_T90 ((rd_T172 l1 x14_3).f2) x15_4).f1)).bind fun t1152 => (spec_StrayStrokes.l3 k4 l0 l1 a2 x9_1 x10_1 x11_2 x12_2 (decide (t1152 ≤ (wrap64 (a2 * a2)))) x14_3 (wrap64 (x15_4 + 1)))) else (none)) else (none)) else (none)) else (none)) else (none)) = some (r1, r2) := by rw [if_neg (show ¬ (false = true) by decide)] at H; exact H
                                      clear H
                                      have H := H1
                                      clear H1
                                      by_cases c18 : 0 ≤ x10_1
                                      · rw [if_pos c18] at H
                                        have c18b0 : decide (0 ≤ x10_1) = true := decide_eq_true c18
                                        clear c18
                                        by_cases c19 : x10_1 < (l0.length : Int)
                                        · rw [if_pos c19] at H
                                          have c19b0 : decide (x10_1 < (l0.length : Int)) = true := decide_eq_true c19
                                          clear c19
                                          by_cases c20 : 0 ≤ x12_2
                                          · rw [if_pos c20] at H
                                            have c20b0 : decide (0 ≤ x12_2) = true := decide_eq_true c20
                                            clear c20
                                            by_cases c21 : x12_2 < (((rd_T110 l0 x10_1).f1).length : Int)
                                            · rw [if_pos c21] at H
                                              have c21b0 : decide (x12_2 < (((rd_T110 l0 x10_1).f1).length : Int)) = true := decide_eq_true c21
                                              clear c21
                                              by_cases c22 : 0 ≤ x15_4
                                              · rw [if_pos c22] at H
                                                have c22b0 : decide (0 ≤ x15_4) = true := decide_eq_true c22
                                                clear c22
                                                replace H := Option.bind_eq_some_iff.mp H
                                                obtain ⟨t1152, A230, H⟩ := H
                                                replace H : (spec_StrayStrokes.l3 k4 l0 l1 a2 x9_1 x10_1 x11_2 x12_2 (decide (t1152 ≤ (wrap64 (a2 * a2)))) x14_3 (wrap64 (x15_4 + 1))) = some (r1, r2) := H
                                                have A23 := Aside0.mk A230
                                                clear A230
                                                have H' := Aside0.mk H
                                                clear H
                                                have p1147 : 0 ≤ (x14_3 : Int) := of_decide_eq_true (by first | (with_reducible assumption) | assumption)
                                                have q1147 : x14_3 < (l1.length : Int) := of_decide_eq_true (by first | (with_reducible assumption) | assumption)
                                                obtain ⟨ad1147, A1147_2, c1147_2, e1147, hx1147_0, hx1147_1, hx1147_2, hl1147_2, hi1147_2⟩ := at_T172 HR1.out x14_3 p1147 q1147
                                                cases e1147
                                                replace hx1147_0 := (HB.out.cell (World.block_lt_of_cell? w _ hx1147_0)).trans hx1147_0
                                                replace hx1147_1 := (HB.out.cell (World.block_lt_of_cell? w _ hx1147_1)).trans hx1147_1
                                                replace hx1147_2 := (HB.out.cell (World.block_lt_of_cell? w _ hx1147_2)).trans hx1147_2
                                                have HR1147_2 := Aside0.mk hi1147_2
                                                have HC1147_2 := Aside0.mk hl1147_2
                                                clear hi1147_2 hl1147_2
                                                replace p1147 := eq_true p1147
                                                replace q1147 := eq_true q1147
                                                try go_wp2
                                                have n0_ := Aside0.mk (Kd.R_drew HO_9.out)
                                                have n1_ := Aside0.mk (below_drew1 HB.out)
                                                clear HO_9
                                                clear HB
                                                have HO_9 := n0_
                                                have HB := n1_
                                                clear n0_ n1_
                                                have p1148 : 0 ≤ (x10_1 : Int) := of_decide_eq_true (by first | (with_reducible assumption) | assumption)
                                                have q1148 : x10_1 < (l0.length : Int) := of_decide_eq_true (by first | (with_reducible assumption) | assumption)
                                                obtain ⟨ad1148, A1148_1, c1148_1, e1148, hx1148_0, hx1148_1, hl1148_1, hi1148_1⟩ := at_T110 HR0.out x10_1 p1148 q1148
                                                have hw1148_1 := hx1148_1
                                                have hw1148_0 := hx1148_0
                                                obtain rfl : ad1143 = ad1148 := (by injection e1148)
                                                replace hx1148_0 := (HB.out.cell (World.block_lt_of_cell? w _ hx1148_0)).trans hx1148_0
                                                replace hx1148_1 := (HB.out.cell (World.block_lt_of_cell? w _ hx1148_1)).trans hx1148_1
                                                have HR1148_1 := Aside0.mk hi1148_1
                                                have HC1148_1 := Aside0.mk hl1148_1
                                                clear hi1148_1 hl1148_1
                                                replace p1148 := eq_true p1148
                                                replace q1148 := eq_true q1148
                                                have p1149 : 0 ≤ (x12_2 : Int) := of_decide_eq_true (by first | (with_reducible assumption) | assumption)
                                                have q1149 : x12_2 < (((rd_T110 l0 x10_1).f1).length : Int) := of_decide_eq_true (by first | (with_reducible assumption) | assumption)
                                                obtain ⟨ad1149, e1149, hx1149_0, hx1149_1⟩ := at_T90 HR1148_1.out x12_2 p1149 q1149
                                                have hw1149_1 := hx1149_1
                                                have hw1149_0 := hx1149_0
                                                cases e1149
                                                replace hx1149_0 := (HB.out.cell (World.block_lt_of_cell? w _ hx1149_0)).trans hx1149_0
                                                replace hx1149_1 := (HB.out.cell (World.block_lt_of_cell? w _ hx1149_1)).trans hx1149_1
                                                replace p1149 := eq_true p1149
                                                replace q1149 := eq_true q1149
                                                have p1150 : 0 ≤ (x14_3 : Int) := of_decide_eq_true (by first | (with_reducible assumption) | assumption)
                                                have q1150 : x14_3 < (l1.length : Int) := of_decide_eq_true (by first | (with_reducible assumption) | assumption)
                                                obtain ⟨ad1150, A1150_2, c1150_2, e1150, hx1150_0, hx1150_1, hx1150_2, hl1150_2, hi1150_2⟩ := at_T172 HR1.out x14_3 p1150 q1150
                                                have hw1150_2 := hx1150_2
                                                have hw1150_1 := hx1150_1
                                                have hw1150_0 := hx1150_0
                                                obtain rfl : ad1147 = ad1150 := (by injection e1150)
                                                replace hx1150_0 := (HB.out.cell (World.block_lt_of_cell? w _ hx1150_0)).trans hx1150_0
                                                replace hx1150_1 := (HB.out.cell (World.block_lt_of_cell? w _ hx1150_1)).trans hx1150_1
                                                replace hx1150_2 := (HB.out.cell (World.block_lt_of_cell? w _ hx1150_2)).trans hx1150_2
                                                have HR1150_2 := Aside0.mk hi1150_2
                                                have HC1150_2 := Aside0.mk hl1150_2
                                                clear hi1150_2 hl1150_2
                                                replace p1150 := eq_true p1150
                                                replace q1150 := eq_true q1150
                                                have p1151 : 0 ≤ (x15_4 : Int) := of_decide_eq_true (by first | (with_reducible assumption) | assumption)
                                                have q1151 : x15_4 < (((rd_T172 l1 x14_3).f2).length : Int) := of_decide_eq_true (by first | (with_reducible assumption) | assumption)
                                                obtain ⟨ad1151, e1151, hx1151_0, hx1151_1⟩ := at_T90 HR1150_2.out x15_4 p1151 q1151
                                                have hw1151_1 := hx1151_1
                                                have hw1151_0 := hx1151_0
                                                cases e1151
                                                replace hx1151_0 := (HB.out.cell (World.block_lt_of_cell? w _ hx1151_0)).trans hx1151_0
                                                replace hx1151_1 := (HB.out.cell (World.block_lt_of_cell? w _ hx1151_1)).trans hx1151_1
                                                replace p1151 := eq_true p1151
                                                replace q1151 := eq_true q1151
                                                refine start_ (n := 25) (S := fun w' => w'.cell? (ad1143.add ((x10_1).toNat * 2)) = some (.int .i64 ((rd_T110 l0 x10_1).f0)) ∧ w'.cell? ⟨(ad1143.add ((x10_1).toNat * 2)).block, (ad1143.add ((x10_1).toNat * 2)).off + 1, none⟩ = some (.slice (some ad1149) ((rd_T110 l0 x10_1).f1).length c1148_1) ∧ w'.cell? (ad1149.add ((x12_2).toNat * 2)) = some (.int .i64 ((rd_T90 ((rd_T110 l0 x10_1).f1) x12_2).f0)) ∧ w'.cell? ⟨(ad1149.add ((x12_2).toNat * 2)).block, (ad1149.add ((x12_2).toNat * 2)).off + 1, none⟩ = some (.int .i64 ((rd_T90 ((rd_T110 l0 x10_1).f1) x12_2).f1)) ∧ w'.cell? (ad1147.add ((x14_3).toNat * 3)) = some (.int .i64 ((rd_T172 l1 x14_3).f0)) ∧ w'.cell? ⟨(ad1147.add ((x14_3).toNat * 3)).block, (ad1147.add ((x14_3).toNat * 3)).off + 1, none⟩ = some (.int .i64 ((rd_T172 l1 x14_3).f1)) ∧ w'.cell? ⟨(ad1147.add ((x14_3).toNat * 3)).block, (ad1147.add ((x14_3).toNat * 3)).off + 2, none⟩ = some (.slice (some ad1151) ((rd_T172 l1 x14_3).f2).length c1150_2) ∧ w'.cell? (ad1151.add ((x15_4).toNat * 2)) = some (.int .i64 ((rd_T90 ((rd_T172 l1 x14_3).f2) x15_4).f0)) ∧ w'.cell? ⟨(ad1151.add ((x15_4).toNat * 2)).block, (ad1151.add ((x15_4).toNat * 2)).off + 1, none⟩ = some (.int .i64 ((rd_T90 ((rd_T172 l1 x14_3).f2) x15_4).f1))) (ds := []) #[false, false, false, false, false, false, false, false, false, false, false, false, false, false, false, false, false, false, false, false, false, false, false, false, false] (by kernel_rfl) rfl rfl ⟨((HB.out.cell (World.block_lt_of_cell? w _ hw1148_0)).trans hw1148_0), ((HB.out.cell (World.block_lt_of_cell? w _ hw1148_1)).trans hw1148_1), ((HB.out.cell (World.block_lt_of_cell? w _ hw1149_0)).trans hw1149_0), ((HB.out.cell (World.block_lt_of_cell? w _ hw1149_1)).trans hw1149_1), ((HB.out.cell (World.block_lt_of_cell? w _ hw1150_0)).trans hw1150_0), ((HB.out.cell (World.block_lt_of_cell? w _ hw1150_1)).trans hw1150_1), ((HB.out.cell (World.block_lt_of_cell? w _ hw1150_2)).trans hw1150_2), ((HB.out.cell (World.block_lt_of_cell? w _ hw1151_0)).trans hw1151_0), ((HB.out.cell (World.block_lt_of_cell? w _ hw1151_1)).trans hw1151_1)⟩ (fun hHeld => ?_); refine with_tabW spec_StrayStrokes.tab19 spec_StrayStrokes.bits19 (fun HT_ HW_ => ?_)
                                                generalize wr.drew = w24 at HO_9 HB HR1148_1 HR1150_2 hx1148_0 hx1148_1 hx1149_0 hx1149_1 hx1150_0 hx1150_1 hx1150_2 hx1151_0 hx1151_1 hHeld ⊢
                                                refine pure_ (i := 0) (N := some 56) (v := ?_) (a' := ?_) #[true, false, false, false, false, false, false, false, false, false, false, false, false, false, false, false, false, false, false, false, false, false, false, false, false] rfl rfl (any_of HT_.out (by kernel_rfl)) (fun _ _ _ h => h) (Or.inl ⟨by rfl, ?_⟩) ?_ ?_
                                                rotate_left
                                                · intro w'
                                                  go_simp
                                                  with_reducible rfl
                                                rotate_left
                                                · simp only [Act.put, List.setIfInBounds_toArray, List.set_cons_zero, List.set_cons_succ, i64_w, i32_w]
                                                  rfl
                                                refine pure_ (i := 1) (N := some 57) (v := ?_) (a' := ?_) #[true, true, false, false, false, false, false, false, false, false, false, false, false, false, false, false, false, false, false, false, false, false, false, false, false] rfl rfl (any_of HT_.out (by kernel_rfl)) (fun _ _ _ h => h) (Or.inl ⟨by rfl, ?_⟩) ?_ ?_
                                                rotate_left
                                                · intro w'
                                                  go_simp
                                                  with_reducible rfl
                                                rotate_left
                                                · simp only [Act.put, List.setIfInBounds_toArray, List.set_cons_zero, List.set_cons_succ, i64_w, i32_w]
                                                  rfl
                                                refine pure_ (i := 2) (N := some 58) (v := ?_) (a' := ?_) #[true, true, true, false, false, false, false, false, false, false, false, false, false, false, false, false, false, false, false, false, false, false, false, false, false] rfl rfl (any_of HT_.out (by kernel_rfl)) (fun _ _ _ h => h) (Or.inl ⟨by rfl, ?_⟩) ?_ ?_
                                                rotate_left
                                                · intro w'
                                                  go_simp
                                                  with_reducible rfl
                                                rotate_left
                                                · simp only [Act.put, List.setIfInBounds_toArray, List.set_cons_zero, List.set_cons_succ, i64_w, i32_w]
                                                  rfl
                                                refine pure_ (i := 3) (N := some 59) (v := ?_) (a' := ?_) #[true, true, true, true, false, false, false, false, false, false, false, false, false, false, false, false, false, false, false, false, false, false, false, false, false] rfl rfl (any_of HT_.out (by kernel_rfl)) (fun _ _ _ h => h) (Or.inl ⟨by rfl, ?_⟩) ?_ ?_
                                                rotate_left
                                                · intro w'
                                                  go_simp
                                                  with_reducible rfl
                                                rotate_left
                                                · simp only [Act.put, List.setIfInBounds_toArray, List.set_cons_zero, List.set_cons_succ, i64_w, i32_w]
                                                  rfl
                                                refine pure_ (i := 4) (N := some 60) (v := ?_) (a' := ?_) #[true, true, true, true, true, false, false, false, false, false, false, false, false, false, false, false, false, false, false, false, false, false, false, false, false] rfl rfl (any_of HT_.out (by kernel_rfl)) (fun _ _ _ h => h) (Or.inl ⟨by rfl, ?_⟩) ?_ ?_
                                                rotate_left
                                                · intro w'
                                                  go_simp
                                                  with_reducible rfl
                                                rotate_left
                                                · simp only [Act.put, List.setIfInBounds_toArray, List.set_cons_zero, List.set_cons_succ, i64_w, i32_w]
                                                  rfl
                                                refine pure_ (i := 5) (N := some 61) (v := ?_) (a' := ?_) #[true, true, true, true, true, true, false, false, false, false, false, false, false, false, false, false, false, false, false, false, false, false, false, false, false] rfl rfl (any_of HT_.out (by kernel_rfl)) (fun _ _ _ h => h) (Or.inl ⟨by rfl, ?_⟩) ?_ ?_
                                                rotate_left
                                                · intro w'
                                                  go_simp
                                                  with_reducible rfl
                                                rotate_left
                                                · simp only [Act.put, List.setIfInBounds_toArray, List.set_cons_zero, List.set_cons_succ, i64_w, i32_w]
                                                  rfl
                                                refine pure_ (i := 7) (N := some 63) (v := ?_) (a' := ?_) #[true, true, true, true, true, true, false, true, false, false, false, false, false, false, false, false, false, false, false, false, false, false, false, false, false] rfl rfl (any_of HT_.out (by kernel_rfl)) (fun _ _ _ h => h) (Or.inl ⟨by rfl, ?_⟩) ?_ ?_
                                                rotate_left
                                                · intro w'
                                                  go_simp
                                                  with_reducible rfl
                                                rotate_left
                                                · simp only [Act.put, List.setIfInBounds_toArray, List.set_cons_zero, List.set_cons_succ, i64_w, i32_w]
                                                  rfl
                                                refine pure_ (i := 10) (N := some 66) (v := ?_) (a' := ?_) #[true, true, true, true, true, true, false, true, false, false, true, false, false, false, false, false, false, false, false, false, false, false, false, false, false] rfl rfl (any_of HT_.out (by kernel_rfl)) (fun _ _ _ h => h) (Or.inl ⟨by rfl, ?_⟩) ?_ ?_
                                                rotate_left
                                                · intro w'
                                                  go_simp
                                                  with_reducible rfl
                                                rotate_left
                                                · simp only [Act.put, List.setIfInBounds_toArray, List.set_cons_zero, List.set_cons_succ, i64_w, i32_w]
                                                  rfl
                                                refine pure_ (i := 11) (N := some 67) (v := ?_) (a' := ?_) #[true, true, true, true, true, true, false, true, false, false, true, true, false, false, false, false, false, false, false, false, false, false, false, false, false] rfl rfl (any_of HT_.out (by kernel_rfl)) (fun _ _ _ h => h) (Or.inl ⟨by rfl, ?_⟩) ?_ ?_
                                                rotate_left
                                                · intro w'
                                                  go_simp
                                                  with_reducible rfl
                                                rotate_left
                                                · simp only [Act.put, List.setIfInBounds_toArray, List.set_cons_zero, List.set_cons_succ, i64_w, i32_w]
                                                  rfl
                                                refine pure_ (i := 12) (N := some 68) (v := ?_) (a' := ?_) #[true, true, true, true, true, true, false, true, false, false, true, true, true, false, false, false, false, false, false, false, false, false, false, false, false] rfl rfl (any_of HT_.out (by kernel_rfl)) (fun _ _ _ h => h) (Or.inl ⟨by rfl, ?_⟩) ?_ ?_
                                                rotate_left
                                                · intro w'
                                                  go_simp
                                                  with_reducible rfl
                                                rotate_left
                                                · simp only [Act.put, List.setIfInBounds_toArray, List.set_cons_zero, List.set_cons_succ, i64_w, i32_w]
                                                  rfl
                                                refine pure_ (i := 13) (N := some 69) (v := ?_) (a' := ?_) #[true, true, true, true, true, true, false, true, false, false, true, true, true, true, false, false, false, false, false, false, false, false, false, false, false] rfl rfl (any_of HT_.out (by kernel_rfl)) (fun _ _ _ h => h) (Or.inl ⟨by rfl, ?_⟩) ?_ ?_
                                                rotate_left
                                                · intro w'
                                                  go_simp
                                                  with_reducible rfl
                                                rotate_left
                                                · simp only [Act.put, List.setIfInBounds_toArray, List.set_cons_zero, List.set_cons_succ, i64_w, i32_w]
                                                  rfl
                                                refine pure_ (i := 15) (N := some 71) (v := ?_) (a' := ?_) #[true, true, true, true, true, true, false, true, false, false, true, true, true, true, false, true, false, false, false, false, false, false, false, false, false] rfl rfl (any_of HT_.out (by kernel_rfl)) (fun _ _ _ h => h) (Or.inl ⟨by rfl, ?_⟩) ?_ ?_
                                                rotate_left
                                                · intro w'
                                                  go_simp
                                                  with_reducible rfl
                                                rotate_left
                                                · simp only [Act.put, List.setIfInBounds_toArray, List.set_cons_zero, List.set_cons_succ, i64_w, i32_w]
                                                  rfl
                                                refine pure_ (i := 19) (N := some 75) (v := ?_) (a' := ?_) #[true, true, true, true, true, true, false, true, false, false, true, true, true, true, false, true, false, false, false, true, false, false, false, false, false] rfl rfl (any_of HT_.out (by kernel_rfl)) (fun _ _ _ h => h) (Or.inl ⟨by rfl, ?_⟩) ?_ ?_
                                                rotate_left
                                                · intro w'
                                                  go_simp
                                                  with_reducible rfl
                                                rotate_left
                                                · simp only [Act.put, List.setIfInBounds_toArray, List.set_cons_zero, List.set_cons_succ, i64_w, i32_w]
                                                  rfl
                                                refine pure_ (i := 20) (N := some 76) (v := ?_) (a' := ?_) #[true, true, true, true, true, true, false, true, false, false, true, true, true, true, false, true, false, false, false, true, true, false, false, false, false] rfl rfl (any_of HT_.out (by kernel_rfl)) (fun _ _ _ h => h) (Or.inl ⟨by rfl, ?_⟩) ?_ ?_
                                                rotate_left
                                                · intro w'
                                                  go_simp
                                                  with_reducible rfl
                                                rotate_left
                                                · simp only [Act.put, List.setIfInBounds_toArray, List.set_cons_zero, List.set_cons_succ, i64_w, i32_w]
                                                  rfl
                                                refine pure_ (i := 21) (N := some 77) (v := ?_) (a' := ?_) #[true, true, true, true, true, true, false, true, false, false, true, true, true, true, false, true, false, false, false, true, true, true, false, false, false] rfl rfl (any_of HT_.out (by kernel_rfl)) (fun _ _ _ h => h) (Or.inl ⟨by rfl, ?_⟩) ?_ ?_
                                                rotate_left
                                                · intro w'
                                                  go_simp
                                                  with_reducible rfl
                                                rotate_left
                                                · simp only [Act.put, List.setIfInBounds_toArray, List.set_cons_zero, List.set_cons_succ, i64_w, i32_w]
                                                  rfl
                                                refine take_ (i := 6) (N := some 62) (v := ?_) (a' := ?_) #[true, true, true, true, true, true, true, true, false, false, true, true, true, true, false, true, false, false, false, true, true, true, false, false, false] rfl rfl (take_ofW HT_.out HW_.out (by kernel_rfl)) (fun _ _ _ h => h) (Or.inl ⟨by rfl, ?_⟩) hHeld ?_ ?_
                                                rotate_left
                                                · rintro w' ⟨s0, s1, s2, s3, s4, s5, s6, s7, s8⟩
                                                  go_simp
                                                  with_reducible rfl
                                                rotate_left
                                                · simp only [Act.put, List.setIfInBounds_toArray, List.set_cons_zero, List.set_cons_succ, i64_w, i32_w]
                                                  rfl
                                                refine pure_ (i := 8) (N := some 64) (v := ?_) (a' := ?_) #[true, true, true, true, true, true, true, true, true, false, true, true, true, true, false, true, false, false, false, true, true, true, false, false, false] rfl rfl (any_of HT_.out (by kernel_rfl)) (fun _ _ _ h => h) (Or.inl ⟨by rfl, ?_⟩) ?_ ?_
                                                rotate_left
                                                · intro w'
                                                  go_simp
                                                  with_reducible rfl
                                                rotate_left
                                                · simp only [Act.put, List.setIfInBounds_toArray, List.set_cons_zero, List.set_cons_succ, i64_w, i32_w]
                                                  rfl
                                                refine take_ (i := 9) (N := some 65) (v := ?_) (a' := ?_) #[true, true, true, true, true, true, true, true, true, true, true, true, true, true, false, true, false, false, false, true, true, true, false, false, false] rfl rfl (take_ofW HT_.out HW_.out (by kernel_rfl)) (fun _ _ _ h => h) (Or.inl ⟨by rfl, ?_⟩) hHeld ?_ ?_
                                                rotate_left
                                                · rintro w' ⟨s0, s1, s2, s3, s4, s5, s6, s7, s8⟩
                                                  go_simp
                                                  with_reducible rfl
                                                rotate_left
                                                · simp only [Act.put, List.setIfInBounds_toArray, List.set_cons_zero, List.set_cons_succ, i64_w, i32_w]
                                                  rfl
                                                refine take_ (i := 14) (N := some 70) (v := ?_) (a' := ?_) #[true, true, true, true, true, true, true, true, true, true, true, true, true, true, true, true, false, false, false, true, true, true, false, false, false] rfl rfl (take_ofW HT_.out HW_.out (by kernel_rfl)) (fun _ _ _ h => h) (Or.inl ⟨by rfl, ?_⟩) hHeld ?_ ?_
                                                rotate_left
                                                · rintro w' ⟨s0, s1, s2, s3, s4, s5, s6, s7, s8⟩
                                                  go_simp
                                                  with_reducible rfl
                                                rotate_left
                                                · simp only [Act.put, List.setIfInBounds_toArray, List.set_cons_zero, List.set_cons_succ, i64_w, i32_w]
                                                  rfl
                                                refine pure_ (i := 16) (N := some 72) (v := ?_) (a' := ?_) #[true, true, true, true, true, true, true, true, true, true, true, true, true, true, true, true, true, false, false, true, true, true, false, false, false] rfl rfl (any_of HT_.out (by kernel_rfl)) (fun _ _ _ h => h) (Or.inl ⟨by rfl, ?_⟩) ?_ ?_
                                                rotate_left
                                                · intro w'
                                                  go_simp
                                                  with_reducible rfl
                                                rotate_left
                                                · simp only [Act.put, List.setIfInBounds_toArray, List.set_cons_zero, List.set_cons_succ, i64_w, i32_w]
                                                  rfl
                                                refine take_ (i := 17) (N := some 73) (v := ?_) (a' := ?_) #[true, true, true, true, true, true, true, true, true, true, true, true, true, true, true, true, true, true, false, true, true, true, false, false, false] rfl rfl (take_ofW HT_.out HW_.out (by kernel_rfl)) (fun _ _ _ h => h) (Or.inl ⟨by rfl, ?_⟩) hHeld ?_ ?_
                                                rotate_left
                                                · rintro w' ⟨s0, s1, s2, s3, s4, s5, s6, s7, s8⟩
                                                  go_simp
                                                  with_reducible rfl
                                                rotate_left
                                                · simp only [Act.put, List.setIfInBounds_toArray, List.set_cons_zero, List.set_cons_succ, i64_w, i32_w]
                                                  rfl
                                                refine one_ (i := 18) (N := some 74) #[true, true, true, true, true, true, true, true, true, true, true, true, true, true, true, true, true, true, true, true, true, true, false, false, false] rfl rfl (one_of HT_.out (by kernel_rfl)) (by decide) (fun K hK => ?_)
                                                refine goes_ Try.func72 (by kernel_rfl) rfl #[.agg #[.int .i64 ((rd_T90 ((rd_T110 l0 x10_1).f1) x12_2).f0), .int .i64 ((rd_T90 ((rd_T110 l0 x10_1).f1) x12_2).f1)], .agg #[.int .i64 ((rd_T90 ((rd_T172 l1 x14_3).f2) x15_4).f0), .int .i64 ((rd_T90 ((rd_T172 l1 x14_3).f2) x15_4).f1)]] (by rfl) rfl rfl (by (try simp only [List.map_toArray, List.map_cons, List.map_nil]); first | done | rfl | (simp only [List.length_drop, List.length_take]; rfl)) ?_
                                                with_reducible refine (spec_l16Square.calls ((rd_T90 ((rd_T110 l0 x10_1).f1) x12_2).f0) ((rd_T90 ((rd_T110 l0 x10_1).f1) x12_2).f1) ((rd_T90 ((rd_T172 l1 x14_3).f2) x15_4).f0) ((rd_T90 ((rd_T172 l1 x14_3).f2) x15_4).f1) t1152 _ A23.out).mono ?_
                                                rintro e w25 ⟨rfl, hb⟩
                                                refine ⟨_, rfl, ?_⟩
                                                have n0_ := Aside0.mk (Kd.R_below (by (with_reducible repeat (first | apply Kd.R_alloc | apply Kd.R_drewN | apply Kd.R_drew)); exact HO_9.out) hb)
                                                have n1_ := Aside0.mk (below_step (by repeat (first | (with_reducible first | exact HB.out | apply below_alloc | apply pw_below_drewN | apply below_drew1) | exact HB.out)) hb)
                                                clear HO_9
                                                clear HB
                                                have HO_9 := n0_
                                                have HB := n1_
                                                clear n0_ n1_
                                                (try clear hb)
                                                (try clear hb2)
                                                (try clear hk)
                                                (try clear hi)
                                                refine hK.out _ _ ⟨((HB.out.cell (World.block_lt_of_cell? w _ hw1148_0)).trans hw1148_0), ((HB.out.cell (World.block_lt_of_cell? w _ hw1148_1)).trans hw1148_1), ((HB.out.cell (World.block_lt_of_cell? w _ hw1149_0)).trans hw1149_0), ((HB.out.cell (World.block_lt_of_cell? w _ hw1149_1)).trans hw1149_1), ((HB.out.cell (World.block_lt_of_cell? w _ hw1150_0)).trans hw1150_0), ((HB.out.cell (World.block_lt_of_cell? w _ hw1150_1)).trans hw1150_1), ((HB.out.cell (World.block_lt_of_cell? w _ hw1150_2)).trans hw1150_2), ((HB.out.cell (World.block_lt_of_cell? w _ hw1151_0)).trans hw1151_0), ((HB.out.cell (World.block_lt_of_cell? w _ hw1151_1)).trans hw1151_1)⟩ (fun hHeld => ?_)
                                                clear hK K
                                                refine norm_ (a' := ?_) ?_ ?_
                                                rotate_left
                                                · show Act.put _ (some 74) _ = _
                                                  simp only [Act.put, List.setIfInBounds_toArray, List.set_cons_zero, List.set_cons_succ, i64_w, i32_w]
                                                  rfl
                                                refine pure_ (i := 22) (N := some 78) (v := ?_) (a' := ?_) #[true, true, true, true, true, true, true, true, true, true, true, true, true, true, true, true, true, true, true, true, true, true, true, false, false] rfl rfl (any_of HT_.out (by kernel_rfl)) (fun _ _ _ h => h) (Or.inl ⟨by rfl, ?_⟩) ?_ ?_
                                                rotate_left
                                                · intro w'
                                                  go_simp
                                                  with_reducible rfl
                                                rotate_left
                                                · simp only [Act.put, List.setIfInBounds_toArray, List.set_cons_zero, List.set_cons_succ, i64_w, i32_w]
                                                  rfl
                                                refine pure_ (i := 23) (N := some 79) (v := ?_) (a' := ?_) #[true, true, true, true, true, true, true, true, true, true, true, true, true, true, true, true, true, true, true, true, true, true, true, true, false] rfl rfl (any_of HT_.out (by kernel_rfl)) (fun _ _ _ h => h) (Or.inl ⟨by rfl, ?_⟩) ?_ ?_
                                                rotate_left
                                                · intro w'
                                                  go_simp
                                                  with_reducible rfl
                                                rotate_left
                                                · simp only [Act.put, List.setIfInBounds_toArray, List.set_cons_zero, List.set_cons_succ, i64_w, i32_w]
                                                  rfl
                                                refine pure_ (i := 24) (N := some 13) (v := ?_) (a' := ?_) #[true, true, true, true, true, true, true, true, true, true, true, true, true, true, true, true, true, true, true, true, true, true, true, true, true] rfl rfl (any_of HT_.out (by kernel_rfl)) (fun _ _ _ h => h) (Or.inl ⟨by rfl, ?_⟩) ?_ ?_
                                                rotate_left
                                                · intro w'
                                                  go_simp
                                                  with_reducible rfl
                                                rotate_left
                                                · simp only [Act.put, List.setIfInBounds_toArray, List.set_cons_zero, List.set_cons_succ, i64_w, i32_w]
                                                  rfl
                                                refine done_ (done_of HT_.out (by kernel_rfl)) ?_
                                                try go_wp2
                                                go_roundg k4
                                                case measure => have := HK1.out; have := HK2.out; have := HK3.out; have := HK4.out; omega
                                                case rel => exact ⟨(decide (t1152 ≤ (wrap64 (a2 * a2)))), (wrap64 (x15_4 + 1)), (by first | rfl | (simp; done) | (simp [*]; done)), (by first | rfl | (simp; done) | (simp [*]; done)), H', ⟨by have := HK1.out; have := HK2.out; have := HK3.out; have := HK4.out; omega⟩, ⟨by (with_reducible repeat (first | apply Kd.R_alloc | apply Kd.R_drewN | apply Kd.R_drew)); exact HO_9.out⟩, ⟨by repeat (first | (with_reducible first | exact HB.out | apply below_alloc | apply pw_below_drewN | apply below_drew1) | exact HB.out)⟩⟩
                                              · rw [if_neg c22] at H
                                                exact absurd H (by simp)
                                            · rw [if_neg c21] at H
                                              exact absurd H (by simp)
                                          · rw [if_neg c20] at H
                                            exact absurd H (by simp)
                                        · rw [if_neg c19] at H
                                          exact absurd H (by simp)
                                      · rw [if_neg c18] at H
                                        exact absurd H (by simp)
                                  · rw [if_neg c15] at H
                                    have c15b0 : decide (x15_4 < (((rd_T172 l1 x14_3).f2).length : Int)) = false := decide_eq_false c15
                                    clear c15
                                    have H' := Aside0.mk H
                                    clear H
                                    have p1147 : 0 ≤ (x14_3 : Int) := of_decide_eq_true (by first | (with_reducible assumption) | assumption)
                                    have q1147 : x14_3 < (l1.length : Int) := of_decide_eq_true (by first | (with_reducible assumption) | assumption)
                                    obtain ⟨ad1147, A1147_2, c1147_2, e1147, hx1147_0, hx1147_1, hx1147_2, hl1147_2, hi1147_2⟩ := at_T172 HR1.out x14_3 p1147 q1147
                                    cases e1147
                                    replace hx1147_0 := (HB.out.cell (World.block_lt_of_cell? w _ hx1147_0)).trans hx1147_0
                                    replace hx1147_1 := (HB.out.cell (World.block_lt_of_cell? w _ hx1147_1)).trans hx1147_1
                                    replace hx1147_2 := (HB.out.cell (World.block_lt_of_cell? w _ hx1147_2)).trans hx1147_2
                                    have HR1147_2 := Aside0.mk hi1147_2
                                    have HC1147_2 := Aside0.mk hl1147_2
                                    clear hi1147_2 hl1147_2
                                    replace p1147 := eq_true p1147
                                    replace q1147 := eq_true q1147
                                    go_wp2
                                    go_roundg k4
                                    case measure => have := HK1.out; have := HK2.out; have := HK3.out; have := HK4.out; omega
                                    case rel => exact ⟨(x13_4), (wrap64 (x14_3 + 1)), (by first | rfl | (simp; done) | (simp [*]; done)), (by first | rfl | (simp; done) | (simp [*]; done)), H', ⟨by have := HK1.out; have := HK2.out; have := HK3.out; have := HK4.out; omega⟩, ⟨by (with_reducible repeat (first | apply Kd.R_alloc | apply Kd.R_drewN | apply Kd.R_drew)); exact HO_9.out⟩, ⟨by repeat (first | (with_reducible first | exact HB.out | apply below_alloc | apply pw_below_drewN | apply below_drew1) | exact HB.out)⟩⟩
                                · rw [if_neg c14] at H
                                  exact absurd H (by simp)
                              · rw [if_neg c13] at H
                                exact absurd H (by simp)
                        · rw [if_neg c12] at H
                          have c12b0 : decide (x14_3 < (l1.length : Int)) = false := decide_eq_false c12
                          clear c12
                          by_cases c26 : x11_2 = true
                          · subst c26
                            have H1 : (spec_StrayStrokes.l1 k3 l0 l1 a2 x9_1 x10_1 true (wrap64 (x12_2 + 1))) = some (r1, r2) := by rw [if_pos rfl] at H; exact H
                            clear H
                            have H := H1
                            clear H1
                            have H' := Aside0.mk H
                            clear H
                            go_wp2
                            go_roundg k3
                            case measure => have := HK1.out; have := HK2.out; have := HK3.out; omega
                            case rel => exact ⟨(true), (wrap64 (x12_2 + 1)), (by first | rfl | (simp; done) | (simp [*]; done)), (by first | rfl | (simp; done) | (simp [*]; done)), H', ⟨by have := HK1.out; have := HK2.out; have := HK3.out; omega⟩, ⟨by (with_reducible repeat (first | apply Kd.R_alloc | apply Kd.R_drewN | apply Kd.R_drew)); exact HO_9.out⟩, ⟨by repeat (first | (with_reducible first | exact HB.out | apply below_alloc | apply pw_below_drewN | apply below_drew1) | exact HB.out)⟩⟩
                          · replace c26 := Bool.eq_false_iff.mpr c26
                            subst c26
                            have H1 : (spec_StrayStrokes.l1 k3 l0 l1 a2 x9_1 x10_1 (!x13_3) (wrap64 (x12_2 + 1))) = some (r1, r2) := by rw [if_neg (show ¬ (false = true) by decide)] at H; exact H
                            clear H
                            have H := H1
                            clear H1
                            have H' := Aside0.mk H
                            clear H
                            go_wp2
                            go_roundg k3
                            case measure => have := HK1.out; have := HK2.out; have := HK3.out; omega
                            case rel => exact ⟨(!x13_3), (wrap64 (x12_2 + 1)), (by first | rfl | (simp; done) | (simp [*]; done)), (by first | rfl | (simp; done) | (simp [*]; done)), H', ⟨by have := HK1.out; have := HK2.out; have := HK3.out; omega⟩, ⟨by (with_reducible repeat (first | apply Kd.R_alloc | apply Kd.R_drewN | apply Kd.R_drew)); exact HO_9.out⟩, ⟨by repeat (first | (with_reducible first | exact HB.out | apply below_alloc | apply pw_below_drewN | apply below_drew1) | exact HB.out)⟩⟩
                  · rw [if_neg c11] at H
                    have c11b0 : decide (x12_2 < (((rd_T110 l0 x10_1).f1).length : Int)) = false := decide_eq_false c11
                    clear c11
                    by_cases c27 : x11_2 = true
                    · subst c27
                      have H1 : (if x9_1.length < 17592186044416 then (spec_StrayStrokes.l0 k2 l0 l1 a2 (x9_1 ++ [x10_1]) (wrap64 (x10_1 + 1))) else (none)) = some (r1, r2) := by rw [if_pos rfl] at H; exact H
                      clear H
                      have H := H1
                      clear H1
                      by_cases c28 : x9_1.length < 17592186044416
                      · rw [if_pos c28] at H
                        have LMc28 := Aside0.mk c28
                        clear c28
                        obtain ⟨y1144, hy1144⟩ : ∃ y_ : List Int, y_ = (x9_1 ++ [x10_1]) := ⟨_, rfl⟩
                        replace H : (spec_StrayStrokes.l0 k2 l0 l1 a2 y1144 (wrap64 (x10_1 + 1))) = some (r1, r2) := by first | (rw [hy1144]; with_reducible exact H) | (have H2_ := (Option.bind_some _ _).symm.trans H; rw [hy1144]; with_reducible exact H2_) | (have H2_ := (Option.bind_some _ _).symm.trans H; with_reducible exact H2_) | with_reducible exact H | (rw [hy1144]; exact H) | exact H
                        have Ny1144 := Aside0.mk hy1144
                        clear hy1144
                        have H' := Aside0.mk H
                        clear H
                        have p1143 : 0 ≤ (x10_1 : Int) := of_decide_eq_true (by first | (with_reducible assumption) | assumption)
                        have q1143 : x10_1 < (l0.length : Int) := of_decide_eq_true (by first | (with_reducible assumption) | assumption)
                        obtain ⟨ad1143, A1143_1, c1143_1, e1143, hx1143_0, hx1143_1, hl1143_1, hi1143_1⟩ := at_T110 HR0.out x10_1 p1143 q1143
                        cases e1143
                        replace hx1143_0 := (HB.out.cell (World.block_lt_of_cell? w _ hx1143_0)).trans hx1143_0
                        replace hx1143_1 := (HB.out.cell (World.block_lt_of_cell? w _ hx1143_1)).trans hx1143_1
                        have HR1143_1 := Aside0.mk hi1143_1
                        have HC1143_1 := Aside0.mk hl1143_1
                        clear hi1143_1 hl1143_1
                        replace p1143 := eq_true p1143
                        replace q1143 := eq_true q1143
                        go_wp2_with (first | ((with_reducible refine gate_builtin (b := .append) (xs := #[.tmp 86, .tmp 88]) rfl ?_); at_builtin; refine Kd.R_append (Kd.int .i64) (w0 := w) w.heap.size rfl (.tmp 86) (.tmp 88) 24 2 (.int .i64 0) 8 rfl Try.underlying24 info2 rfl (by decide) (by omega) u9 x9_1 x10_1 [.int .i64 x10_1] (fun _ => True) (fun _ => False) rfl rfl ?aP (fun _ hk => hk.elim) ?aF ?aO ?aB ?aS ?aL ?_; (case aP => exact rfl); (case aB => exact (by repeat (first | (with_reducible first | exact HB.out | apply below_alloc | apply pw_below_drewN | apply below_drew1) | exact HB.out))); (case aF => exact (fun _ _ => trivial)); (case aO => exact (by (with_reducible repeat (first | apply Kd.R_alloc | apply Kd.R_drewN | apply Kd.R_drew)); exact HO_9.out)); (case aS => exact (below_size (by repeat (first | (with_reducible first | exact HB.out | apply below_alloc | apply pw_below_drewN | apply below_drew1) | exact HB.out)))); (case aL => have := LMc28.out; omega); intro v1145 w29 ho hb hg hat; rw [← Ny1144.out] at ho; have n0_ := Aside0.mk (hb); have n1_ := Aside0.mk (ho); clear HB; clear HO_9; have HB := n0_; have HO1146 := n1_; clear n0_ n1_; clear ho hb hg hat))
                        go_roundg k2
                        case measure => have := HK1.out; have := HK2.out; omega
                        case rel => exact ⟨(y1144), (wrap64 (x10_1 + 1)), (by first | rfl | (simp; done) | (simp [*]; done)), H', ⟨by have := HK1.out; have := HK2.out; omega⟩, ⟨by (with_reducible repeat (first | apply Kd.R_alloc | apply Kd.R_drewN | apply Kd.R_drew)); exact HO1146.out⟩, ⟨by repeat (first | (with_reducible first | exact HB.out | apply below_alloc | apply pw_below_drewN | apply below_drew1) | exact HB.out)⟩⟩
                      · rw [if_neg c28] at H
                        exact absurd H (by simp)
                    · replace c27 := Bool.eq_false_iff.mpr c27
                      subst c27
                      have H1 : (spec_StrayStrokes.l0 k2 l0 l1 a2 x9_1 (wrap64 (x10_1 + 1))) = some (r1, r2) := by rw [if_neg (show ¬ (false = true) by decide)] at H; exact H
                      clear H
                      have H := H1
                      clear H1
                      have H' := Aside0.mk H
                      clear H
                      have p1143 : 0 ≤ (x10_1 : Int) := of_decide_eq_true (by first | (with_reducible assumption) | assumption)
                      have q1143 : x10_1 < (l0.length : Int) := of_decide_eq_true (by first | (with_reducible assumption) | assumption)
                      obtain ⟨ad1143, A1143_1, c1143_1, e1143, hx1143_0, hx1143_1, hl1143_1, hi1143_1⟩ := at_T110 HR0.out x10_1 p1143 q1143
                      cases e1143
                      replace hx1143_0 := (HB.out.cell (World.block_lt_of_cell? w _ hx1143_0)).trans hx1143_0
                      replace hx1143_1 := (HB.out.cell (World.block_lt_of_cell? w _ hx1143_1)).trans hx1143_1
                      have HR1143_1 := Aside0.mk hi1143_1
                      have HC1143_1 := Aside0.mk hl1143_1
                      clear hi1143_1 hl1143_1
                      replace p1143 := eq_true p1143
                      replace q1143 := eq_true q1143
                      go_wp2
                      go_roundg k2
                      case measure => have := HK1.out; have := HK2.out; omega
                      case rel => exact ⟨(x9_1), (wrap64 (x10_1 + 1)), (by first | rfl | (simp; done) | (simp [*]; done)), H', ⟨by have := HK1.out; have := HK2.out; omega⟩, ⟨by (with_reducible repeat (first | apply Kd.R_alloc | apply Kd.R_drewN | apply Kd.R_drew)); exact HO_9.out⟩, ⟨by repeat (first | (with_reducible first | exact HB.out | apply below_alloc | apply pw_below_drewN | apply below_drew1) | exact HB.out)⟩⟩
                · rw [if_neg c10] at H
                  exact absurd H (by simp)
              · rw [if_neg c9] at H
                exact absurd H (by simp)
        · rw [if_neg c8] at H
          have c8b0 : decide (x10_1 < (l0.length : Int)) = false := decide_eq_false c8
          clear c8
          simp only [Option.some.injEq, Prod.mk.injEq] at H
          obtain ⟨rfl, rfl⟩ := H
          go_wp2
          go_ret2
          exact ⟨_, by first | rfl | (simp [errW_none, errW_some] <;> rfl) | (simp [*, errW_none, errW_some] <;> rfl), by (with_reducible repeat (first | apply Kd.R_alloc | apply Kd.R_drewN | apply Kd.R_drew)); exact HO_9.out, by repeat (first | (with_reducible first | exact HB.out | apply below_alloc | apply pw_below_drewN | apply below_drew1) | exact HB.out)⟩
  · rw [if_neg c5] at H
    have c5b0 : (t1139 == 0) = false := beq_eq_false_iff_ne.mpr c5
    have c5b1 : (t1139 != 0) = true := bne_iff_ne.mpr c5
    simp only [Option.some.injEq, Prod.mk.injEq] at H
    obtain ⟨rfl, rfl⟩ := H
    go_enter Try.func61, Try.ntmps61
    go_wp2_with (first | ((with_reducible refine gate_callee (f := 127) rfl ?_); refine goesL_ (some 19) rfl rfl Try.func127 (by kernel_rfl) rfl #[.slice A0 l0.length c0, .slice A1 l1.length c1, .int .i64 a2] rfl (by (try simp only [List.map_toArray, List.map_cons, List.map_nil]); first | done | rfl | (simp only [List.length_drop, List.length_take]; rfl)) ?_; (with_reducible refine (spec_l32Code.calls k _ _ l0 _ _ l1 a2 t1139 _ ?side1 ?side2 ?side3 ?side4 A4.out).mono ?_); (case side1 => repeat (first | exact HR0.out | (with_reducible refine Kd.C_alloc ?_ _) | (with_reducible refine Kd.C_drewN ?_ _) | (with_reducible refine Kd.C_drew ?_))); (case side2 => exact HC0.out); (case side3 => repeat (first | exact HR1.out | (with_reducible refine Kd.C_alloc ?_ _) | (with_reducible refine Kd.C_drewN ?_ _) | (with_reducible refine Kd.C_drew ?_))); (case side4 => exact HC1.out); rintro e w' ⟨rfl, ⟨nd, rfl⟩⟩; refine ⟨_, rfl, ?_⟩))
    go_ret2
    exact ⟨_, by first | rfl | (simp [errW_none, errW_some] <;> rfl) | (simp [*, errW_none, errW_some] <;> rfl), by first | exact Kd.R_nil _ _ _ _ _ | exact Kd.N_nil _ _ _ _ _ | exact Kd.V_nil _ _ _ _ _ | exact Kd.Q_nil _ _ _ _ _ | exact Kd.S_nil _ _ _ _ _, by repeat (first | (with_reducible first | exact HB.out | apply below_alloc | apply pw_below_drewN | apply below_drew1) | exact HB.out)⟩

end Go.Proofs.Ytgpdjpololkhbaa.F

namespace Go.Proofs.Ytgpdjpololkhbaa.Pure
open Go.RowKit Go.Proofs.Ytgpdjpololkhbaa.F Go.Proofs.YtgpdjpololkhbaaW.PrintWords Go.Proofs.YtgpdjpololkhbaaW.PrintLast Go.Proofs.YtgpdjpololkhbaaW.PrintMore Go.Proofs.YtgpdjpololkhbaaB
set_option linter.unusedVariables false
set_option linter.unusedSimpArgs false
theorem spec_l01In_f (a b c : Int) : spec_l01In.f a b c = some (inB a b c) := inB_if a b c

end Go.Proofs.Ytgpdjpololkhbaa.Pure

namespace Go.Proofs.Ytgpdjpololkhbaa.Pure
open Go.RowKit Go.Proofs.Ytgpdjpololkhbaa.F Go.Proofs.YtgpdjpololkhbaaW.PrintWords Go.Proofs.YtgpdjpololkhbaaW.PrintLast Go.Proofs.YtgpdjpololkhbaaW.PrintMore Go.Proofs.YtgpdjpololkhbaaB
set_option linter.unusedVariables false
set_option linter.unusedSimpArgs false
theorem spec_l14Point_f (a b : Int) : spec_l14Point.f a b = some (inB a (-1000000) 1000000 && inB b (-1000000) 1000000) := by
  simp only [spec_l14Point.f, spec_l01In_f, Option.bind_some]
  cases inB a (-1000000) 1000000 <;> simp

end Go.Proofs.Ytgpdjpololkhbaa.Pure

namespace Go.Proofs.Ytgpdjpololkhbaa.Pure
open Go.RowKit Go.Proofs.Ytgpdjpololkhbaa.F Go.Proofs.YtgpdjpololkhbaaW.PrintWords Go.Proofs.YtgpdjpololkhbaaW.PrintLast Go.Proofs.YtgpdjpololkhbaaW.PrintMore Go.Proofs.YtgpdjpololkhbaaB
set_option linter.unusedVariables false
set_option linter.unusedSimpArgs false
theorem spec_l16Points_l0 (xs : List S90) (hx : xs.length ≤ 9223372036854775807) : ∀ (ys : List S90) (m : Nat), xs.drop m = ys → Ev (fun k => spec_l16Points.l0 k xs m) (ys.all ptB)
  | [], m, h => by
    have := drop_nil h
    exact ev_step (fun _ => rfl) (ev_neg (by omega) (ev_now rfl))
  | y :: ys, m, h => by
    obtain ⟨hm, _, hd⟩ := drop_cons h
    refine ev_step (fun _ => rfl) (ev_pos (by omega) (ev_pos (by omega) ?_))
    rw [rdP h, w64 (by omega) (by omega)]
    refine ev_some (spec_l14Point_f _ _) ?_
    rw [List.all_cons, show (inB y.f0 (-1000000) 1000000 && inB y.f1 (-1000000) 1000000) = ptB y from rfl]
    cases ptB y
    · exact ev_neg (by simp) (ev_now (by simp))
    · exact ev_pos rfl (ev_eq (spec_l16Points_l0 xs hx ys (m + 1) hd) (by simp))
theorem spec_l16Points_f (xs : List S90) (hx : xs.length ≤ 9223372036854775807) : Ev (fun k => spec_l16Points.f k xs) (xs.all ptB) := spec_l16Points_l0 xs hx xs 0 rfl

end Go.Proofs.Ytgpdjpololkhbaa.Pure

namespace Go.Proofs.Ytgpdjpololkhbaa.Pure
open Go.RowKit Go.Proofs.Ytgpdjpololkhbaa.F Go.Proofs.YtgpdjpololkhbaaW.PrintWords Go.Proofs.YtgpdjpololkhbaaW.PrintLast Go.Proofs.YtgpdjpololkhbaaW.PrintMore Go.Proofs.YtgpdjpololkhbaaB
set_option linter.unusedVariables false
set_option linter.unusedSimpArgs false
theorem spec_IsLine_all (l : List S90) (hl : l.length ≤ 9223372036854775807) : Ev (fun k => spec_IsLine.f k l) (lineB l) := by
  unfold lineB
  refine ev_ite (fun h => ?_) (fun h => ?_)
  · refine ev_bind (spec_l16Points_f l hl) (ev_now ?_)
    rw [decide_eq_true (show l.length ≤ 200 by omega), Bool.true_and]
  · refine ev_now ?_
    rw [decide_eq_false (show ¬ l.length ≤ 200 by omega), Bool.false_and]
theorem spec_l17Code_l0 (xs : List S172) (hx : smallCv xs) : ∀ (ys : List S172) (m : Nat), xs.drop m = ys →
    Ev (fun k => spec_l17Code.l0 k xs m) (if ys.all curveB = true then (if 40 < xs.length then 3 else 0) else 1)
  | [], m, h => by
    have := drop_nil h
    refine ev_step (fun _ => rfl) (ev_neg (by omega) ?_)
    rw [show (List.all ([] : List S172) curveB) = true from rfl, if_pos rfl]
    refine ev_ite (fun h4 => ?_) (fun h4 => ?_)
    · rw [if_pos (by omega)]
      exact ev_now rfl
    · rw [if_neg (by omega)]
      exact ev_now rfl
  | y :: ys, m, h => by
    obtain ⟨hm, _, hd⟩ := drop_cons h
    have hx1 := hx.1
    have hy := hx.2 y (List.mem_of_mem_drop (by rw [h]; exact List.mem_cons_self))
    refine ev_step (fun _ => rfl) (ev_pos (by omega) (ev_pos (by omega) ?_))
    rw [rdCv h, w64 (x := (m : Int) + 1) (by omega) (by omega)]
    refine ev_bind (spec_IsLine_all y.f2 (by omega)) ?_
    rw [List.all_cons, show lineB y.f2 = curveB y from rfl]
    cases curveB y
    · exact ev_neg (by simp) (ev_now (by simp))
    · exact ev_pos rfl (ev_eq (spec_l17Code_l0 xs hx ys (m + 1) hd) (by simp))
theorem spec_l17Code_f (xs : List S172) (hx : smallCv xs) : Ev (fun k => spec_l17Code.f k xs) (codeCv xs) := spec_l17Code_l0 xs hx xs 0 rfl

end Go.Proofs.Ytgpdjpololkhbaa.Pure

namespace Go.Proofs.Ytgpdjpololkhbaa.Pure
open Go.RowKit Go.Proofs.Ytgpdjpololkhbaa.F Go.Proofs.YtgpdjpololkhbaaW.PrintWords Go.Proofs.YtgpdjpololkhbaaW.PrintLast Go.Proofs.YtgpdjpololkhbaaW.PrintMore Go.Proofs.YtgpdjpololkhbaaB
set_option linter.unusedVariables false
set_option linter.unusedSimpArgs false
theorem spec_IsLine_f (l : List S90) : Ev (fun k => spec_IsLine.f k l) (lineB l) := by
  unfold lineB
  by_cases h : l.length ≤ 200
  · rw [decide_eq_true h, Bool.true_and]
    exact ev_pos (by omega) (ev_bind (spec_l16Points_f l (by omega)) (ev_now rfl))
  · rw [decide_eq_false h, Bool.false_and]
    exact ev_neg (by omega) (ev_now rfl)

end Go.Proofs.Ytgpdjpololkhbaa.Pure

namespace Go.Proofs.Ytgpdjpololkhbaa.Pure
open Go.RowKit Go.Proofs.Ytgpdjpololkhbaa.F Go.Proofs.YtgpdjpololkhbaaW.PrintWords Go.Proofs.YtgpdjpololkhbaaW.PrintLast Go.Proofs.YtgpdjpololkhbaaW.PrintMore Go.Proofs.YtgpdjpololkhbaaB
set_option linter.unusedVariables false
set_option linter.unusedSimpArgs false
theorem spec_l28Pen_f (a : Int) : spec_l28Pen.f a = some (inB a 1 8) := by
  simp only [spec_l28Pen.f, spec_l01In_f, Option.bind_some]

end Go.Proofs.Ytgpdjpololkhbaa.Pure

namespace Go.Proofs.Ytgpdjpololkhbaa.Pure
open Go.RowKit Go.Proofs.Ytgpdjpololkhbaa.F Go.Proofs.YtgpdjpololkhbaaW.PrintWords Go.Proofs.YtgpdjpololkhbaaW.PrintLast Go.Proofs.YtgpdjpololkhbaaW.PrintMore Go.Proofs.YtgpdjpololkhbaaB
set_option linter.unusedVariables false
set_option linter.unusedSimpArgs false
theorem spec_l28Code_l0 (xs : List S110) (hx : xs.length ≤ 9223372036854775807) : ∀ (ys : List S110) (m : Nat), xs.drop m = ys →
    Ev (fun k => spec_l28Code.l0 k xs m) (if ys.all strokeB = true then (if 40 < xs.length then 3 else 0) else 1)
  | [], m, h => by
    have := drop_nil h
    refine ev_step (fun _ => rfl) (ev_neg (by omega) (ev_now ?_))
    simp only [List.all_nil, if_true]
    by_cases h4 : 40 < xs.length
    · rw [if_pos (by omega), if_pos h4]
    · rw [if_neg (by omega), if_neg h4]
  | y :: ys, m, h => by
    obtain ⟨hm, _, hd⟩ := drop_cons h
    refine ev_step (fun _ => rfl) (ev_pos (by omega) (ev_pos (by omega) ?_))
    rw [rdS h, w64 (by omega) (by omega)]
    refine ev_some (spec_l28Pen_f _) ?_
    have ih := spec_l28Code_l0 xs hx ys (m + 1) hd
    rw [List.all_cons, show strokeB y = (inB y.f0 1 8 && lineB y.f1 && decide (2 ≤ y.f1.length)) from rfl]
    cases inB y.f0 1 8
    · exact ev_neg (by simp) (ev_now (by simp))
    refine ev_pos rfl (ev_bind (spec_IsLine_f y.f1) ?_)
    cases lineB y.f1
    · exact ev_neg (by simp) (ev_now (by simp))
    refine ev_pos rfl (ev_ite (fun h2 => ev_now ?_) (fun h2 => ev_eq ih ?_))
    · rw [decide_eq_false (show ¬ 2 ≤ y.f1.length by omega)]; simp
    · rw [decide_eq_true (show 2 ≤ y.f1.length by omega)]; simp
theorem spec_l28Code_f (xs : List S110) (hx : xs.length ≤ 9223372036854775807) : Ev (fun k => spec_l28Code.f k xs) (codeS xs) := spec_l28Code_l0 xs hx xs 0 rfl

end Go.Proofs.Ytgpdjpololkhbaa.Pure

namespace Go.Proofs.Ytgpdjpololkhbaa.Pure
open Go.RowKit Go.Proofs.Ytgpdjpololkhbaa.F Go.Proofs.YtgpdjpololkhbaaW.PrintWords Go.Proofs.YtgpdjpololkhbaaW.PrintLast Go.Proofs.YtgpdjpololkhbaaW.PrintMore Go.Proofs.YtgpdjpololkhbaaB
set_option linter.unusedVariables false
set_option linter.unusedSimpArgs false
theorem spec_StrayStrokes_l3 (xs : List S110) (y : S110) (ys : List S110) (m : Nat) (hm : xs.drop m = y :: ys) (p : S90) (ps : List S90) (pi : Nat) (hpi : y.f1.drop pi = p :: ps) (cs : List S172) (c : S172) (rs : List S172) (ci : Nat) (hci : cs.drop ci = c :: rs) (hcl : c.f2.length ≤ 1048576) (d : Int) (out : List Int) (s : Bool) (res : List Int × Int) :
    ∀ (qs : List S90) (j : Nat) (n : Bool), c.f2.drop j = qs → Ev (fun k => spec_StrayStrokes.l2 k xs cs d out m s pi (nearP (wrap64 (d * d)) p.f0 p.f1 n qs) (wrap64 ((ci : Int) + 1))) res → Ev (fun k => spec_StrayStrokes.l3 k xs cs d out m s pi n ci j) res := by
  have h1 := (drop_cons hm).1
  have h2 := (drop_cons hpi).1
  have h3 := (drop_cons hci).1
  intro qs
  induction qs with
  | nil =>
    intro j n h H
    have h4 := drop_nil h
    refine ev_step (fun _ => rfl) ?_
    show Ev (fun k => if 0 ≤ (ci : Int) then (if (ci : Int) < (cs.length : Int) then (if (j : Int) < (((rd_T172 cs (ci : Int)).f2).length : Int) then (if n = true then (spec_StrayStrokes.l3 k xs cs d out m s pi true ci (wrap64 ((j : Int) + 1))) else (if 0 ≤ (m : Int) then (if (m : Int) < (xs.length : Int) then (if 0 ≤ (pi : Int) then (if (pi : Int) < (((rd_T110 xs (m : Int)).f1).length : Int) then (if 0 ≤ (j : Int) then ((spec_l16Square.f ((rd_T90 ((rd_T110 xs (m : Int)).f1) (pi : Int)).f0) ((rd_T90 ((rd_T110 xs (m : Int)).f1) (pi : Int)).f1) ((rd_T90 ((rd_T172 cs (ci : Int)).f2) (j : Int)).f0) ((rd_T90 ((rd_T172 cs (ci : Int)).f2) (j : Int)).f1)).bind fun t1152 => (spec_StrayStrokes.l3 k xs cs d out m s pi (decide (t1152 ≤ (wrap64 (d * d)))) ci (wrap64 ((j : Int) + 1)))) else (none)) else (none)) else (none)) else (none)) else (none))) else (spec_StrayStrokes.l2 k xs cs d out m s pi n (wrap64 ((ci : Int) + 1)))) else (none)) else (none)) res
    rw [rdCv hci]
    exact ev_pos (by omega) (ev_pos (by omega) (ev_neg (by omega) H))
  | cons q qs ih =>
    intro j n h H
    obtain ⟨h4, _, hd⟩ := drop_cons h
    refine ev_step (fun _ => rfl) ?_
    show Ev (fun k => if 0 ≤ (ci : Int) then (if (ci : Int) < (cs.length : Int) then (if (j : Int) < (((rd_T172 cs (ci : Int)).f2).length : Int) then (if n = true then (spec_StrayStrokes.l3 k xs cs d out m s pi true ci (wrap64 ((j : Int) + 1))) else (if 0 ≤ (m : Int) then (if (m : Int) < (xs.length : Int) then (if 0 ≤ (pi : Int) then (if (pi : Int) < (((rd_T110 xs (m : Int)).f1).length : Int) then (if 0 ≤ (j : Int) then ((spec_l16Square.f ((rd_T90 ((rd_T110 xs (m : Int)).f1) (pi : Int)).f0) ((rd_T90 ((rd_T110 xs (m : Int)).f1) (pi : Int)).f1) ((rd_T90 ((rd_T172 cs (ci : Int)).f2) (j : Int)).f0) ((rd_T90 ((rd_T172 cs (ci : Int)).f2) (j : Int)).f1)).bind fun t1152 => (spec_StrayStrokes.l3 k xs cs d out m s pi (decide (t1152 ≤ (wrap64 (d * d)))) ci (wrap64 ((j : Int) + 1)))) else (none)) else (none)) else (none)) else (none)) else (none))) else (spec_StrayStrokes.l2 k xs cs d out m s pi n (wrap64 ((ci : Int) + 1)))) else (none)) else (none)) res
    rw [rdCv hci, rdS hm, rdP hpi, rdP h, w64 (x := (j : Int) + 1) (by omega) (by omega)]
    refine ev_pos (by omega) (ev_pos (by omega) (ev_pos (by omega) ?_))
    cases n
    · exact ev_neg (by simp) (ev_pos (by omega) (ev_pos (by omega) (ev_pos (by omega) (ev_pos (by omega) (ev_pos (by omega) (ev_some rfl (ih (j + 1) _ hd H)))))))
    · exact ev_pos rfl (ih (j + 1) true hd H)
theorem spec_StrayStrokes_l2 (xs : List S110) (y : S110) (ys : List S110) (m : Nat) (hm : xs.drop m = y :: ys) (p : S90) (ps : List S90) (pi : Nat) (hpi : y.f1.drop pi = p :: ps) (cs : List S172) (hc : smallCv cs) (d : Int) (out : List Int) (s : Bool) (res : List Int × Int) :
    ∀ (rs : List S172) (ci : Nat) (n : Bool), cs.drop ci = rs → Ev (fun k => spec_StrayStrokes.l1 k xs cs d out m (s || !nearC (wrap64 (d * d)) p.f0 p.f1 n rs) (wrap64 ((pi : Int) + 1))) res → Ev (fun k => spec_StrayStrokes.l2 k xs cs d out m s pi n ci) res
  | [], ci, n, h, H => by
    have h4 := drop_nil h
    refine ev_step (fun _ => rfl) (ev_neg (by omega) ?_)
    cases s
    · exact ev_neg (by simp) H
    · exact ev_pos rfl H
  | c :: rs, ci, n, h, H => by
    obtain ⟨h4, _, hd⟩ := drop_cons h
    have hc1 := hc.1
    have hcl := hc.2 c (List.mem_of_mem_drop (by rw [h]; exact List.mem_cons_self))
    refine ev_step (fun _ => rfl) (ev_pos (by omega) ?_)
    refine spec_StrayStrokes_l3 xs y ys m hm p ps pi hpi cs c rs ci h hcl d out s res c.f2 0 n rfl ?_
    rw [w64 (x := (ci : Int) + 1) (by omega) (by omega)]
    exact spec_StrayStrokes_l2 xs y ys m hm p ps pi hpi cs hc d out s res rs (ci + 1) _ hd H
theorem spec_StrayStrokes_l1 (xs : List S110) (y : S110) (ys : List S110) (m : Nat) (hm : xs.drop m = y :: ys) (hy : y.f1.length ≤ 1048576) (cs : List S172) (hc : smallCv cs) (d : Int) (out : List Int) (res : List Int × Int) :
    ∀ (ps : List S90) (pi : Nat) (s : Bool), y.f1.drop pi = ps → Ev (fun k => if strayQ (wrap64 (d * d)) cs s ps = true then (if out.length < 17592186044416 then (spec_StrayStrokes.l0 k xs cs d (out ++ [(m : Int)]) (wrap64 ((m : Int) + 1))) else (none)) else (spec_StrayStrokes.l0 k xs cs d out (wrap64 ((m : Int) + 1)))) res → Ev (fun k => spec_StrayStrokes.l1 k xs cs d out m s pi) res
  | [], pi, s, h, H => by
    have h1 := (drop_cons hm).1
    have h4 := drop_nil h
    refine ev_step (fun _ => rfl) ?_
    show Ev (fun k => if 0 ≤ (m : Int) then (if (m : Int) < (xs.length : Int) then (if (pi : Int) < (((rd_T110 xs (m : Int)).f1).length : Int) then (spec_StrayStrokes.l2 k xs cs d out m s pi false 0) else (if s = true then (if out.length < 17592186044416 then (spec_StrayStrokes.l0 k xs cs d (out ++ [(m : Int)]) (wrap64 ((m : Int) + 1))) else (none)) else (spec_StrayStrokes.l0 k xs cs d out (wrap64 ((m : Int) + 1))))) else (none)) else (none)) res
    rw [rdS hm]
    exact ev_pos (by omega) (ev_pos (by omega) (ev_neg (by omega) H))
  | p :: ps, pi, s, h, H => by
    have h1 := (drop_cons hm).1
    obtain ⟨h4, _, hd⟩ := drop_cons h
    refine ev_step (fun _ => rfl) ?_
    show Ev (fun k => if 0 ≤ (m : Int) then (if (m : Int) < (xs.length : Int) then (if (pi : Int) < (((rd_T110 xs (m : Int)).f1).length : Int) then (spec_StrayStrokes.l2 k xs cs d out m s pi false 0) else (if s = true then (if out.length < 17592186044416 then (spec_StrayStrokes.l0 k xs cs d (out ++ [(m : Int)]) (wrap64 ((m : Int) + 1))) else (none)) else (spec_StrayStrokes.l0 k xs cs d out (wrap64 ((m : Int) + 1))))) else (none)) else (none)) res
    rw [rdS hm]
    refine ev_pos (by omega) (ev_pos (by omega) (ev_pos (by omega) (spec_StrayStrokes_l2 xs y ys m hm p ps pi h cs hc d out s res cs 0 false rfl ?_)))
    rw [w64 (x := (pi : Int) + 1) (by omega) (by omega)]
    exact spec_StrayStrokes_l1 xs y ys m hm hy cs hc d out res ps (pi + 1) _ hd H
theorem spec_StrayStrokes_l0 (xs : List S110) (hx : smallS xs) (cs : List S172) (hc : smallCv cs) (d : Int) : ∀ (ys : List S110) (m : Nat) (out : List Int), xs.drop m = ys → m ≤ xs.length → out.length ≤ m →
    Ev (fun k => spec_StrayStrokes.l0 k xs cs d out m) (out ++ strayL (wrap64 (d * d)) cs m ys, 0)
  | [], m, out, h, hm, ho => by
    have := drop_nil h
    refine ev_step (fun _ => rfl) (ev_neg (by omega) (ev_now ?_))
    rw [show strayL (wrap64 (d * d)) cs m [] = [] from rfl, List.append_nil]
  | y :: ys, m, out, h, hm, ho => by
    obtain ⟨hm1, _, hd⟩ := drop_cons h
    have hx1 := hx.1
    have hy := hx.2 y (List.mem_of_mem_drop (by rw [h]; exact List.mem_cons_self))
    refine ev_step (fun _ => rfl) (ev_pos (by omega) (spec_StrayStrokes_l1 xs y ys m h hy cs hc d out _ y.f1 0 false rfl ?_))
    rw [strayQ_eq, w64 (x := (m : Int) + 1) (by omega) (by omega)]
    show Ev _ (out ++ (if strayP (wrap64 (d * d)) cs y.f1 = true then (m : Int) :: strayL (wrap64 (d * d)) cs (m + 1) ys else strayL (wrap64 (d * d)) cs (m + 1) ys), 0)
    refine ev_ite (fun hq => ?_) (fun hq => ?_)
    · rw [if_pos hq]
      refine ev_pos (by omega) (ev_eq (spec_StrayStrokes_l0 xs hx cs hc d ys (m + 1) _ hd (by omega) (by simp; omega)) ?_)
      rw [List.append_assoc]
      rfl
    · rw [if_neg hq]
      exact spec_StrayStrokes_l0 xs hx cs hc d ys (m + 1) out hd (by omega) (by omega)
theorem spec_l32Code_f (xs : List S110) (hx : xs.length ≤ 9223372036854775807) (cs : List S172) (hc : smallCv cs) (d : Int) : Ev (fun k => spec_l32Code.f k xs cs d) (if codeX xs cs = 0 then (if inB d 0 1000000 = true then 0 else 2) else codeX xs cs) := by
  have j1 : ∀ b : Bool, Ev (fun k => spec_l32Code.j1 k d b) (if b = true then 3 else if inB d 0 1000000 = true then 0 else 2) := fun b => by
    refine ev_step (fun _ => rfl) ?_
    show Ev (fun _ => if b = true then (some (3 : Int)) else ((spec_l32Tolerance.f d).bind fun t1138 => (if t1138 = true then (some 0) else (some 2)))) _
    refine ev_ite (fun h => ?_) (fun h => ?_)
    · rw [if_pos h]
      exact ev_now rfl
    · rw [if_neg h]
      refine ev_some (show spec_l32Tolerance.f d = some (inB d 0 1000000) by unfold spec_l32Tolerance.f; rw [spec_l01In_f]; rfl) (ev_ite (fun hq => ?_) (fun hq => ?_))
      · rw [if_pos hq]
        exact ev_now rfl
      · rw [if_neg hq]
        exact ev_now rfl
  have j0 : ∀ (a c : Int) (b : Bool), Ev (fun k => spec_l32Code.j0 k d a c b) (if b = true then 1 else if a = 0 ∧ c = 0 then (if inB d 0 1000000 = true then 0 else 2) else 3) := fun a c b => by
    refine ev_step (fun _ => rfl) ?_
    show Ev (fun k => if b = true then (some (1 : Int)) else (if a = 0 then (spec_l32Code.j1 k d (c != 0)) else (spec_l32Code.j1 k d true))) _
    refine ev_ite (fun h => ?_) (fun h => ?_)
    · rw [if_pos h]
      exact ev_now rfl
    · rw [if_neg h]
      refine ev_ite (fun h1 => ?_) (fun h1 => ?_)
      · refine ev_eq (j1 _) ?_
        by_cases h2 : c = 0
        · rw [if_neg (by simp [h2]), if_pos (show a = 0 ∧ c = 0 from ⟨h1, h2⟩)]
        · rw [if_pos (by simp [h2]), if_neg (show ¬ (a = 0 ∧ c = 0) from fun hh => h2 hh.2)]
      · refine ev_eq (j1 true) ?_
        rw [if_pos rfl, if_neg (show ¬ (a = 0 ∧ c = 0) from fun hh => h1 hh.1)]
  refine ev_bind (spec_l28Code_f xs hx) (ev_bind (spec_l17Code_f cs hc) ?_)
  refine ev_ite (fun h => ?_) (fun h => ?_)
  · refine ev_eq (j0 _ _ true) ?_
    have e : codeX xs cs = 1 := if_pos (.inl h)
    rw [if_pos rfl, e]
    rfl
  · refine ev_eq (j0 _ _ _) ?_
    unfold codeX codeCv
    cases cs.all curveB
    · simp [h]
    · simp only [if_true, h, false_or, if_false, Bool.true_eq_false]
      by_cases h4 : 40 < cs.length
      · rw [if_pos h4, if_neg (show ¬ (codeS xs = 0 ∧ cs.length ≤ 40) from fun hh => by omega)]
        simp
      · rw [if_neg h4]
        by_cases h0 : codeS xs = 0
        · rw [if_pos (show codeS xs = 0 ∧ cs.length ≤ 40 from ⟨h0, by omega⟩)]
          simp [h0]
        · rw [if_neg (show ¬ (codeS xs = 0 ∧ cs.length ≤ 40) from fun hh => h0 hh.1)]
          simp [h0]
theorem spec_StrayStrokes_f (xs : List S110) (hx : smallS xs) (cs : List S172) (hc : smallCv cs) (d : Int) : Ev (fun k => spec_StrayStrokes.f k xs cs d) (resStray xs cs d) := by
  have hx1 := hx.1
  refine ev_bind (spec_l32Code_f xs (by omega) cs hc d) ?_
  unfold resStray
  by_cases h : codeX xs cs = 0
  · rw [if_pos h, if_pos h]
    by_cases hq : inB d 0 1000000 = true
    · rw [if_pos hq, if_pos hq]
      exact ev_pos rfl (spec_StrayStrokes_l0 xs hx cs hc d xs 0 [] rfl (Nat.zero_le _) (Nat.le_refl _))
    · rw [if_neg hq, if_neg hq]
      exact ev_neg (by decide) (ev_now rfl)
  · rw [if_neg h, if_neg h]
    exact ev_neg h (ev_now rfl)

end Go.Proofs.Ytgpdjpololkhbaa.Pure

namespace Go.Proofs.Ytgpdjpololkhbaa.Pure
open Go.RowKit Go.Proofs.Ytgpdjpololkhbaa.F Go.Proofs.YtgpdjpololkhbaaW.PrintWords Go.Proofs.YtgpdjpololkhbaaW.PrintLast Go.Proofs.YtgpdjpololkhbaaW.PrintMore Go.Proofs.YtgpdjpololkhbaaB
set_option linter.unusedVariables false
set_option linter.unusedSimpArgs false
theorem EQ_CurveS (A A' : Option Addr) (c c' : Nat) (l : List S172) (w : World) (hr : Kd.C k172 w A l.length l) (hc : l.length ≤ c) (hr' : Kd.C k172 w A' l.length l) (hc' : l.length ≤ c') (h : Ev (fun k => laws_eqCurveS.f k l l) true) :
    Calls Try.prog 64 #[.slice A l.length c, .slice A' l.length c'] w fun e w' => e = .returned (.bool true) ∧ Below w.heap.size w w' := by
  obtain ⟨k, h⟩ := h.rounds
  exact (laws_eqCurveS.calls k A c l A' c' l true w hr hc hr' hc' h).mono fun e w' ⟨h1, h2⟩ => ⟨h1, h2⟩

end Go.Proofs.Ytgpdjpololkhbaa.Pure

namespace Go.Proofs.Ytgpdjpololkhbaa.Pure
open Go.RowKit Go.Proofs.Ytgpdjpololkhbaa.F Go.Proofs.YtgpdjpololkhbaaW.PrintWords Go.Proofs.YtgpdjpololkhbaaW.PrintLast Go.Proofs.YtgpdjpololkhbaaW.PrintMore Go.Proofs.YtgpdjpololkhbaaB
set_option linter.unusedVariables false
set_option linter.unusedSimpArgs false
theorem EQ_Int64S (A A' : Option Addr) (c c' : Nat) (l : List Int) (w : World) (hr : Kd.C (Kd.int .i64) w A l.length l) (hc : l.length ≤ c) (hr' : Kd.C (Kd.int .i64) w A' l.length l) (hc' : l.length ≤ c') (h : Ev (fun k => laws_eqInt64S.f k l l) true) :
    Calls Try.prog 19 #[.slice A l.length c, .slice A' l.length c'] w fun e w' => e = .returned (.bool true) ∧ Below w.heap.size w w' := by
  obtain ⟨k, h⟩ := h.rounds
  exact (laws_eqInt64S.calls k A c l A' c' l true w hr hc hr' hc' h).mono fun e w' ⟨h1, h2⟩ => ⟨h1, h2.below⟩

end Go.Proofs.Ytgpdjpololkhbaa.Pure

namespace Go.Proofs.Ytgpdjpololkhbaa.Pure
open Go.RowKit Go.Proofs.Ytgpdjpololkhbaa.F Go.Proofs.YtgpdjpololkhbaaW.PrintWords Go.Proofs.YtgpdjpololkhbaaW.PrintLast Go.Proofs.YtgpdjpololkhbaaW.PrintMore Go.Proofs.YtgpdjpololkhbaaB
set_option linter.unusedVariables false
set_option linter.unusedSimpArgs false
theorem EQ_StrokeS (A A' : Option Addr) (c c' : Nat) (l : List S110) (w : World) (hr : Kd.C k110 w A l.length l) (hc : l.length ≤ c) (hr' : Kd.C k110 w A' l.length l) (hc' : l.length ≤ c') (h : Ev (fun k => laws_eqStrokeS.f k l l) true) :
    Calls Try.prog 20 #[.slice A l.length c, .slice A' l.length c'] w fun e w' => e = .returned (.bool true) ∧ Below w.heap.size w w' := by
  obtain ⟨k, h⟩ := h.rounds
  exact (laws_eqStrokeS.calls k A c l A' c' l true w hr hc hr' hc' h).mono fun e w' ⟨h1, h2⟩ => ⟨h1, h2⟩

end Go.Proofs.Ytgpdjpololkhbaa.Pure

namespace Go.Proofs.Ytgpdjpololkhbaa.Pure
open Go.RowKit Go.Proofs.Ytgpdjpololkhbaa.F Go.Proofs.YtgpdjpololkhbaaW.PrintWords Go.Proofs.YtgpdjpololkhbaaW.PrintLast Go.Proofs.YtgpdjpololkhbaaW.PrintMore Go.Proofs.YtgpdjpololkhbaaB
set_option linter.unusedVariables false
set_option linter.unusedSimpArgs false
theorem HD_Int64S (A : Option Addr) (c m : Nat) (l : List Int) (a n : Int) (w : World) (hm : l.length = m) (hr : Kd.C (Kd.int .i64) w A l.length l) (hc : l.length ≤ c) (h : Ev (fun k => laws_heldInt64S.f k l a) n) :
    Calls Try.prog 23 #[.slice A m c, .int .i64 a] w fun e w' => e = .returned (.int .i64 n) ∧ Below w.heap.size w w' := by
  obtain ⟨k, h⟩ := h.rounds
  subst hm
  exact (laws_heldInt64S.calls k A c l a n w hr hc h).mono fun e w' ⟨h1, h2⟩ => ⟨h1, h2.below⟩

end Go.Proofs.Ytgpdjpololkhbaa.Pure

namespace Go.Proofs.Ytgpdjpololkhbaa.Pure
open Go.RowKit Go.Proofs.Ytgpdjpololkhbaa.F Go.Proofs.YtgpdjpololkhbaaW.PrintWords Go.Proofs.YtgpdjpololkhbaaW.PrintLast Go.Proofs.YtgpdjpololkhbaaW.PrintMore Go.Proofs.YtgpdjpololkhbaaB
set_option linter.unusedVariables false
set_option linter.unusedSimpArgs false
/-- A cell that holds a number. -/
def IntCell (w : World) (a : Addr) : Prop := ∃ x, w.cell? a = some (.int .i64 x)
/-- Numbers have been written over numbers, in the blocks of P alone. -/
structure Mut (P : Nat → Prop) (w w' : World) : Prop where
  os : w'.os = w.os
  tape : w'.tape = w.tape
  output : w'.output = w.output
  size : w'.heap.size = w.heap.size
  far : ∀ k, ¬ P k → w'.heap[k]? = w.heap[k]?
  ints : ∀ a, IntCell w a → IntCell w' a
  rest : ∀ a, ¬ IntCell w a → w'.cell? a = w.cell? a
  froz : ∀ a, w'.frozen? a = w.frozen? a
theorem Mut.refl (P : Nat → Prop) (w : World) : Mut P w w := ⟨rfl, rfl, rfl, rfl, fun _ _ => rfl, fun _ h => h, fun _ _ => rfl, fun _ => rfl⟩
theorem Mut.set {P : Nat → Prop} {w w1 : World} (h : Mut P w w1) {a : Addr} (hp : P a.block) (hi : IntCell w a) (u : Int) : Mut P w (w1.setCell a (.int .i64 u)) := by
  obtain ⟨x, hx⟩ := h.ints a hi
  refine ⟨h.os, h.tape, h.output, by rw [World.size_setCell]; exact h.size, fun k hk => ?_, fun b hb => ?_, fun b hb => ?_, fun b => by rw [World.frozen?_setCell]; exact h.froz b⟩
  · exact (Below.heap_setCell w1 a _ k (fun e => hk (by rw [e]; exact hp))).trans (h.far k hk)
  · by_cases e : a = b
    · subst e
      exact ⟨u, World.cell?_setCell_same _ _ _ hx⟩
    · unfold IntCell
      rw [World.cell?_setCell_other _ _ _ _ e]
      exact h.ints b hb
  · rw [World.cell?_setCell_other _ _ _ _ (fun e => hb (by rw [← e]; exact hi))]
    exact h.rest b hb
theorem Mut.trans {P : Nat → Prop} {w w1 w2 : World} (h : Mut P w w1) (k : Mut P w1 w2) : Mut P w w2 := by
  refine ⟨k.os.trans h.os, k.tape.trans h.tape, k.output.trans h.output, k.size.trans h.size, fun i hi => (k.far i hi).trans (h.far i hi), fun a ha => k.ints a (h.ints a ha), fun a ha => ?_, fun a => (k.froz a).trans (h.froz a)⟩
  have h1 := h.rest a ha
  exact (k.rest a (fun hc => ha (by obtain ⟨x, hx⟩ := hc; exact ⟨x, h1 ▸ hx⟩))).trans h1
theorem Mut.kept {P : Nat → Prop} {w w' : World} (h : Mut P w w') : Kept w w' P := ⟨Nat.le_of_eq h.size.symm, fun i _ hn => h.far i hn⟩
theorem Mut.below {P : Nat → Prop} {w0 w w' : World} (h : Mut P w w') (hB : Below w0.heap.size w0 w) (hP : ∀ k, P k → w0.heap.size ≤ k) : Below w0.heap.size w0 w' :=
  ⟨h.os.trans hB.os, h.tape.trans hB.tape, h.output.trans hB.output, Nat.le_trans hB.size (Nat.le_of_eq h.size.symm), fun k hk => (h.far k (fun hp => by have := hP k hp; omega)).trans (hB.block k hk)⟩
/-- A cell that may be written, and holds a number. -/
def Free (P : Nat → Prop) (w : World) (g o : Nat) : Prop := P g ∧ IntCell w ⟨g, o, none⟩ ∧ w.frozen? ⟨g, o, none⟩ = false
theorem Free.mut {P : Nat → Prop} {w w1 : World} {g o : Nat} (h : Free P w g o) (m : Mut P w w1) : Free P w1 g o := ⟨h.1, m.ints _ h.2.1, (m.froz _).trans h.2.2⟩
/-- A row of numbers that may be written. -/
def FreeRow (P : Nat → Prop) (w : World) (A : Option Addr) (n : Nat) : Prop := n ≤ 1048576 ∧ (0 < n → ∃ g, A = some ⟨g, 0, none⟩ ∧ ∀ j, j < n → Free P w g j)
theorem FreeRow.mut {P : Nat → Prop} {w w1 : World} {A : Option Addr} {n : Nat} (h : FreeRow P w A n) (m : Mut P w w1) : FreeRow P w1 A n := ⟨h.1, fun hn => by
  obtain ⟨g, e, hg⟩ := h.2 hn
  exact ⟨g, e, fun j hj => (hg j hj).mut m⟩⟩
theorem FreeRow.of_R {P ok : Nat → Prop} {w : World} {base : Nat} {e : Nat} {v : Value} {xs : List Int} (h : (Kd.int .i64).R e w base ok v xs) (hok : ∀ k, ok k → P k) (hn : xs.length ≤ 1048576) : ∃ A c, v = .slice A xs.length c ∧ xs.length ≤ c ∧ FreeRow P w A xs.length := by
  obtain ⟨A, c, rfl⟩ := Kd.R_slice h
  obtain ⟨_, hc, hr⟩ := Kd.R_reads' h
  refine ⟨A, c, rfl, hc, hn, fun hp => ?_⟩
  obtain ⟨g, cap, eg, _, _, cells, hh⟩ := Kd.R_form h hp
  injection eg with ea
  subst ea
  refine ⟨g, rfl, fun j hj => ⟨hok g (h.1 g (by simp [Value.ownBlock])), ?_, by simp [World.frozen?, hh]⟩⟩
  obtain ⟨a, ea, hcells⟩ := hr.2.2 hp
  cases ea
  obtain ⟨cs, h1, h2, h3⟩ := hcells j xs[j] (List.getElem?_eq_getElem hj)
  have h4 := h3 0 (.int .i64 xs[j]) (by rw [h2]; rfl)
  refine ⟨xs[j], ?_⟩
  have e1 : (Addr.add ⟨g, 0, none⟩ (j * (Kd.int .i64).sz + 0)) = ⟨g, j, none⟩ := by
    show Addr.add ⟨g, 0, none⟩ (j * 1 + 0) = _
    unfold Addr.add
    by_cases hz : j * 1 + 0 = 0
    · rw [if_pos hz]
      have : j = 0 := by omega
      subst this
      rfl
    · rw [if_neg hz]
      show Addr.mk g (0 + (j * 1 + 0)) none = _
      rw [show 0 + (j * 1 + 0) = j by omega]
  rw [← e1]
  exact h4

end Go.Proofs.Ytgpdjpololkhbaa.Pure

namespace Go.Proofs.Ytgpdjpololkhbaa.Pure
open Go.RowKit Go.Proofs.Ytgpdjpololkhbaa.F Go.Proofs.YtgpdjpololkhbaaW.PrintWords Go.Proofs.YtgpdjpololkhbaaW.PrintLast Go.Proofs.YtgpdjpololkhbaaW.PrintMore Go.Proofs.YtgpdjpololkhbaaB
set_option linter.unusedVariables false
set_option linter.unusedSimpArgs false
/-- A row of points that may be written. -/
def FreeRow2 (P : Nat → Prop) (w : World) (A : Option Addr) (n : Nat) : Prop := n ≤ 1048576 ∧ (0 < n → ∃ g, A = some ⟨g, 0, none⟩ ∧ ∀ j, j < n → Free P w g (j * 2) ∧ Free P w g (j * 2 + 1))
theorem FreeRow2.mut {P : Nat → Prop} {w w1 : World} {A : Option Addr} {n : Nat} (h : FreeRow2 P w A n) (m : Mut P w w1) : FreeRow2 P w1 A n := ⟨h.1, fun hn => by
  obtain ⟨g, e, hg⟩ := h.2 hn
  exact ⟨g, e, fun j hj => ⟨(hg j hj).1.mut m, (hg j hj).2.mut m⟩⟩⟩
theorem FreeRow2.of_R {P ok : Nat → Prop} {w : World} {base : Nat} {v : Value} {xs : List S90} (h : Kd.R k90 90 w base ok v xs) (hok : ∀ k, ok k → P k) (hn : xs.length ≤ 1048576) : ∃ A c, v = .slice A xs.length c ∧ xs.length ≤ c ∧ FreeRow2 P w A xs.length := by
  obtain ⟨A, c, rfl⟩ := Kd.R_slice h
  obtain ⟨_, hc, _⟩ := Kd.R_reads' h
  refine ⟨A, c, rfl, hc, hn, fun hp => ?_⟩
  obtain ⟨g, cap, eg, _⟩ := Kd.R_form h hp
  injection eg with ea
  subst ea
  refine ⟨g, rfl, fun j hj => ?_⟩
  have hP := hok g (h.1 g (by simp [Value.ownBlock]))
  obtain ⟨cs, h1, h2, h3, h4⟩ := Kd.R_elem h z90 (j : Int) (by omega) (by omega)
  obtain rfl := k90_openM h2
  simp only [Int.toNat_natCast] at h3 h4
  exact ⟨⟨hP, ⟨_, h3 0 _ rfl⟩, h4 0⟩, ⟨hP, ⟨_, h3 1 _ rfl⟩, h4 1⟩⟩
set_option maxHeartbeats 8000000 in
set_option maxRecDepth 100000 in
theorem markPointS_mut (P : Nat → Prop) (A : Option Addr) (n c : Nat) (a : Int) (w : World) (hF : FreeRow2 P w A n) (h0 : 0 ≤ a) (h1 : a ≤ 2305843009213693952) :
    Calls Try.prog 80 #[.slice A n c, .int .i64 a] w fun e w' => e = .returned (.int .i64 (a + 2 * n)) ∧ Mut P w w' := by
  have hu := Try.underlying90
  have HF := Aside0.mk hF
  have hn := hF.1
  clear hF
  go_enter Try.func80, Try.ntmps80
  go_wp2
  go_loopw [1, 5] (fun v1 v5 wr => ∃ (m : Nat) (b : Int), v1 = .int .i64 b ∧ v5 = .int .i64 m ∧ m ≤ n ∧ Aside0 (b = a + 2 * m) ∧ Aside0 (Mut P w wr)) (fun _ v5 _ => n - (intOf v5).toNat)
  case atStart => exact ⟨0, a, rfl, rfl, Nat.zero_le _, ⟨by omega⟩, ⟨Mut.refl _ _⟩⟩
  case round =>
    obtain ⟨m, b, rfl, rfl, hm, HE, HM⟩ := hrel
    by_cases hlt : m < n
    · obtain ⟨g, eg, hg⟩ := HF.out.2 (by omega)
      subst eg
      have hb0 : 0 ≤ b := by have := HE.out; omega
      have hb1 : b ≤ 2305843009215791104 := by have := HE.out; omega
      obtain ⟨n0, n1⟩ := hg m hlt
      have M0 := HM.out
      have M1 := M0.set (a := ⟨g, m * 2, none⟩) n0.1 n0.2.1 b
      have M2 := M1.set (a := ⟨g, m * 2 + 1, none⟩) n1.1 n1.2.1 (b + 1)
      obtain ⟨x0, hx0⟩ := (n0.mut M0).2.1
      obtain ⟨x1, hx1⟩ := (n1.mut M0).2.1
      have hf0 := (n0.mut M0).2.2
      have hf1 := (n1.mut M0).2.2
      have HM2 := Aside0.mk M2
      have HE2 : Aside0 (b + 1 + 1 = a + 2 * ((m + 1 : Nat) : Int)) := ⟨by have := HE.out; omega⟩
      clear hg M0 M1 M2 n0 n1 HE HM
      go_wp2
      go_roundw
      case rel => exact ⟨m + 1, _, rfl, by go_num, by omega, HE2, HM2⟩
      case measure => simp [intOf]; omega
    · have HE2 : Aside0 (b = a + 2 * (n : Int)) := ⟨by have h1_ := HE.out; have : m = n := by omega
                                                       subst this; exact h1_⟩
      clear HE
      go_wp2
      go_ret
      obtain rfl := HE2.out
      exact ⟨rfl, HM.out⟩

end Go.Proofs.Ytgpdjpololkhbaa.Pure

namespace Go.Proofs.Ytgpdjpololkhbaa.Pure
open Go.RowKit Go.Proofs.Ytgpdjpololkhbaa.F Go.Proofs.YtgpdjpololkhbaaW.PrintWords Go.Proofs.YtgpdjpololkhbaaW.PrintLast Go.Proofs.YtgpdjpololkhbaaW.PrintMore Go.Proofs.YtgpdjpololkhbaaB
set_option linter.unusedVariables false
set_option linter.unusedSimpArgs false
/-- A row of curves whose numbers may be written. -/
def CurFree (P : Nat → Prop) (w : World) (g : Nat) (l : List S172) : Prop := ∀ i, i < l.length → Free P w g (i * 3) ∧ Free P w g (i * 3 + 1) ∧
  ∃ A2 c2, w.cell? ⟨g, i * 3 + 2, none⟩ = some (.slice A2 (rd_T172 l i).f2.length c2) ∧ FreeRow2 P w A2 (rd_T172 l i).f2.length
theorem int_ne_slice' {w : World} {a : Addr} {A : Option Addr} {n c : Nat} (h : w.cell? a = some (.slice A n c)) : ¬ IntCell w a := fun ⟨x, hx⟩ => by rw [h] at hx; cases hx
theorem CurFree.of_S {P : Nat → Prop} {w : World} {base g n cap : Nat} {l : List S172} (h : Kd.S k172 172 w base P (.slice (some ⟨g, 0, none⟩) n cap) l) (hn : n = l.length) (hs : ∀ y ∈ l, y.f2.length ≤ 1048576) : CurFree P w g l := fun i hi => by
  have hPg : P g := (Kd.S_R h).1 g (by simp [Value.ownBlock])
  obtain ⟨oki, c, hcl, hM, hcc, hfr, hoki, _⟩ := Kd.S_elem h z172 (i : Int) (by omega) (by omega)
  have hmem : rd_T172 l (i : Int) ∈ l := by
    show l.getD _ _ ∈ l
    rw [Int.toNat_natCast, List.getD_eq_getElem?_getD, List.getElem?_eq_getElem hi]
    exact List.getElem_mem hi
  obtain ⟨v2, rfl, h2⟩ := k172_openM hM
  obtain ⟨A2, c2, rfl, _, f2⟩ := FreeRow2.of_R h2 (fun k hk => (hoki k hk).1) (hs _ hmem)
  simp only [Int.toNat_natCast] at hcc hfr
  exact ⟨⟨hPg, ⟨_, hcc 0 _ rfl⟩, hfr 0⟩, ⟨hPg, ⟨_, hcc 1 _ rfl⟩, hfr 1⟩, A2, c2, hcc 2 _ rfl, f2⟩
set_option maxHeartbeats 8000000 in
set_option maxRecDepth 100000 in
theorem markCurveS_mut (P : Nat → Prop) (v : Value) (l : List S172) (a : Int) (base : Nat) (w : World) (hS : Kd.S k172 172 w base P v l) (hl : l.length ≤ 1048576) (hi : ∀ y ∈ l, y.f2.length ≤ 1048576) (h0 : 0 ≤ a) (h1 : a + numCv l ≤ 2305843009213693952) :
    Calls Try.prog 65 #[v, .int .i64 a] w fun e w' => e = .returned (.int .i64 (a + numCv l)) ∧ Mut P w w' := by
  have hu := Try.underlying172
  obtain ⟨A0, c0, rfl⟩ := Kd.S_slice hS
  have HV : 0 < l.length → ∃ g, A0 = some ⟨g, 0, none⟩ ∧ Aside0 (CurFree P w g l) := fun hp => by
    obtain ⟨g, cap, eg, _⟩ := Kd.S_form hS hp
    injection eg with ea _ ec
    subst ea ec
    exact ⟨g, rfl, ⟨CurFree.of_S hS rfl hi⟩⟩
  have HA := Aside0.mk h0
  have HT := Aside0.mk h1
  clear hS hi h0 h1
  go_enter Try.func65, Try.ntmps65
  go_wp2
  go_loopw [1, 5] (fun v1 v5 wr => ∃ (m : Nat) (b : Int) (ys : List S172), v1 = .int .i64 b ∧ v5 = .int .i64 m ∧ m ≤ l.length ∧ Aside0 (l.drop m = ys ∧ b + numCv ys = a + numCv l ∧ 0 ≤ b) ∧ Aside0 (Mut P w wr)) (fun _ v5 _ => l.length - (intOf v5).toNat)
  case atStart => exact ⟨0, a, l, rfl, rfl, Nat.zero_le _, ⟨rfl, rfl, HA.out⟩, ⟨Mut.refl _ _⟩⟩
  case round =>
    obtain ⟨m, b, ys, rfl, rfl, hm, HF, HM⟩ := hrel
    by_cases hlt : m < l.length
    · cases ys with
      | nil => exact absurd (drop_nil HF.out.1) (by omega)
      | cons y ys =>
      obtain ⟨g, eg, HW⟩ := HV (by omega)
      subst eg
      have hb0 := HF.out.2.2
      have hb1 : b + 2 + 2 * (y.f2.length : Int) ≤ 2305843009213693952 := by
        have h2 := HF.out.2.1
        have h3 := HT.out
        have h4 := numCv_nonneg ys
        simp only [numCv] at h2
        omega
      obtain ⟨n0, n1, A2, c2, hs2, f2⟩ := HW.out m hlt
      rw [show rd_T172 l (m : Int) = y from (drop_cons HF.out.1).2.1 _] at hs2 f2
      have M0 := HM.out
      have M1 := M0.set (a := ⟨g, m * 3, none⟩) n0.1 n0.2.1 b
      have M2 := M1.set (a := ⟨g, m * 3 + 1, none⟩) n1.1 n1.2.1 (b + 1)
      obtain ⟨x0, hx0⟩ := (n0.mut M0).2.1
      obtain ⟨x1, hx1⟩ := (n1.mut M0).2.1
      have hf0 := (n0.mut M0).2.2
      have hf1 := (n1.mut M0).2.2
      have hx2 : wr.cell? ⟨g, m * 3 + 2, none⟩ = some (.slice A2 y.f2.length c2) := (M0.rest _ (int_ne_slice' hs2)).trans hs2
      have HM2 := Aside0.mk M2
      have HF2 := Aside0.mk (f2.mut M2)
      clear hs2 f2 n0 n1 M0 M1 M2 HV HM
      go_wp2_with fail
      refine (markPointS_mut P A2 _ c2 _ _ HF2.out (by omega) (by omega)).mono ?_
      rintro e w2 ⟨rfl, hM2⟩
      have HM3 := Aside0.mk (HM2.out.trans hM2)
      have HFn : Aside0 (l.drop (m + 1) = ys ∧ b + 1 + 1 + 2 * (y.f2.length : Int) + numCv ys = a + numCv l ∧ 0 ≤ b + 1 + 1 + 2 * (y.f2.length : Int)) := ⟨(drop_cons HF.out.1).2.2, by have h2 := HF.out.2.1; simp only [numCv] at h2; omega, by omega⟩
      clear hM2 hx0 hx1 hx2 hf0 hf1 HM2 HF2 HF
      go_wp2_with fail
      go_roundw
      case rel => exact ⟨m + 1, _, ys, rfl, by go_num, by omega, HFn, HM3⟩
      case measure => simp [intOf]; omega
    · have HE : Aside0 (b = a + numCv l) := ⟨by
        obtain ⟨f1, f2, _⟩ := HF.out
        have : ys = [] := by rw [← f1, List.drop_eq_nil_of_le (by omega)]
        subst this
        simp only [numCv, Int.add_zero] at f2
        exact f2⟩
      clear HF
      go_wp2
      go_ret
      obtain rfl := HE.out
      exact ⟨rfl, HM.out⟩

end Go.Proofs.Ytgpdjpololkhbaa.Pure

namespace Go.Proofs.Ytgpdjpololkhbaa.Pure
open Go.RowKit Go.Proofs.Ytgpdjpololkhbaa.F Go.Proofs.YtgpdjpololkhbaaW.PrintWords Go.Proofs.YtgpdjpololkhbaaW.PrintLast Go.Proofs.YtgpdjpololkhbaaW.PrintMore Go.Proofs.YtgpdjpololkhbaaB
set_option linter.unusedVariables false
set_option linter.unusedSimpArgs false
/-- What the number behind marks from a on is. -/
def MarkCv (l ys : List S172) (a n : Int) : Prop := l.length ≤ 1048576 ∧ (∀ y ∈ l, y.f2.length ≤ 1048576) ∧ 0 ≤ a ∧ a + numCv l ≤ 2305843009213693952 ∧ n = a + numCv l ∧ ys = l
theorem MK_CurveS (P : Nat → Prop) (A : Option Addr) (c : Nat) (l ys : List S172) (a n : Int) (w0 w : World) (hB : Below w0.heap.size w0 w) (hO : Kd.S k172 172 w w0.heap.size P (.slice A l.length c) l) (h : MarkCv l ys a n) :
    Calls Try.prog 65 #[.slice A l.length c, .int .i64 a] w fun e w' => e = .returned (.int .i64 n) ∧ True ∧ Below w0.heap.size w0 w' ∧ Kept w w' P := by
  obtain ⟨h1, h2, h3, h4, rfl, _⟩ := h
  have hO2 := Kd.S_mono (Kd.S_bound hO) (ok' := fun k => P k ∧ w0.heap.size ≤ k) (fun k hk => ⟨hk.1, hk.2.1⟩)
  exact (markCurveS_mut (fun k => P k ∧ w0.heap.size ≤ k) _ l a _ w hO2 h1 h2 h3 h4).mono fun e w' ⟨he, hm⟩ => ⟨he, trivial, hm.below hB (fun k hk => hk.2), hm.kept.mono (fun k hk => hk.1)⟩

end Go.Proofs.Ytgpdjpololkhbaa.Pure

namespace Go.Proofs.Ytgpdjpololkhbaa.Pure
open Go.RowKit Go.Proofs.Ytgpdjpololkhbaa.F Go.Proofs.YtgpdjpololkhbaaW.PrintWords Go.Proofs.YtgpdjpololkhbaaW.PrintLast Go.Proofs.YtgpdjpololkhbaaW.PrintMore Go.Proofs.YtgpdjpololkhbaaB
set_option linter.unusedVariables false
set_option linter.unusedSimpArgs false
theorem MK_Int64S (P : Nat → Prop) (A : Option Addr) (c : Nat) (l ys : List Int) (a n : Int) (w0 w : World) (hB : Below w0.heap.size w0 w) (hO : Kd.R (Kd.int .i64) 2 w w0.heap.size P (.slice A l.length c) l) (h : Ev (fun k => laws_markInt64S.f k l a) (n, ys)) :
    Calls Try.prog 22 #[.slice A l.length c, .int .i64 a] w fun e w' => e = .returned (.int .i64 n) ∧ Kd.R (Kd.int .i64) 2 w' w0.heap.size (fun k => P k ∨ w.heap.size ≤ k) (.slice A l.length c) ys ∧ Below w0.heap.size w0 w' ∧ Kept w w' P := by
  obtain ⟨k, h⟩ := h.rounds
  exact laws_markInt64S.calls k P _ l a n ys w0 w hB hO h

end Go.Proofs.Ytgpdjpololkhbaa.Pure

namespace Go.Proofs.Ytgpdjpololkhbaa.Pure
open Go.RowKit Go.Proofs.Ytgpdjpololkhbaa.F Go.Proofs.YtgpdjpololkhbaaW.PrintWords Go.Proofs.YtgpdjpololkhbaaW.PrintLast Go.Proofs.YtgpdjpololkhbaaW.PrintMore Go.Proofs.YtgpdjpololkhbaaB
set_option linter.unusedVariables false
set_option linter.unusedSimpArgs false
section
variable {α : Type} {d : Kd α} {e : Nat} {w : World} {base : Nat} {ok : Nat → Prop} {A : Option Addr} {n c : Nat} {xs : List α}
theorem Kd.R_now (h : d.R e w base ok (.slice A n c) xs) (hl : xs.length = n) : xs.length ≤ c ∧ d.C w A xs.length xs := by
  obtain ⟨h1, h2, h3⟩ := Kd.R_reads' h
  exact ⟨by omega, h3⟩
theorem Kd.S_now (h : Kd.S d e w base ok (.slice A n c) xs) (hl : xs.length = n) : xs.length ≤ c ∧ d.C w A xs.length xs := by
  obtain ⟨h1, h2, h3⟩ := Kd.S_reads' h
  exact ⟨by omega, h3⟩
end

end Go.Proofs.Ytgpdjpololkhbaa.Pure

namespace Go.Proofs.Ytgpdjpololkhbaa.Pure
open Go.RowKit Go.Proofs.Ytgpdjpololkhbaa.F Go.Proofs.YtgpdjpololkhbaaW.PrintWords Go.Proofs.YtgpdjpololkhbaaW.PrintLast Go.Proofs.YtgpdjpololkhbaaW.PrintMore Go.Proofs.YtgpdjpololkhbaaB
set_option linter.unusedVariables false
set_option linter.unusedSimpArgs false
theorem SZ_CurveS (A : Option Addr) (c : Nat) (l : List S169) (a n : Int) (w : World) (hr : Kd.C k169 w A l.length l) (hc : l.length ≤ c) (h : Ev (fun k => laws_szCurveS.f k l a) n) :
    Calls Try.prog 60 #[.slice A l.length c, .int .i64 a] w fun e w' => e = .returned (.int .i64 n) ∧ Below w.heap.size w w' := by
  obtain ⟨k, h⟩ := h.rounds
  exact (laws_szCurveS.calls k A c l a n w hr hc h).mono fun e w' ⟨h1, h2⟩ => ⟨h1, h2⟩

end Go.Proofs.Ytgpdjpololkhbaa.Pure

namespace Go.Proofs.Ytgpdjpololkhbaa.Pure
open Go.RowKit Go.Proofs.Ytgpdjpololkhbaa.F Go.Proofs.YtgpdjpololkhbaaW.PrintWords Go.Proofs.YtgpdjpololkhbaaW.PrintLast Go.Proofs.YtgpdjpololkhbaaW.PrintMore Go.Proofs.YtgpdjpololkhbaaB
set_option linter.unusedVariables false
set_option linter.unusedSimpArgs false
theorem SZ_StrokeS (A : Option Addr) (c : Nat) (l : List S106) (a n : Int) (w : World) (hr : Kd.C k106 w A l.length l) (hc : l.length ≤ c) (h : Ev (fun k => laws_szStrokeS.f k l a) n) :
    Calls Try.prog 15 #[.slice A l.length c, .int .i64 a] w fun e w' => e = .returned (.int .i64 n) ∧ Below w.heap.size w w' := by
  obtain ⟨k, h⟩ := h.rounds
  exact (laws_szStrokeS.calls k A c l a n w hr hc h).mono fun e w' ⟨h1, h2⟩ => ⟨h1, h2⟩

end Go.Proofs.Ytgpdjpololkhbaa.Pure

namespace Go.Proofs.Ytgpdjpololkhbaa.Pure
open Go.RowKit Go.Proofs.Ytgpdjpololkhbaa.F Go.Proofs.YtgpdjpololkhbaaW.PrintWords Go.Proofs.YtgpdjpololkhbaaW.PrintLast Go.Proofs.YtgpdjpololkhbaaW.PrintMore Go.Proofs.YtgpdjpololkhbaaB
set_option linter.unusedVariables false
set_option linter.unusedSimpArgs false
theorem TO_CurveS (A : Option Addr) (c : Nat) (l : List S169) (xs : List S172) (w : World) (hr : Kd.C k169 w A l.length l) (hc : l.length ≤ c) (h : Ev (fun k => laws_toCurveS.f k l) xs) :
    Calls Try.prog 62 #[.slice A l.length c] w fun e w' => ∃ A' c', e = .returned (.slice A' xs.length c') ∧ Kd.S k172 172 w' w.heap.size (fun k => w.heap.size ≤ k ∧ k < w'.heap.size) (.slice A' xs.length c') xs ∧ Below w.heap.size w w' := by
  obtain ⟨k, h⟩ := h.rounds
  refine (laws_toCurveS.calls k A c l xs w hr hc h).mono fun e w' ⟨v, h1, h2, h3⟩ => ?_
  obtain ⟨A', c', rfl⟩ := Kd.S_slice h2
  exact ⟨A', c', h1, Kd.S_mono (Kd.S_bound h2) (fun k hk => ⟨hk.2.1, hk.2.2.1⟩), h3⟩

end Go.Proofs.Ytgpdjpololkhbaa.Pure

namespace Go.Proofs.Ytgpdjpololkhbaa.Pure
open Go.RowKit Go.Proofs.Ytgpdjpololkhbaa.F Go.Proofs.YtgpdjpololkhbaaW.PrintWords Go.Proofs.YtgpdjpololkhbaaW.PrintLast Go.Proofs.YtgpdjpololkhbaaW.PrintMore Go.Proofs.YtgpdjpololkhbaaB
set_option linter.unusedVariables false
set_option linter.unusedSimpArgs false
theorem TO_StrokeS (A : Option Addr) (c : Nat) (l : List S106) (xs : List S110) (w : World) (hr : Kd.C k106 w A l.length l) (hc : l.length ≤ c) (h : Ev (fun k => laws_toStrokeS.f k l) xs) :
    Calls Try.prog 17 #[.slice A l.length c] w fun e w' => ∃ A' c', e = .returned (.slice A' xs.length c') ∧ Kd.S k110 110 w' w.heap.size (fun k => w.heap.size ≤ k ∧ k < w'.heap.size) (.slice A' xs.length c') xs ∧ Below w.heap.size w w' := by
  obtain ⟨k, h⟩ := h.rounds
  refine (laws_toStrokeS.calls k A c l xs w hr hc h).mono fun e w' ⟨v, h1, h2, h3⟩ => ?_
  obtain ⟨A', c', rfl⟩ := Kd.S_slice h2
  exact ⟨A', c', h1, Kd.S_mono (Kd.S_bound h2) (fun k hk => ⟨hk.2.1, hk.2.2.1⟩), h3⟩

end Go.Proofs.Ytgpdjpololkhbaa.Pure
