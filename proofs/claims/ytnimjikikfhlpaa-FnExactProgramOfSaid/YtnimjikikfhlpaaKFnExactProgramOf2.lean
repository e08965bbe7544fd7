/-
  A part of the proof of FnExactProgramOf: contracts of the Go functions that it reaches, and plain statements on what they come to; each says its own conditions.
-/
import Derived.Test.YtnimjikikfhlpaaKFnExactProgramOf1

namespace Go.Proofs.Ytnimjikikfhlpaa.F
open Go.RowKit Go.Proofs.YtnimjikikfhlpaaW.PrintWords Go.Proofs.YtnimjikikfhlpaaW.PrintLast Go.Proofs.YtnimjikikfhlpaaW.PrintMore
attribute [local go_sem] max2_int min2_int max_two min_two max_three min_three max_four min_four   -- for this text's walks alone
set_option linter.unusedVariables false
set_option linter.unusedSimpArgs false

/-! ### impl_ProgramOf: function 61 -/
mutual
def impl_ProgramOf.l0 : Nat → List (S125) → Int → List (S107) → Int → Int → Option ((List (S125)) × Int)
  | 0, _, _, _, _, _ => none
  | k + 1, x5, x6, x18, x19, x20 => if x20 < x19 then (if 0 ≤ x20 then (if x20 < (x18.length : Int) then (if ((rd_T107 x18 x20).f0) = x6 then (impl_ProgramOf.j1 k x5 x6 x18 x19 x20 ((rd_T107 x18 x20).f0) ((rd_T107 x18 x20).f1)) else (if x5.length < 5864062014805 then (impl_ProgramOf.j1 k (x5 ++ [(⟨80, (rd_T107 x18 x20).f0, 0⟩ : S125)]) ((rd_T107 x18 x20).f0) x18 x19 x20 ((rd_T107 x18 x20).f0) ((rd_T107 x18 x20).f1)) else (none))) else (none)) else (none)) else (if (x5.length : Int) > 400 then (some (([] : List (S125)), 3)) else (some (x5, 0)))
def impl_ProgramOf.j1 : Nat → List (S125) → Int → List (S107) → Int → Int → Int → List (S142) → Option ((List (S125)) × Int)
  | 0, _, _, _, _, _, _, _ => none
  | k + 1, x5, x6, x18, x19, x20, x1159000, x1159001 => impl_ProgramOf.l1 k x5 x6 85 x18 x19 x20 x1159001 (x1159001.length : Int) 0
def impl_ProgramOf.l1 : Nat → List (S125) → Int → Int → List (S107) → Int → Int → List (S142) → Int → Int → Option ((List (S125)) × Int)
  | 0, _, _, _, _, _, _, _, _, _ => none
  | k + 1, x5, x6, x9, x18, x19, x20, x37, x38, x39 => if x39 < x38 then (if 0 ≤ x39 then (if x39 < (x37.length : Int) then (if x5.length < 5864062014805 then (impl_ProgramOf.l1 k (x5 ++ [(⟨x9, (rd_T142 x37 x39).f0, (rd_T142 x37 x39).f1⟩ : S125)]) x6 68 x18 x19 x20 x37 x38 (wrap64 (x39 + 1))) else (none)) else (none)) else (none)) else (impl_ProgramOf.l0 k x5 x6 x18 x19 (wrap64 (x20 + 1)))
end
def impl_ProgramOf.f (k : Nat) (l0 : List (S107)) : Option ((List (S125)) × Int) := (impl_drawing.f k l0).bind fun t1153 => (if t1153 = 0 then (impl_ProgramOf.l0 k (([] : List (S125))) 0 l0 (l0.length : Int) 0) else (some (([] : List (S125)), t1153)))
theorem impl_ProgramOf.mono_l : ∀ k, (∀ y0 y1 y2 y3 y4, LeO (impl_ProgramOf.l0 k y0 y1 y2 y3 y4) (impl_ProgramOf.l0 (k + 1) y0 y1 y2 y3 y4)) ∧ (∀ y0 y1 y2 y3 y4 y5 y6, LeO (impl_ProgramOf.j1 k y0 y1 y2 y3 y4 y5 y6) (impl_ProgramOf.j1 (k + 1) y0 y1 y2 y3 y4 y5 y6)) ∧ (∀ y0 y1 y2 y3 y4 y5 y6 y7 y8, LeO (impl_ProgramOf.l1 k y0 y1 y2 y3 y4 y5 y6 y7 y8) (impl_ProgramOf.l1 (k + 1) y0 y1 y2 y3 y4 y5 y6 y7 y8))
  | 0 => ⟨fun _ _ _ _ _ r h => by simp [impl_ProgramOf.l0] at h, fun _ _ _ _ _ _ _ r h => by simp [impl_ProgramOf.j1] at h, fun _ _ _ _ _ _ _ _ _ r h => by simp [impl_ProgramOf.l1] at h⟩
  | k + 1 => by
    obtain ⟨ih0, ih1, ih2⟩ := impl_ProgramOf.mono_l k
    refine ⟨?_, ?_, ?_⟩
    · intro y0 y1 y2 y3 y4
      unfold impl_ProgramOf.l0
      repeat' first
      | (with_reducible exact ih0 _ _ _ _ _)
      | (with_reducible exact ih1 _ _ _ _ _ _ _)
      | (with_reducible exact ih2 _ _ _ _ _ _ _ _ _)
      | (with_reducible exact impl_drawing.mono _ _)
      | (with_reducible exact LeO.refl _)
      | (with_reducible exact LeO.none _)
      | (with_reducible refine LeO.ite ?_ ?_)
      | (with_reducible refine LeO.bind ?_ (fun _ => ?_))
      | exact ih0 _ _ _ _ _
      | exact ih1 _ _ _ _ _ _ _
      | exact ih2 _ _ _ _ _ _ _ _ _
      | exact impl_drawing.mono _ _
      | exact LeO.none _
      | refine LeO.ite ?_ ?_
      | refine LeO.bind ?_ (fun _ => ?_)
    · intro y0 y1 y2 y3 y4 y5 y6
      unfold impl_ProgramOf.j1
      repeat' first
      | (with_reducible exact ih0 _ _ _ _ _)
      | (with_reducible exact ih1 _ _ _ _ _ _ _)
      | (with_reducible exact ih2 _ _ _ _ _ _ _ _ _)
      | (with_reducible exact impl_drawing.mono _ _)
      | (with_reducible exact LeO.refl _)
      | (with_reducible exact LeO.none _)
      | (with_reducible refine LeO.ite ?_ ?_)
      | (with_reducible refine LeO.bind ?_ (fun _ => ?_))
      | exact ih0 _ _ _ _ _
      | exact ih1 _ _ _ _ _ _ _
      | exact ih2 _ _ _ _ _ _ _ _ _
      | exact impl_drawing.mono _ _
      | exact LeO.none _
      | refine LeO.ite ?_ ?_
      | refine LeO.bind ?_ (fun _ => ?_)
    · intro y0 y1 y2 y3 y4 y5 y6 y7 y8
      unfold impl_ProgramOf.l1
      repeat' first
      | (with_reducible exact ih0 _ _ _ _ _)
      | (with_reducible exact ih1 _ _ _ _ _ _ _)
      | (with_reducible exact ih2 _ _ _ _ _ _ _ _ _)
      | (with_reducible exact impl_drawing.mono _ _)
      | (with_reducible exact LeO.refl _)
      | (with_reducible exact LeO.none _)
      | (with_reducible refine LeO.ite ?_ ?_)
      | (with_reducible refine LeO.bind ?_ (fun _ => ?_))
      | exact ih0 _ _ _ _ _
      | exact ih1 _ _ _ _ _ _ _
      | exact ih2 _ _ _ _ _ _ _ _ _
      | exact impl_drawing.mono _ _
      | exact LeO.none _
      | refine LeO.ite ?_ ?_
      | refine LeO.bind ?_ (fun _ => ?_)
theorem impl_ProgramOf.mono : ∀ a0 k, LeO (impl_ProgramOf.f k a0) (impl_ProgramOf.f (k + 1) a0) := by
  intro a0 k
  obtain ⟨ih0, ih1, ih2⟩ := impl_ProgramOf.mono_l k
  unfold impl_ProgramOf.f
  repeat' first
      | (with_reducible exact ih0 _ _ _ _ _)
      | (with_reducible exact ih1 _ _ _ _ _ _ _)
      | (with_reducible exact ih2 _ _ _ _ _ _ _ _ _)
      | (with_reducible exact impl_drawing.mono _ _)
      | (with_reducible exact LeO.refl _)
      | (with_reducible exact LeO.none _)
      | (with_reducible refine LeO.ite ?_ ?_)
      | (with_reducible refine LeO.bind ?_ (fun _ => ?_))
      | exact ih0 _ _ _ _ _
      | exact ih1 _ _ _ _ _ _ _
      | exact ih2 _ _ _ _ _ _ _ _ _
      | exact impl_drawing.mono _ _
      | exact LeO.none _
      | refine LeO.ite ?_ ?_
      | refine LeO.bind ?_ (fun _ => ?_)
set_option maxHeartbeats 8000000 in
set_option maxRecDepth 100000 in
theorem impl_ProgramOf.calls (k : Nat) (A0 : Option Addr) (c0 : Nat) (l0 : List (S107)) (r1 : List (S125)) (r2 : Int) (w : World) (hr0 : Kd.C k107 w A0 l0.length l0) (hc0 : l0.length ≤ c0) (h : impl_ProgramOf.f k l0 = some (r1, r2)) :
    Calls Try.prog 61 #[.slice A0 l0.length c0] w fun e w' => ∃ v0_ : Value, e = .returned (.tuple #[v0_, .int .i64 r2]) ∧ Kd.R k125 125 w' w.heap.size (fun _ => True) v0_ r1 ∧ Below w.heap.size w w' := by
  have hu107 := Try.underlying107
  have hu125 := Try.underlying125
  have hu142 := Try.underlying142
  have HR0 := Aside0.mk hr0
  have HC0 := Aside0.mk hc0
  clear hr0 hc0
  have HB := Aside0.mk (Below.refl w.heap.size w)
  have H : ((impl_drawing.f k l0).bind fun t1153 => (if t1153 = 0 then (impl_ProgramOf.l0 k (([] : List (S125))) 0 l0 (l0.length : Int) 0) else (some (([] : List (S125)), t1153)))) = some (r1, r2) := h
  clear h
  replace H := Option.bind_eq_some_iff.mp H
  obtain ⟨t1153, A20, H⟩ := H
  replace H : (if t1153 = 0 then (impl_ProgramOf.l0 k (([] : List (S125))) 0 l0 (l0.length : Int) 0) else (some (([] : List (S125)), t1153))) = some (r1, r2) := H
  have A2 := Aside0.mk A20
  clear A20
  by_cases c3 : t1153 = 0
  · rw [if_pos c3] at H
    have c3b0 : (t1153 == 0) = true := beq_iff_eq.mpr c3
    have c3b1 : (t1153 != 0) = false := bne_eq_false_iff_eq.mpr c3
    clear c3
    obtain ⟨y1154, hy1154⟩ : ∃ y_ : List (S125), y_ = (([] : List (S125))) := ⟨_, rfl⟩
    replace H : (impl_ProgramOf.l0 k y1154 0 l0 (l0.length : Int) 0) = some (r1, r2) := by first | (rw [hy1154]; with_reducible exact H) | (have H2_ := (Option.bind_some _ _).symm.trans H; rw [hy1154]; with_reducible exact H2_) | (have H2_ := (Option.bind_some _ _).symm.trans H; with_reducible exact H2_) | with_reducible exact H | (rw [hy1154]; exact H) | exact H
    have Ny1154 := Aside0.mk hy1154
    clear hy1154
    have H' := Aside0.mk H
    clear H
    go_enter Try.func61, Try.ntmps61
    go_wp2_with (first | ((with_reducible refine gate_callee (f := 68) rfl ?_); refine goesL_ (some 13) rfl rfl Try.func68 (by kernel_rfl) rfl #[.slice A0 l0.length c0] rfl (by (try simp only [List.map_toArray, List.map_cons, List.map_nil]); first | done | rfl | (simp only [List.length_drop, List.length_take]; rfl)) ?_; (with_reducible refine (impl_drawing.calls k _ _ l0 t1153 _ ?side1 ?side2 A2.out).mono ?_); (case side1 => repeat (first | exact HR0.out | (with_reducible refine Kd.C_alloc ?_ _) | (with_reducible refine Kd.C_drewN ?_ _) | (with_reducible refine Kd.C_drew ?_))); (case side2 => exact HC0.out); rintro e w4 ⟨rfl, hb⟩; refine ⟨_, rfl, ?_⟩; have n0_ := Aside0.mk (below_step (by repeat (first | (with_reducible first | exact HB.out | apply below_alloc | apply pw_below_drewN | apply below_drew1) | exact HB.out)) hb); clear HB; have HB := n0_; clear n0_; (try clear hb); (try clear hb2); (try clear hk); (try clear hi)) | ((with_reducible refine gate_dst (N := 17) rfl ?_); refine Kd.R_lit k125 _ 125 ?hg (N := 17) ?hd (xs := ([] : List (S125))) (inner := []) (ok := fun _ => True) (okp := fun _ => True) ?hr ?hp (fun _ hk => hk) trivial (Below.refl _ _) (Nat.le_refl _) (by simp) ?_; (case hd => rfl); (case hg => rfl); (case hr => first | (go_simp; done) | (go_simp; rfl)); (case hp => exact (Reps.none _ _)); intro v1155 w5 ho6 hb hg_ hnew_; clear hg_ hnew_; (first | rw [← Ny1154.out] at ho6 | (simp only [Int.reduceToNat] at ho6; rw [← Ny1154.out] at ho6)); have n0_ := Aside0.mk (Kd.R_lower ho6 (below_size (by repeat (first | (with_reducible first | exact HB.out | apply below_alloc | apply pw_below_drewN | apply below_drew1) | exact HB.out)))); have n1_ := Aside0.mk (below_step (by repeat (first | (with_reducible first | exact HB.out | apply below_alloc | apply pw_below_drewN | apply below_drew1) | exact HB.out)) hb); clear HB; have HO1156 := n0_; have HB := n1_; clear n0_ n1_; clear hb ho6))
    go_loopg [5, 6, 20] k (fun kq v5 v6 v20 w' => ∃ (x5_1 : List (S125)) (x6_1 : Int) (x20_1 : Int), v6 = .int .i64 x6_1 ∧ v20 = .int .i64 x20_1 ∧ Aside0 (impl_ProgramOf.l0 kq x5_1 x6_1 l0 (l0.length : Int) x20_1 = some (r1, r2)) ∧ Aside0 (kq ≤ k) ∧ Aside0 (Kd.R k125 125 w' w.heap.size (fun _ => True) v5 x5_1) ∧ Aside0 (Below w.heap.size w w'))
    case atStart => exact ⟨(y1154), (0), (0), (by first | rfl | (simp; done) | (simp [*]; done)), (by first | rfl | (simp; done) | (simp [*]; done)), H', ⟨Nat.le_refl _⟩, ⟨by (with_reducible repeat (first | apply Kd.R_alloc | apply Kd.R_drewN | apply Kd.R_drew)); exact HO1156.out⟩, ⟨by repeat (first | (with_reducible first | exact HB.out | apply below_alloc | apply pw_below_drewN | apply below_drew1) | exact HB.out)⟩⟩
    case round =>
      clear H'
      try clear p2
      try clear c3
      try clear c3b0
      try clear c3b1
      try clear c6
      obtain ⟨x5_1, x6_1, x20_1, rfl, rfl, HA, HK1, HO_5, HB⟩ := hrel
      cases gk with
      | zero => exact absurd HA.out (by simp [impl_ProgramOf.l0])
      | succ k1 =>
        have H := HA.out
        clear HA
        simp only [impl_ProgramOf.l0] at H
        by_cases c7 : x20_1 < (l0.length : Int)
        · rw [if_pos c7] at H
          have c7b0 : decide (x20_1 < (l0.length : Int)) = true := decide_eq_true c7
          clear c7
          by_cases c8 : 0 ≤ x20_1
          · rw [if_pos c8] at H
            have c8b0 : decide (0 ≤ x20_1) = true := decide_eq_true c8
            clear c8
            by_cases c9 : x20_1 < (l0.length : Int)
            · rw [if_pos c9] at H
              have c9b0 : decide (x20_1 < (l0.length : Int)) = true := decide_eq_true c9
              clear c9
              have HC10 := Aside0.mk H
              clear H
              have p1157 : 0 ≤ (x20_1 : Int) := of_decide_eq_true (by first | (with_reducible assumption) | assumption)
              have q1157 : x20_1 < (l0.length : Int) := of_decide_eq_true (by first | (with_reducible assumption) | assumption)
              obtain ⟨ad1157, A1157_1, c1157_1, e1157, hx1157_0, hx1157_1, hl1157_1, hi1157_1⟩ := at_T107 HR0.out x20_1 p1157 q1157
              cases e1157
              replace hx1157_0 := (HB.out.cell (World.block_lt_of_cell? w _ hx1157_0)).trans hx1157_0
              replace hx1157_1 := (HB.out.cell (World.block_lt_of_cell? w _ hx1157_1)).trans hx1157_1
              have HR1157_1 := Aside0.mk hi1157_1
              have HC1157_1 := Aside0.mk hl1157_1
              clear hi1157_1 hl1157_1
              replace p1157 := eq_true p1157
              replace q1157 := eq_true q1157
              go_upto_if 27 with (first | ((with_reducible refine gate_dst (N := 8) rfl ?_); refine box_event ?hg (N := 8) ?hd (cs := #[.int .i64 0, .slice none 0 0]) (t := 107) ?hr ?_; (case hd => rfl); (case hg => rfl); (case hr => first | (go_simp; done) | (go_simp; rfl)); intro gb1158 hg w11 hbox hb; have n0_ := Aside0.mk (Kd.R_below (by (with_reducible repeat (first | apply Kd.R_alloc | apply Kd.R_drewN | apply Kd.R_drew)); exact HO_5.out) hb); have n1_ := Aside0.mk (below_step (by repeat (first | (with_reducible first | exact HB.out | apply below_alloc | apply pw_below_drewN | apply below_drew1) | exact HB.out)) hb); have n2_ := Aside0.mk (hbox); have n3_ := Aside0.mk ((by rw [hg]; exact (below_size (by repeat (first | (with_reducible first | exact HB.out | apply below_alloc | apply pw_below_drewN | apply below_drew1) | exact HB.out))) : w.heap.size ≤ gb1158)); have n4_ := Aside0.mk ((by rw [hg]; exact (below_size (by repeat (first | (with_reducible first | exact HB.out | apply below_alloc | apply pw_below_drewN | apply below_drew1) | exact HB.out))) : w.heap.size ≤ gb1158)); clear HO_5; clear HB; have HO_5 := n0_; have HB := n1_; have BK1158 := n2_; have GW1158 := n3_; have GE1158 := n4_; clear n0_ n1_ n2_ n3_ n4_; clear hb hbox hg; have hcz12_0 : w11.cell? ⟨gb1158, 0, none⟩ = some (.int .i64 0) := (blk_cell BK1158.out 0).trans rfl; have hcz12_1 : w11.cell? ⟨gb1158, 1, none⟩ = some (.slice none 0 0) := (blk_cell BK1158.out 1).trans rfl; have hfz12_0 := blk_frozen BK1158.out 0; have hfz12_1 := blk_frozen BK1158.out 1))
              (try simp only [Act.put, List.setIfInBounds_toArray, List.set_cons_zero, List.set_cons_succ])
              go_cut [5, 6] (fun v5 v6 wc => ∃ (kq : Nat) (x5_9 : List (S125)) (x6_9 : Int), v6 = .int .i64 x6_9 ∧ Aside0 (impl_ProgramOf.j1 kq x5_9 x6_9 l0 (l0.length : Int) x20_1 ((rd_T107 l0 x20_1).f0) ((rd_T107 l0 x20_1).f1) = some (r1, r2)) ∧ Aside0 (kq ≤ k1) ∧ Aside0 (Kd.R k125 125 wc w.heap.size (fun _ => True) v5 x5_9) ∧ Aside0 (wc.heap[gb1158]? = some (.cells #[.int .i64 ((rd_T107 l0 x20_1).f0), (.slice A1157_1 ((rd_T107 l0 x20_1).f1).length c1157_1)] 107 (0, 0))) ∧ Aside0 (Below w.heap.size w wc))
              case first =>
                have H := HC10.out
                clear HC10
                by_cases c13 : ((rd_T107 l0 x20_1).f0) = x6_1
                · rw [if_pos c13] at H
                  have c13b0 : (((rd_T107 l0 x20_1).f0) == x6_1) = true := beq_iff_eq.mpr c13
                  have c13b1 : (((rd_T107 l0 x20_1).f0) != x6_1) = false := bne_eq_false_iff_eq.mpr c13
                  clear c13
                  (first | rw [c13b0] | (simp only [i64_w, i32_w]; rw [c13b0]) | skip)
                  have H' := Aside0.mk H
                  clear H
                  go_wp2
                  go_meet
                  case rel => exact ⟨_, (x5_1), (x6_1), (by first | rfl | (simp; done) | (simp [*]; done)), H', ⟨by have := HK1.out; first | omega | exact Nat.le_refl _⟩, ⟨by (with_reducible repeat (first | apply Kd.R_alloc | apply Kd.R_drewN | apply Kd.R_drew)); exact Kd.R_mono (Kd.R_far (p := ⟨gb1158, 1, none⟩) (Kd.R_far (p := ⟨gb1158, 0, none⟩) (Kd.R_types HO_5.out BK1158.out (by decide)) (fun _ hk => hk.2) (.int .i64 ((rd_T107 l0 x20_1).f0))) (fun _ hk => hk.2) (.slice A1157_1 ((rd_T107 l0 x20_1).f1).length c1157_1)) (fun _ hk => trivial)⟩, ⟨by (with_reducible repeat (first | refine blk_drewN ?_ _ | refine blk_drew ?_ | refine blk_alloc ?_ _)); refine blk_put (cs := #[.int .i64 ((rd_T107 l0 x20_1).f0), .slice none 0 0]) ?_ 1 _ rfl; (with_reducible repeat (first | refine blk_drewN ?_ _ | refine blk_drew ?_ | refine blk_alloc ?_ _)); refine blk_put (cs := #[.int .i64 0, .slice none 0 0]) ?_ 0 _ rfl; (with_reducible repeat (first | refine blk_drewN ?_ _ | refine blk_drew ?_ | refine blk_alloc ?_ _)); exact BK1158.out⟩, ⟨by repeat (first | (with_reducible first | exact HB.out | apply below_alloc | apply pw_below_drewN | apply below_drew1 | refine below_set ?_ GE1158.out) | exact HB.out)⟩⟩
                · rw [if_neg c13] at H
                  have c13b0 : (((rd_T107 l0 x20_1).f0) == x6_1) = false := beq_eq_false_iff_ne.mpr c13
                  have c13b1 : (((rd_T107 l0 x20_1).f0) != x6_1) = true := bne_iff_ne.mpr c13
                  (first | rw [c13b0] | (simp only [i64_w, i32_w]; rw [c13b0]) | skip)
                  by_cases c14 : x5_1.length < 5864062014805
                  · rw [if_pos c14] at H
                    have LMc14 := Aside0.mk c14
                    clear c14
                    obtain ⟨y1159, hy1159⟩ : ∃ y_ : List (S125), y_ = (x5_1 ++ [(⟨80, (rd_T107 l0 x20_1).f0, 0⟩ : S125)]) := ⟨_, rfl⟩
                    replace H : (impl_ProgramOf.j1 k1 y1159 ((rd_T107 l0 x20_1).f0) l0 (l0.length : Int) x20_1 ((rd_T107 l0 x20_1).f0) ((rd_T107 l0 x20_1).f1)) = some (r1, r2) := by first | (rw [hy1159]; with_reducible exact H) | (have H2_ := (Option.bind_some _ _).symm.trans H; rw [hy1159]; with_reducible exact H2_) | (have H2_ := (Option.bind_some _ _).symm.trans H; with_reducible exact H2_) | with_reducible exact H | (rw [hy1159]; exact H) | exact H
                    have Ny1159 := Aside0.mk hy1159
                    clear hy1159
                    have H' := Aside0.mk H
                    clear H
                    have hcz15_0 : w11.cell? ⟨gb1158, 0, none⟩ = some (.int .i64 0) := (blk_cell BK1158.out 0).trans rfl
                    have hcz15_1 : w11.cell? ⟨gb1158, 1, none⟩ = some (.slice none 0 0) := (blk_cell BK1158.out 1).trans rfl
                    have hfz15_0 := blk_frozen BK1158.out 0
                    have hfz15_1 := blk_frozen BK1158.out 1
                    go_wp2_with (first | ((with_reducible refine gate_builtin (b := .append) (xs := #[.tmp 28, .tmp 32]) rfl ?_); at_builtin; refine Kd.R_append k125 (w0 := w) w.heap.size rfl (.tmp 28) (.tmp 32) 46 125 (.agg #[(.int .u8 0), (.int .i64 0), (.int .i64 0)]) 24 rfl Try.underlying46 info125 rfl (by decide) (by omega) u5 x5_1 (⟨80, (rd_T107 l0 x20_1).f0, 0⟩ : S125) [.int .u8 80, .int .i64 ((rd_T107 l0 x20_1).f0), .int .i64 0] (fun _ => True) (fun _ => False) rfl (by first | (go_simp; done) | (go_simp; rfl)) ?aP (fun _ hk => hk.elim) ?aF ?aO ?aB ?aS ?aL ?_; (case aP => exact k125_mkM _ _ _ (⟨80, (rd_T107 l0 x20_1).f0, 0⟩ : S125)); (case aB => exact (by repeat (first | (with_reducible first | exact HB.out | apply below_alloc | apply pw_below_drewN | apply below_drew1 | refine below_set ?_ GE1158.out) | exact HB.out))); (case aF => exact (fun _ _ => trivial)); (case aO => exact (by (with_reducible repeat (first | apply Kd.R_alloc | apply Kd.R_drewN | apply Kd.R_drew)); exact Kd.R_mono (Kd.R_far (p := ⟨gb1158, 1, none⟩) (Kd.R_far (p := ⟨gb1158, 0, none⟩) (Kd.R_types HO_5.out BK1158.out (by decide)) (fun _ hk => hk.2) (.int .i64 ((rd_T107 l0 x20_1).f0))) (fun _ hk => hk.2) (.slice A1157_1 ((rd_T107 l0 x20_1).f1).length c1157_1)) (fun _ hk => trivial))); (case aS => exact (below_size (by repeat (first | (with_reducible first | exact HB.out | apply below_alloc | apply pw_below_drewN | apply below_drew1 | refine below_set ?_ GE1158.out) | exact HB.out)))); (case aL => have := LMc14.out; omega); intro v1160 w16 ho hb hg hat; rw [← Ny1159.out] at ho; have n0_ := Aside0.mk (blk_grown (g := gb1158) (o := .cells #[.int .i64 ((rd_T107 l0 x20_1).f0), .slice A1157_1 ((rd_T107 l0 x20_1).f1).length c1157_1] 107 (0, 0)) (by (with_reducible repeat (first | refine blk_drewN ?_ _ | refine blk_drew ?_ | refine blk_alloc ?_ _)); refine blk_put (cs := #[.int .i64 ((rd_T107 l0 x20_1).f0), .slice none 0 0]) ?_ 1 _ rfl; (with_reducible repeat (first | refine blk_drewN ?_ _ | refine blk_drew ?_ | refine blk_alloc ?_ _)); refine blk_put (cs := #[.int .i64 0, .slice none 0 0]) ?_ 0 _ rfl; (with_reducible repeat (first | refine blk_drewN ?_ _ | refine blk_drew ?_ | refine blk_alloc ?_ _)); exact BK1158.out) hg (Kd.R_ne HO_5.out BK1158.out (by decide))); have n1_ := Aside0.mk (hb); have n2_ := Aside0.mk (ho); clear BK1158; clear HB; clear HO_5; have BK1158 := n0_; have HB := n1_; have HO1161 := n2_; clear n0_ n1_ n2_; clear ho hb hg hat; have hcz17_0 : w16.cell? ⟨gb1158, 0, none⟩ = some (.int .i64 ((rd_T107 l0 x20_1).f0)) := (blk_cell BK1158.out 0).trans rfl; have hcz17_1 : w16.cell? ⟨gb1158, 1, none⟩ = some (.slice A1157_1 ((rd_T107 l0 x20_1).f1).length c1157_1) := (blk_cell BK1158.out 1).trans rfl; have hfz17_0 := blk_frozen BK1158.out 0; have hfz17_1 := blk_frozen BK1158.out 1))
                    go_meet
                    case rel => exact ⟨_, (y1159), ((rd_T107 l0 x20_1).f0), (by first | rfl | (simp; done) | (simp [*]; done)), H', ⟨by have := HK1.out; first | omega | exact Nat.le_refl _⟩, ⟨by (with_reducible repeat (first | apply Kd.R_alloc | apply Kd.R_drewN | apply Kd.R_drew)); exact HO1161.out⟩, ⟨by (with_reducible repeat (first | refine blk_drewN ?_ _ | refine blk_drew ?_ | refine blk_alloc ?_ _)); exact BK1158.out⟩, ⟨by repeat (first | (with_reducible first | exact HB.out | apply below_alloc | apply pw_below_drewN | apply below_drew1 | refine below_set ?_ GE1158.out) | exact HB.out)⟩⟩
                  · rw [if_neg c14] at H
                    exact absurd H (by simp)
              case rest =>
                clear HC10
                try clear c1
                try clear p1
                try clear q1
                try clear hx1
                try clear p2
                try clear c3
                try clear c3b0
                try clear c3b1
                try clear c6
                try clear c7
                try clear c7b0
                try clear c8
                try clear c8b0
                try clear c9
                try clear c9b0
                try clear c11
                try clear p11
                try clear q11
                try clear hx11
                try clear c13
                try clear c13b0
                try clear c13b1
                try clear c14
                try clear hcz12_0
                try clear hcz12_1
                try clear hcz15_0
                try clear hcz15_1
                try clear hcz17_0
                try clear hcz17_1
                try clear hfz12_0
                try clear hfz12_1
                try clear hfz15_0
                try clear hfz15_1
                try clear hfz17_0
                try clear hfz17_1
                try clear hx1157_0
                try clear hx1157_1
                try clear p1157
                try clear p2
                try clear q1157
                obtain ⟨kq, x5_9, x6_9, rfl, HA, HJ9, HO_5, BK1158, HB⟩ := hcut
                cases kq with
                | zero => exact absurd HA.out (by simp [impl_ProgramOf.j1])
                | succ kj9 =>
                  have H := HA.out
                  clear HA
                  simp only [impl_ProgramOf.j1] at H
                  have H' := Aside0.mk H
                  clear H
                  have hcz18_0 : wc.cell? ⟨gb1158, 0, none⟩ = some (.int .i64 ((rd_T107 l0 x20_1).f0)) := (blk_cell BK1158.out 0).trans rfl
                  have hcz18_1 : wc.cell? ⟨gb1158, 1, none⟩ = some (.slice A1157_1 ((rd_T107 l0 x20_1).f1).length c1157_1) := (blk_cell BK1158.out 1).trans rfl
                  have hfz18_0 := blk_frozen BK1158.out 0
                  have hfz18_1 := blk_frozen BK1158.out 1
                  go_wp2
                  go_loopg [5, 9, 39] kj9 (fun kq v5 v9 v39 w' => ∃ (x5_3 : List (S125)) (x9_3 : Int) (x39_3 : Int), v9 = .int .u8 x9_3 ∧ v39 = .int .i64 x39_3 ∧ Aside0 (impl_ProgramOf.l1 kq x5_3 x6_9 x9_3 l0 (l0.length : Int) x20_1 ((rd_T107 l0 x20_1).f1) (((rd_T107 l0 x20_1).f1).length : Int) x39_3 = some (r1, r2)) ∧ Aside0 (kq ≤ kj9) ∧ Aside0 (Kd.R k125 125 w' w.heap.size (fun _ => True) v5 x5_3) ∧ Aside0 (w'.heap[gb1158]? = some (.cells #[.int .i64 ((rd_T107 l0 x20_1).f0), (.slice A1157_1 ((rd_T107 l0 x20_1).f1).length c1157_1)] 107 (0, 0))) ∧ Aside0 (Below w.heap.size w w'))
                  case atStart => exact ⟨(x5_9), (85), (0), (by first | rfl | (simp; done) | (simp [*]; done)), (by first | rfl | (simp; done) | (simp [*]; done)), H', ⟨Nat.le_refl _⟩, ⟨by (with_reducible repeat (first | apply Kd.R_alloc | apply Kd.R_drewN | apply Kd.R_drew)); exact HO_5.out⟩, ⟨by (with_reducible repeat (first | refine blk_drewN ?_ _ | refine blk_drew ?_ | refine blk_alloc ?_ _)); exact BK1158.out⟩, ⟨by repeat (first | (with_reducible first | exact HB.out | apply below_alloc | apply pw_below_drewN | apply below_drew1 | refine below_set ?_ GE1158.out) | exact HB.out)⟩⟩
                  case round =>
                    clear H'
                    try clear c1
                    try clear p1
                    try clear q1
                    try clear hx1
                    try clear p2
                    try clear c3
                    try clear c3b0
                    try clear c3b1
                    try clear c6
                    try clear c7
                    try clear c7b0
                    try clear c8
                    try clear c8b0
                    try clear c9
                    try clear c9b0
                    try clear c11
                    try clear p11
                    try clear q11
                    try clear hx11
                    try clear c13
                    try clear c13b0
                    try clear c13b1
                    try clear c14
                    try clear hcz12_0
                    try clear hcz12_1
                    try clear hcz15_0
                    try clear hcz15_1
                    try clear hcz17_0
                    try clear hcz17_1
                    try clear hcz18_0
                    try clear hcz18_1
                    try clear hfz12_0
                    try clear hfz12_1
                    try clear hfz15_0
                    try clear hfz15_1
                    try clear hfz17_0
                    try clear hfz17_1
                    try clear hfz18_0
                    try clear hfz18_1
                    try clear hx1157_0
                    try clear hx1157_1
                    try clear p1
                    try clear p11
                    try clear p1157
                    try clear p2
                    try clear q1
                    try clear q11
                    try clear q1157
                    obtain ⟨x5_3, x9_3, x39_3, rfl, rfl, HA, HK3, HO_5, BK1158, HB⟩ := hrel
                    cases gk with
                    | zero => exact absurd HA.out (by simp [impl_ProgramOf.l1])
                    | succ k3 =>
                      have H := HA.out
                      clear HA
                      simp only [impl_ProgramOf.l1] at H
                      by_cases c19 : x39_3 < (((rd_T107 l0 x20_1).f1).length : Int)
                      · rw [if_pos c19] at H
                        have c19b0 : decide (x39_3 < (((rd_T107 l0 x20_1).f1).length : Int)) = true := decide_eq_true c19
                        clear c19
                        by_cases c20 : 0 ≤ x39_3
                        · rw [if_pos c20] at H
                          have c20b0 : decide (0 ≤ x39_3) = true := decide_eq_true c20
                          clear c20
                          by_cases c21 : x39_3 < (((rd_T107 l0 x20_1).f1).length : Int)
                          · rw [if_pos c21] at H
                            have c21b0 : decide (x39_3 < (((rd_T107 l0 x20_1).f1).length : Int)) = true := decide_eq_true c21
                            clear c21
                            by_cases c22 : x5_3.length < 5864062014805
                            · rw [if_pos c22] at H
                              have LMc22 := Aside0.mk c22
                              clear c22
                              obtain ⟨y1164, hy1164⟩ : ∃ y_ : List (S125), y_ = (x5_3 ++ [(⟨x9_3, (rd_T142 ((rd_T107 l0 x20_1).f1) x39_3).f0, (rd_T142 ((rd_T107 l0 x20_1).f1) x39_3).f1⟩ : S125)]) := ⟨_, rfl⟩
                              replace H : (impl_ProgramOf.l1 k3 y1164 x6_9 68 l0 (l0.length : Int) x20_1 ((rd_T107 l0 x20_1).f1) (((rd_T107 l0 x20_1).f1).length : Int) (wrap64 (x39_3 + 1))) = some (r1, r2) := by first | (rw [hy1164]; with_reducible exact H) | (have H2_ := (Option.bind_some _ _).symm.trans H; rw [hy1164]; with_reducible exact H2_) | (have H2_ := (Option.bind_some _ _).symm.trans H; with_reducible exact H2_) | with_reducible exact H | (rw [hy1164]; exact H) | exact H
                              have Ny1164 := Aside0.mk hy1164
                              clear hy1164
                              have H' := Aside0.mk H
                              clear H
                              have p1162 : 0 ≤ (x39_3 : Int) := of_decide_eq_true (by first | (with_reducible assumption) | assumption)
                              have q1162 : x39_3 < (((rd_T107 l0 x20_1).f1).length : Int) := of_decide_eq_true (by first | (with_reducible assumption) | assumption)
                              obtain ⟨ad1162, e1162, hx1162_0, hx1162_1⟩ := at_T142 HR1157_1.out x39_3 p1162 q1162
                              cases e1162
                              replace hx1162_0 := (HB.out.cell (World.block_lt_of_cell? w _ hx1162_0)).trans hx1162_0
                              replace hx1162_1 := (HB.out.cell (World.block_lt_of_cell? w _ hx1162_1)).trans hx1162_1
                              replace p1162 := eq_true p1162
                              replace q1162 := eq_true q1162
                              go_wp2_with (first | ((with_reducible refine gate_dst (N := 11) rfl ?_); refine box_event ?hg (N := 11) ?hd (cs := #[.int .i64 0, .int .i64 0]) (t := 142) ?hr ?_; (case hd => rfl); (case hg => rfl); (case hr => first | (go_simp; done) | (go_simp; rfl)); intro gb1163 hg w23 hbox hb; have n0_ := Aside0.mk (Kd.R_below (by (with_reducible repeat (first | apply Kd.R_alloc | apply Kd.R_drewN | apply Kd.R_drew)); exact HO_5.out) hb); have n1_ := Aside0.mk (blk_below (g := gb1158) (o := .cells #[.int .i64 ((rd_T107 l0 x20_1).f0), .slice (some ad1162) ((rd_T107 l0 x20_1).f1).length c1157_1] 107 (0, 0)) (by (with_reducible repeat (first | refine blk_drewN ?_ _ | refine blk_drew ?_ | refine blk_alloc ?_ _)); exact BK1158.out) hb); have n2_ := Aside0.mk (below_step (by repeat (first | (with_reducible first | exact HB.out | apply below_alloc | apply pw_below_drewN | apply below_drew1 | refine below_set ?_ GE1158.out) | exact HB.out)) hb); have n3_ := Aside0.mk (hbox); have n4_ := Aside0.mk ((by rw [hg]; exact (below_size (by repeat (first | (with_reducible first | exact HB.out | apply below_alloc | apply pw_below_drewN | apply below_drew1 | refine below_set ?_ GE1158.out) | exact HB.out))) : w.heap.size ≤ gb1163)); have n5_ := Aside0.mk ((by rw [hg]; exact (below_size (by repeat (first | (with_reducible first | exact HB.out | apply below_alloc | apply pw_below_drewN | apply below_drew1 | refine below_set ?_ GE1158.out) | exact HB.out))) : w.heap.size ≤ gb1163)); have n6_ := Aside0.mk ((by rw [hg]; exact Nat.ne_of_lt (blk_lt (g := gb1158) (o := .cells #[.int .i64 ((rd_T107 l0 x20_1).f0), .slice (some ad1162) ((rd_T107 l0 x20_1).f1).length c1157_1] 107 (0, 0)) (by (with_reducible repeat (first | refine blk_drewN ?_ _ | refine blk_drew ?_ | refine blk_alloc ?_ _)); exact BK1158.out)) : gb1158 ≠ gb1163)); have n7_ := Aside0.mk ((by rw [hg]; exact Nat.ne_of_gt (blk_lt (g := gb1158) (o := .cells #[.int .i64 ((rd_T107 l0 x20_1).f0), .slice (some ad1162) ((rd_T107 l0 x20_1).f1).length c1157_1] 107 (0, 0)) (by (with_reducible repeat (first | refine blk_drewN ?_ _ | refine blk_drew ?_ | refine blk_alloc ?_ _)); exact BK1158.out)) : gb1163 ≠ gb1158)); clear HO_5; clear BK1158; clear HB; have HO_5 := n0_; have BK1158 := n1_; have HB := n2_; have BK1163 := n3_; have GW1163 := n4_; have GE1163 := n5_; have NB1158_1163 := n6_; have NB1163_1158 := n7_; clear n0_ n1_ n2_ n3_ n4_ n5_ n6_ n7_; clear hb hbox hg; have hnb24 := NB1163_1158.out; have hnc24 := NB1158_1163.out; have hcz25_0 : w23.cell? ⟨gb1163, 0, none⟩ = some (.int .i64 0) := (blk_cell BK1163.out 0).trans rfl; have hcz25_1 : w23.cell? ⟨gb1163, 1, none⟩ = some (.int .i64 0) := (blk_cell BK1163.out 1).trans rfl; have hfz25_0 := blk_frozen BK1163.out 0; have hfz25_1 := blk_frozen BK1163.out 1) | ((with_reducible refine gate_builtin (b := .append) (xs := #[.tmp 43, .tmp 50]) rfl ?_); at_builtin; refine Kd.R_append k125 (w0 := w) w.heap.size rfl (.tmp 43) (.tmp 50) 46 125 (.agg #[(.int .u8 0), (.int .i64 0), (.int .i64 0)]) 24 rfl Try.underlying46 info125 rfl (by decide) (by omega) u5 x5_3 (⟨x9_3, (rd_T142 ((rd_T107 l0 x20_1).f1) x39_3).f0, (rd_T142 ((rd_T107 l0 x20_1).f1) x39_3).f1⟩ : S125) [.int .u8 x9_3, .int .i64 ((rd_T142 ((rd_T107 l0 x20_1).f1) x39_3).f0), .int .i64 ((rd_T142 ((rd_T107 l0 x20_1).f1) x39_3).f1)] (fun _ => True) (fun _ => False) rfl (by first | (go_simp; done) | (go_simp; rfl)) ?aP (fun _ hk => hk.elim) ?aF ?aO ?aB ?aS ?aL ?_; (case aP => exact k125_mkM _ _ _ (⟨x9_3, (rd_T142 ((rd_T107 l0 x20_1).f1) x39_3).f0, (rd_T142 ((rd_T107 l0 x20_1).f1) x39_3).f1⟩ : S125)); (case aB => exact (by repeat (first | (with_reducible first | exact HB.out | apply below_alloc | apply pw_below_drewN | apply below_drew1 | refine below_set ?_ GE1158.out | refine below_set ?_ GE1163.out) | exact HB.out))); (case aF => exact (fun _ _ => trivial)); (case aO => exact (by (with_reducible repeat (first | apply Kd.R_alloc | apply Kd.R_drewN | apply Kd.R_drew)); exact Kd.R_mono (Kd.R_far (p := ⟨gb1163, 1, none⟩) (Kd.R_far (p := ⟨gb1163, 0, none⟩) (Kd.R_types HO_5.out BK1163.out (by decide)) (fun _ hk => hk.2) (.int .i64 ((rd_T142 ((rd_T107 l0 x20_1).f1) x39_3).f0))) (fun _ hk => hk.2) (.int .i64 ((rd_T142 ((rd_T107 l0 x20_1).f1) x39_3).f1))) (fun _ hk => trivial))); (case aS => exact (below_size (by repeat (first | (with_reducible first | exact HB.out | apply below_alloc | apply pw_below_drewN | apply below_drew1 | refine below_set ?_ GE1158.out | refine below_set ?_ GE1163.out) | exact HB.out)))); (case aL => have := LMc22.out; omega); intro v1165 w26 ho hb hg hat; rw [← Ny1164.out] at ho; have n0_ := Aside0.mk (blk_grown (g := gb1158) (o := .cells #[.int .i64 ((rd_T107 l0 x20_1).f0), .slice (some ad1162) ((rd_T107 l0 x20_1).f1).length c1157_1] 107 (0, 0)) (by (with_reducible repeat (first | refine blk_drewN ?_ _ | refine blk_drew ?_ | refine blk_alloc ?_ _)); refine blk_far ?_ NB1158_1163.out _; (with_reducible repeat (first | refine blk_drewN ?_ _ | refine blk_drew ?_ | refine blk_alloc ?_ _)); refine blk_far ?_ NB1158_1163.out _; (with_reducible repeat (first | refine blk_drewN ?_ _ | refine blk_drew ?_ | refine blk_alloc ?_ _)); exact BK1158.out) hg (Kd.R_ne HO_5.out BK1158.out (by decide))); have n1_ := Aside0.mk (blk_grown (g := gb1163) (o := .cells #[.int .i64 ((rd_T142 ((rd_T107 l0 x20_1).f1) x39_3).f0), .int .i64 ((rd_T142 ((rd_T107 l0 x20_1).f1) x39_3).f1)] 142 (0, 0)) (by (with_reducible repeat (first | refine blk_drewN ?_ _ | refine blk_drew ?_ | refine blk_alloc ?_ _)); refine blk_put (cs := #[.int .i64 ((rd_T142 ((rd_T107 l0 x20_1).f1) x39_3).f0), .int .i64 0]) ?_ 1 _ rfl; (with_reducible repeat (first | refine blk_drewN ?_ _ | refine blk_drew ?_ | refine blk_alloc ?_ _)); refine blk_put (cs := #[.int .i64 0, .int .i64 0]) ?_ 0 _ rfl; (with_reducible repeat (first | refine blk_drewN ?_ _ | refine blk_drew ?_ | refine blk_alloc ?_ _)); exact BK1163.out) hg (Kd.R_ne HO_5.out BK1163.out (by decide))); have n2_ := Aside0.mk (hb); have n3_ := Aside0.mk (ho); clear BK1158; clear BK1163; clear HB; clear HO_5; have BK1158 := n0_; have BK1163 := n1_; have HB := n2_; have HO1166 := n3_; clear n0_ n1_ n2_ n3_; clear ho hb hg hat))
                              go_roundg k3
                              case measure => have := HK1.out; have := HJ9.out; have := HK3.out; omega
                              case rel => exact ⟨(y1164), (68), (wrap64 (x39_3 + 1)), (by first | rfl | (simp; done) | (simp [*]; done)), (by first | rfl | (simp; done) | (simp [*]; done)), H', ⟨by have := HK1.out; have := HJ9.out; have := HK3.out; omega⟩, ⟨by (with_reducible repeat (first | apply Kd.R_alloc | apply Kd.R_drewN | apply Kd.R_drew)); exact HO1166.out⟩, ⟨by (with_reducible repeat (first | refine blk_drewN ?_ _ | refine blk_drew ?_ | refine blk_alloc ?_ _)); exact BK1158.out⟩, ⟨by repeat (first | (with_reducible first | exact HB.out | apply below_alloc | apply pw_below_drewN | apply below_drew1 | refine below_set ?_ GE1158.out | refine below_set ?_ GE1163.out) | exact HB.out)⟩⟩
                            · rw [if_neg c22] at H
                              exact absurd H (by simp)
                          · rw [if_neg c21] at H
                            exact absurd H (by simp)
                        · rw [if_neg c20] at H
                          exact absurd H (by simp)
                      · rw [if_neg c19] at H
                        have c19b0 : decide (x39_3 < (((rd_T107 l0 x20_1).f1).length : Int)) = false := decide_eq_false c19
                        clear c19
                        have H' := Aside0.mk H
                        clear H
                        go_wp2
                        go_roundg k3
                        case measure => have := HK1.out; have := HJ9.out; have := HK3.out; omega
                        case rel => exact ⟨(x5_3), (x6_9), (wrap64 (x20_1 + 1)), (by first | rfl | (simp; done) | (simp [*]; done)), (by first | rfl | (simp; done) | (simp [*]; done)), H', ⟨by have := HK1.out; have := HJ9.out; have := HK3.out; omega⟩, ⟨by (with_reducible repeat (first | apply Kd.R_alloc | apply Kd.R_drewN | apply Kd.R_drew)); exact HO_5.out⟩, ⟨by repeat (first | (with_reducible first | exact HB.out | apply below_alloc | apply pw_below_drewN | apply below_drew1 | refine below_set ?_ GE1158.out) | exact HB.out)⟩⟩
            · rw [if_neg c9] at H
              exact absurd H (by simp)
          · rw [if_neg c8] at H
            exact absurd H (by simp)
        · rw [if_neg c7] at H
          have c7b0 : decide (x20_1 < (l0.length : Int)) = false := decide_eq_false c7
          clear c7
          by_cases c27 : (x5_1.length : Int) > 400
          · rw [if_pos c27] at H
            have c27b0 : decide (400 < (x5_1.length : Int)) = true := decide_eq_true c27
            have c27b1 : decide (400 < x5_1.length) = true := decide_eq_true (by omega)
            clear c27
            simp only [Option.some.injEq, Prod.mk.injEq] at H
            obtain ⟨rfl, rfl⟩ := H
            obtain ⟨Ao28, co28, eo28⟩ := Kd.R_slice HO_5.out
            subst eo28
            go_wp2
            go_ret2
            exact ⟨_, by first | rfl | (simp [errW_none, errW_some] <;> rfl) | (simp [*, errW_none, errW_some] <;> rfl), by first | exact Kd.R_nil _ _ _ _ _ | exact Kd.N_nil _ _ _ _ _ | exact Kd.V_nil _ _ _ _ _ | exact Kd.Q_nil _ _ _ _ _ | exact Kd.S_nil _ _ _ _ _, by repeat (first | (with_reducible first | exact HB.out | apply below_alloc | apply pw_below_drewN | apply below_drew1) | exact HB.out)⟩
          · rw [if_neg c27] at H
            have c27b0 : decide (400 < (x5_1.length : Int)) = false := decide_eq_false c27
            have c27b1 : decide (400 < x5_1.length) = false := decide_eq_false (by omega)
            clear c27
            simp only [Option.some.injEq, Prod.mk.injEq] at H
            obtain ⟨rfl, rfl⟩ := H
            obtain ⟨Ao29, co29, eo29⟩ := Kd.R_slice HO_5.out
            subst eo29
            go_wp2
            go_ret2
            exact ⟨_, by first | rfl | (simp [errW_none, errW_some] <;> rfl) | (simp [*, errW_none, errW_some] <;> rfl), by (with_reducible repeat (first | apply Kd.R_alloc | apply Kd.R_drewN | apply Kd.R_drew)); exact HO_5.out, by repeat (first | (with_reducible first | exact HB.out | apply below_alloc | apply pw_below_drewN | apply below_drew1) | exact HB.out)⟩
  · rw [if_neg c3] at H
    have c3b0 : (t1153 == 0) = false := beq_eq_false_iff_ne.mpr c3
    have c3b1 : (t1153 != 0) = true := bne_iff_ne.mpr c3
    simp only [Option.some.injEq, Prod.mk.injEq] at H
    obtain ⟨rfl, rfl⟩ := H
    go_enter Try.func61, Try.ntmps61
    go_wp2_with (first | ((with_reducible refine gate_callee (f := 68) rfl ?_); refine goesL_ (some 13) rfl rfl Try.func68 (by kernel_rfl) rfl #[.slice A0 l0.length c0] rfl (by (try simp only [List.map_toArray, List.map_cons, List.map_nil]); first | done | rfl | (simp only [List.length_drop, List.length_take]; rfl)) ?_; (with_reducible refine (impl_drawing.calls k _ _ l0 t1153 _ ?side1 ?side2 A2.out).mono ?_); (case side1 => repeat (first | exact HR0.out | (with_reducible refine Kd.C_alloc ?_ _) | (with_reducible refine Kd.C_drewN ?_ _) | (with_reducible refine Kd.C_drew ?_))); (case side2 => exact HC0.out); rintro e w30 ⟨rfl, hb⟩; refine ⟨_, rfl, ?_⟩; have n0_ := Aside0.mk (below_step (by repeat (first | (with_reducible first | exact HB.out | apply below_alloc | apply pw_below_drewN | apply below_drew1) | exact HB.out)) hb); clear HB; have HB := n0_; clear n0_; (try clear hb); (try clear hb2); (try clear hk); (try clear hi)))
    go_ret2
    exact ⟨_, by first | rfl | (simp [errW_none, errW_some] <;> rfl) | (simp [*, errW_none, errW_some] <;> rfl), by first | exact Kd.R_nil _ _ _ _ _ | exact Kd.N_nil _ _ _ _ _ | exact Kd.V_nil _ _ _ _ _ | exact Kd.Q_nil _ _ _ _ _ | exact Kd.S_nil _ _ _ _ _, by repeat (first | (with_reducible first | exact HB.out | apply below_alloc | apply pw_below_drewN | apply below_drew1) | exact HB.out)⟩

end Go.Proofs.Ytnimjikikfhlpaa.F

namespace Go.Proofs.Ytnimjikikfhlpaa.Pure
open Go.RowKit Go.Proofs.Ytnimjikikfhlpaa.F Go.Proofs.YtnimjikikfhlpaaW.PrintWords Go.Proofs.YtnimjikikfhlpaaW.PrintLast Go.Proofs.YtnimjikikfhlpaaW.PrintMore Go.Proofs.YtnimjikikfhlpaaB
set_option linter.unusedVariables false
set_option linter.unusedSimpArgs false
def ptB (p : S142) : Bool := inB p.f0 (-1000000) 1000000 && inB p.f1 (-1000000) 1000000
theorem bdPoint_eq (p : S142) : bdPoint p = !ptB p := rfl
def lineB (l : List S142) : Bool := decide (l.length ≤ 200) && l.all ptB
def strokeB (s : S107) : Bool := inB s.f0 1 8 && lineB s.f1 && decide (2 ≤ s.f1.length)
def codeS (l : List S107) : Int := if l.all strokeB = true then (if 40 < l.length then 3 else 0) else 1
theorem rdP {xs ys : List S142} {y : S142} {m : Nat} (h : xs.drop m = y :: ys) : rd_T142 xs (m : Int) = y := (drop_cons h).2.1 _
theorem rdS {xs ys : List S107} {y : S107} {m : Nat} (h : xs.drop m = y :: ys) : rd_T107 xs (m : Int) = y := (drop_cons h).2.1 _
theorem any_not_all (l : List S142) : (!l.any bdPoint) = l.all ptB := by
  rw [List.not_any_eq_all_not]
  congr 1
  funext p
  simp [bdPoint_eq]

end Go.Proofs.Ytnimjikikfhlpaa.Pure

namespace Go.Proofs.Ytnimjikikfhlpaa.Pure
open Go.RowKit Go.Proofs.Ytnimjikikfhlpaa.F Go.Proofs.YtnimjikikfhlpaaW.PrintWords Go.Proofs.YtnimjikikfhlpaaW.PrintLast Go.Proofs.YtnimjikikfhlpaaW.PrintMore Go.Proofs.YtnimjikikfhlpaaB
set_option linter.unusedVariables false
set_option linter.unusedSimpArgs false
theorem impl_IsLine_f (l : List S142) : impl_IsLine.f l = some (lineB l) := by
  unfold impl_IsLine.f lineB
  rw [any_not_all]

end Go.Proofs.Ytnimjikikfhlpaa.Pure

namespace Go.Proofs.Ytnimjikikfhlpaa.Pure
open Go.RowKit Go.Proofs.Ytnimjikikfhlpaa.F Go.Proofs.YtnimjikikfhlpaaW.PrintWords Go.Proofs.YtnimjikikfhlpaaW.PrintLast Go.Proofs.YtnimjikikfhlpaaW.PrintMore Go.Proofs.YtnimjikikfhlpaaB
set_option linter.unusedVariables false
set_option linter.unusedSimpArgs false
theorem impl_in_f (a b c : Int) : impl_in.f a b c = some (inB a b c) := inB_if a b c

end Go.Proofs.Ytnimjikikfhlpaa.Pure

namespace Go.Proofs.Ytnimjikikfhlpaa.Pure
open Go.RowKit Go.Proofs.Ytnimjikikfhlpaa.F Go.Proofs.YtnimjikikfhlpaaW.PrintWords Go.Proofs.YtnimjikikfhlpaaW.PrintLast Go.Proofs.YtnimjikikfhlpaaW.PrintMore Go.Proofs.YtnimjikikfhlpaaB
set_option linter.unusedVariables false
set_option linter.unusedSimpArgs false
theorem impl_isPen_f (a : Int) : impl_isPen.f a = some (inB a 1 8) := by
  simp only [impl_isPen.f, impl_in_f, Option.bind_some]

end Go.Proofs.Ytnimjikikfhlpaa.Pure

namespace Go.Proofs.Ytnimjikikfhlpaa.Pure
open Go.RowKit Go.Proofs.Ytnimjikikfhlpaa.F Go.Proofs.YtnimjikikfhlpaaW.PrintWords Go.Proofs.YtnimjikikfhlpaaW.PrintLast Go.Proofs.YtnimjikikfhlpaaW.PrintMore Go.Proofs.YtnimjikikfhlpaaB
set_option linter.unusedVariables false
set_option linter.unusedSimpArgs false
theorem impl_drawing_l0 (xs : List S107) (hx : xs.length ≤ 9223372036854775807) : ∀ (ys : List S107) (m : Nat), xs.drop m = ys →
    Ev (fun k => impl_drawing.l0 k xs xs xs.length m) (if ys.all strokeB = true then (if 40 < xs.length then 3 else 0) else 1)
  | [], m, h => by
    have := drop_nil h
    refine ev_step (fun _ => rfl) (ev_neg (by omega) (ev_now ?_))
    simp only [List.all_nil, if_true]
    by_cases h4 : 40 < xs.length
    · rw [if_pos (by omega), if_pos h4]
    · rw [if_neg (by omega), if_neg h4]
  | y :: ys, m, h => by
    obtain ⟨hm, _, hd⟩ := drop_cons h
    refine ev_step (fun _ => rfl) (ev_pos (by omega) (ev_pos (by omega) (ev_pos (by omega) ?_)))
    rw [rdS h, w64 (by omega) (by omega)]
    refine ev_some (impl_isPen_f _) ?_
    have ih := impl_drawing_l0 xs hx ys (m + 1) hd
    rw [List.all_cons, show strokeB y = (inB y.f0 1 8 && lineB y.f1 && decide (2 ≤ y.f1.length)) from rfl]
    cases inB y.f0 1 8
    · exact ev_neg (by simp) (ev_now (by simp))
    refine ev_pos rfl (ev_some (impl_IsLine_f y.f1) ?_)
    cases lineB y.f1
    · exact ev_neg (by simp) (ev_now (by simp))
    refine ev_pos rfl (ev_ite (fun h2 => ev_now ?_) (fun h2 => ev_eq ih ?_))
    · rw [decide_eq_false (show ¬ 2 ≤ y.f1.length by omega)]; simp
    · rw [decide_eq_true (show 2 ≤ y.f1.length by omega)]; simp
theorem impl_drawing_f (xs : List S107) (hx : xs.length ≤ 9223372036854775807) : Ev (fun k => impl_drawing.f k xs) (codeS xs) := impl_drawing_l0 xs hx xs 0 rfl

end Go.Proofs.Ytnimjikikfhlpaa.Pure

namespace Go.Proofs.Ytnimjikikfhlpaa.Pure
open Go.RowKit Go.Proofs.Ytnimjikikfhlpaa.F Go.Proofs.YtnimjikikfhlpaaW.PrintWords Go.Proofs.YtnimjikikfhlpaaW.PrintLast Go.Proofs.YtnimjikikfhlpaaW.PrintMore Go.Proofs.YtnimjikikfhlpaaB
set_option linter.unusedVariables false
set_option linter.unusedSimpArgs false
theorem codeS_zero {xs : List S107} (h : codeS xs = 0) : xs.length ≤ 40 ∧ ∀ x ∈ xs, strokeB x = true := by
  unfold codeS at h
  split at h
  · rename_i ha
    split at h
    · cases h
    · exact ⟨by omega, fun x hx => List.all_eq_true.1 ha x hx⟩
  · cases h
theorem strokeB_len {x : S107} (h : strokeB x = true) : 2 ≤ x.f1.length ∧ x.f1.length ≤ 200 := by
  unfold strokeB lineB at h
  simp only [Bool.and_eq_true, decide_eq_true_eq] at h
  exact ⟨h.2, h.1.2.1⟩
theorem codeS_lens {xs : List S107} (h : codeS xs = 0) : ∀ x ∈ xs, 2 ≤ x.f1.length ∧ x.f1.length ≤ 9223372036854775807 := fun x hx => by
  have := strokeB_len ((codeS_zero h).2 x hx)
  omega
theorem codeS_or (xs : List S107) : codeS xs = 0 ∨ codeS xs = 1 ∨ codeS xs = 3 := by
  unfold codeS
  split
  · split
    · exact .inr (.inr rfl)
    · exact .inl rfl
  · exact .inr (.inl rfl)

end Go.Proofs.Ytnimjikikfhlpaa.Pure

namespace Go.Proofs.Ytnimjikikfhlpaa.Pure
open Go.RowKit Go.Proofs.Ytnimjikikfhlpaa.F Go.Proofs.YtnimjikikfhlpaaW.PrintWords Go.Proofs.YtnimjikikfhlpaaW.PrintLast Go.Proofs.YtnimjikikfhlpaaW.PrintMore Go.Proofs.YtnimjikikfhlpaaB
set_option linter.unusedVariables false
set_option linter.unusedSimpArgs false
def lineC (k : Int) : List S142 → List S125
  | [] => []
  | p :: ps => ⟨k, p.f0, p.f1⟩ :: lineC 68 ps
def progS (pen : Int) : List S107 → List S125
  | [] => []
  | y :: ys => (if y.f0 = pen then [] else [⟨80, y.f0, 0⟩]) ++ (lineC 85 y.f1 ++ progS y.f0 ys)
theorem lineC_cons (k : Int) (p : S142) (ps : List S142) : lineC k (p :: ps) = ⟨k, p.f0, p.f1⟩ :: lineC 68 ps := rfl
theorem progS_cons (pen : Int) (y : S107) (ys : List S107) : progS pen (y :: ys) = (if y.f0 = pen then [] else [⟨80, y.f0, 0⟩]) ++ (lineC 85 y.f1 ++ progS y.f0 ys) := rfl
theorem lineC_length (k : Int) (l : List S142) : (lineC k l).length = l.length := by
  induction l generalizing k with
  | nil => rfl
  | cons p ps ih => rw [lineC_cons, List.length_cons, ih, List.length_cons]
theorem progS_length (pen : Int) (xs : List S107) (h : ∀ x ∈ xs, x.f1.length ≤ 200) : (progS pen xs).length ≤ 201 * xs.length := by
  induction xs generalizing pen with
  | nil => exact Nat.zero_le _
  | cons y ys ih =>
    have h1 := ih y.f0 (fun x hx => h x (List.mem_cons_of_mem _ hx))
    have h2 := h y List.mem_cons_self
    rw [progS_cons, List.length_append, List.length_append, lineC_length, List.length_cons]
    split <;> simp only [List.length_nil, List.length_cons] <;> omega
def resProg (xs : List S107) : List S125 × Int := if codeS xs = 0 then (if 400 < (progS 0 xs).length then ([], 3) else (progS 0 xs, 0)) else ([], codeS xs)
theorem resProg_length (xs : List S107) : (resProg xs).1.length ≤ 400 := by
  unfold resProg
  split
  · split
    · exact Nat.zero_le _
    · rename_i h
      show (progS 0 xs).length ≤ 400
      omega
  · exact Nat.zero_le _
theorem codeS_200 {xs : List S107} (h : codeS xs = 0) : xs.length ≤ 40 ∧ ∀ x ∈ xs, x.f1.length ≤ 200 :=
  ⟨(codeS_zero h).1, fun x hx => (strokeB_len ((codeS_zero h).2 x hx)).2⟩

end Go.Proofs.Ytnimjikikfhlpaa.Pure

namespace Go.Proofs.Ytnimjikikfhlpaa.Pure
open Go.RowKit Go.Proofs.Ytnimjikikfhlpaa.F Go.Proofs.YtnimjikikfhlpaaW.PrintWords Go.Proofs.YtnimjikikfhlpaaW.PrintLast Go.Proofs.YtnimjikikfhlpaaW.PrintMore Go.Proofs.YtnimjikikfhlpaaB
set_option linter.unusedVariables false
set_option linter.unusedSimpArgs false
theorem impl_ProgramOf_l1 (xs : List S107) (pen : Int) (i : Nat) (hi : i < xs.length) (l : List S142) (hl : l.length ≤ 200) (hx : xs.length ≤ 40) (res : List S125 × Int) : ∀ (ps : List S142) (j : Nat) (kd : Int) (out : List S125), l.drop j = ps → out.length + ps.length ≤ 100000 →
    Ev (fun k => impl_ProgramOf.l0 k (out ++ lineC kd ps) pen xs xs.length ((i : Int) + 1)) res → Ev (fun k => impl_ProgramOf.l1 k out pen kd xs xs.length i l l.length j) res
  | [], j, kd, out, h, ho, hc => by
    have := drop_nil h
    refine ev_step (fun _ => rfl) (ev_neg (by omega) ?_)
    rw [w64 (by omega) (by omega)]
    rw [show out ++ lineC kd [] = out from List.append_nil _] at hc
    exact hc
  | p :: ps, j, kd, out, h, ho, hc => by
    obtain ⟨hj, _, hd⟩ := drop_cons h
    simp only [List.length_cons] at ho
    refine ev_step (fun _ => rfl) (ev_pos (by omega) (ev_pos (by omega) (ev_pos (by omega) (ev_pos (by omega) ?_))))
    rw [rdP h, w64 (by omega) (by omega)]
    rw [lineC_cons] at hc
    refine impl_ProgramOf_l1 xs pen i hi l hl hx res ps (j + 1) 68 _ hd (by simp; omega) ?_
    rw [List.append_assoc]
    exact hc
theorem impl_ProgramOf_l0 (xs : List S107) (hx : xs.length ≤ 40) (hi : ∀ x ∈ xs, x.f1.length ≤ 200) : ∀ (ys : List S107) (m : Nat) (pen : Int) (out : List S125), xs.drop m = ys → out.length + 201 * ys.length ≤ 100000 →
    Ev (fun k => impl_ProgramOf.l0 k out pen xs xs.length m) (if 400 < (out ++ progS pen ys).length then ([], 3) else (out ++ progS pen ys, 0))
  | [], m, pen, out, h, ho => by
    have := drop_nil h
    refine ev_step (fun _ => rfl) (ev_neg (by omega) ?_)
    rw [show progS pen [] = [] from rfl, List.append_nil]
    refine ev_ite (fun h3 => ev_now ?_) (fun h3 => ev_now ?_)
    · rw [if_pos (by omega)]
    · rw [if_neg (by omega)]
  | y :: ys, m, pen, out, h, ho => by
    obtain ⟨hm, _, hd⟩ := drop_cons h
    have hmem : y ∈ xs := List.mem_of_mem_drop (by rw [h]; exact List.mem_cons_self)
    have hy := hi y hmem
    simp only [List.length_cons] at ho
    have key : ∀ (p : Int) (o : List S125), p = y.f0 → o.length + y.f1.length + 201 * ys.length ≤ 100000 → Ev (fun k => impl_ProgramOf.l1 k o p 85 xs xs.length m y.f1 y.f1.length 0) (if 400 < (o ++ (lineC 85 y.f1 ++ progS y.f0 ys)).length then ([], 3) else (o ++ (lineC 85 y.f1 ++ progS y.f0 ys), 0)) := fun p o hp ho => by
      refine impl_ProgramOf_l1 xs p m hm y.f1 hy hx _ y.f1 0 85 o rfl (by omega) ?_
      subst hp
      rw [← List.append_assoc]
      exact impl_ProgramOf_l0 xs hx hi ys (m + 1) y.f0 _ hd (by rw [List.length_append, lineC_length]; omega)
    refine ev_step (fun _ => rfl) (ev_pos (by omega) (ev_pos (by omega) (ev_pos (by omega) ?_)))
    rw [rdS h, progS_cons]
    refine ev_ite (fun hq => ?_) (fun hq => ev_pos (by omega) ?_)
    · rw [if_pos (c := y.f0 = pen) hq]
      exact ev_step (fun _ => rfl) (key pen out hq.symm (by omega))
    · rw [if_neg (c := y.f0 = pen) hq, ← List.append_assoc out]
      exact ev_step (fun _ => rfl) (key y.f0 _ rfl (by simp; omega))
theorem impl_ProgramOf_f (xs : List S107) (hx : xs.length ≤ 9223372036854775807) : Ev (fun k => impl_ProgramOf.f k xs) (resProg xs) := by
  refine ev_bind (impl_drawing_f xs hx) ?_
  unfold resProg
  refine ev_ite (fun h => ?_) (fun h => ?_)
  · rw [if_pos h]
    obtain ⟨h1, h2⟩ := codeS_200 h
    exact impl_ProgramOf_l0 xs h1 h2 xs 0 0 [] rfl (by simp; omega)
  · rw [if_neg h]
    exact ev_now rfl

end Go.Proofs.Ytnimjikikfhlpaa.Pure

namespace Go.Proofs.Ytnimjikikfhlpaa.F
open Go.RowKit Go.Proofs.YtnimjikikfhlpaaW.PrintWords Go.Proofs.YtnimjikikfhlpaaW.PrintLast Go.Proofs.YtnimjikikfhlpaaW.PrintMore
attribute [local go_sem] max2_int min2_int max_two min_two max_three min_three max_four min_four   -- for this text's walks alone
set_option linter.unusedVariables false
set_option linter.unusedSimpArgs false

/-! ### laws_eqCommand: function 83 -/
def laws_eqCommand.f (a0_0 : Int) (a0_1 : Int) (a0_2 : Int) (a1_0 : Int) (a1_1 : Int) (a1_2 : Int) : Option (Bool) := if a0_0 = a1_0 then (if a0_1 = a1_1 then (if a0_2 = a1_2 then (some true) else (some false)) else (some false)) else (some false)
set_option maxHeartbeats 8000000 in
set_option maxRecDepth 100000 in
theorem laws_eqCommand.calls (a0_0 : Int) (a0_1 : Int) (a0_2 : Int) (a1_0 : Int) (a1_1 : Int) (a1_2 : Int) (r : Bool) (w : World) (h : laws_eqCommand.f a0_0 a0_1 a0_2 a1_0 a1_1 a1_2 = some r) :
    Calls Try.prog 83 #[.agg #[.int .u8 a0_0, .int .i64 a0_1, .int .i64 a0_2], .agg #[.int .u8 a1_0, .int .i64 a1_1, .int .i64 a1_2]] w fun e w' => e = .returned (.bool r) ∧ Below w.heap.size w w' := by
  have hu125 := Try.underlying125
  have HB := Aside0.mk (Below.refl w.heap.size w)
  have H : (if a0_0 = a1_0 then (if a0_1 = a1_1 then (if a0_2 = a1_2 then (some true) else (some false)) else (some false)) else (some false)) = some r := h
  clear h
  by_cases c3 : a0_0 = a1_0
  · rw [if_pos c3] at H
    have c3b0 : (a0_0 == a1_0) = true := beq_iff_eq.mpr c3
    have c3b1 : (a0_0 != a1_0) = false := bne_eq_false_iff_eq.mpr c3
    clear c3
    by_cases c4 : a0_1 = a1_1
    · rw [if_pos c4] at H
      have c4b0 : (a0_1 == a1_1) = true := beq_iff_eq.mpr c4
      have c4b1 : (a0_1 != a1_1) = false := bne_eq_false_iff_eq.mpr c4
      clear c4
      by_cases c5 : a0_2 = a1_2
      · rw [if_pos c5] at H
        have c5b0 : (a0_2 == a1_2) = true := beq_iff_eq.mpr c5
        have c5b1 : (a0_2 != a1_2) = false := bne_eq_false_iff_eq.mpr c5
        clear c5
        obtain rfl := Option.some.inj H
        go_enter Try.func83, Try.ntmps83
        go_wp2_with (first | ((with_reducible refine gate_dst (N := 2) rfl ?_); refine box_event ?hg (N := 2) ?hd (cs := #[.int .u8 a0_0, .int .i64 a0_1, .int .i64 a0_2]) (t := 125) ?hr ?_; (case hd => rfl); (case hg => rfl); (case hr => first | (go_simp; done) | (go_simp; rfl)); intro gb511 hg w6 hbox hb; have n0_ := Aside0.mk (below_step (by repeat (first | (with_reducible first | exact HB.out | apply below_alloc | apply pw_below_drewN | apply below_drew1) | exact HB.out)) hb); have n1_ := Aside0.mk (hbox); have n2_ := Aside0.mk ((by rw [hg]; exact (below_size (by repeat (first | (with_reducible first | exact HB.out | apply below_alloc | apply pw_below_drewN | apply below_drew1) | exact HB.out))) : w.heap.size ≤ gb511)); have n3_ := Aside0.mk ((by rw [hg]; exact (below_size (by repeat (first | (with_reducible first | exact HB.out | apply below_alloc | apply pw_below_drewN | apply below_drew1) | exact HB.out))) : w.heap.size ≤ gb511)); clear HB; have HB := n0_; have BK511 := n1_; have GW511 := n2_; have GE511 := n3_; clear n0_ n1_ n2_ n3_; clear hb hbox hg) | ((with_reducible refine gate_dst (N := 3) rfl ?_); refine box_event ?hg (N := 3) ?hd (cs := #[.int .u8 a1_0, .int .i64 a1_1, .int .i64 a1_2]) (t := 125) ?hr ?_; (case hd => rfl); (case hg => rfl); (case hr => first | (go_simp; done) | (go_simp; rfl)); intro gb512 hg w7 hbox hb; have n0_ := Aside0.mk (blk_below (g := gb511) (o := .cells #[.int .u8 a0_0, .int .i64 a0_1, .int .i64 a0_2] 125 (0, 0)) (by (with_reducible repeat (first | refine blk_drewN ?_ _ | refine blk_drew ?_ | refine blk_alloc ?_ _)); exact BK511.out) hb); have n1_ := Aside0.mk (below_step (by repeat (first | (with_reducible first | exact HB.out | apply below_alloc | apply pw_below_drewN | apply below_drew1 | refine below_set ?_ GE511.out) | exact HB.out)) hb); have n2_ := Aside0.mk (hbox); have n3_ := Aside0.mk ((by rw [hg]; exact (below_size (by repeat (first | (with_reducible first | exact HB.out | apply below_alloc | apply pw_below_drewN | apply below_drew1 | refine below_set ?_ GE511.out) | exact HB.out))) : w.heap.size ≤ gb512)); have n4_ := Aside0.mk ((by rw [hg]; exact (below_size (by repeat (first | (with_reducible first | exact HB.out | apply below_alloc | apply pw_below_drewN | apply below_drew1 | refine below_set ?_ GE511.out) | exact HB.out))) : w.heap.size ≤ gb512)); have n5_ := Aside0.mk ((by rw [hg]; exact Nat.ne_of_lt (blk_lt (g := gb511) (o := .cells #[.int .u8 a0_0, .int .i64 a0_1, .int .i64 a0_2] 125 (0, 0)) (by (with_reducible repeat (first | refine blk_drewN ?_ _ | refine blk_drew ?_ | refine blk_alloc ?_ _)); exact BK511.out)) : gb511 ≠ gb512)); have n6_ := Aside0.mk ((by rw [hg]; exact Nat.ne_of_gt (blk_lt (g := gb511) (o := .cells #[.int .u8 a0_0, .int .i64 a0_1, .int .i64 a0_2] 125 (0, 0)) (by (with_reducible repeat (first | refine blk_drewN ?_ _ | refine blk_drew ?_ | refine blk_alloc ?_ _)); exact BK511.out)) : gb512 ≠ gb511)); clear BK511; clear HB; have BK511 := n0_; have HB := n1_; have BK512 := n2_; have GW512 := n3_; have GE512 := n4_; have NB511_512 := n5_; have NB512_511 := n6_; clear n0_ n1_ n2_ n3_ n4_ n5_ n6_; clear hb hbox hg; have hnb8 := NB511_512.out; have hnc8 := NB512_511.out; have hcz9_0 : w7.cell? ⟨gb511, 0, none⟩ = some (.int .u8 a0_0) := (blk_cell BK511.out 0).trans rfl; have hcz9_1 : w7.cell? ⟨gb511, 1, none⟩ = some (.int .i64 a0_1) := (blk_cell BK511.out 1).trans rfl; have hcz9_2 : w7.cell? ⟨gb511, 2, none⟩ = some (.int .i64 a0_2) := (blk_cell BK511.out 2).trans rfl; have hfz9_0 := blk_frozen BK511.out 0; have hfz9_1 := blk_frozen BK511.out 1; have hfz9_2 := blk_frozen BK511.out 2; have hcz10_0 : w7.cell? ⟨gb512, 0, none⟩ = some (.int .u8 a1_0) := (blk_cell BK512.out 0).trans rfl; have hcz10_1 : w7.cell? ⟨gb512, 1, none⟩ = some (.int .i64 a1_1) := (blk_cell BK512.out 1).trans rfl; have hcz10_2 : w7.cell? ⟨gb512, 2, none⟩ = some (.int .i64 a1_2) := (blk_cell BK512.out 2).trans rfl; have hfz10_0 := blk_frozen BK512.out 0; have hfz10_1 := blk_frozen BK512.out 1; have hfz10_2 := blk_frozen BK512.out 2))
        go_ret
        exact ⟨by first | rfl | (simp [errW_none, errW_some] <;> rfl) | (simp [*, errW_none, errW_some] <;> rfl), by repeat (first | (with_reducible first | exact HB.out | apply below_alloc | apply pw_below_drewN | apply below_drew1 | refine below_set ?_ GE511.out | refine below_set ?_ GE512.out) | exact HB.out)⟩
      · rw [if_neg c5] at H
        have c5b0 : (a0_2 == a1_2) = false := beq_eq_false_iff_ne.mpr c5
        have c5b1 : (a0_2 != a1_2) = true := bne_iff_ne.mpr c5
        obtain rfl := Option.some.inj H
        go_enter Try.func83, Try.ntmps83
        go_wp2_with (first | ((with_reducible refine gate_dst (N := 2) rfl ?_); refine box_event ?hg (N := 2) ?hd (cs := #[.int .u8 a0_0, .int .i64 a0_1, .int .i64 a0_2]) (t := 125) ?hr ?_; (case hd => rfl); (case hg => rfl); (case hr => first | (go_simp; done) | (go_simp; rfl)); intro gb511 hg w11 hbox hb; have n0_ := Aside0.mk (below_step (by repeat (first | (with_reducible first | exact HB.out | apply below_alloc | apply pw_below_drewN | apply below_drew1) | exact HB.out)) hb); have n1_ := Aside0.mk (hbox); have n2_ := Aside0.mk ((by rw [hg]; exact (below_size (by repeat (first | (with_reducible first | exact HB.out | apply below_alloc | apply pw_below_drewN | apply below_drew1) | exact HB.out))) : w.heap.size ≤ gb511)); have n3_ := Aside0.mk ((by rw [hg]; exact (below_size (by repeat (first | (with_reducible first | exact HB.out | apply below_alloc | apply pw_below_drewN | apply below_drew1) | exact HB.out))) : w.heap.size ≤ gb511)); clear HB; have HB := n0_; have BK511 := n1_; have GW511 := n2_; have GE511 := n3_; clear n0_ n1_ n2_ n3_; clear hb hbox hg) | ((with_reducible refine gate_dst (N := 3) rfl ?_); refine box_event ?hg (N := 3) ?hd (cs := #[.int .u8 a1_0, .int .i64 a1_1, .int .i64 a1_2]) (t := 125) ?hr ?_; (case hd => rfl); (case hg => rfl); (case hr => first | (go_simp; done) | (go_simp; rfl)); intro gb512 hg w12 hbox hb; have n0_ := Aside0.mk (blk_below (g := gb511) (o := .cells #[.int .u8 a0_0, .int .i64 a0_1, .int .i64 a0_2] 125 (0, 0)) (by (with_reducible repeat (first | refine blk_drewN ?_ _ | refine blk_drew ?_ | refine blk_alloc ?_ _)); exact BK511.out) hb); have n1_ := Aside0.mk (below_step (by repeat (first | (with_reducible first | exact HB.out | apply below_alloc | apply pw_below_drewN | apply below_drew1 | refine below_set ?_ GE511.out) | exact HB.out)) hb); have n2_ := Aside0.mk (hbox); have n3_ := Aside0.mk ((by rw [hg]; exact (below_size (by repeat (first | (with_reducible first | exact HB.out | apply below_alloc | apply pw_below_drewN | apply below_drew1 | refine below_set ?_ GE511.out) | exact HB.out))) : w.heap.size ≤ gb512)); have n4_ := Aside0.mk ((by rw [hg]; exact (below_size (by repeat (first | (with_reducible first | exact HB.out | apply below_alloc | apply pw_below_drewN | apply below_drew1 | refine below_set ?_ GE511.out) | exact HB.out))) : w.heap.size ≤ gb512)); have n5_ := Aside0.mk ((by rw [hg]; exact Nat.ne_of_lt (blk_lt (g := gb511) (o := .cells #[.int .u8 a0_0, .int .i64 a0_1, .int .i64 a0_2] 125 (0, 0)) (by (with_reducible repeat (first | refine blk_drewN ?_ _ | refine blk_drew ?_ | refine blk_alloc ?_ _)); exact BK511.out)) : gb511 ≠ gb512)); have n6_ := Aside0.mk ((by rw [hg]; exact Nat.ne_of_gt (blk_lt (g := gb511) (o := .cells #[.int .u8 a0_0, .int .i64 a0_1, .int .i64 a0_2] 125 (0, 0)) (by (with_reducible repeat (first | refine blk_drewN ?_ _ | refine blk_drew ?_ | refine blk_alloc ?_ _)); exact BK511.out)) : gb512 ≠ gb511)); clear BK511; clear HB; have BK511 := n0_; have HB := n1_; have BK512 := n2_; have GW512 := n3_; have GE512 := n4_; have NB511_512 := n5_; have NB512_511 := n6_; clear n0_ n1_ n2_ n3_ n4_ n5_ n6_; clear hb hbox hg; have hnb13 := NB511_512.out; have hnc13 := NB512_511.out; have hcz14_0 : w12.cell? ⟨gb511, 0, none⟩ = some (.int .u8 a0_0) := (blk_cell BK511.out 0).trans rfl; have hcz14_1 : w12.cell? ⟨gb511, 1, none⟩ = some (.int .i64 a0_1) := (blk_cell BK511.out 1).trans rfl; have hcz14_2 : w12.cell? ⟨gb511, 2, none⟩ = some (.int .i64 a0_2) := (blk_cell BK511.out 2).trans rfl; have hfz14_0 := blk_frozen BK511.out 0; have hfz14_1 := blk_frozen BK511.out 1; have hfz14_2 := blk_frozen BK511.out 2; have hcz15_0 : w12.cell? ⟨gb512, 0, none⟩ = some (.int .u8 a1_0) := (blk_cell BK512.out 0).trans rfl; have hcz15_1 : w12.cell? ⟨gb512, 1, none⟩ = some (.int .i64 a1_1) := (blk_cell BK512.out 1).trans rfl; have hcz15_2 : w12.cell? ⟨gb512, 2, none⟩ = some (.int .i64 a1_2) := (blk_cell BK512.out 2).trans rfl; have hfz15_0 := blk_frozen BK512.out 0; have hfz15_1 := blk_frozen BK512.out 1; have hfz15_2 := blk_frozen BK512.out 2))
        go_ret
        exact ⟨by first | rfl | (simp [errW_none, errW_some] <;> rfl) | (simp [*, errW_none, errW_some] <;> rfl), by repeat (first | (with_reducible first | exact HB.out | apply below_alloc | apply pw_below_drewN | apply below_drew1 | refine below_set ?_ GE511.out | refine below_set ?_ GE512.out) | exact HB.out)⟩
    · rw [if_neg c4] at H
      have c4b0 : (a0_1 == a1_1) = false := beq_eq_false_iff_ne.mpr c4
      have c4b1 : (a0_1 != a1_1) = true := bne_iff_ne.mpr c4
      obtain rfl := Option.some.inj H
      go_enter Try.func83, Try.ntmps83
      go_wp2_with (first | ((with_reducible refine gate_dst (N := 2) rfl ?_); refine box_event ?hg (N := 2) ?hd (cs := #[.int .u8 a0_0, .int .i64 a0_1, .int .i64 a0_2]) (t := 125) ?hr ?_; (case hd => rfl); (case hg => rfl); (case hr => first | (go_simp; done) | (go_simp; rfl)); intro gb511 hg w16 hbox hb; have n0_ := Aside0.mk (below_step (by repeat (first | (with_reducible first | exact HB.out | apply below_alloc | apply pw_below_drewN | apply below_drew1) | exact HB.out)) hb); have n1_ := Aside0.mk (hbox); have n2_ := Aside0.mk ((by rw [hg]; exact (below_size (by repeat (first | (with_reducible first | exact HB.out | apply below_alloc | apply pw_below_drewN | apply below_drew1) | exact HB.out))) : w.heap.size ≤ gb511)); have n3_ := Aside0.mk ((by rw [hg]; exact (below_size (by repeat (first | (with_reducible first | exact HB.out | apply below_alloc | apply pw_below_drewN | apply below_drew1) | exact HB.out))) : w.heap.size ≤ gb511)); clear HB; have HB := n0_; have BK511 := n1_; have GW511 := n2_; have GE511 := n3_; clear n0_ n1_ n2_ n3_; clear hb hbox hg) | ((with_reducible refine gate_dst (N := 3) rfl ?_); refine box_event ?hg (N := 3) ?hd (cs := #[.int .u8 a1_0, .int .i64 a1_1, .int .i64 a1_2]) (t := 125) ?hr ?_; (case hd => rfl); (case hg => rfl); (case hr => first | (go_simp; done) | (go_simp; rfl)); intro gb512 hg w17 hbox hb; have n0_ := Aside0.mk (blk_below (g := gb511) (o := .cells #[.int .u8 a0_0, .int .i64 a0_1, .int .i64 a0_2] 125 (0, 0)) (by (with_reducible repeat (first | refine blk_drewN ?_ _ | refine blk_drew ?_ | refine blk_alloc ?_ _)); exact BK511.out) hb); have n1_ := Aside0.mk (below_step (by repeat (first | (with_reducible first | exact HB.out | apply below_alloc | apply pw_below_drewN | apply below_drew1 | refine below_set ?_ GE511.out) | exact HB.out)) hb); have n2_ := Aside0.mk (hbox); have n3_ := Aside0.mk ((by rw [hg]; exact (below_size (by repeat (first | (with_reducible first | exact HB.out | apply below_alloc | apply pw_below_drewN | apply below_drew1 | refine below_set ?_ GE511.out) | exact HB.out))) : w.heap.size ≤ gb512)); have n4_ := Aside0.mk ((by rw [hg]; exact (below_size (by repeat (first | (with_reducible first | exact HB.out | apply below_alloc | apply pw_below_drewN | apply below_drew1 | refine below_set ?_ GE511.out) | exact HB.out))) : w.heap.size ≤ gb512)); have n5_ := Aside0.mk ((by rw [hg]; exact Nat.ne_of_lt (blk_lt (g := gb511) (o := .cells #[.int .u8 a0_0, .int .i64 a0_1, .int .i64 a0_2] 125 (0, 0)) (by (with_reducible repeat (first | refine blk_drewN ?_ _ | refine blk_drew ?_ | refine blk_alloc ?_ _)); exact BK511.out)) : gb511 ≠ gb512)); have n6_ := Aside0.mk ((by rw [hg]; exact Nat.ne_of_gt (blk_lt (g := gb511) (o := .cells #[.int .u8 a0_0, .int .i64 a0_1, .int .i64 a0_2] 125 (0, 0)) (by (with_reducible repeat (first | refine blk_drewN ?_ _ | refine blk_drew ?_ | refine blk_alloc ?_ _)); exact BK511.out)) : gb512 ≠ gb511)); clear BK511; clear HB; have BK511 := n0_; have HB := n1_; have BK512 := n2_; have GW512 := n3_; have GE512 := n4_; have NB511_512 := n5_; have NB512_511 := n6_; clear n0_ n1_ n2_ n3_ n4_ n5_ n6_; clear hb hbox hg; have hnb18 := NB511_512.out; have hnc18 := NB512_511.out; have hcz19_0 : w17.cell? ⟨gb511, 0, none⟩ = some (.int .u8 a0_0) := (blk_cell BK511.out 0).trans rfl; have hcz19_1 : w17.cell? ⟨gb511, 1, none⟩ = some (.int .i64 a0_1) := (blk_cell BK511.out 1).trans rfl; have hcz19_2 : w17.cell? ⟨gb511, 2, none⟩ = some (.int .i64 a0_2) := (blk_cell BK511.out 2).trans rfl; have hfz19_0 := blk_frozen BK511.out 0; have hfz19_1 := blk_frozen BK511.out 1; have hfz19_2 := blk_frozen BK511.out 2; have hcz20_0 : w17.cell? ⟨gb512, 0, none⟩ = some (.int .u8 a1_0) := (blk_cell BK512.out 0).trans rfl; have hcz20_1 : w17.cell? ⟨gb512, 1, none⟩ = some (.int .i64 a1_1) := (blk_cell BK512.out 1).trans rfl; have hcz20_2 : w17.cell? ⟨gb512, 2, none⟩ = some (.int .i64 a1_2) := (blk_cell BK512.out 2).trans rfl; have hfz20_0 := blk_frozen BK512.out 0; have hfz20_1 := blk_frozen BK512.out 1; have hfz20_2 := blk_frozen BK512.out 2))
      go_ret
      exact ⟨by first | rfl | (simp [errW_none, errW_some] <;> rfl) | (simp [*, errW_none, errW_some] <;> rfl), by repeat (first | (with_reducible first | exact HB.out | apply below_alloc | apply pw_below_drewN | apply below_drew1 | refine below_set ?_ GE511.out | refine below_set ?_ GE512.out) | exact HB.out)⟩
  · rw [if_neg c3] at H
    have c3b0 : (a0_0 == a1_0) = false := beq_eq_false_iff_ne.mpr c3
    have c3b1 : (a0_0 != a1_0) = true := bne_iff_ne.mpr c3
    obtain rfl := Option.some.inj H
    go_enter Try.func83, Try.ntmps83
    go_wp2_with (first | ((with_reducible refine gate_dst (N := 2) rfl ?_); refine box_event ?hg (N := 2) ?hd (cs := #[.int .u8 a0_0, .int .i64 a0_1, .int .i64 a0_2]) (t := 125) ?hr ?_; (case hd => rfl); (case hg => rfl); (case hr => first | (go_simp; done) | (go_simp; rfl)); intro gb511 hg w21 hbox hb; have n0_ := Aside0.mk (below_step (by repeat (first | (with_reducible first | exact HB.out | apply below_alloc | apply pw_below_drewN | apply below_drew1) | exact HB.out)) hb); have n1_ := Aside0.mk (hbox); have n2_ := Aside0.mk ((by rw [hg]; exact (below_size (by repeat (first | (with_reducible first | exact HB.out | apply below_alloc | apply pw_below_drewN | apply below_drew1) | exact HB.out))) : w.heap.size ≤ gb511)); have n3_ := Aside0.mk ((by rw [hg]; exact (below_size (by repeat (first | (with_reducible first | exact HB.out | apply below_alloc | apply pw_below_drewN | apply below_drew1) | exact HB.out))) : w.heap.size ≤ gb511)); clear HB; have HB := n0_; have BK511 := n1_; have GW511 := n2_; have GE511 := n3_; clear n0_ n1_ n2_ n3_; clear hb hbox hg) | ((with_reducible refine gate_dst (N := 3) rfl ?_); refine box_event ?hg (N := 3) ?hd (cs := #[.int .u8 a1_0, .int .i64 a1_1, .int .i64 a1_2]) (t := 125) ?hr ?_; (case hd => rfl); (case hg => rfl); (case hr => first | (go_simp; done) | (go_simp; rfl)); intro gb512 hg w22 hbox hb; have n0_ := Aside0.mk (blk_below (g := gb511) (o := .cells #[.int .u8 a0_0, .int .i64 a0_1, .int .i64 a0_2] 125 (0, 0)) (by (with_reducible repeat (first | refine blk_drewN ?_ _ | refine blk_drew ?_ | refine blk_alloc ?_ _)); exact BK511.out) hb); have n1_ := Aside0.mk (below_step (by repeat (first | (with_reducible first | exact HB.out | apply below_alloc | apply pw_below_drewN | apply below_drew1 | refine below_set ?_ GE511.out) | exact HB.out)) hb); have n2_ := Aside0.mk (hbox); have n3_ := Aside0.mk ((by rw [hg]; exact (below_size (by repeat (first | (with_reducible first | exact HB.out | apply below_alloc | apply pw_below_drewN | apply below_drew1 | refine below_set ?_ GE511.out) | exact HB.out))) : w.heap.size ≤ gb512)); have n4_ := Aside0.mk ((by rw [hg]; exact (below_size (by repeat (first | (with_reducible first | exact HB.out | apply below_alloc | apply pw_below_drewN | apply below_drew1 | refine below_set ?_ GE511.out) | exact HB.out))) : w.heap.size ≤ gb512)); have n5_ := Aside0.mk ((by rw [hg]; exact Nat.ne_of_lt (blk_lt (g := gb511) (o := .cells #[.int .u8 a0_0, .int .i64 a0_1, .int .i64 a0_2] 125 (0, 0)) (by (with_reducible repeat (first | refine blk_drewN ?_ _ | refine blk_drew ?_ | refine blk_alloc ?_ _)); exact BK511.out)) : gb511 ≠ gb512)); have n6_ := Aside0.mk ((by rw [hg]; exact Nat.ne_of_gt (blk_lt (g := gb511) (o := .cells #[.int .u8 a0_0, .int .i64 a0_1, .int .i64 a0_2] 125 (0, 0)) (by (with_reducible repeat (first | refine blk_drewN ?_ _ | refine blk_drew ?_ | refine blk_alloc ?_ _)); exact BK511.out)) : gb512 ≠ gb511)); clear BK511; clear HB; have BK511 := n0_; have HB := n1_; have BK512 := n2_; have GW512 := n3_; have GE512 := n4_; have NB511_512 := n5_; have NB512_511 := n6_; clear n0_ n1_ n2_ n3_ n4_ n5_ n6_; clear hb hbox hg; have hnb23 := NB511_512.out; have hnc23 := NB512_511.out; have hcz24_0 : w22.cell? ⟨gb511, 0, none⟩ = some (.int .u8 a0_0) := (blk_cell BK511.out 0).trans rfl; have hcz24_1 : w22.cell? ⟨gb511, 1, none⟩ = some (.int .i64 a0_1) := (blk_cell BK511.out 1).trans rfl; have hcz24_2 : w22.cell? ⟨gb511, 2, none⟩ = some (.int .i64 a0_2) := (blk_cell BK511.out 2).trans rfl; have hfz24_0 := blk_frozen BK511.out 0; have hfz24_1 := blk_frozen BK511.out 1; have hfz24_2 := blk_frozen BK511.out 2; have hcz25_0 : w22.cell? ⟨gb512, 0, none⟩ = some (.int .u8 a1_0) := (blk_cell BK512.out 0).trans rfl; have hcz25_1 : w22.cell? ⟨gb512, 1, none⟩ = some (.int .i64 a1_1) := (blk_cell BK512.out 1).trans rfl; have hcz25_2 : w22.cell? ⟨gb512, 2, none⟩ = some (.int .i64 a1_2) := (blk_cell BK512.out 2).trans rfl; have hfz25_0 := blk_frozen BK512.out 0; have hfz25_1 := blk_frozen BK512.out 1; have hfz25_2 := blk_frozen BK512.out 2))
    go_ret
    exact ⟨by first | rfl | (simp [errW_none, errW_some] <;> rfl) | (simp [*, errW_none, errW_some] <;> rfl), by repeat (first | (with_reducible first | exact HB.out | apply below_alloc | apply pw_below_drewN | apply below_drew1 | refine below_set ?_ GE511.out | refine below_set ?_ GE512.out) | exact HB.out)⟩

end Go.Proofs.Ytnimjikikfhlpaa.F

namespace Go.Proofs.Ytnimjikikfhlpaa.F
open Go.RowKit Go.Proofs.YtnimjikikfhlpaaW.PrintWords Go.Proofs.YtnimjikikfhlpaaW.PrintLast Go.Proofs.YtnimjikikfhlpaaW.PrintMore
attribute [local go_sem] max2_int min2_int max_two min_two max_three min_three max_four min_four   -- for this text's walks alone
set_option linter.unusedVariables false
set_option linter.unusedSimpArgs false

/-! ### laws_eqCommandS: function 32 -/
def laws_eqCommandS.l0 : Nat → List (S125) → List (S125) → Int → Option (Bool)
  | 0, _, _, _ => none
  | k + 1, x0, x1, x5 => if x5 < (x0.length : Int) then (if 0 ≤ x5 then (if x5 < (x1.length : Int) then ((laws_eqCommand.f ((rd_T125 x0 x5).f0) ((rd_T125 x0 x5).f1) ((rd_T125 x0 x5).f2) ((rd_T125 x1 x5).f0) ((rd_T125 x1 x5).f1) ((rd_T125 x1 x5).f2)).bind fun t515 => (if t515 = true then (laws_eqCommandS.l0 k x0 x1 (wrap64 (x5 + 1))) else (some false))) else (none)) else (none)) else (some true)
def laws_eqCommandS.f (k : Nat) (l0 : List (S125)) (l1 : List (S125)) : Option (Bool) := if (l0.length : Int) = (l1.length : Int) then (laws_eqCommandS.l0 k l0 l1 0) else (some false)
theorem laws_eqCommandS.mono_l : ∀ k, (∀ y0 y1 y2, LeO (laws_eqCommandS.l0 k y0 y1 y2) (laws_eqCommandS.l0 (k + 1) y0 y1 y2))
  | 0 => fun _ _ _ r h => by simp [laws_eqCommandS.l0] at h
  | k + 1 => by
    have ih0 := laws_eqCommandS.mono_l k
    · intro y0 y1 y2
      unfold laws_eqCommandS.l0
      repeat' first
      | (with_reducible exact ih0 _ _ _)
      | (with_reducible exact LeO.refl _)
      | (with_reducible exact LeO.none _)
      | (with_reducible refine LeO.ite ?_ ?_)
      | (with_reducible refine LeO.bind ?_ (fun _ => ?_))
      | exact ih0 _ _ _
      | exact LeO.none _
      | refine LeO.ite ?_ ?_
      | refine LeO.bind ?_ (fun _ => ?_)
theorem laws_eqCommandS.mono : ∀ a0 a1 k, LeO (laws_eqCommandS.f k a0 a1) (laws_eqCommandS.f (k + 1) a0 a1) := by
  intro a0 a1 k
  have ih0 := laws_eqCommandS.mono_l k
  unfold laws_eqCommandS.f
  repeat' first
      | (with_reducible exact ih0 _ _ _)
      | (with_reducible exact LeO.refl _)
      | (with_reducible exact LeO.none _)
      | (with_reducible refine LeO.ite ?_ ?_)
      | (with_reducible refine LeO.bind ?_ (fun _ => ?_))
      | exact ih0 _ _ _
      | exact LeO.none _
      | refine LeO.ite ?_ ?_
      | refine LeO.bind ?_ (fun _ => ?_)
def laws_eqCommandS.T6 : Bool × List (List Nat × List Nat) := (true, [([], []), ([], []), ([0, 1], [0, 1]), ([2], [2]), ([], []), ([], []), ([4, 5], [4, 5]), ([6], [6]), ([3, 7], [3, 7]), ([8], [8])])
def laws_eqCommandS.B6 : List Nat := [0, 0, 3, 7, 0, 0, 48, 112, 255, 511]
theorem laws_eqCommandS.tab6 : rtab .any (opsOf Try.f32 6) = laws_eqCommandS.T6 := by kernel_rfl
theorem laws_eqCommandS.bits6 : waitsOk laws_eqCommandS.T6.2 laws_eqCommandS.B6 = true := by kernel_rfl
set_option maxHeartbeats 8000000 in
set_option maxRecDepth 100000 in
theorem laws_eqCommandS.calls (k : Nat) (A0 : Option Addr) (c0 : Nat) (l0 : List (S125)) (A1 : Option Addr) (c1 : Nat) (l1 : List (S125)) (r : Bool) (w : World) (hr0 : Kd.C k125 w A0 l0.length l0) (hc0 : l0.length ≤ c0) (hr1 : Kd.C k125 w A1 l1.length l1) (hc1 : l1.length ≤ c1) (h : laws_eqCommandS.f k l0 l1 = some r) :
    Calls Try.prog 32 #[.slice A0 l0.length c0, .slice A1 l1.length c1] w fun e w' => e = .returned (.bool r) ∧ Below w.heap.size w w' := by
  have hu125 := Try.underlying125
  have HR0 := Aside0.mk hr0
  have HC0 := Aside0.mk hc0
  clear hr0 hc0
  have HR1 := Aside0.mk hr1
  have HC1 := Aside0.mk hc1
  clear hr1 hc1
  have HB := Aside0.mk (Below.refl w.heap.size w)
  have H : (if (l0.length : Int) = (l1.length : Int) then (laws_eqCommandS.l0 k l0 l1 0) else (some false)) = some r := h
  clear h
  by_cases c3 : (l0.length : Int) = (l1.length : Int)
  · rw [if_pos c3] at H
    have c3b0 : ((l0.length : Int) == (l1.length : Int)) = true := beq_iff_eq.mpr c3
    have c3b1 : ((l0.length : Int) != (l1.length : Int)) = false := bne_eq_false_iff_eq.mpr c3
    have c3b2 : (l0.length == l1.length) = true := by first | simpa using c3 | (simp at c3 ⊢; omega)
    clear c3
    have H' := Aside0.mk H
    clear H
    go_enter Try.func32, Try.ntmps32
    go_wp2
    go_loopg [5] k (fun kq v5 w' => ∃ (x5_1 : Int), v5 = .int .i64 x5_1 ∧ Aside0 (laws_eqCommandS.l0 kq l0 l1 x5_1 = some r) ∧ Aside0 (kq ≤ k) ∧ Aside0 (Below w.heap.size w w'))
    case atStart => exact ⟨(0), (by first | rfl | (simp; done) | (simp [*]; done)), H', ⟨Nat.le_refl _⟩, ⟨by repeat (first | (with_reducible first | exact HB.out | apply below_alloc | apply pw_below_drewN | apply below_drew1) | exact HB.out)⟩⟩
    case round =>
      clear H'
      try clear c1
      try clear p2
      try clear c3
      try clear c3b0
      try clear c3b1
      try clear c3b2
      obtain ⟨x5_1, rfl, HA, HK1, HB⟩ := hrel
      cases gk with
      | zero => exact absurd HA.out (by simp [laws_eqCommandS.l0])
      | succ k1 =>
        have H := HA.out
        clear HA
        simp only [laws_eqCommandS.l0] at H
        by_cases c4 : x5_1 < (l0.length : Int)
        · rw [if_pos c4] at H
          have c4b0 : decide (x5_1 < (l0.length : Int)) = true := decide_eq_true c4
          clear c4
          by_cases c5 : 0 ≤ x5_1
          · rw [if_pos c5] at H
            have c5b0 : decide (0 ≤ x5_1) = true := decide_eq_true c5
            clear c5
            by_cases c6 : x5_1 < (l1.length : Int)
            · rw [if_pos c6] at H
              have c6b0 : decide (x5_1 < (l1.length : Int)) = true := decide_eq_true c6
              clear c6
              replace H := Option.bind_eq_some_iff.mp H
              obtain ⟨t515, A70, H⟩ := H
              replace H : (if t515 = true then (laws_eqCommandS.l0 k1 l0 l1 (wrap64 (x5_1 + 1))) else (some false)) = some r := H
              have A7 := Aside0.mk A70
              clear A70
              by_cases c8 : t515 = true
              · subst c8
                have H1 : (laws_eqCommandS.l0 k1 l0 l1 (wrap64 (x5_1 + 1))) = some r := by rw [if_pos rfl] at H; exact H
                clear H
                have H := H1
                clear H1
                have H' := Aside0.mk H
                clear H
                try go_wp2
                have n0_ := Aside0.mk (below_drew1 HB.out)
                clear HB
                have HB := n0_
                clear n0_
                have p513 : 0 ≤ (x5_1 : Int) := of_decide_eq_true (by first | (with_reducible assumption) | assumption)
                have q513 : x5_1 < (l0.length : Int) := of_decide_eq_true (by first | (with_reducible assumption) | assumption)
                obtain ⟨ad513, e513, hx513_0, hx513_1, hx513_2⟩ := at_T125 HR0.out x5_1 p513 q513
                have hw513_2 := hx513_2
                have hw513_1 := hx513_1
                have hw513_0 := hx513_0
                cases e513
                replace hx513_0 := (HB.out.cell (World.block_lt_of_cell? w _ hx513_0)).trans hx513_0
                replace hx513_1 := (HB.out.cell (World.block_lt_of_cell? w _ hx513_1)).trans hx513_1
                replace hx513_2 := (HB.out.cell (World.block_lt_of_cell? w _ hx513_2)).trans hx513_2
                replace p513 := eq_true p513
                replace q513 := eq_true q513
                have p514 : 0 ≤ (x5_1 : Int) := of_decide_eq_true (by first | (with_reducible assumption) | assumption)
                have q514 : x5_1 < (l1.length : Int) := of_decide_eq_true (by first | (with_reducible assumption) | assumption)
                obtain ⟨ad514, e514, hx514_0, hx514_1, hx514_2⟩ := at_T125 HR1.out x5_1 p514 q514
                have hw514_2 := hx514_2
                have hw514_1 := hx514_1
                have hw514_0 := hx514_0
                cases e514
                replace hx514_0 := (HB.out.cell (World.block_lt_of_cell? w _ hx514_0)).trans hx514_0
                replace hx514_1 := (HB.out.cell (World.block_lt_of_cell? w _ hx514_1)).trans hx514_1
                replace hx514_2 := (HB.out.cell (World.block_lt_of_cell? w _ hx514_2)).trans hx514_2
                replace p514 := eq_true p514
                replace q514 := eq_true q514
                refine start_ (n := 10) (S := fun w' => w'.cell? (ad513.add ((x5_1).toNat * 3)) = some (.int .u8 ((rd_T125 l0 x5_1).f0)) ∧ w'.cell? ⟨(ad513.add ((x5_1).toNat * 3)).block, (ad513.add ((x5_1).toNat * 3)).off + 1, none⟩ = some (.int .i64 ((rd_T125 l0 x5_1).f1)) ∧ w'.cell? ⟨(ad513.add ((x5_1).toNat * 3)).block, (ad513.add ((x5_1).toNat * 3)).off + 2, none⟩ = some (.int .i64 ((rd_T125 l0 x5_1).f2)) ∧ w'.cell? (ad514.add ((x5_1).toNat * 3)) = some (.int .u8 ((rd_T125 l1 x5_1).f0)) ∧ w'.cell? ⟨(ad514.add ((x5_1).toNat * 3)).block, (ad514.add ((x5_1).toNat * 3)).off + 1, none⟩ = some (.int .i64 ((rd_T125 l1 x5_1).f1)) ∧ w'.cell? ⟨(ad514.add ((x5_1).toNat * 3)).block, (ad514.add ((x5_1).toNat * 3)).off + 2, none⟩ = some (.int .i64 ((rd_T125 l1 x5_1).f2))) (ds := []) #[false, false, false, false, false, false, false, false, false, false] (by kernel_rfl) rfl rfl ⟨((HB.out.cell (World.block_lt_of_cell? w _ hw513_0)).trans hw513_0), ((HB.out.cell (World.block_lt_of_cell? w _ hw513_1)).trans hw513_1), ((HB.out.cell (World.block_lt_of_cell? w _ hw513_2)).trans hw513_2), ((HB.out.cell (World.block_lt_of_cell? w _ hw514_0)).trans hw514_0), ((HB.out.cell (World.block_lt_of_cell? w _ hw514_1)).trans hw514_1), ((HB.out.cell (World.block_lt_of_cell? w _ hw514_2)).trans hw514_2)⟩ (fun hHeld => ?_); refine with_tabW laws_eqCommandS.tab6 laws_eqCommandS.bits6 (fun HT_ HW_ => ?_)
                generalize wr.drew = w9 at HB hx513_0 hx513_1 hx513_2 hx514_0 hx514_1 hx514_2 hHeld ⊢
                refine pure_ (i := 0) (N := some 17) (v := ?_) (a' := ?_) #[true, false, false, false, false, false, false, false, false, false] rfl rfl (any_of HT_.out (by kernel_rfl)) (fun _ _ _ h => h) (Or.inl ⟨by rfl, ?_⟩) ?_ ?_
                rotate_left
                · intro w'
                  go_simp
                  with_reducible rfl
                rotate_left
                · simp only [Act.put, List.setIfInBounds_toArray, List.set_cons_zero, List.set_cons_succ, i64_w, i32_w]
                  rfl
                refine pure_ (i := 1) (N := some 18) (v := ?_) (a' := ?_) #[true, true, false, false, false, false, false, false, false, false] rfl rfl (any_of HT_.out (by kernel_rfl)) (fun _ _ _ h => h) (Or.inl ⟨by rfl, ?_⟩) ?_ ?_
                rotate_left
                · intro w'
                  go_simp
                  with_reducible rfl
                rotate_left
                · simp only [Act.put, List.setIfInBounds_toArray, List.set_cons_zero, List.set_cons_succ, i64_w, i32_w]
                  rfl
                refine pure_ (i := 2) (N := some 19) (v := ?_) (a' := ?_) #[true, true, true, false, false, false, false, false, false, false] rfl rfl (any_of HT_.out (by kernel_rfl)) (fun _ _ _ h => h) (Or.inl ⟨by rfl, ?_⟩) ?_ ?_
                rotate_left
                · intro w'
                  go_simp
                  with_reducible rfl
                rotate_left
                · simp only [Act.put, List.setIfInBounds_toArray, List.set_cons_zero, List.set_cons_succ, i64_w, i32_w]
                  rfl
                refine pure_ (i := 4) (N := some 21) (v := ?_) (a' := ?_) #[true, true, true, false, true, false, false, false, false, false] rfl rfl (any_of HT_.out (by kernel_rfl)) (fun _ _ _ h => h) (Or.inl ⟨by rfl, ?_⟩) ?_ ?_
                rotate_left
                · intro w'
                  go_simp
                  with_reducible rfl
                rotate_left
                · simp only [Act.put, List.setIfInBounds_toArray, List.set_cons_zero, List.set_cons_succ, i64_w, i32_w]
                  rfl
                refine pure_ (i := 5) (N := some 22) (v := ?_) (a' := ?_) #[true, true, true, false, true, true, false, false, false, false] rfl rfl (any_of HT_.out (by kernel_rfl)) (fun _ _ _ h => h) (Or.inl ⟨by rfl, ?_⟩) ?_ ?_
                rotate_left
                · intro w'
                  go_simp
                  with_reducible rfl
                rotate_left
                · simp only [Act.put, List.setIfInBounds_toArray, List.set_cons_zero, List.set_cons_succ, i64_w, i32_w]
                  rfl
                refine pure_ (i := 6) (N := some 23) (v := ?_) (a' := ?_) #[true, true, true, false, true, true, true, false, false, false] rfl rfl (any_of HT_.out (by kernel_rfl)) (fun _ _ _ h => h) (Or.inl ⟨by rfl, ?_⟩) ?_ ?_
                rotate_left
                · intro w'
                  go_simp
                  with_reducible rfl
                rotate_left
                · simp only [Act.put, List.setIfInBounds_toArray, List.set_cons_zero, List.set_cons_succ, i64_w, i32_w]
                  rfl
                refine take_ (i := 3) (N := some 20) (v := ?_) (a' := ?_) #[true, true, true, true, true, true, true, false, false, false] rfl rfl (take_ofW HT_.out HW_.out (by kernel_rfl)) (fun _ _ _ h => h) (Or.inl ⟨by rfl, ?_⟩) hHeld ?_ ?_
                rotate_left
                · rintro w' ⟨s0, s1, s2, s3, s4, s5⟩
                  go_simp
                  with_reducible rfl
                rotate_left
                · simp only [Act.put, List.setIfInBounds_toArray, List.set_cons_zero, List.set_cons_succ, i64_w, i32_w]
                  rfl
                refine take_ (i := 7) (N := some 24) (v := ?_) (a' := ?_) #[true, true, true, true, true, true, true, true, false, false] rfl rfl (take_ofW HT_.out HW_.out (by kernel_rfl)) (fun _ _ _ h => h) (Or.inl ⟨by rfl, ?_⟩) hHeld ?_ ?_
                rotate_left
                · rintro w' ⟨s0, s1, s2, s3, s4, s5⟩
                  go_simp
                  with_reducible rfl
                rotate_left
                · simp only [Act.put, List.setIfInBounds_toArray, List.set_cons_zero, List.set_cons_succ, i64_w, i32_w]
                  rfl
                refine one_ (i := 8) (N := some 25) #[true, true, true, true, true, true, true, true, true, false] rfl rfl (one_of HT_.out (by kernel_rfl)) (by decide) (fun K hK => ?_)
                refine goes_ Try.func83 (by kernel_rfl) rfl #[.agg #[.int .u8 ((rd_T125 l0 x5_1).f0), .int .i64 ((rd_T125 l0 x5_1).f1), .int .i64 ((rd_T125 l0 x5_1).f2)], .agg #[.int .u8 ((rd_T125 l1 x5_1).f0), .int .i64 ((rd_T125 l1 x5_1).f1), .int .i64 ((rd_T125 l1 x5_1).f2)]] (by rfl) rfl rfl (by (try simp only [List.map_toArray, List.map_cons, List.map_nil]); first | done | rfl | (simp only [List.length_drop, List.length_take]; rfl)) ?_
                with_reducible refine (laws_eqCommand.calls ((rd_T125 l0 x5_1).f0) ((rd_T125 l0 x5_1).f1) ((rd_T125 l0 x5_1).f2) ((rd_T125 l1 x5_1).f0) ((rd_T125 l1 x5_1).f1) ((rd_T125 l1 x5_1).f2) true _ A7.out).mono ?_
                rintro e w10 ⟨rfl, hb⟩
                refine ⟨_, rfl, ?_⟩
                have n0_ := Aside0.mk (below_step (by repeat (first | (with_reducible first | exact HB.out | apply below_alloc | apply pw_below_drewN | apply below_drew1) | exact HB.out)) hb)
                clear HB
                have HB := n0_
                clear n0_
                (try clear hb)
                (try clear hb2)
                (try clear hk)
                (try clear hi)
                refine hK.out _ _ ⟨((HB.out.cell (World.block_lt_of_cell? w _ hw513_0)).trans hw513_0), ((HB.out.cell (World.block_lt_of_cell? w _ hw513_1)).trans hw513_1), ((HB.out.cell (World.block_lt_of_cell? w _ hw513_2)).trans hw513_2), ((HB.out.cell (World.block_lt_of_cell? w _ hw514_0)).trans hw514_0), ((HB.out.cell (World.block_lt_of_cell? w _ hw514_1)).trans hw514_1), ((HB.out.cell (World.block_lt_of_cell? w _ hw514_2)).trans hw514_2)⟩ (fun hHeld => ?_)
                clear hK K
                refine norm_ (a' := ?_) ?_ ?_
                rotate_left
                · show Act.put _ (some 25) _ = _
                  simp only [Act.put, List.setIfInBounds_toArray, List.set_cons_zero, List.set_cons_succ, i64_w, i32_w]
                  rfl
                refine pure_ (i := 9) (N := some 26) (v := ?_) (a' := ?_) #[true, true, true, true, true, true, true, true, true, true] rfl rfl (any_of HT_.out (by kernel_rfl)) (fun _ _ _ h => h) (Or.inl ⟨by rfl, ?_⟩) ?_ ?_
                rotate_left
                · intro w'
                  go_simp
                  with_reducible rfl
                rotate_left
                · simp only [Act.put, List.setIfInBounds_toArray, List.set_cons_zero, List.set_cons_succ, i64_w, i32_w]
                  rfl
                refine done_ (done_of HT_.out (by kernel_rfl)) ?_
                try go_wp2
                go_roundg k1
                case measure => have := HK1.out; omega
                case rel => exact ⟨(wrap64 (x5_1 + 1)), (by first | rfl | (simp; done) | (simp [*]; done)), H', ⟨by have := HK1.out; omega⟩, ⟨by repeat (first | (with_reducible first | exact HB.out | apply below_alloc | apply pw_below_drewN | apply below_drew1) | exact HB.out)⟩⟩
              · replace c8 := Bool.eq_false_iff.mpr c8
                subst c8
                have H1 : (some false) = some r := by rw [if_neg (show ¬ (false = true) by decide)] at H; exact H
                clear H
                have H := H1
                clear H1
                obtain rfl := Option.some.inj H
                try go_wp2
                have n0_ := Aside0.mk (below_drew1 HB.out)
                clear HB
                have HB := n0_
                clear n0_
                have p513 : 0 ≤ (x5_1 : Int) := of_decide_eq_true (by first | (with_reducible assumption) | assumption)
                have q513 : x5_1 < (l0.length : Int) := of_decide_eq_true (by first | (with_reducible assumption) | assumption)
                obtain ⟨ad513, e513, hx513_0, hx513_1, hx513_2⟩ := at_T125 HR0.out x5_1 p513 q513
                have hw513_2 := hx513_2
                have hw513_1 := hx513_1
                have hw513_0 := hx513_0
                cases e513
                replace hx513_0 := (HB.out.cell (World.block_lt_of_cell? w _ hx513_0)).trans hx513_0
                replace hx513_1 := (HB.out.cell (World.block_lt_of_cell? w _ hx513_1)).trans hx513_1
                replace hx513_2 := (HB.out.cell (World.block_lt_of_cell? w _ hx513_2)).trans hx513_2
                replace p513 := eq_true p513
                replace q513 := eq_true q513
                have p514 : 0 ≤ (x5_1 : Int) := of_decide_eq_true (by first | (with_reducible assumption) | assumption)
                have q514 : x5_1 < (l1.length : Int) := of_decide_eq_true (by first | (with_reducible assumption) | assumption)
                obtain ⟨ad514, e514, hx514_0, hx514_1, hx514_2⟩ := at_T125 HR1.out x5_1 p514 q514
                have hw514_2 := hx514_2
                have hw514_1 := hx514_1
                have hw514_0 := hx514_0
                cases e514
                replace hx514_0 := (HB.out.cell (World.block_lt_of_cell? w _ hx514_0)).trans hx514_0
                replace hx514_1 := (HB.out.cell (World.block_lt_of_cell? w _ hx514_1)).trans hx514_1
                replace hx514_2 := (HB.out.cell (World.block_lt_of_cell? w _ hx514_2)).trans hx514_2
                replace p514 := eq_true p514
                replace q514 := eq_true q514
                refine start_ (n := 10) (S := fun w' => w'.cell? (ad513.add ((x5_1).toNat * 3)) = some (.int .u8 ((rd_T125 l0 x5_1).f0)) ∧ w'.cell? ⟨(ad513.add ((x5_1).toNat * 3)).block, (ad513.add ((x5_1).toNat * 3)).off + 1, none⟩ = some (.int .i64 ((rd_T125 l0 x5_1).f1)) ∧ w'.cell? ⟨(ad513.add ((x5_1).toNat * 3)).block, (ad513.add ((x5_1).toNat * 3)).off + 2, none⟩ = some (.int .i64 ((rd_T125 l0 x5_1).f2)) ∧ w'.cell? (ad514.add ((x5_1).toNat * 3)) = some (.int .u8 ((rd_T125 l1 x5_1).f0)) ∧ w'.cell? ⟨(ad514.add ((x5_1).toNat * 3)).block, (ad514.add ((x5_1).toNat * 3)).off + 1, none⟩ = some (.int .i64 ((rd_T125 l1 x5_1).f1)) ∧ w'.cell? ⟨(ad514.add ((x5_1).toNat * 3)).block, (ad514.add ((x5_1).toNat * 3)).off + 2, none⟩ = some (.int .i64 ((rd_T125 l1 x5_1).f2))) (ds := []) #[false, false, false, false, false, false, false, false, false, false] (by kernel_rfl) rfl rfl ⟨((HB.out.cell (World.block_lt_of_cell? w _ hw513_0)).trans hw513_0), ((HB.out.cell (World.block_lt_of_cell? w _ hw513_1)).trans hw513_1), ((HB.out.cell (World.block_lt_of_cell? w _ hw513_2)).trans hw513_2), ((HB.out.cell (World.block_lt_of_cell? w _ hw514_0)).trans hw514_0), ((HB.out.cell (World.block_lt_of_cell? w _ hw514_1)).trans hw514_1), ((HB.out.cell (World.block_lt_of_cell? w _ hw514_2)).trans hw514_2)⟩ (fun hHeld => ?_); refine with_tabW laws_eqCommandS.tab6 laws_eqCommandS.bits6 (fun HT_ HW_ => ?_)
                generalize wr.drew = w11 at HB hx513_0 hx513_1 hx513_2 hx514_0 hx514_1 hx514_2 hHeld ⊢
                refine pure_ (i := 0) (N := some 17) (v := ?_) (a' := ?_) #[true, false, false, false, false, false, false, false, false, false] rfl rfl (any_of HT_.out (by kernel_rfl)) (fun _ _ _ h => h) (Or.inl ⟨by rfl, ?_⟩) ?_ ?_
                rotate_left
                · intro w'
                  go_simp
                  with_reducible rfl
                rotate_left
                · simp only [Act.put, List.setIfInBounds_toArray, List.set_cons_zero, List.set_cons_succ, i64_w, i32_w]
                  rfl
                refine pure_ (i := 1) (N := some 18) (v := ?_) (a' := ?_) #[true, true, false, false, false, false, false, false, false, false] rfl rfl (any_of HT_.out (by kernel_rfl)) (fun _ _ _ h => h) (Or.inl ⟨by rfl, ?_⟩) ?_ ?_
                rotate_left
                · intro w'
                  go_simp
                  with_reducible rfl
                rotate_left
                · simp only [Act.put, List.setIfInBounds_toArray, List.set_cons_zero, List.set_cons_succ, i64_w, i32_w]
                  rfl
                refine pure_ (i := 2) (N := some 19) (v := ?_) (a' := ?_) #[true, true, true, false, false, false, false, false, false, false] rfl rfl (any_of HT_.out (by kernel_rfl)) (fun _ _ _ h => h) (Or.inl ⟨by rfl, ?_⟩) ?_ ?_
                rotate_left
                · intro w'
                  go_simp
                  with_reducible rfl
                rotate_left
                · simp only [Act.put, List.setIfInBounds_toArray, List.set_cons_zero, List.set_cons_succ, i64_w, i32_w]
                  rfl
                refine pure_ (i := 4) (N := some 21) (v := ?_) (a' := ?_) #[true, true, true, false, true, false, false, false, false, false] rfl rfl (any_of HT_.out (by kernel_rfl)) (fun _ _ _ h => h) (Or.inl ⟨by rfl, ?_⟩) ?_ ?_
                rotate_left
                · intro w'
                  go_simp
                  with_reducible rfl
                rotate_left
                · simp only [Act.put, List.setIfInBounds_toArray, List.set_cons_zero, List.set_cons_succ, i64_w, i32_w]
                  rfl
                refine pure_ (i := 5) (N := some 22) (v := ?_) (a' := ?_) #[true, true, true, false, true, true, false, false, false, false] rfl rfl (any_of HT_.out (by kernel_rfl)) (fun _ _ _ h => h) (Or.inl ⟨by rfl, ?_⟩) ?_ ?_
                rotate_left
                · intro w'
                  go_simp
                  with_reducible rfl
                rotate_left
                · simp only [Act.put, List.setIfInBounds_toArray, List.set_cons_zero, List.set_cons_succ, i64_w, i32_w]
                  rfl
                refine pure_ (i := 6) (N := some 23) (v := ?_) (a' := ?_) #[true, true, true, false, true, true, true, false, false, false] rfl rfl (any_of HT_.out (by kernel_rfl)) (fun _ _ _ h => h) (Or.inl ⟨by rfl, ?_⟩) ?_ ?_
                rotate_left
                · intro w'
                  go_simp
                  with_reducible rfl
                rotate_left
                · simp only [Act.put, List.setIfInBounds_toArray, List.set_cons_zero, List.set_cons_succ, i64_w, i32_w]
                  rfl
                refine take_ (i := 3) (N := some 20) (v := ?_) (a' := ?_) #[true, true, true, true, true, true, true, false, false, false] rfl rfl (take_ofW HT_.out HW_.out (by kernel_rfl)) (fun _ _ _ h => h) (Or.inl ⟨by rfl, ?_⟩) hHeld ?_ ?_
                rotate_left
                · rintro w' ⟨s0, s1, s2, s3, s4, s5⟩
                  go_simp
                  with_reducible rfl
                rotate_left
                · simp only [Act.put, List.setIfInBounds_toArray, List.set_cons_zero, List.set_cons_succ, i64_w, i32_w]
                  rfl
                refine take_ (i := 7) (N := some 24) (v := ?_) (a' := ?_) #[true, true, true, true, true, true, true, true, false, false] rfl rfl (take_ofW HT_.out HW_.out (by kernel_rfl)) (fun _ _ _ h => h) (Or.inl ⟨by rfl, ?_⟩) hHeld ?_ ?_
                rotate_left
                · rintro w' ⟨s0, s1, s2, s3, s4, s5⟩
                  go_simp
                  with_reducible rfl
                rotate_left
                · simp only [Act.put, List.setIfInBounds_toArray, List.set_cons_zero, List.set_cons_succ, i64_w, i32_w]
                  rfl
                refine one_ (i := 8) (N := some 25) #[true, true, true, true, true, true, true, true, true, false] rfl rfl (one_of HT_.out (by kernel_rfl)) (by decide) (fun K hK => ?_)
                refine goes_ Try.func83 (by kernel_rfl) rfl #[.agg #[.int .u8 ((rd_T125 l0 x5_1).f0), .int .i64 ((rd_T125 l0 x5_1).f1), .int .i64 ((rd_T125 l0 x5_1).f2)], .agg #[.int .u8 ((rd_T125 l1 x5_1).f0), .int .i64 ((rd_T125 l1 x5_1).f1), .int .i64 ((rd_T125 l1 x5_1).f2)]] (by rfl) rfl rfl (by (try simp only [List.map_toArray, List.map_cons, List.map_nil]); first | done | rfl | (simp only [List.length_drop, List.length_take]; rfl)) ?_
                with_reducible refine (laws_eqCommand.calls ((rd_T125 l0 x5_1).f0) ((rd_T125 l0 x5_1).f1) ((rd_T125 l0 x5_1).f2) ((rd_T125 l1 x5_1).f0) ((rd_T125 l1 x5_1).f1) ((rd_T125 l1 x5_1).f2) false _ A7.out).mono ?_
                rintro e w12 ⟨rfl, hb⟩
                refine ⟨_, rfl, ?_⟩
                have n0_ := Aside0.mk (below_step (by repeat (first | (with_reducible first | exact HB.out | apply below_alloc | apply pw_below_drewN | apply below_drew1) | exact HB.out)) hb)
                clear HB
                have HB := n0_
                clear n0_
                (try clear hb)
                (try clear hb2)
                (try clear hk)
                (try clear hi)
                refine hK.out _ _ ⟨((HB.out.cell (World.block_lt_of_cell? w _ hw513_0)).trans hw513_0), ((HB.out.cell (World.block_lt_of_cell? w _ hw513_1)).trans hw513_1), ((HB.out.cell (World.block_lt_of_cell? w _ hw513_2)).trans hw513_2), ((HB.out.cell (World.block_lt_of_cell? w _ hw514_0)).trans hw514_0), ((HB.out.cell (World.block_lt_of_cell? w _ hw514_1)).trans hw514_1), ((HB.out.cell (World.block_lt_of_cell? w _ hw514_2)).trans hw514_2)⟩ (fun hHeld => ?_)
                clear hK K
                refine norm_ (a' := ?_) ?_ ?_
                rotate_left
                · show Act.put _ (some 25) _ = _
                  simp only [Act.put, List.setIfInBounds_toArray, List.set_cons_zero, List.set_cons_succ, i64_w, i32_w]
                  rfl
                refine pure_ (i := 9) (N := some 26) (v := ?_) (a' := ?_) #[true, true, true, true, true, true, true, true, true, true] rfl rfl (any_of HT_.out (by kernel_rfl)) (fun _ _ _ h => h) (Or.inl ⟨by rfl, ?_⟩) ?_ ?_
                rotate_left
                · intro w'
                  go_simp
                  with_reducible rfl
                rotate_left
                · simp only [Act.put, List.setIfInBounds_toArray, List.set_cons_zero, List.set_cons_succ, i64_w, i32_w]
                  rfl
                refine done_ (done_of HT_.out (by kernel_rfl)) ?_
                try go_wp2
                go_ret
                exact ⟨by first | rfl | (simp [errW_none, errW_some] <;> rfl) | (simp [*, errW_none, errW_some] <;> rfl), by repeat (first | (with_reducible first | exact HB.out | apply below_alloc | apply pw_below_drewN | apply below_drew1) | exact HB.out)⟩
            · rw [if_neg c6] at H
              exact absurd H (by simp)
          · rw [if_neg c5] at H
            exact absurd H (by simp)
        · rw [if_neg c4] at H
          have c4b0 : decide (x5_1 < (l0.length : Int)) = false := decide_eq_false c4
          clear c4
          obtain rfl := Option.some.inj H
          go_wp2
          go_ret
          exact ⟨by first | rfl | (simp [errW_none, errW_some] <;> rfl) | (simp [*, errW_none, errW_some] <;> rfl), by repeat (first | (with_reducible first | exact HB.out | apply below_alloc | apply pw_below_drewN | apply below_drew1) | exact HB.out)⟩
  · rw [if_neg c3] at H
    have c3b0 : ((l0.length : Int) == (l1.length : Int)) = false := beq_eq_false_iff_ne.mpr c3
    have c3b1 : ((l0.length : Int) != (l1.length : Int)) = true := bne_iff_ne.mpr c3
    have c3b2 : (l0.length == l1.length) = false := by first | simpa using c3 | (simp at c3 ⊢; omega)
    obtain rfl := Option.some.inj H
    go_enter Try.func32, Try.ntmps32
    go_wp2
    go_ret
    exact ⟨by first | rfl | (simp [errW_none, errW_some] <;> rfl) | (simp [*, errW_none, errW_some] <;> rfl), by repeat (first | (with_reducible first | exact HB.out | apply below_alloc | apply pw_below_drewN | apply below_drew1) | exact HB.out)⟩

end Go.Proofs.Ytnimjikikfhlpaa.F

namespace Go.Proofs.Ytnimjikikfhlpaa.Pure
open Go.RowKit Go.Proofs.Ytnimjikikfhlpaa.F Go.Proofs.YtnimjikikfhlpaaW.PrintWords Go.Proofs.YtnimjikikfhlpaaW.PrintLast Go.Proofs.YtnimjikikfhlpaaW.PrintMore Go.Proofs.YtnimjikikfhlpaaB
set_option linter.unusedVariables false
set_option linter.unusedSimpArgs false
def isC (a b c : Int) : Bool := if a = 80 then inB b 1 8 && c == 0 else if a = 85 ∨ a = 68 then inB b (-1000000) 1000000 && inB c (-1000000) 1000000 else false
def isCm (x : S125) : Bool := isC x.f0 x.f1 x.f2
def codeC (l : List S125) : Int := if l.all isCm = true then (if 400 < l.length then 3 else 0) else 1
theorem rdC {xs ys : List S125} {y : S125} {m : Nat} (h : xs.drop m = y :: ys) : rd_T125 xs (m : Int) = y := (drop_cons h).2.1 _

end Go.Proofs.Ytnimjikikfhlpaa.Pure

namespace Go.Proofs.Ytnimjikikfhlpaa.Pure
open Go.RowKit Go.Proofs.Ytnimjikikfhlpaa.F Go.Proofs.YtnimjikikfhlpaaW.PrintWords Go.Proofs.YtnimjikikfhlpaaW.PrintLast Go.Proofs.YtnimjikikfhlpaaW.PrintMore Go.Proofs.YtnimjikikfhlpaaB
set_option linter.unusedVariables false
set_option linter.unusedSimpArgs false
theorem laws_eqCommandS_l0 (xs : List S125) (hx : xs.length ≤ 9223372036854775807) : ∀ (ys : List S125) (m : Nat), xs.drop m = ys →
    Ev (fun k => laws_eqCommandS.l0 k xs xs m) true
  | [], m, h => by
    have := drop_nil h
    exact ev_step (fun _ => rfl) (ev_neg (by omega) (ev_now rfl))
  | y :: ys, m, h => by
    obtain ⟨hm, _, hd⟩ := drop_cons h
    refine ev_step (fun _ => rfl) (ev_pos (by omega) (ev_pos (by omega) (ev_pos (by omega) ?_)))
    rw [rdC h, w64 (by omega) (by omega)]
    refine ev_some (a := true) (by simp [laws_eqCommand.f]) (ev_pos rfl ?_)
    exact laws_eqCommandS_l0 xs hx ys (m + 1) hd
theorem laws_eqCommandS_f (xs : List S125) (hx : xs.length ≤ 9223372036854775807) : Ev (fun k => laws_eqCommandS.f k xs xs) true := ev_pos rfl (laws_eqCommandS_l0 xs hx xs 0 rfl)

end Go.Proofs.Ytnimjikikfhlpaa.Pure

namespace Go.Proofs.Ytnimjikikfhlpaa.F
open Go.RowKit Go.Proofs.YtnimjikikfhlpaaW.PrintWords Go.Proofs.YtnimjikikfhlpaaW.PrintLast Go.Proofs.YtnimjikikfhlpaaW.PrintMore
attribute [local go_sem] max2_int min2_int max_two min_two max_three min_three max_four min_four   -- for this text's walks alone
set_option linter.unusedVariables false
set_option linter.unusedSimpArgs false

/-! ### laws_eqPoint: function 157 -/
def laws_eqPoint.f (a0_0 : Int) (a0_1 : Int) (a1_0 : Int) (a1_1 : Int) : Option (Bool) := if a0_0 = a1_0 then (if a0_1 = a1_1 then (some true) else (some false)) else (some false)
set_option maxHeartbeats 8000000 in
set_option maxRecDepth 100000 in
theorem laws_eqPoint.calls (a0_0 : Int) (a0_1 : Int) (a1_0 : Int) (a1_1 : Int) (r : Bool) (w : World) (h : laws_eqPoint.f a0_0 a0_1 a1_0 a1_1 = some r) :
    Calls Try.prog 157 #[.agg #[.int .i64 a0_0, .int .i64 a0_1], .agg #[.int .i64 a1_0, .int .i64 a1_1]] w fun e w' => e = .returned (.bool r) ∧ Below w.heap.size w w' := by
  have hu142 := Try.underlying142
  have HB := Aside0.mk (Below.refl w.heap.size w)
  have H : (if a0_0 = a1_0 then (if a0_1 = a1_1 then (some true) else (some false)) else (some false)) = some r := h
  clear h
  by_cases c3 : a0_0 = a1_0
  · rw [if_pos c3] at H
    have c3b0 : (a0_0 == a1_0) = true := beq_iff_eq.mpr c3
    have c3b1 : (a0_0 != a1_0) = false := bne_eq_false_iff_eq.mpr c3
    clear c3
    by_cases c4 : a0_1 = a1_1
    · rw [if_pos c4] at H
      have c4b0 : (a0_1 == a1_1) = true := beq_iff_eq.mpr c4
      have c4b1 : (a0_1 != a1_1) = false := bne_eq_false_iff_eq.mpr c4
      clear c4
      obtain rfl := Option.some.inj H
      go_enter Try.func157, Try.ntmps157
      go_wp2_with (first | ((with_reducible refine gate_dst (N := 2) rfl ?_); refine box_event ?hg (N := 2) ?hd (cs := #[.int .i64 a0_0, .int .i64 a0_1]) (t := 142) ?hr ?_; (case hd => rfl); (case hg => rfl); (case hr => first | (go_simp; done) | (go_simp; rfl)); intro gb178 hg w5 hbox hb; have n0_ := Aside0.mk (below_step (by repeat (first | (with_reducible first | exact HB.out | apply below_alloc | apply pw_below_drewN | apply below_drew1) | exact HB.out)) hb); have n1_ := Aside0.mk (hbox); have n2_ := Aside0.mk ((by rw [hg]; exact (below_size (by repeat (first | (with_reducible first | exact HB.out | apply below_alloc | apply pw_below_drewN | apply below_drew1) | exact HB.out))) : w.heap.size ≤ gb178)); have n3_ := Aside0.mk ((by rw [hg]; exact (below_size (by repeat (first | (with_reducible first | exact HB.out | apply below_alloc | apply pw_below_drewN | apply below_drew1) | exact HB.out))) : w.heap.size ≤ gb178)); clear HB; have HB := n0_; have BK178 := n1_; have GW178 := n2_; have GE178 := n3_; clear n0_ n1_ n2_ n3_; clear hb hbox hg) | ((with_reducible refine gate_dst (N := 3) rfl ?_); refine box_event ?hg (N := 3) ?hd (cs := #[.int .i64 a1_0, .int .i64 a1_1]) (t := 142) ?hr ?_; (case hd => rfl); (case hg => rfl); (case hr => first | (go_simp; done) | (go_simp; rfl)); intro gb179 hg w6 hbox hb; have n0_ := Aside0.mk (blk_below (g := gb178) (o := .cells #[.int .i64 a0_0, .int .i64 a0_1] 142 (0, 0)) (by (with_reducible repeat (first | refine blk_drewN ?_ _ | refine blk_drew ?_ | refine blk_alloc ?_ _)); exact BK178.out) hb); have n1_ := Aside0.mk (below_step (by repeat (first | (with_reducible first | exact HB.out | apply below_alloc | apply pw_below_drewN | apply below_drew1 | refine below_set ?_ GE178.out) | exact HB.out)) hb); have n2_ := Aside0.mk (hbox); have n3_ := Aside0.mk ((by rw [hg]; exact (below_size (by repeat (first | (with_reducible first | exact HB.out | apply below_alloc | apply pw_below_drewN | apply below_drew1 | refine below_set ?_ GE178.out) | exact HB.out))) : w.heap.size ≤ gb179)); have n4_ := Aside0.mk ((by rw [hg]; exact (below_size (by repeat (first | (with_reducible first | exact HB.out | apply below_alloc | apply pw_below_drewN | apply below_drew1 | refine below_set ?_ GE178.out) | exact HB.out))) : w.heap.size ≤ gb179)); have n5_ := Aside0.mk ((by rw [hg]; exact Nat.ne_of_lt (blk_lt (g := gb178) (o := .cells #[.int .i64 a0_0, .int .i64 a0_1] 142 (0, 0)) (by (with_reducible repeat (first | refine blk_drewN ?_ _ | refine blk_drew ?_ | refine blk_alloc ?_ _)); exact BK178.out)) : gb178 ≠ gb179)); have n6_ := Aside0.mk ((by rw [hg]; exact Nat.ne_of_gt (blk_lt (g := gb178) (o := .cells #[.int .i64 a0_0, .int .i64 a0_1] 142 (0, 0)) (by (with_reducible repeat (first | refine blk_drewN ?_ _ | refine blk_drew ?_ | refine blk_alloc ?_ _)); exact BK178.out)) : gb179 ≠ gb178)); clear BK178; clear HB; have BK178 := n0_; have HB := n1_; have BK179 := n2_; have GW179 := n3_; have GE179 := n4_; have NB178_179 := n5_; have NB179_178 := n6_; clear n0_ n1_ n2_ n3_ n4_ n5_ n6_; clear hb hbox hg; have hnb7 := NB178_179.out; have hnc7 := NB179_178.out; have hcz8_0 : w6.cell? ⟨gb178, 0, none⟩ = some (.int .i64 a0_0) := (blk_cell BK178.out 0).trans rfl; have hcz8_1 : w6.cell? ⟨gb178, 1, none⟩ = some (.int .i64 a0_1) := (blk_cell BK178.out 1).trans rfl; have hfz8_0 := blk_frozen BK178.out 0; have hfz8_1 := blk_frozen BK178.out 1; have hcz9_0 : w6.cell? ⟨gb179, 0, none⟩ = some (.int .i64 a1_0) := (blk_cell BK179.out 0).trans rfl; have hcz9_1 : w6.cell? ⟨gb179, 1, none⟩ = some (.int .i64 a1_1) := (blk_cell BK179.out 1).trans rfl; have hfz9_0 := blk_frozen BK179.out 0; have hfz9_1 := blk_frozen BK179.out 1))
      go_ret
      exact ⟨by first | rfl | (simp [errW_none, errW_some] <;> rfl) | (simp [*, errW_none, errW_some] <;> rfl), by repeat (first | (with_reducible first | exact HB.out | apply below_alloc | apply pw_below_drewN | apply below_drew1 | refine below_set ?_ GE178.out | refine below_set ?_ GE179.out) | exact HB.out)⟩
    · rw [if_neg c4] at H
      have c4b0 : (a0_1 == a1_1) = false := beq_eq_false_iff_ne.mpr c4
      have c4b1 : (a0_1 != a1_1) = true := bne_iff_ne.mpr c4
      obtain rfl := Option.some.inj H
      go_enter Try.func157, Try.ntmps157
      go_wp2_with (first | ((with_reducible refine gate_dst (N := 2) rfl ?_); refine box_event ?hg (N := 2) ?hd (cs := #[.int .i64 a0_0, .int .i64 a0_1]) (t := 142) ?hr ?_; (case hd => rfl); (case hg => rfl); (case hr => first | (go_simp; done) | (go_simp; rfl)); intro gb178 hg w10 hbox hb; have n0_ := Aside0.mk (below_step (by repeat (first | (with_reducible first | exact HB.out | apply below_alloc | apply pw_below_drewN | apply below_drew1) | exact HB.out)) hb); have n1_ := Aside0.mk (hbox); have n2_ := Aside0.mk ((by rw [hg]; exact (below_size (by repeat (first | (with_reducible first | exact HB.out | apply below_alloc | apply pw_below_drewN | apply below_drew1) | exact HB.out))) : w.heap.size ≤ gb178)); have n3_ := Aside0.mk ((by rw [hg]; exact (below_size (by repeat (first | (with_reducible first | exact HB.out | apply below_alloc | apply pw_below_drewN | apply below_drew1) | exact HB.out))) : w.heap.size ≤ gb178)); clear HB; have HB := n0_; have BK178 := n1_; have GW178 := n2_; have GE178 := n3_; clear n0_ n1_ n2_ n3_; clear hb hbox hg) | ((with_reducible refine gate_dst (N := 3) rfl ?_); refine box_event ?hg (N := 3) ?hd (cs := #[.int .i64 a1_0, .int .i64 a1_1]) (t := 142) ?hr ?_; (case hd => rfl); (case hg => rfl); (case hr => first | (go_simp; done) | (go_simp; rfl)); intro gb179 hg w11 hbox hb; have n0_ := Aside0.mk (blk_below (g := gb178) (o := .cells #[.int .i64 a0_0, .int .i64 a0_1] 142 (0, 0)) (by (with_reducible repeat (first | refine blk_drewN ?_ _ | refine blk_drew ?_ | refine blk_alloc ?_ _)); exact BK178.out) hb); have n1_ := Aside0.mk (below_step (by repeat (first | (with_reducible first | exact HB.out | apply below_alloc | apply pw_below_drewN | apply below_drew1 | refine below_set ?_ GE178.out) | exact HB.out)) hb); have n2_ := Aside0.mk (hbox); have n3_ := Aside0.mk ((by rw [hg]; exact (below_size (by repeat (first | (with_reducible first | exact HB.out | apply below_alloc | apply pw_below_drewN | apply below_drew1 | refine below_set ?_ GE178.out) | exact HB.out))) : w.heap.size ≤ gb179)); have n4_ := Aside0.mk ((by rw [hg]; exact (below_size (by repeat (first | (with_reducible first | exact HB.out | apply below_alloc | apply pw_below_drewN | apply below_drew1 | refine below_set ?_ GE178.out) | exact HB.out))) : w.heap.size ≤ gb179)); have n5_ := Aside0.mk ((by rw [hg]; exact Nat.ne_of_lt (blk_lt (g := gb178) (o := .cells #[.int .i64 a0_0, .int .i64 a0_1] 142 (0, 0)) (by (with_reducible repeat (first | refine blk_drewN ?_ _ | refine blk_drew ?_ | refine blk_alloc ?_ _)); exact BK178.out)) : gb178 ≠ gb179)); have n6_ := Aside0.mk ((by rw [hg]; exact Nat.ne_of_gt (blk_lt (g := gb178) (o := .cells #[.int .i64 a0_0, .int .i64 a0_1] 142 (0, 0)) (by (with_reducible repeat (first | refine blk_drewN ?_ _ | refine blk_drew ?_ | refine blk_alloc ?_ _)); exact BK178.out)) : gb179 ≠ gb178)); clear BK178; clear HB; have BK178 := n0_; have HB := n1_; have BK179 := n2_; have GW179 := n3_; have GE179 := n4_; have NB178_179 := n5_; have NB179_178 := n6_; clear n0_ n1_ n2_ n3_ n4_ n5_ n6_; clear hb hbox hg; have hnb12 := NB178_179.out; have hnc12 := NB179_178.out; have hcz13_0 : w11.cell? ⟨gb178, 0, none⟩ = some (.int .i64 a0_0) := (blk_cell BK178.out 0).trans rfl; have hcz13_1 : w11.cell? ⟨gb178, 1, none⟩ = some (.int .i64 a0_1) := (blk_cell BK178.out 1).trans rfl; have hfz13_0 := blk_frozen BK178.out 0; have hfz13_1 := blk_frozen BK178.out 1; have hcz14_0 : w11.cell? ⟨gb179, 0, none⟩ = some (.int .i64 a1_0) := (blk_cell BK179.out 0).trans rfl; have hcz14_1 : w11.cell? ⟨gb179, 1, none⟩ = some (.int .i64 a1_1) := (blk_cell BK179.out 1).trans rfl; have hfz14_0 := blk_frozen BK179.out 0; have hfz14_1 := blk_frozen BK179.out 1))
      go_ret
      exact ⟨by first | rfl | (simp [errW_none, errW_some] <;> rfl) | (simp [*, errW_none, errW_some] <;> rfl), by repeat (first | (with_reducible first | exact HB.out | apply below_alloc | apply pw_below_drewN | apply below_drew1 | refine below_set ?_ GE178.out | refine below_set ?_ GE179.out) | exact HB.out)⟩
  · rw [if_neg c3] at H
    have c3b0 : (a0_0 == a1_0) = false := beq_eq_false_iff_ne.mpr c3
    have c3b1 : (a0_0 != a1_0) = true := bne_iff_ne.mpr c3
    obtain rfl := Option.some.inj H
    go_enter Try.func157, Try.ntmps157
    go_wp2_with (first | ((with_reducible refine gate_dst (N := 2) rfl ?_); refine box_event ?hg (N := 2) ?hd (cs := #[.int .i64 a0_0, .int .i64 a0_1]) (t := 142) ?hr ?_; (case hd => rfl); (case hg => rfl); (case hr => first | (go_simp; done) | (go_simp; rfl)); intro gb178 hg w15 hbox hb; have n0_ := Aside0.mk (below_step (by repeat (first | (with_reducible first | exact HB.out | apply below_alloc | apply pw_below_drewN | apply below_drew1) | exact HB.out)) hb); have n1_ := Aside0.mk (hbox); have n2_ := Aside0.mk ((by rw [hg]; exact (below_size (by repeat (first | (with_reducible first | exact HB.out | apply below_alloc | apply pw_below_drewN | apply below_drew1) | exact HB.out))) : w.heap.size ≤ gb178)); have n3_ := Aside0.mk ((by rw [hg]; exact (below_size (by repeat (first | (with_reducible first | exact HB.out | apply below_alloc | apply pw_below_drewN | apply below_drew1) | exact HB.out))) : w.heap.size ≤ gb178)); clear HB; have HB := n0_; have BK178 := n1_; have GW178 := n2_; have GE178 := n3_; clear n0_ n1_ n2_ n3_; clear hb hbox hg) | ((with_reducible refine gate_dst (N := 3) rfl ?_); refine box_event ?hg (N := 3) ?hd (cs := #[.int .i64 a1_0, .int .i64 a1_1]) (t := 142) ?hr ?_; (case hd => rfl); (case hg => rfl); (case hr => first | (go_simp; done) | (go_simp; rfl)); intro gb179 hg w16 hbox hb; have n0_ := Aside0.mk (blk_below (g := gb178) (o := .cells #[.int .i64 a0_0, .int .i64 a0_1] 142 (0, 0)) (by (with_reducible repeat (first | refine blk_drewN ?_ _ | refine blk_drew ?_ | refine blk_alloc ?_ _)); exact BK178.out) hb); have n1_ := Aside0.mk (below_step (by repeat (first | (with_reducible first | exact HB.out | apply below_alloc | apply pw_below_drewN | apply below_drew1 | refine below_set ?_ GE178.out) | exact HB.out)) hb); have n2_ := Aside0.mk (hbox); have n3_ := Aside0.mk ((by rw [hg]; exact (below_size (by repeat (first | (with_reducible first | exact HB.out | apply below_alloc | apply pw_below_drewN | apply below_drew1 | refine below_set ?_ GE178.out) | exact HB.out))) : w.heap.size ≤ gb179)); have n4_ := Aside0.mk ((by rw [hg]; exact (below_size (by repeat (first | (with_reducible first | exact HB.out | apply below_alloc | apply pw_below_drewN | apply below_drew1 | refine below_set ?_ GE178.out) | exact HB.out))) : w.heap.size ≤ gb179)); have n5_ := Aside0.mk ((by rw [hg]; exact Nat.ne_of_lt (blk_lt (g := gb178) (o := .cells #[.int .i64 a0_0, .int .i64 a0_1] 142 (0, 0)) (by (with_reducible repeat (first | refine blk_drewN ?_ _ | refine blk_drew ?_ | refine blk_alloc ?_ _)); exact BK178.out)) : gb178 ≠ gb179)); have n6_ := Aside0.mk ((by rw [hg]; exact Nat.ne_of_gt (blk_lt (g := gb178) (o := .cells #[.int .i64 a0_0, .int .i64 a0_1] 142 (0, 0)) (by (with_reducible repeat (first | refine blk_drewN ?_ _ | refine blk_drew ?_ | refine blk_alloc ?_ _)); exact BK178.out)) : gb179 ≠ gb178)); clear BK178; clear HB; have BK178 := n0_; have HB := n1_; have BK179 := n2_; have GW179 := n3_; have GE179 := n4_; have NB178_179 := n5_; have NB179_178 := n6_; clear n0_ n1_ n2_ n3_ n4_ n5_ n6_; clear hb hbox hg; have hnb17 := NB178_179.out; have hnc17 := NB179_178.out; have hcz18_0 : w16.cell? ⟨gb178, 0, none⟩ = some (.int .i64 a0_0) := (blk_cell BK178.out 0).trans rfl; have hcz18_1 : w16.cell? ⟨gb178, 1, none⟩ = some (.int .i64 a0_1) := (blk_cell BK178.out 1).trans rfl; have hfz18_0 := blk_frozen BK178.out 0; have hfz18_1 := blk_frozen BK178.out 1; have hcz19_0 : w16.cell? ⟨gb179, 0, none⟩ = some (.int .i64 a1_0) := (blk_cell BK179.out 0).trans rfl; have hcz19_1 : w16.cell? ⟨gb179, 1, none⟩ = some (.int .i64 a1_1) := (blk_cell BK179.out 1).trans rfl; have hfz19_0 := blk_frozen BK179.out 0; have hfz19_1 := blk_frozen BK179.out 1))
    go_ret
    exact ⟨by first | rfl | (simp [errW_none, errW_some] <;> rfl) | (simp [*, errW_none, errW_some] <;> rfl), by repeat (first | (with_reducible first | exact HB.out | apply below_alloc | apply pw_below_drewN | apply below_drew1 | refine below_set ?_ GE178.out | refine below_set ?_ GE179.out) | exact HB.out)⟩

end Go.Proofs.Ytnimjikikfhlpaa.F
