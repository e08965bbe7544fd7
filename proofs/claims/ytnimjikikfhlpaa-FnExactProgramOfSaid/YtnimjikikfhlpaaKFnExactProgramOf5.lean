/-
  FnExactProgramOf: the law returns true for every input and leaves its arguments as they were (the last theorem here). No condition.
-/
import Derived.Test.YtnimjikikfhlpaaRows
import Derived.ProofKit
import Derived.OpenShut
import Derived.ShutString
import Derived.ChangeOld
import Derived.Test.YtnimjikikfhlpaaKFnExactProgramOf4

namespace Go.Proofs.Ytnimjikikfhlpaa.F
open Go.RowKit Go.Proofs.YtnimjikikfhlpaaW.PrintWords Go.Proofs.YtnimjikikfhlpaaW.PrintLast Go.Proofs.YtnimjikikfhlpaaW.PrintMore
attribute [local go_sem] max2_int min2_int max_two min_two max_three min_three max_four min_four   -- for this text's walks alone
set_option linter.unusedVariables false
set_option linter.unusedSimpArgs false

/-! ### spec_l29Of: function 115 -/
mutual
def spec_l29Of.l0 : Nat → List (S107) → List (S125) → Int → Int → Option ((List (S125)))
  | 0, _, _, _, _ => none
  | k + 1, x0, x3, x4, x5 => if x5 < (x0.length : Int) then (if 0 ≤ x5 then (if ((rd_T107 x0 x5).f0) = x4 then (spec_l29Of.j1 k x0 x3 x4 x5) else (if x3.length < 5864062014805 then (spec_l29Of.j1 k x0 (x3 ++ [(⟨80, (rd_T107 x0 x5).f0, 0⟩ : S125)]) ((rd_T107 x0 x5).f0) x5) else (none))) else (none)) else (some x3)
def spec_l29Of.j1 : Nat → List (S107) → List (S125) → Int → Int → Option ((List (S125)))
  | 0, _, _, _, _ => none
  | k + 1, x0, x3, x4, x5 => spec_l29Of.l1 k x0 x3 x4 x5 0
def spec_l29Of.l1 : Nat → List (S107) → List (S125) → Int → Int → Int → Option ((List (S125)))
  | 0, _, _, _, _, _ => none
  | k + 1, x0, x3, x4, x5, x6 => if 0 ≤ x5 then (if x5 < (x0.length : Int) then (if x6 < (((rd_T107 x0 x5).f1).length : Int) then (if x6 = 0 then (if 0 ≤ x6 then (if x3.length < 5864062014805 then (spec_l29Of.l1 k x0 (x3 ++ [(⟨85, (rd_T142 ((rd_T107 x0 x5).f1) x6).f0, (rd_T142 ((rd_T107 x0 x5).f1) x6).f1⟩ : S125)]) x4 x5 (wrap64 (x6 + 1))) else (none)) else (none)) else (if 0 ≤ x6 then (if x3.length < 5864062014805 then (spec_l29Of.l1 k x0 (x3 ++ [(⟨68, (rd_T142 ((rd_T107 x0 x5).f1) x6).f0, (rd_T142 ((rd_T107 x0 x5).f1) x6).f1⟩ : S125)]) x4 x5 (wrap64 (x6 + 1))) else (none)) else (none))) else (spec_l29Of.l0 k x0 x3 x4 (wrap64 (x5 + 1)))) else (none)) else (none)
end
def spec_l29Of.f (k : Nat) (l0 : List (S107)) : Option ((List (S125))) := spec_l29Of.l0 k l0 (([] : List (S125))) 0 0
theorem spec_l29Of.mono_l : ∀ k, (∀ y0 y1 y2 y3, LeO (spec_l29Of.l0 k y0 y1 y2 y3) (spec_l29Of.l0 (k + 1) y0 y1 y2 y3)) ∧ (∀ y0 y1 y2 y3, LeO (spec_l29Of.j1 k y0 y1 y2 y3) (spec_l29Of.j1 (k + 1) y0 y1 y2 y3)) ∧ (∀ y0 y1 y2 y3 y4, LeO (spec_l29Of.l1 k y0 y1 y2 y3 y4) (spec_l29Of.l1 (k + 1) y0 y1 y2 y3 y4))
  | 0 => ⟨fun _ _ _ _ r h => by simp [spec_l29Of.l0] at h, fun _ _ _ _ r h => by simp [spec_l29Of.j1] at h, fun _ _ _ _ _ r h => by simp [spec_l29Of.l1] at h⟩
  | k + 1 => by
    obtain ⟨ih0, ih1, ih2⟩ := spec_l29Of.mono_l k
    refine ⟨?_, ?_, ?_⟩
    · intro y0 y1 y2 y3
      unfold spec_l29Of.l0
      repeat' first
      | (with_reducible exact ih0 _ _ _ _)
      | (with_reducible exact ih1 _ _ _ _)
      | (with_reducible exact ih2 _ _ _ _ _)
      | (with_reducible exact LeO.refl _)
      | (with_reducible exact LeO.none _)
      | (with_reducible refine LeO.ite ?_ ?_)
      | (with_reducible refine LeO.bind ?_ (fun _ => ?_))
      | exact ih0 _ _ _ _
      | exact ih1 _ _ _ _
      | exact ih2 _ _ _ _ _
      | exact LeO.none _
      | refine LeO.ite ?_ ?_
      | refine LeO.bind ?_ (fun _ => ?_)
    · intro y0 y1 y2 y3
      unfold spec_l29Of.j1
      repeat' first
      | (with_reducible exact ih0 _ _ _ _)
      | (with_reducible exact ih1 _ _ _ _)
      | (with_reducible exact ih2 _ _ _ _ _)
      | (with_reducible exact LeO.refl _)
      | (with_reducible exact LeO.none _)
      | (with_reducible refine LeO.ite ?_ ?_)
      | (with_reducible refine LeO.bind ?_ (fun _ => ?_))
      | exact ih0 _ _ _ _
      | exact ih1 _ _ _ _
      | exact ih2 _ _ _ _ _
      | exact LeO.none _
      | refine LeO.ite ?_ ?_
      | refine LeO.bind ?_ (fun _ => ?_)
    · intro y0 y1 y2 y3 y4
      unfold spec_l29Of.l1
      repeat' first
      | (with_reducible exact ih0 _ _ _ _)
      | (with_reducible exact ih1 _ _ _ _)
      | (with_reducible exact ih2 _ _ _ _ _)
      | (with_reducible exact LeO.refl _)
      | (with_reducible exact LeO.none _)
      | (with_reducible refine LeO.ite ?_ ?_)
      | (with_reducible refine LeO.bind ?_ (fun _ => ?_))
      | exact ih0 _ _ _ _
      | exact ih1 _ _ _ _
      | exact ih2 _ _ _ _ _
      | exact LeO.none _
      | refine LeO.ite ?_ ?_
      | refine LeO.bind ?_ (fun _ => ?_)
theorem spec_l29Of.mono : ∀ a0 k, LeO (spec_l29Of.f k a0) (spec_l29Of.f (k + 1) a0) := by
  intro a0 k
  obtain ⟨ih0, ih1, ih2⟩ := spec_l29Of.mono_l k
  unfold spec_l29Of.f
  repeat' first
      | (with_reducible exact ih0 _ _ _ _)
      | (with_reducible exact ih1 _ _ _ _)
      | (with_reducible exact ih2 _ _ _ _ _)
      | (with_reducible exact LeO.refl _)
      | (with_reducible exact LeO.none _)
      | (with_reducible refine LeO.ite ?_ ?_)
      | (with_reducible refine LeO.bind ?_ (fun _ => ?_))
      | exact ih0 _ _ _ _
      | exact ih1 _ _ _ _
      | exact ih2 _ _ _ _ _
      | exact LeO.none _
      | refine LeO.ite ?_ ?_
      | refine LeO.bind ?_ (fun _ => ?_)
def spec_l29Of.T15 : Bool × List (List Nat × List Nat) := (true, [([], []), ([], []), ([], []), ([], []), ([2, 3], [2, 3]), ([4], [4]), ([5], [5]), ([], []), ([6, 7], [6, 7]), ([8], [8]), ([9], [9]), ([], []), ([], []), ([11, 12], [11, 12]), ([13], [13]), ([14], [14]), ([], []), ([15, 16], [15, 16]), ([17], [17]), ([18], [18]), ([1, 10, 19], [1, 10, 19]), ([20], [20]), ([0, 21], [0, 21]), ([22, 22, 0, 1, 2, 3, 4, 5, 6, 7, 8, 9, 10, 11, 12, 13, 14, 15, 16, 17, 18, 19, 20, 21, 22], [0, 22])])
def spec_l29Of.B15 : List Nat := [0, 0, 0, 0, 12, 28, 60, 0, 252, 508, 1020, 0, 0, 6144, 14336, 30720, 0, 129024, 260096, 522240, 1048574, 2097150, 4194303, 8388607]
theorem spec_l29Of.tab15 : rtab .any (opsOf Try.f115 15) = spec_l29Of.T15 := by kernel_rfl
theorem spec_l29Of.bits15 : waitsOk spec_l29Of.T15.2 spec_l29Of.B15 = true := by kernel_rfl
set_option maxHeartbeats 8000000 in
set_option maxRecDepth 100000 in
theorem spec_l29Of.calls (k : Nat) (A0 : Option Addr) (c0 : Nat) (l0 : List (S107)) (r : List (S125)) (w : World) (hr0 : Kd.C k107 w A0 l0.length l0) (hc0 : l0.length ≤ c0) (h : spec_l29Of.f k l0 = some r) :
    Calls Try.prog 115 #[.slice A0 l0.length c0] w fun e w' => ∃ v0_ : Value, e = .returned (v0_) ∧ Kd.R k125 125 w' w.heap.size (fun _ => True) v0_ r ∧ Below w.heap.size w w' := by
  have hu125 := Try.underlying125
  have HR0 := Aside0.mk hr0
  have HC0 := Aside0.mk hc0
  clear hr0 hc0
  have HB := Aside0.mk (Below.refl w.heap.size w)
  have H : (spec_l29Of.l0 k l0 (([] : List (S125))) 0 0) = some r := h
  clear h
  obtain ⟨y1126, hy1126⟩ : ∃ y_ : List (S125), y_ = (([] : List (S125))) := ⟨_, rfl⟩
  replace H : (spec_l29Of.l0 k l0 y1126 0 0) = some r := by first | (rw [hy1126]; with_reducible exact H) | (have H2_ := (Option.bind_some _ _).symm.trans H; rw [hy1126]; with_reducible exact H2_) | (have H2_ := (Option.bind_some _ _).symm.trans H; with_reducible exact H2_) | with_reducible exact H | (rw [hy1126]; exact H) | exact H
  have Ny1126 := Aside0.mk hy1126
  clear hy1126
  have H' := Aside0.mk H
  clear H
  go_enter Try.func115, Try.ntmps115
  go_wp2_with (first | ((with_reducible refine gate_dst (N := 8) rfl ?_); refine Kd.R_lit k125 _ 125 ?hg (N := 8) ?hd (xs := ([] : List (S125))) (inner := []) (ok := fun _ => True) (okp := fun _ => True) ?hr ?hp (fun _ hk => hk) trivial (Below.refl _ _) (Nat.le_refl _) (by simp) ?_; (case hd => rfl); (case hg => rfl); (case hr => first | (go_simp; done) | (go_simp; rfl)); (case hp => exact (Reps.none _ _)); intro v1127 w2 ho3 hb hg_ hnew_; clear hg_ hnew_; (first | rw [← Ny1126.out] at ho3 | (simp only [Int.reduceToNat] at ho3; rw [← Ny1126.out] at ho3)); have n0_ := Aside0.mk (Kd.R_lower ho3 (below_size (by repeat (first | (with_reducible first | exact HB.out | apply below_alloc | apply pw_below_drewN | apply below_drew1) | exact HB.out)))); have n1_ := Aside0.mk (below_step (by repeat (first | (with_reducible first | exact HB.out | apply below_alloc | apply pw_below_drewN | apply below_drew1) | exact HB.out)) hb); clear HB; have HO1128 := n0_; have HB := n1_; clear n0_ n1_; clear hb ho3))
  go_loopg [3, 4, 5] k (fun kq v3 v4 v5 w' => ∃ (x3_1 : List (S125)) (x4_1 : Int) (x5_1 : Int), v4 = .int .i64 x4_1 ∧ v5 = .int .i64 x5_1 ∧ Aside0 (spec_l29Of.l0 kq l0 x3_1 x4_1 x5_1 = some r) ∧ Aside0 (kq ≤ k) ∧ Aside0 (Kd.R k125 125 w' w.heap.size (fun _ => True) v3 x3_1) ∧ Aside0 (Below w.heap.size w w'))
  case atStart => exact ⟨(y1126), (0), (0), (by first | rfl | (simp; done) | (simp [*]; done)), (by first | rfl | (simp; done) | (simp [*]; done)), H', ⟨Nat.le_refl _⟩, ⟨by (with_reducible repeat (first | apply Kd.R_alloc | apply Kd.R_drewN | apply Kd.R_drew)); exact HO1128.out⟩, ⟨by repeat (first | (with_reducible first | exact HB.out | apply below_alloc | apply pw_below_drewN | apply below_drew1) | exact HB.out)⟩⟩
  case round =>
    clear H'
    try clear c1
    try clear p2
    obtain ⟨x3_1, x4_1, x5_1, rfl, rfl, HA, HK1, HO_3, HB⟩ := hrel
    cases gk with
    | zero => exact absurd HA.out (by simp [spec_l29Of.l0])
    | succ k1 =>
      have H := HA.out
      clear HA
      simp only [spec_l29Of.l0] at H
      by_cases c4 : x5_1 < (l0.length : Int)
      · rw [if_pos c4] at H
        have c4b0 : decide (x5_1 < (l0.length : Int)) = true := decide_eq_true c4
        clear c4
        by_cases c5 : 0 ≤ x5_1
        · rw [if_pos c5] at H
          have c5b0 : decide (0 ≤ x5_1) = true := decide_eq_true c5
          clear c5
          have HC6 := Aside0.mk H
          clear H
          have p1129 : 0 ≤ (x5_1 : Int) := of_decide_eq_true (by first | (with_reducible assumption) | assumption)
          have q1129 : x5_1 < (l0.length : Int) := of_decide_eq_true (by first | (with_reducible assumption) | assumption)
          obtain ⟨ad1129, A1129_1, c1129_1, e1129, hx1129_0, hx1129_1, hl1129_1, hi1129_1⟩ := at_T107 HR0.out x5_1 p1129 q1129
          cases e1129
          replace hx1129_0 := (HB.out.cell (World.block_lt_of_cell? w _ hx1129_0)).trans hx1129_0
          replace hx1129_1 := (HB.out.cell (World.block_lt_of_cell? w _ hx1129_1)).trans hx1129_1
          have HR1129_1 := Aside0.mk hi1129_1
          have HC1129_1 := Aside0.mk hl1129_1
          clear hi1129_1 hl1129_1
          replace p1129 := eq_true p1129
          replace q1129 := eq_true q1129
          go_upto_if 21 with (fail)
          go_cut [3, 4] (fun v3 v4 wc => ∃ (kq : Nat) (x3_5 : List (S125)) (x4_5 : Int), v4 = .int .i64 x4_5 ∧ Aside0 (spec_l29Of.j1 kq l0 x3_5 x4_5 x5_1 = some r) ∧ Aside0 (kq ≤ k1) ∧ Aside0 (Kd.R k125 125 wc w.heap.size (fun _ => True) v3 x3_5) ∧ Aside0 (Below w.heap.size w wc))
          case first =>
            have H := HC6.out
            clear HC6
            by_cases c7 : ((rd_T107 l0 x5_1).f0) = x4_1
            · rw [if_pos c7] at H
              have c7b0 : (((rd_T107 l0 x5_1).f0) == x4_1) = true := beq_iff_eq.mpr c7
              have c7b1 : (((rd_T107 l0 x5_1).f0) != x4_1) = false := bne_eq_false_iff_eq.mpr c7
              clear c7
              (first | rw [c7b0] | (simp only [i64_w, i32_w]; rw [c7b0]) | skip)
              have H' := Aside0.mk H
              clear H
              go_wp2
              go_meet
              case rel => exact ⟨_, (x3_1), (x4_1), (by first | rfl | (simp; done) | (simp [*]; done)), H', ⟨by have := HK1.out; first | omega | exact Nat.le_refl _⟩, ⟨by (with_reducible repeat (first | apply Kd.R_alloc | apply Kd.R_drewN | apply Kd.R_drew)); exact HO_3.out⟩, ⟨by repeat (first | (with_reducible first | exact HB.out | apply below_alloc | apply pw_below_drewN | apply below_drew1) | exact HB.out)⟩⟩
            · rw [if_neg c7] at H
              have c7b0 : (((rd_T107 l0 x5_1).f0) == x4_1) = false := beq_eq_false_iff_ne.mpr c7
              have c7b1 : (((rd_T107 l0 x5_1).f0) != x4_1) = true := bne_iff_ne.mpr c7
              (first | rw [c7b0] | (simp only [i64_w, i32_w]; rw [c7b0]) | skip)
              by_cases c8 : x3_1.length < 5864062014805
              · rw [if_pos c8] at H
                have LMc8 := Aside0.mk c8
                clear c8
                obtain ⟨y1131, hy1131⟩ : ∃ y_ : List (S125), y_ = (x3_1 ++ [(⟨80, (rd_T107 l0 x5_1).f0, 0⟩ : S125)]) := ⟨_, rfl⟩
                replace H : (spec_l29Of.j1 k1 l0 y1131 ((rd_T107 l0 x5_1).f0) x5_1) = some r := by first | (rw [hy1131]; with_reducible exact H) | (have H2_ := (Option.bind_some _ _).symm.trans H; rw [hy1131]; with_reducible exact H2_) | (have H2_ := (Option.bind_some _ _).symm.trans H; with_reducible exact H2_) | with_reducible exact H | (rw [hy1131]; exact H) | exact H
                have Ny1131 := Aside0.mk hy1131
                clear hy1131
                have H' := Aside0.mk H
                clear H
                have p1130 : 0 ≤ (x5_1 : Int) := of_decide_eq_true (by first | (with_reducible assumption) | assumption)
                have q1130 : x5_1 < (l0.length : Int) := of_decide_eq_true (by first | (with_reducible assumption) | assumption)
                obtain ⟨ad1130, A1130_1, c1130_1, e1130, hx1130_0, hx1130_1, hl1130_1, hi1130_1⟩ := at_T107 HR0.out x5_1 p1130 q1130
                obtain rfl : ad1129 = ad1130 := (by injection e1130)
                replace hx1130_0 := (HB.out.cell (World.block_lt_of_cell? w _ hx1130_0)).trans hx1130_0
                replace hx1130_1 := (HB.out.cell (World.block_lt_of_cell? w _ hx1130_1)).trans hx1130_1
                have HR1130_1 := Aside0.mk hi1130_1
                have HC1130_1 := Aside0.mk hl1130_1
                clear hi1130_1 hl1130_1
                replace p1130 := eq_true p1130
                replace q1130 := eq_true q1130
                go_wp2_with (first | ((with_reducible refine gate_builtin (b := .append) (xs := #[.tmp 27, .tmp 30]) rfl ?_); at_builtin; refine Kd.R_append k125 (w0 := w) w.heap.size rfl (.tmp 27) (.tmp 30) 46 125 (.agg #[(.int .u8 0), (.int .i64 0), (.int .i64 0)]) 24 rfl Try.underlying46 info125 rfl (by decide) (by omega) u3 x3_1 (⟨80, (rd_T107 l0 x5_1).f0, 0⟩ : S125) [.int .u8 80, .int .i64 ((rd_T107 l0 x5_1).f0), .int .i64 0] (fun _ => True) (fun _ => False) rfl rfl ?aP (fun _ hk => hk.elim) ?aF ?aO ?aB ?aS ?aL ?_; (case aP => exact k125_mkM _ _ _ (⟨80, (rd_T107 l0 x5_1).f0, 0⟩ : S125)); (case aB => exact (by repeat (first | (with_reducible first | exact HB.out | apply below_alloc | apply pw_below_drewN | apply below_drew1) | exact HB.out))); (case aF => exact (fun _ _ => trivial)); (case aO => exact (by (with_reducible repeat (first | apply Kd.R_alloc | apply Kd.R_drewN | apply Kd.R_drew)); exact HO_3.out)); (case aS => exact (below_size (by repeat (first | (with_reducible first | exact HB.out | apply below_alloc | apply pw_below_drewN | apply below_drew1) | exact HB.out)))); (case aL => have := LMc8.out; omega); intro v1132 w9 ho hb hg hat; rw [← Ny1131.out] at ho; have n0_ := Aside0.mk (hb); have n1_ := Aside0.mk (ho); clear HB; clear HO_3; have HB := n0_; have HO1133 := n1_; clear n0_ n1_; clear ho hb hg hat))
                go_meet
                case rel => exact ⟨_, (y1131), ((rd_T107 l0 x5_1).f0), (by first | rfl | (simp; done) | (simp [*]; done)), H', ⟨by have := HK1.out; first | omega | exact Nat.le_refl _⟩, ⟨by (with_reducible repeat (first | apply Kd.R_alloc | apply Kd.R_drewN | apply Kd.R_drew)); exact HO1133.out⟩, ⟨by repeat (first | (with_reducible first | exact HB.out | apply below_alloc | apply pw_below_drewN | apply below_drew1) | exact HB.out)⟩⟩
              · rw [if_neg c8] at H
                exact absurd H (by simp)
          case rest =>
            clear HC6
            try clear c1
            try clear p1
            try clear q1
            try clear hx1
            try clear p2
            try clear c4
            try clear c4b0
            try clear c5
            try clear c5b0
            try clear c7
            try clear c7b0
            try clear c7b1
            try clear c8
            try clear hx1129_0
            try clear hx1129_1
            try clear hx1130_0
            try clear hx1130_1
            try clear p1129
            try clear p1130
            try clear p2
            try clear q1129
            try clear q1130
            obtain ⟨kq, x3_5, x4_5, rfl, HA, HJ5, HO_3, HB⟩ := hcut
            cases kq with
            | zero => exact absurd HA.out (by simp [spec_l29Of.j1])
            | succ kj5 =>
              have H := HA.out
              clear HA
              simp only [spec_l29Of.j1] at H
              have H' := Aside0.mk H
              clear H
              go_wp2
              go_loopg [3, 6] kj5 (fun kq v3 v6 w' => ∃ (x3_3 : List (S125)) (x6_3 : Int), v6 = .int .i64 x6_3 ∧ Aside0 (spec_l29Of.l1 kq l0 x3_3 x4_5 x5_1 x6_3 = some r) ∧ Aside0 (kq ≤ kj5) ∧ Aside0 (Kd.R k125 125 w' w.heap.size (fun _ => True) v3 x3_3) ∧ Aside0 (Below w.heap.size w w'))
              case atStart => exact ⟨(x3_5), (0), (by first | rfl | (simp; done) | (simp [*]; done)), H', ⟨Nat.le_refl _⟩, ⟨by (with_reducible repeat (first | apply Kd.R_alloc | apply Kd.R_drewN | apply Kd.R_drew)); exact HO_3.out⟩, ⟨by repeat (first | (with_reducible first | exact HB.out | apply below_alloc | apply pw_below_drewN | apply below_drew1) | exact HB.out)⟩⟩
              case round =>
                clear H'
                try clear c1
                try clear p1
                try clear q1
                try clear hx1
                try clear p2
                try clear c4
                try clear c4b0
                try clear c5
                try clear c5b0
                try clear c7
                try clear c7b0
                try clear c7b1
                try clear c8
                try clear hx1129_0
                try clear hx1129_1
                try clear hx1130_0
                try clear hx1130_1
                try clear p1
                try clear p1129
                try clear p1130
                try clear p2
                try clear q1
                try clear q1129
                try clear q1130
                obtain ⟨x3_3, x6_3, rfl, HA, HK3, HO_3, HB⟩ := hrel
                cases gk with
                | zero => exact absurd HA.out (by simp [spec_l29Of.l1])
                | succ k3 =>
                  have H := HA.out
                  clear HA
                  simp only [spec_l29Of.l1] at H
                  by_cases c10 : 0 ≤ x5_1
                  · rw [if_pos c10] at H
                    have c10b0 : decide (0 ≤ x5_1) = true := decide_eq_true c10
                    clear c10
                    by_cases c11 : x5_1 < (l0.length : Int)
                    · rw [if_pos c11] at H
                      have c11b0 : decide (x5_1 < (l0.length : Int)) = true := decide_eq_true c11
                      clear c11
                      by_cases c12 : x6_3 < (((rd_T107 l0 x5_1).f1).length : Int)
                      · rw [if_pos c12] at H
                        have c12b0 : decide (x6_3 < (((rd_T107 l0 x5_1).f1).length : Int)) = true := decide_eq_true c12
                        clear c12
                        by_cases c13 : x6_3 = 0
                        · rw [if_pos c13] at H
                          have c13b0 : (x6_3 == 0) = true := beq_iff_eq.mpr c13
                          have c13b1 : (x6_3 != 0) = false := bne_eq_false_iff_eq.mpr c13
                          clear c13
                          by_cases c14 : 0 ≤ x6_3
                          · rw [if_pos c14] at H
                            have c14b0 : decide (0 ≤ x6_3) = true := decide_eq_true c14
                            clear c14
                            by_cases c15 : x3_3.length < 5864062014805
                            · rw [if_pos c15] at H
                              have LMc15 := Aside0.mk c15
                              clear c15
                              obtain ⟨y1139, hy1139⟩ : ∃ y_ : List (S125), y_ = (x3_3 ++ [(⟨85, (rd_T142 ((rd_T107 l0 x5_1).f1) x6_3).f0, (rd_T142 ((rd_T107 l0 x5_1).f1) x6_3).f1⟩ : S125)]) := ⟨_, rfl⟩
                              replace H : (spec_l29Of.l1 k3 l0 y1139 x4_5 x5_1 (wrap64 (x6_3 + 1))) = some r := by first | (rw [hy1139]; with_reducible exact H) | (have H2_ := (Option.bind_some _ _).symm.trans H; rw [hy1139]; with_reducible exact H2_) | (have H2_ := (Option.bind_some _ _).symm.trans H; with_reducible exact H2_) | with_reducible exact H | (rw [hy1139]; exact H) | exact H
                              have Ny1139 := Aside0.mk hy1139
                              clear hy1139
                              have H' := Aside0.mk H
                              clear H
                              have p1134 : 0 ≤ (x5_1 : Int) := of_decide_eq_true (by first | (with_reducible assumption) | assumption)
                              have q1134 : x5_1 < (l0.length : Int) := of_decide_eq_true (by first | (with_reducible assumption) | assumption)
                              obtain ⟨ad1134, A1134_1, c1134_1, e1134, hx1134_0, hx1134_1, hl1134_1, hi1134_1⟩ := at_T107 HR0.out x5_1 p1134 q1134
                              obtain rfl : ad1129 = ad1134 := (by injection e1134)
                              replace hx1134_0 := (HB.out.cell (World.block_lt_of_cell? w _ hx1134_0)).trans hx1134_0
                              replace hx1134_1 := (HB.out.cell (World.block_lt_of_cell? w _ hx1134_1)).trans hx1134_1
                              have HR1134_1 := Aside0.mk hi1134_1
                              have HC1134_1 := Aside0.mk hl1134_1
                              clear hi1134_1 hl1134_1
                              replace p1134 := eq_true p1134
                              replace q1134 := eq_true q1134
                              try go_wp2
                              have n0_ := Aside0.mk (Kd.R_drew HO_3.out)
                              have n1_ := Aside0.mk (below_drew1 HB.out)
                              clear HO_3
                              clear HB
                              have HO_3 := n0_
                              have HB := n1_
                              clear n0_ n1_
                              have p1135 : 0 ≤ (x5_1 : Int) := of_decide_eq_true (by first | (with_reducible assumption) | assumption)
                              have q1135 : x5_1 < (l0.length : Int) := of_decide_eq_true (by first | (with_reducible assumption) | assumption)
                              obtain ⟨ad1135, A1135_1, c1135_1, e1135, hx1135_0, hx1135_1, hl1135_1, hi1135_1⟩ := at_T107 HR0.out x5_1 p1135 q1135
                              have hw1135_1 := hx1135_1
                              have hw1135_0 := hx1135_0
                              obtain rfl : ad1129 = ad1135 := (by injection e1135)
                              replace hx1135_0 := (HB.out.cell (World.block_lt_of_cell? w _ hx1135_0)).trans hx1135_0
                              replace hx1135_1 := (HB.out.cell (World.block_lt_of_cell? w _ hx1135_1)).trans hx1135_1
                              have HR1135_1 := Aside0.mk hi1135_1
                              have HC1135_1 := Aside0.mk hl1135_1
                              clear hi1135_1 hl1135_1
                              replace p1135 := eq_true p1135
                              replace q1135 := eq_true q1135
                              have p1136 : 0 ≤ (x6_3 : Int) := of_decide_eq_true (by first | (with_reducible assumption) | assumption)
                              have q1136 : x6_3 < (((rd_T107 l0 x5_1).f1).length : Int) := of_decide_eq_true (by first | (with_reducible assumption) | assumption)
                              obtain ⟨ad1136, e1136, hx1136_0, hx1136_1⟩ := at_T142 HR1135_1.out x6_3 p1136 q1136
                              have hw1136_1 := hx1136_1
                              have hw1136_0 := hx1136_0
                              cases e1136
                              replace hx1136_0 := (HB.out.cell (World.block_lt_of_cell? w _ hx1136_0)).trans hx1136_0
                              replace hx1136_1 := (HB.out.cell (World.block_lt_of_cell? w _ hx1136_1)).trans hx1136_1
                              replace p1136 := eq_true p1136
                              replace q1136 := eq_true q1136
                              have p1137 : 0 ≤ (x5_1 : Int) := of_decide_eq_true (by first | (with_reducible assumption) | assumption)
                              have q1137 : x5_1 < (l0.length : Int) := of_decide_eq_true (by first | (with_reducible assumption) | assumption)
                              obtain ⟨ad1137, A1137_1, c1137_1, e1137, hx1137_0, hx1137_1, hl1137_1, hi1137_1⟩ := at_T107 HR0.out x5_1 p1137 q1137
                              have hw1137_1 := hx1137_1
                              have hw1137_0 := hx1137_0
                              obtain rfl : ad1129 = ad1137 := (by injection e1137)
                              replace hx1137_0 := (HB.out.cell (World.block_lt_of_cell? w _ hx1137_0)).trans hx1137_0
                              replace hx1137_1 := (HB.out.cell (World.block_lt_of_cell? w _ hx1137_1)).trans hx1137_1
                              have HR1137_1 := Aside0.mk hi1137_1
                              have HC1137_1 := Aside0.mk hl1137_1
                              clear hi1137_1 hl1137_1
                              replace p1137 := eq_true p1137
                              replace q1137 := eq_true q1137
                              have ea_ := Option.some.inj (hx1135_1.symm.trans hx1137_1)
                              injection ea_ with ea_ en_ ec_
                              subst ea_
                              subst ec_
                              clear en_
                              have p1138 : 0 ≤ (x6_3 : Int) := of_decide_eq_true (by first | (with_reducible assumption) | assumption)
                              have q1138 : x6_3 < (((rd_T107 l0 x5_1).f1).length : Int) := of_decide_eq_true (by first | (with_reducible assumption) | assumption)
                              obtain ⟨ad1138, e1138, hx1138_0, hx1138_1⟩ := at_T142 HR1137_1.out x6_3 p1138 q1138
                              have hw1138_1 := hx1138_1
                              have hw1138_0 := hx1138_0
                              cases e1138
                              replace hx1138_0 := (HB.out.cell (World.block_lt_of_cell? w _ hx1138_0)).trans hx1138_0
                              replace hx1138_1 := (HB.out.cell (World.block_lt_of_cell? w _ hx1138_1)).trans hx1138_1
                              replace p1138 := eq_true p1138
                              replace q1138 := eq_true q1138
                              refine start_ (n := 24) (S := fun w' => w'.cell? (ad1129.add ((x5_1).toNat * 2)) = some (.int .i64 ((rd_T107 l0 x5_1).f0)) ∧ w'.cell? ⟨(ad1129.add ((x5_1).toNat * 2)).block, (ad1129.add ((x5_1).toNat * 2)).off + 1, none⟩ = some (.slice (some ad1136) ((rd_T107 l0 x5_1).f1).length c1135_1) ∧ w'.cell? (ad1136.add ((x6_3).toNat * 2)) = some (.int .i64 ((rd_T142 ((rd_T107 l0 x5_1).f1) x6_3).f0)) ∧ w'.cell? ⟨(ad1136.add ((x6_3).toNat * 2)).block, (ad1136.add ((x6_3).toNat * 2)).off + 1, none⟩ = some (.int .i64 ((rd_T142 ((rd_T107 l0 x5_1).f1) x6_3).f1)) ∧ w'.cell? (ad1129.add ((x5_1).toNat * 2)) = some (.int .i64 ((rd_T107 l0 x5_1).f0)) ∧ w'.cell? ⟨(ad1129.add ((x5_1).toNat * 2)).block, (ad1129.add ((x5_1).toNat * 2)).off + 1, none⟩ = some (.slice (some ad1136) ((rd_T107 l0 x5_1).f1).length c1135_1) ∧ w'.cell? (ad1136.add ((x6_3).toNat * 2)) = some (.int .i64 ((rd_T142 ((rd_T107 l0 x5_1).f1) x6_3).f0)) ∧ w'.cell? ⟨(ad1136.add ((x6_3).toNat * 2)).block, (ad1136.add ((x6_3).toNat * 2)).off + 1, none⟩ = some (.int .i64 ((rd_T142 ((rd_T107 l0 x5_1).f1) x6_3).f1))) (ds := []) #[false, false, false, false, false, false, false, false, false, false, false, false, false, false, false, false, false, false, false, false, false, false, false, false] (by kernel_rfl) rfl rfl ⟨((HB.out.cell (World.block_lt_of_cell? w _ hw1135_0)).trans hw1135_0), ((HB.out.cell (World.block_lt_of_cell? w _ hw1135_1)).trans hw1135_1), ((HB.out.cell (World.block_lt_of_cell? w _ hw1136_0)).trans hw1136_0), ((HB.out.cell (World.block_lt_of_cell? w _ hw1136_1)).trans hw1136_1), ((HB.out.cell (World.block_lt_of_cell? w _ hw1137_0)).trans hw1137_0), ((HB.out.cell (World.block_lt_of_cell? w _ hw1137_1)).trans hw1137_1), ((HB.out.cell (World.block_lt_of_cell? w _ hw1138_0)).trans hw1138_0), ((HB.out.cell (World.block_lt_of_cell? w _ hw1138_1)).trans hw1138_1)⟩ (fun hHeld => ?_); refine with_tabW spec_l29Of.tab15 spec_l29Of.bits15 (fun HT_ HW_ => ?_)
                              generalize wr.drew = w16 at HO_3 HB HR1135_1 HR1137_1 hx1135_0 hx1135_1 hx1136_0 hx1136_1 hx1137_0 hx1137_1 hx1138_0 hx1138_1 hHeld ⊢
                              refine pure_ (i := 0) (N := some 44) (v := ?_) (a' := ?_) #[true, false, false, false, false, false, false, false, false, false, false, false, false, false, false, false, false, false, false, false, false, false, false, false] rfl rfl (any_of HT_.out (by kernel_rfl)) (fun _ _ _ h => h) (Or.inl ⟨by rfl, ?_⟩) ?_ ?_
                              rotate_left
                              · intro w'
                                go_simp
                                with_reducible rfl
                              rotate_left
                              · simp only [Act.put, List.setIfInBounds_toArray, List.set_cons_zero, List.set_cons_succ, i64_w, i32_w]
                                rfl
                              refine pure_ (i := 1) (N := some 45) (v := ?_) (a' := ?_) #[true, true, false, false, false, false, false, false, false, false, false, false, false, false, false, false, false, false, false, false, false, false, false, false] rfl rfl (any_of HT_.out (by kernel_rfl)) (fun _ _ _ h => h) (Or.inl ⟨by rfl, ?_⟩) ?_ ?_
                              rotate_left
                              · intro w'
                                go_simp
                                with_reducible rfl
                              rotate_left
                              · simp only [Act.put, List.setIfInBounds_toArray, List.set_cons_zero, List.set_cons_succ, i64_w, i32_w]
                                rfl
                              refine pure_ (i := 2) (N := some 46) (v := ?_) (a' := ?_) #[true, true, true, false, false, false, false, false, false, false, false, false, false, false, false, false, false, false, false, false, false, false, false, false] rfl rfl (any_of HT_.out (by kernel_rfl)) (fun _ _ _ h => h) (Or.inl ⟨by rfl, ?_⟩) ?_ ?_
                              rotate_left
                              · intro w'
                                go_simp
                                with_reducible rfl
                              rotate_left
                              · simp only [Act.put, List.setIfInBounds_toArray, List.set_cons_zero, List.set_cons_succ, i64_w, i32_w]
                                rfl
                              refine pure_ (i := 3) (N := some 47) (v := ?_) (a' := ?_) #[true, true, true, true, false, false, false, false, false, false, false, false, false, false, false, false, false, false, false, false, false, false, false, false] rfl rfl (any_of HT_.out (by kernel_rfl)) (fun _ _ _ h => h) (Or.inl ⟨by rfl, ?_⟩) ?_ ?_
                              rotate_left
                              · intro w'
                                go_simp
                                with_reducible rfl
                              rotate_left
                              · simp only [Act.put, List.setIfInBounds_toArray, List.set_cons_zero, List.set_cons_succ, i64_w, i32_w]
                                rfl
                              refine pure_ (i := 4) (N := some 48) (v := ?_) (a' := ?_) #[true, true, true, true, true, false, false, false, false, false, false, false, false, false, false, false, false, false, false, false, false, false, false, false] rfl rfl (any_of HT_.out (by kernel_rfl)) (fun _ _ _ h => h) (Or.inl ⟨by rfl, ?_⟩) ?_ ?_
                              rotate_left
                              · intro w'
                                go_simp
                                with_reducible rfl
                              rotate_left
                              · simp only [Act.put, List.setIfInBounds_toArray, List.set_cons_zero, List.set_cons_succ, i64_w, i32_w]
                                rfl
                              refine pure_ (i := 5) (N := some 49) (v := ?_) (a' := ?_) #[true, true, true, true, true, true, false, false, false, false, false, false, false, false, false, false, false, false, false, false, false, false, false, false] rfl rfl (any_of HT_.out (by kernel_rfl)) (fun _ _ _ h => h) (Or.inl ⟨by rfl, ?_⟩) ?_ ?_
                              rotate_left
                              · intro w'
                                go_simp
                                with_reducible rfl
                              rotate_left
                              · simp only [Act.put, List.setIfInBounds_toArray, List.set_cons_zero, List.set_cons_succ, i64_w, i32_w]
                                rfl
                              refine pure_ (i := 7) (N := some 51) (v := ?_) (a' := ?_) #[true, true, true, true, true, true, false, true, false, false, false, false, false, false, false, false, false, false, false, false, false, false, false, false] rfl rfl (any_of HT_.out (by kernel_rfl)) (fun _ _ _ h => h) (Or.inl ⟨by rfl, ?_⟩) ?_ ?_
                              rotate_left
                              · intro w'
                                go_simp
                                with_reducible rfl
                              rotate_left
                              · simp only [Act.put, List.setIfInBounds_toArray, List.set_cons_zero, List.set_cons_succ, i64_w, i32_w]
                                rfl
                              refine pure_ (i := 11) (N := some 55) (v := ?_) (a' := ?_) #[true, true, true, true, true, true, false, true, false, false, false, true, false, false, false, false, false, false, false, false, false, false, false, false] rfl rfl (any_of HT_.out (by kernel_rfl)) (fun _ _ _ h => h) (Or.inl ⟨by rfl, ?_⟩) ?_ ?_
                              rotate_left
                              · intro w'
                                go_simp
                                with_reducible rfl
                              rotate_left
                              · simp only [Act.put, List.setIfInBounds_toArray, List.set_cons_zero, List.set_cons_succ, i64_w, i32_w]
                                rfl
                              refine pure_ (i := 12) (N := some 56) (v := ?_) (a' := ?_) #[true, true, true, true, true, true, false, true, false, false, false, true, true, false, false, false, false, false, false, false, false, false, false, false] rfl rfl (any_of HT_.out (by kernel_rfl)) (fun _ _ _ h => h) (Or.inl ⟨by rfl, ?_⟩) ?_ ?_
                              rotate_left
                              · intro w'
                                go_simp
                                with_reducible rfl
                              rotate_left
                              · simp only [Act.put, List.setIfInBounds_toArray, List.set_cons_zero, List.set_cons_succ, i64_w, i32_w]
                                rfl
                              refine pure_ (i := 13) (N := some 57) (v := ?_) (a' := ?_) #[true, true, true, true, true, true, false, true, false, false, false, true, true, true, false, false, false, false, false, false, false, false, false, false] rfl rfl (any_of HT_.out (by kernel_rfl)) (fun _ _ _ h => h) (Or.inl ⟨by rfl, ?_⟩) ?_ ?_
                              rotate_left
                              · intro w'
                                go_simp
                                with_reducible rfl
                              rotate_left
                              · simp only [Act.put, List.setIfInBounds_toArray, List.set_cons_zero, List.set_cons_succ, i64_w, i32_w]
                                rfl
                              refine pure_ (i := 14) (N := some 58) (v := ?_) (a' := ?_) #[true, true, true, true, true, true, false, true, false, false, false, true, true, true, true, false, false, false, false, false, false, false, false, false] rfl rfl (any_of HT_.out (by kernel_rfl)) (fun _ _ _ h => h) (Or.inl ⟨by rfl, ?_⟩) ?_ ?_
                              rotate_left
                              · intro w'
                                go_simp
                                with_reducible rfl
                              rotate_left
                              · simp only [Act.put, List.setIfInBounds_toArray, List.set_cons_zero, List.set_cons_succ, i64_w, i32_w]
                                rfl
                              refine pure_ (i := 16) (N := some 60) (v := ?_) (a' := ?_) #[true, true, true, true, true, true, false, true, false, false, false, true, true, true, true, false, true, false, false, false, false, false, false, false] rfl rfl (any_of HT_.out (by kernel_rfl)) (fun _ _ _ h => h) (Or.inl ⟨by rfl, ?_⟩) ?_ ?_
                              rotate_left
                              · intro w'
                                go_simp
                                with_reducible rfl
                              rotate_left
                              · simp only [Act.put, List.setIfInBounds_toArray, List.set_cons_zero, List.set_cons_succ, i64_w, i32_w]
                                rfl
                              refine take_ (i := 6) (N := some 50) (v := ?_) (a' := ?_) #[true, true, true, true, true, true, true, true, false, false, false, true, true, true, true, false, true, false, false, false, false, false, false, false] rfl rfl (take_ofW HT_.out HW_.out (by kernel_rfl)) (fun _ _ _ h => h) (Or.inl ⟨by rfl, ?_⟩) hHeld ?_ ?_
                              rotate_left
                              · rintro w' ⟨s0, s1, s2, s3, s4, s5, s6, s7⟩
                                go_simp
                                with_reducible rfl
                              rotate_left
                              · simp only [Act.put, List.setIfInBounds_toArray, List.set_cons_zero, List.set_cons_succ, i64_w, i32_w]
                                rfl
                              refine pure_ (i := 8) (N := some 52) (v := ?_) (a' := ?_) #[true, true, true, true, true, true, true, true, true, false, false, true, true, true, true, false, true, false, false, false, false, false, false, false] rfl rfl (any_of HT_.out (by kernel_rfl)) (fun _ _ _ h => h) (Or.inl ⟨by rfl, ?_⟩) ?_ ?_
                              rotate_left
                              · intro w'
                                go_simp
                                with_reducible rfl
                              rotate_left
                              · simp only [Act.put, List.setIfInBounds_toArray, List.set_cons_zero, List.set_cons_succ, i64_w, i32_w]
                                rfl
                              refine pure_ (i := 9) (N := some 53) (v := ?_) (a' := ?_) #[true, true, true, true, true, true, true, true, true, true, false, true, true, true, true, false, true, false, false, false, false, false, false, false] rfl rfl (any_of HT_.out (by kernel_rfl)) (fun _ _ _ h => h) (Or.inl ⟨by rfl, ?_⟩) ?_ ?_
                              rotate_left
                              · intro w'
                                go_simp
                                with_reducible rfl
                              rotate_left
                              · simp only [Act.put, List.setIfInBounds_toArray, List.set_cons_zero, List.set_cons_succ, i64_w, i32_w]
                                rfl
                              refine take_ (i := 10) (N := some 54) (v := ?_) (a' := ?_) #[true, true, true, true, true, true, true, true, true, true, true, true, true, true, true, false, true, false, false, false, false, false, false, false] rfl rfl (take_ofW HT_.out HW_.out (by kernel_rfl)) (fun _ _ _ h => h) (Or.inl ⟨by rfl, ?_⟩) hHeld ?_ ?_
                              rotate_left
                              · rintro w' ⟨s0, s1, s2, s3, s4, s5, s6, s7⟩
                                go_simp
                                with_reducible rfl
                              rotate_left
                              · simp only [Act.put, List.setIfInBounds_toArray, List.set_cons_zero, List.set_cons_succ, i64_w, i32_w]
                                rfl
                              refine take_ (i := 15) (N := some 59) (v := ?_) (a' := ?_) #[true, true, true, true, true, true, true, true, true, true, true, true, true, true, true, true, true, false, false, false, false, false, false, false] rfl rfl (take_ofW HT_.out HW_.out (by kernel_rfl)) (fun _ _ _ h => h) (Or.inl ⟨by rfl, ?_⟩) hHeld ?_ ?_
                              rotate_left
                              · rintro w' ⟨s0, s1, s2, s3, s4, s5, s6, s7⟩
                                go_simp
                                with_reducible rfl
                              rotate_left
                              · simp only [Act.put, List.setIfInBounds_toArray, List.set_cons_zero, List.set_cons_succ, i64_w, i32_w]
                                rfl
                              refine pure_ (i := 17) (N := some 61) (v := ?_) (a' := ?_) #[true, true, true, true, true, true, true, true, true, true, true, true, true, true, true, true, true, true, false, false, false, false, false, false] rfl rfl (any_of HT_.out (by kernel_rfl)) (fun _ _ _ h => h) (Or.inl ⟨by rfl, ?_⟩) ?_ ?_
                              rotate_left
                              · intro w'
                                go_simp
                                with_reducible rfl
                              rotate_left
                              · simp only [Act.put, List.setIfInBounds_toArray, List.set_cons_zero, List.set_cons_succ, i64_w, i32_w]
                                rfl
                              refine pure_ (i := 18) (N := some 62) (v := ?_) (a' := ?_) #[true, true, true, true, true, true, true, true, true, true, true, true, true, true, true, true, true, true, true, false, false, false, false, false] rfl rfl (any_of HT_.out (by kernel_rfl)) (fun _ _ _ h => h) (Or.inl ⟨by rfl, ?_⟩) ?_ ?_
                              rotate_left
                              · intro w'
                                go_simp
                                with_reducible rfl
                              rotate_left
                              · simp only [Act.put, List.setIfInBounds_toArray, List.set_cons_zero, List.set_cons_succ, i64_w, i32_w]
                                rfl
                              refine take_ (i := 19) (N := some 63) (v := ?_) (a' := ?_) #[true, true, true, true, true, true, true, true, true, true, true, true, true, true, true, true, true, true, true, true, false, false, false, false] rfl rfl (take_ofW HT_.out HW_.out (by kernel_rfl)) (fun _ _ _ h => h) (Or.inl ⟨by rfl, ?_⟩) hHeld ?_ ?_
                              rotate_left
                              · rintro w' ⟨s0, s1, s2, s3, s4, s5, s6, s7⟩
                                go_simp
                                with_reducible rfl
                              rotate_left
                              · simp only [Act.put, List.setIfInBounds_toArray, List.set_cons_zero, List.set_cons_succ, i64_w, i32_w]
                                rfl
                              refine pure_ (i := 20) (N := some 64) (v := ?_) (a' := ?_) #[true, true, true, true, true, true, true, true, true, true, true, true, true, true, true, true, true, true, true, true, true, false, false, false] rfl rfl (any_of HT_.out (by kernel_rfl)) (fun _ _ _ h => h) (Or.inl ⟨by rfl, ?_⟩) ?_ ?_
                              rotate_left
                              · intro w'
                                go_simp
                                with_reducible rfl
                              rotate_left
                              · simp only [Act.put, List.setIfInBounds_toArray, List.set_cons_zero, List.set_cons_succ, i64_w, i32_w]
                                rfl
                              refine one_ (i := 21) (N := some 65) #[true, true, true, true, true, true, true, true, true, true, true, true, true, true, true, true, true, true, true, true, true, true, false, false] rfl rfl (one_of HT_.out (by kernel_rfl)) (by decide) (fun K hK => ?_)
                              refine value_ (w1 := ?_) (v := ?_) (by rfl) rfl ?_ ?_
                              rotate_left 2
                              · go_simp
                                constructor
                                · rfl
                                · rfl
                              refine hK.out _ _ ⟨(World.cell?_alloc_lt _ _ _ (World.block_lt_of_cell? _ _ (((HB.out.cell (World.block_lt_of_cell? w _ hw1135_0)).trans hw1135_0)))).trans (((HB.out.cell (World.block_lt_of_cell? w _ hw1135_0)).trans hw1135_0)), (World.cell?_alloc_lt _ _ _ (World.block_lt_of_cell? _ _ (((HB.out.cell (World.block_lt_of_cell? w _ hw1135_1)).trans hw1135_1)))).trans (((HB.out.cell (World.block_lt_of_cell? w _ hw1135_1)).trans hw1135_1)), (World.cell?_alloc_lt _ _ _ (World.block_lt_of_cell? _ _ (((HB.out.cell (World.block_lt_of_cell? w _ hw1136_0)).trans hw1136_0)))).trans (((HB.out.cell (World.block_lt_of_cell? w _ hw1136_0)).trans hw1136_0)), (World.cell?_alloc_lt _ _ _ (World.block_lt_of_cell? _ _ (((HB.out.cell (World.block_lt_of_cell? w _ hw1136_1)).trans hw1136_1)))).trans (((HB.out.cell (World.block_lt_of_cell? w _ hw1136_1)).trans hw1136_1)), (World.cell?_alloc_lt _ _ _ (World.block_lt_of_cell? _ _ (((HB.out.cell (World.block_lt_of_cell? w _ hw1137_0)).trans hw1137_0)))).trans (((HB.out.cell (World.block_lt_of_cell? w _ hw1137_0)).trans hw1137_0)), (World.cell?_alloc_lt _ _ _ (World.block_lt_of_cell? _ _ (((HB.out.cell (World.block_lt_of_cell? w _ hw1137_1)).trans hw1137_1)))).trans (((HB.out.cell (World.block_lt_of_cell? w _ hw1137_1)).trans hw1137_1)), (World.cell?_alloc_lt _ _ _ (World.block_lt_of_cell? _ _ (((HB.out.cell (World.block_lt_of_cell? w _ hw1138_0)).trans hw1138_0)))).trans (((HB.out.cell (World.block_lt_of_cell? w _ hw1138_0)).trans hw1138_0)), (World.cell?_alloc_lt _ _ _ (World.block_lt_of_cell? _ _ (((HB.out.cell (World.block_lt_of_cell? w _ hw1138_1)).trans hw1138_1)))).trans (((HB.out.cell (World.block_lt_of_cell? w _ hw1138_1)).trans hw1138_1))⟩ (fun hHeld => ?_)
                              clear hK K
                              refine norm_ (a' := ?_) ?_ ?_
                              rotate_left
                              · show Act.put _ (some 65) _ = _
                                simp only [Act.put, List.setIfInBounds_toArray, List.set_cons_zero, List.set_cons_succ, i64_w, i32_w]
                                rfl
                              refine one_ (i := 22) (N := some 66) #[true, true, true, true, true, true, true, true, true, true, true, true, true, true, true, true, true, true, true, true, true, true, true, false] rfl rfl (one_of HT_.out (by kernel_rfl)) (by decide) (fun K hK => ?_)
                              refine Kd.R_append_step k125 (w0 := w) w.heap.size (by rfl) (.tmp 44) (.tmp 65) 46 125 (.agg #[(.int .u8 0), (.int .i64 0), (.int .i64 0)]) 24 rfl Try.underlying46 info125 rfl (by decide) (by omega) u3 x3_3 (⟨85, (rd_T142 ((rd_T107 l0 x5_1).f1) x6_3).f0, (rd_T142 ((rd_T107 l0 x5_1).f1) x6_3).f1⟩ : S125) [.int .u8 85, .int .i64 ((rd_T142 ((rd_T107 l0 x5_1).f1) x6_3).f0), .int .i64 ((rd_T142 ((rd_T107 l0 x5_1).f1) x6_3).f1)] (fun _ => True) (fun _ => False) rfl rfl ?aP (fun _ hk => hk.elim) ?aF ?aO ?aB ?aS ?aL ?_
                              (case aP => exact k125_mkM _ _ _ (⟨85, (rd_T142 ((rd_T107 l0 x5_1).f1) x6_3).f0, (rd_T142 ((rd_T107 l0 x5_1).f1) x6_3).f1⟩ : S125))
                              (case aB => exact (by repeat (first | (with_reducible first | exact HB.out | apply below_alloc | apply pw_below_drewN | apply below_drew1) | exact HB.out)))
                              (case aF => exact (fun _ _ => trivial))
                              (case aO => exact (by (with_reducible repeat (first | apply Kd.R_alloc | apply Kd.R_drewN | apply Kd.R_drew)); exact HO_3.out))
                              (case aS => exact (below_size (by repeat (first | (with_reducible first | exact HB.out | apply below_alloc | apply pw_below_drewN | apply below_drew1) | exact HB.out))))
                              (case aL => have := LMc15.out; omega)
                              intro v1140 w17 ho hb hg hat
                              rw [← Ny1139.out] at ho
                              have n0_ := Aside0.mk (hb)
                              have n1_ := Aside0.mk (ho)
                              clear HB
                              clear HO_3
                              have HB := n0_
                              have HO1141 := n1_
                              clear n0_ n1_
                              clear ho hb hg hat
                              refine hK.out _ _ ⟨((HB.out.cell (World.block_lt_of_cell? w _ hw1135_0)).trans hw1135_0), ((HB.out.cell (World.block_lt_of_cell? w _ hw1135_1)).trans hw1135_1), ((HB.out.cell (World.block_lt_of_cell? w _ hw1136_0)).trans hw1136_0), ((HB.out.cell (World.block_lt_of_cell? w _ hw1136_1)).trans hw1136_1), ((HB.out.cell (World.block_lt_of_cell? w _ hw1137_0)).trans hw1137_0), ((HB.out.cell (World.block_lt_of_cell? w _ hw1137_1)).trans hw1137_1), ((HB.out.cell (World.block_lt_of_cell? w _ hw1138_0)).trans hw1138_0), ((HB.out.cell (World.block_lt_of_cell? w _ hw1138_1)).trans hw1138_1)⟩ (fun hHeld => ?_)
                              clear hK K
                              refine norm_ (a' := ?_) ?_ ?_
                              rotate_left
                              · show Act.put _ (some 66) _ = _
                                simp only [Act.put, List.setIfInBounds_toArray, List.set_cons_zero, List.set_cons_succ, i64_w, i32_w]
                                rfl
                              refine pure_ (i := 23) (N := some 3) (v := ?_) (a' := ?_) #[true, true, true, true, true, true, true, true, true, true, true, true, true, true, true, true, true, true, true, true, true, true, true, true] rfl rfl (any_of HT_.out (by kernel_rfl)) (fun _ _ _ h => h) (Or.inl ⟨by rfl, ?_⟩) ?_ ?_
                              rotate_left
                              · intro w'
                                go_simp
                                with_reducible rfl
                              rotate_left
                              · simp only [Act.put, List.setIfInBounds_toArray, List.set_cons_zero, List.set_cons_succ, i64_w, i32_w]
                                rfl
                              refine done_ (done_of HT_.out (by kernel_rfl)) ?_
                              try go_wp2
                              go_roundg k3
                              case measure => have := HK1.out; have := HJ5.out; have := HK3.out; omega
                              case rel => exact ⟨(y1139), (wrap64 (x6_3 + 1)), (by first | rfl | (simp; done) | (simp [*]; done)), H', ⟨by have := HK1.out; have := HJ5.out; have := HK3.out; omega⟩, ⟨by (with_reducible repeat (first | apply Kd.R_alloc | apply Kd.R_drewN | apply Kd.R_drew)); exact HO1141.out⟩, ⟨by repeat (first | (with_reducible first | exact HB.out | apply below_alloc | apply pw_below_drewN | apply below_drew1) | exact HB.out)⟩⟩
                            · rw [if_neg c15] at H
                              exact absurd H (by simp)
                          · rw [if_neg c14] at H
                            exact absurd H (by simp)
                        · rw [if_neg c13] at H
                          have c13b0 : (x6_3 == 0) = false := beq_eq_false_iff_ne.mpr c13
                          have c13b1 : (x6_3 != 0) = true := bne_iff_ne.mpr c13
                          by_cases c18 : 0 ≤ x6_3
                          · rw [if_pos c18] at H
                            have c18b0 : decide (0 ≤ x6_3) = true := decide_eq_true c18
                            clear c18
                            by_cases c19 : x3_3.length < 5864062014805
                            · rw [if_pos c19] at H
                              have LMc19 := Aside0.mk c19
                              clear c19
                              obtain ⟨y1146, hy1146⟩ : ∃ y_ : List (S125), y_ = (x3_3 ++ [(⟨68, (rd_T142 ((rd_T107 l0 x5_1).f1) x6_3).f0, (rd_T142 ((rd_T107 l0 x5_1).f1) x6_3).f1⟩ : S125)]) := ⟨_, rfl⟩
                              replace H : (spec_l29Of.l1 k3 l0 y1146 x4_5 x5_1 (wrap64 (x6_3 + 1))) = some r := by first | (rw [hy1146]; with_reducible exact H) | (have H2_ := (Option.bind_some _ _).symm.trans H; rw [hy1146]; with_reducible exact H2_) | (have H2_ := (Option.bind_some _ _).symm.trans H; with_reducible exact H2_) | with_reducible exact H | (rw [hy1146]; exact H) | exact H
                              have Ny1146 := Aside0.mk hy1146
                              clear hy1146
                              have H' := Aside0.mk H
                              clear H
                              have p1134 : 0 ≤ (x5_1 : Int) := of_decide_eq_true (by first | (with_reducible assumption) | assumption)
                              have q1134 : x5_1 < (l0.length : Int) := of_decide_eq_true (by first | (with_reducible assumption) | assumption)
                              obtain ⟨ad1134, A1134_1, c1134_1, e1134, hx1134_0, hx1134_1, hl1134_1, hi1134_1⟩ := at_T107 HR0.out x5_1 p1134 q1134
                              obtain rfl : ad1129 = ad1134 := (by injection e1134)
                              replace hx1134_0 := (HB.out.cell (World.block_lt_of_cell? w _ hx1134_0)).trans hx1134_0
                              replace hx1134_1 := (HB.out.cell (World.block_lt_of_cell? w _ hx1134_1)).trans hx1134_1
                              have HR1134_1 := Aside0.mk hi1134_1
                              have HC1134_1 := Aside0.mk hl1134_1
                              clear hi1134_1 hl1134_1
                              replace p1134 := eq_true p1134
                              replace q1134 := eq_true q1134
                              try go_wp2
                              have n0_ := Aside0.mk (Kd.R_drew HO_3.out)
                              have n1_ := Aside0.mk (below_drew1 HB.out)
                              clear HO_3
                              clear HB
                              have HO_3 := n0_
                              have HB := n1_
                              clear n0_ n1_
                              have p1142 : 0 ≤ (x5_1 : Int) := of_decide_eq_true (by first | (with_reducible assumption) | assumption)
                              have q1142 : x5_1 < (l0.length : Int) := of_decide_eq_true (by first | (with_reducible assumption) | assumption)
                              obtain ⟨ad1142, A1142_1, c1142_1, e1142, hx1142_0, hx1142_1, hl1142_1, hi1142_1⟩ := at_T107 HR0.out x5_1 p1142 q1142
                              have hw1142_1 := hx1142_1
                              have hw1142_0 := hx1142_0
                              obtain rfl : ad1129 = ad1142 := (by injection e1142)
                              replace hx1142_0 := (HB.out.cell (World.block_lt_of_cell? w _ hx1142_0)).trans hx1142_0
                              replace hx1142_1 := (HB.out.cell (World.block_lt_of_cell? w _ hx1142_1)).trans hx1142_1
                              have HR1142_1 := Aside0.mk hi1142_1
                              have HC1142_1 := Aside0.mk hl1142_1
                              clear hi1142_1 hl1142_1
                              replace p1142 := eq_true p1142
                              replace q1142 := eq_true q1142
                              have p1143 : 0 ≤ (x6_3 : Int) := of_decide_eq_true (by first | (with_reducible assumption) | assumption)
                              have q1143 : x6_3 < (((rd_T107 l0 x5_1).f1).length : Int) := of_decide_eq_true (by first | (with_reducible assumption) | assumption)
                              obtain ⟨ad1143, e1143, hx1143_0, hx1143_1⟩ := at_T142 HR1142_1.out x6_3 p1143 q1143
                              have hw1143_1 := hx1143_1
                              have hw1143_0 := hx1143_0
                              cases e1143
                              replace hx1143_0 := (HB.out.cell (World.block_lt_of_cell? w _ hx1143_0)).trans hx1143_0
                              replace hx1143_1 := (HB.out.cell (World.block_lt_of_cell? w _ hx1143_1)).trans hx1143_1
                              replace p1143 := eq_true p1143
                              replace q1143 := eq_true q1143
                              have p1144 : 0 ≤ (x5_1 : Int) := of_decide_eq_true (by first | (with_reducible assumption) | assumption)
                              have q1144 : x5_1 < (l0.length : Int) := of_decide_eq_true (by first | (with_reducible assumption) | assumption)
                              obtain ⟨ad1144, A1144_1, c1144_1, e1144, hx1144_0, hx1144_1, hl1144_1, hi1144_1⟩ := at_T107 HR0.out x5_1 p1144 q1144
                              have hw1144_1 := hx1144_1
                              have hw1144_0 := hx1144_0
                              obtain rfl : ad1129 = ad1144 := (by injection e1144)
                              replace hx1144_0 := (HB.out.cell (World.block_lt_of_cell? w _ hx1144_0)).trans hx1144_0
                              replace hx1144_1 := (HB.out.cell (World.block_lt_of_cell? w _ hx1144_1)).trans hx1144_1
                              have HR1144_1 := Aside0.mk hi1144_1
                              have HC1144_1 := Aside0.mk hl1144_1
                              clear hi1144_1 hl1144_1
                              replace p1144 := eq_true p1144
                              replace q1144 := eq_true q1144
                              have ea_ := Option.some.inj (hx1142_1.symm.trans hx1144_1)
                              injection ea_ with ea_ en_ ec_
                              subst ea_
                              subst ec_
                              clear en_
                              have p1145 : 0 ≤ (x6_3 : Int) := of_decide_eq_true (by first | (with_reducible assumption) | assumption)
                              have q1145 : x6_3 < (((rd_T107 l0 x5_1).f1).length : Int) := of_decide_eq_true (by first | (with_reducible assumption) | assumption)
                              obtain ⟨ad1145, e1145, hx1145_0, hx1145_1⟩ := at_T142 HR1144_1.out x6_3 p1145 q1145
                              have hw1145_1 := hx1145_1
                              have hw1145_0 := hx1145_0
                              cases e1145
                              replace hx1145_0 := (HB.out.cell (World.block_lt_of_cell? w _ hx1145_0)).trans hx1145_0
                              replace hx1145_1 := (HB.out.cell (World.block_lt_of_cell? w _ hx1145_1)).trans hx1145_1
                              replace p1145 := eq_true p1145
                              replace q1145 := eq_true q1145
                              refine start_ (n := 24) (S := fun w' => w'.cell? (ad1129.add ((x5_1).toNat * 2)) = some (.int .i64 ((rd_T107 l0 x5_1).f0)) ∧ w'.cell? ⟨(ad1129.add ((x5_1).toNat * 2)).block, (ad1129.add ((x5_1).toNat * 2)).off + 1, none⟩ = some (.slice (some ad1143) ((rd_T107 l0 x5_1).f1).length c1142_1) ∧ w'.cell? (ad1143.add ((x6_3).toNat * 2)) = some (.int .i64 ((rd_T142 ((rd_T107 l0 x5_1).f1) x6_3).f0)) ∧ w'.cell? ⟨(ad1143.add ((x6_3).toNat * 2)).block, (ad1143.add ((x6_3).toNat * 2)).off + 1, none⟩ = some (.int .i64 ((rd_T142 ((rd_T107 l0 x5_1).f1) x6_3).f1)) ∧ w'.cell? (ad1129.add ((x5_1).toNat * 2)) = some (.int .i64 ((rd_T107 l0 x5_1).f0)) ∧ w'.cell? ⟨(ad1129.add ((x5_1).toNat * 2)).block, (ad1129.add ((x5_1).toNat * 2)).off + 1, none⟩ = some (.slice (some ad1143) ((rd_T107 l0 x5_1).f1).length c1142_1) ∧ w'.cell? (ad1143.add ((x6_3).toNat * 2)) = some (.int .i64 ((rd_T142 ((rd_T107 l0 x5_1).f1) x6_3).f0)) ∧ w'.cell? ⟨(ad1143.add ((x6_3).toNat * 2)).block, (ad1143.add ((x6_3).toNat * 2)).off + 1, none⟩ = some (.int .i64 ((rd_T142 ((rd_T107 l0 x5_1).f1) x6_3).f1))) (ds := []) #[false, false, false, false, false, false, false, false, false, false, false, false, false, false, false, false, false, false, false, false, false, false, false, false] (by kernel_rfl) rfl rfl ⟨((HB.out.cell (World.block_lt_of_cell? w _ hw1142_0)).trans hw1142_0), ((HB.out.cell (World.block_lt_of_cell? w _ hw1142_1)).trans hw1142_1), ((HB.out.cell (World.block_lt_of_cell? w _ hw1143_0)).trans hw1143_0), ((HB.out.cell (World.block_lt_of_cell? w _ hw1143_1)).trans hw1143_1), ((HB.out.cell (World.block_lt_of_cell? w _ hw1144_0)).trans hw1144_0), ((HB.out.cell (World.block_lt_of_cell? w _ hw1144_1)).trans hw1144_1), ((HB.out.cell (World.block_lt_of_cell? w _ hw1145_0)).trans hw1145_0), ((HB.out.cell (World.block_lt_of_cell? w _ hw1145_1)).trans hw1145_1)⟩ (fun hHeld => ?_); refine with_tabW spec_l29Of.tab15 spec_l29Of.bits15 (fun HT_ HW_ => ?_)
                              generalize wr.drew = w20 at HO_3 HB HR1142_1 HR1144_1 hx1142_0 hx1142_1 hx1143_0 hx1143_1 hx1144_0 hx1144_1 hx1145_0 hx1145_1 hHeld ⊢
                              refine pure_ (i := 0) (N := some 44) (v := ?_) (a' := ?_) #[true, false, false, false, false, false, false, false, false, false, false, false, false, false, false, false, false, false, false, false, false, false, false, false] rfl rfl (any_of HT_.out (by kernel_rfl)) (fun _ _ _ h => h) (Or.inl ⟨by rfl, ?_⟩) ?_ ?_
                              rotate_left
                              · intro w'
                                go_simp
                                with_reducible rfl
                              rotate_left
                              · simp only [Act.put, List.setIfInBounds_toArray, List.set_cons_zero, List.set_cons_succ, i64_w, i32_w]
                                rfl
                              refine pure_ (i := 1) (N := some 45) (v := ?_) (a' := ?_) #[true, true, false, false, false, false, false, false, false, false, false, false, false, false, false, false, false, false, false, false, false, false, false, false] rfl rfl (any_of HT_.out (by kernel_rfl)) (fun _ _ _ h => h) (Or.inl ⟨by rfl, ?_⟩) ?_ ?_
                              rotate_left
                              · intro w'
                                go_simp
                                with_reducible rfl
                              rotate_left
                              · simp only [Act.put, List.setIfInBounds_toArray, List.set_cons_zero, List.set_cons_succ, i64_w, i32_w]
                                rfl
                              refine pure_ (i := 2) (N := some 46) (v := ?_) (a' := ?_) #[true, true, true, false, false, false, false, false, false, false, false, false, false, false, false, false, false, false, false, false, false, false, false, false] rfl rfl (any_of HT_.out (by kernel_rfl)) (fun _ _ _ h => h) (Or.inl ⟨by rfl, ?_⟩) ?_ ?_
                              rotate_left
                              · intro w'
                                go_simp
                                with_reducible rfl
                              rotate_left
                              · simp only [Act.put, List.setIfInBounds_toArray, List.set_cons_zero, List.set_cons_succ, i64_w, i32_w]
                                rfl
                              refine pure_ (i := 3) (N := some 47) (v := ?_) (a' := ?_) #[true, true, true, true, false, false, false, false, false, false, false, false, false, false, false, false, false, false, false, false, false, false, false, false] rfl rfl (any_of HT_.out (by kernel_rfl)) (fun _ _ _ h => h) (Or.inl ⟨by rfl, ?_⟩) ?_ ?_
                              rotate_left
                              · intro w'
                                go_simp
                                with_reducible rfl
                              rotate_left
                              · simp only [Act.put, List.setIfInBounds_toArray, List.set_cons_zero, List.set_cons_succ, i64_w, i32_w]
                                rfl
                              refine pure_ (i := 4) (N := some 48) (v := ?_) (a' := ?_) #[true, true, true, true, true, false, false, false, false, false, false, false, false, false, false, false, false, false, false, false, false, false, false, false] rfl rfl (any_of HT_.out (by kernel_rfl)) (fun _ _ _ h => h) (Or.inl ⟨by rfl, ?_⟩) ?_ ?_
                              rotate_left
                              · intro w'
                                go_simp
                                with_reducible rfl
                              rotate_left
                              · simp only [Act.put, List.setIfInBounds_toArray, List.set_cons_zero, List.set_cons_succ, i64_w, i32_w]
                                rfl
                              refine pure_ (i := 5) (N := some 49) (v := ?_) (a' := ?_) #[true, true, true, true, true, true, false, false, false, false, false, false, false, false, false, false, false, false, false, false, false, false, false, false] rfl rfl (any_of HT_.out (by kernel_rfl)) (fun _ _ _ h => h) (Or.inl ⟨by rfl, ?_⟩) ?_ ?_
                              rotate_left
                              · intro w'
                                go_simp
                                with_reducible rfl
                              rotate_left
                              · simp only [Act.put, List.setIfInBounds_toArray, List.set_cons_zero, List.set_cons_succ, i64_w, i32_w]
                                rfl
                              refine pure_ (i := 7) (N := some 51) (v := ?_) (a' := ?_) #[true, true, true, true, true, true, false, true, false, false, false, false, false, false, false, false, false, false, false, false, false, false, false, false] rfl rfl (any_of HT_.out (by kernel_rfl)) (fun _ _ _ h => h) (Or.inl ⟨by rfl, ?_⟩) ?_ ?_
                              rotate_left
                              · intro w'
                                go_simp
                                with_reducible rfl
                              rotate_left
                              · simp only [Act.put, List.setIfInBounds_toArray, List.set_cons_zero, List.set_cons_succ, i64_w, i32_w]
                                rfl
                              refine pure_ (i := 11) (N := some 55) (v := ?_) (a' := ?_) #[true, true, true, true, true, true, false, true, false, false, false, true, false, false, false, false, false, false, false, false, false, false, false, false] rfl rfl (any_of HT_.out (by kernel_rfl)) (fun _ _ _ h => h) (Or.inl ⟨by rfl, ?_⟩) ?_ ?_
                              rotate_left
                              · intro w'
                                go_simp
                                with_reducible rfl
                              rotate_left
                              · simp only [Act.put, List.setIfInBounds_toArray, List.set_cons_zero, List.set_cons_succ, i64_w, i32_w]
                                rfl
                              refine pure_ (i := 12) (N := some 56) (v := ?_) (a' := ?_) #[true, true, true, true, true, true, false, true, false, false, false, true, true, false, false, false, false, false, false, false, false, false, false, false] rfl rfl (any_of HT_.out (by kernel_rfl)) (fun _ _ _ h => h) (Or.inl ⟨by rfl, ?_⟩) ?_ ?_
                              rotate_left
                              · intro w'
                                go_simp
                                with_reducible rfl
                              rotate_left
                              · simp only [Act.put, List.setIfInBounds_toArray, List.set_cons_zero, List.set_cons_succ, i64_w, i32_w]
                                rfl
                              refine pure_ (i := 13) (N := some 57) (v := ?_) (a' := ?_) #[true, true, true, true, true, true, false, true, false, false, false, true, true, true, false, false, false, false, false, false, false, false, false, false] rfl rfl (any_of HT_.out (by kernel_rfl)) (fun _ _ _ h => h) (Or.inl ⟨by rfl, ?_⟩) ?_ ?_
                              rotate_left
                              · intro w'
                                go_simp
                                with_reducible rfl
                              rotate_left
                              · simp only [Act.put, List.setIfInBounds_toArray, List.set_cons_zero, List.set_cons_succ, i64_w, i32_w]
                                rfl
                              refine pure_ (i := 14) (N := some 58) (v := ?_) (a' := ?_) #[true, true, true, true, true, true, false, true, false, false, false, true, true, true, true, false, false, false, false, false, false, false, false, false] rfl rfl (any_of HT_.out (by kernel_rfl)) (fun _ _ _ h => h) (Or.inl ⟨by rfl, ?_⟩) ?_ ?_
                              rotate_left
                              · intro w'
                                go_simp
                                with_reducible rfl
                              rotate_left
                              · simp only [Act.put, List.setIfInBounds_toArray, List.set_cons_zero, List.set_cons_succ, i64_w, i32_w]
                                rfl
                              refine pure_ (i := 16) (N := some 60) (v := ?_) (a' := ?_) #[true, true, true, true, true, true, false, true, false, false, false, true, true, true, true, false, true, false, false, false, false, false, false, false] rfl rfl (any_of HT_.out (by kernel_rfl)) (fun _ _ _ h => h) (Or.inl ⟨by rfl, ?_⟩) ?_ ?_
                              rotate_left
                              · intro w'
                                go_simp
                                with_reducible rfl
                              rotate_left
                              · simp only [Act.put, List.setIfInBounds_toArray, List.set_cons_zero, List.set_cons_succ, i64_w, i32_w]
                                rfl
                              refine take_ (i := 6) (N := some 50) (v := ?_) (a' := ?_) #[true, true, true, true, true, true, true, true, false, false, false, true, true, true, true, false, true, false, false, false, false, false, false, false] rfl rfl (take_ofW HT_.out HW_.out (by kernel_rfl)) (fun _ _ _ h => h) (Or.inl ⟨by rfl, ?_⟩) hHeld ?_ ?_
                              rotate_left
                              · rintro w' ⟨s0, s1, s2, s3, s4, s5, s6, s7⟩
                                go_simp
                                with_reducible rfl
                              rotate_left
                              · simp only [Act.put, List.setIfInBounds_toArray, List.set_cons_zero, List.set_cons_succ, i64_w, i32_w]
                                rfl
                              refine pure_ (i := 8) (N := some 52) (v := ?_) (a' := ?_) #[true, true, true, true, true, true, true, true, true, false, false, true, true, true, true, false, true, false, false, false, false, false, false, false] rfl rfl (any_of HT_.out (by kernel_rfl)) (fun _ _ _ h => h) (Or.inl ⟨by rfl, ?_⟩) ?_ ?_
                              rotate_left
                              · intro w'
                                go_simp
                                with_reducible rfl
                              rotate_left
                              · simp only [Act.put, List.setIfInBounds_toArray, List.set_cons_zero, List.set_cons_succ, i64_w, i32_w]
                                rfl
                              refine pure_ (i := 9) (N := some 53) (v := ?_) (a' := ?_) #[true, true, true, true, true, true, true, true, true, true, false, true, true, true, true, false, true, false, false, false, false, false, false, false] rfl rfl (any_of HT_.out (by kernel_rfl)) (fun _ _ _ h => h) (Or.inl ⟨by rfl, ?_⟩) ?_ ?_
                              rotate_left
                              · intro w'
                                go_simp
                                with_reducible rfl
                              rotate_left
                              · simp only [Act.put, List.setIfInBounds_toArray, List.set_cons_zero, List.set_cons_succ, i64_w, i32_w]
                                rfl
                              refine take_ (i := 10) (N := some 54) (v := ?_) (a' := ?_) #[true, true, true, true, true, true, true, true, true, true, true, true, true, true, true, false, true, false, false, false, false, false, false, false] rfl rfl (take_ofW HT_.out HW_.out (by kernel_rfl)) (fun _ _ _ h => h) (Or.inl ⟨by rfl, ?_⟩) hHeld ?_ ?_
                              rotate_left
                              · rintro w' ⟨s0, s1, s2, s3, s4, s5, s6, s7⟩
                                go_simp
                                with_reducible rfl
                              rotate_left
                              · simp only [Act.put, List.setIfInBounds_toArray, List.set_cons_zero, List.set_cons_succ, i64_w, i32_w]
                                rfl
                              refine take_ (i := 15) (N := some 59) (v := ?_) (a' := ?_) #[true, true, true, true, true, true, true, true, true, true, true, true, true, true, true, true, true, false, false, false, false, false, false, false] rfl rfl (take_ofW HT_.out HW_.out (by kernel_rfl)) (fun _ _ _ h => h) (Or.inl ⟨by rfl, ?_⟩) hHeld ?_ ?_
                              rotate_left
                              · rintro w' ⟨s0, s1, s2, s3, s4, s5, s6, s7⟩
                                go_simp
                                with_reducible rfl
                              rotate_left
                              · simp only [Act.put, List.setIfInBounds_toArray, List.set_cons_zero, List.set_cons_succ, i64_w, i32_w]
                                rfl
                              refine pure_ (i := 17) (N := some 61) (v := ?_) (a' := ?_) #[true, true, true, true, true, true, true, true, true, true, true, true, true, true, true, true, true, true, false, false, false, false, false, false] rfl rfl (any_of HT_.out (by kernel_rfl)) (fun _ _ _ h => h) (Or.inl ⟨by rfl, ?_⟩) ?_ ?_
                              rotate_left
                              · intro w'
                                go_simp
                                with_reducible rfl
                              rotate_left
                              · simp only [Act.put, List.setIfInBounds_toArray, List.set_cons_zero, List.set_cons_succ, i64_w, i32_w]
                                rfl
                              refine pure_ (i := 18) (N := some 62) (v := ?_) (a' := ?_) #[true, true, true, true, true, true, true, true, true, true, true, true, true, true, true, true, true, true, true, false, false, false, false, false] rfl rfl (any_of HT_.out (by kernel_rfl)) (fun _ _ _ h => h) (Or.inl ⟨by rfl, ?_⟩) ?_ ?_
                              rotate_left
                              · intro w'
                                go_simp
                                with_reducible rfl
                              rotate_left
                              · simp only [Act.put, List.setIfInBounds_toArray, List.set_cons_zero, List.set_cons_succ, i64_w, i32_w]
                                rfl
                              refine take_ (i := 19) (N := some 63) (v := ?_) (a' := ?_) #[true, true, true, true, true, true, true, true, true, true, true, true, true, true, true, true, true, true, true, true, false, false, false, false] rfl rfl (take_ofW HT_.out HW_.out (by kernel_rfl)) (fun _ _ _ h => h) (Or.inl ⟨by rfl, ?_⟩) hHeld ?_ ?_
                              rotate_left
                              · rintro w' ⟨s0, s1, s2, s3, s4, s5, s6, s7⟩
                                go_simp
                                with_reducible rfl
                              rotate_left
                              · simp only [Act.put, List.setIfInBounds_toArray, List.set_cons_zero, List.set_cons_succ, i64_w, i32_w]
                                rfl
                              refine pure_ (i := 20) (N := some 64) (v := ?_) (a' := ?_) #[true, true, true, true, true, true, true, true, true, true, true, true, true, true, true, true, true, true, true, true, true, false, false, false] rfl rfl (any_of HT_.out (by kernel_rfl)) (fun _ _ _ h => h) (Or.inl ⟨by rfl, ?_⟩) ?_ ?_
                              rotate_left
                              · intro w'
                                go_simp
                                with_reducible rfl
                              rotate_left
                              · simp only [Act.put, List.setIfInBounds_toArray, List.set_cons_zero, List.set_cons_succ, i64_w, i32_w]
                                rfl
                              refine one_ (i := 21) (N := some 65) #[true, true, true, true, true, true, true, true, true, true, true, true, true, true, true, true, true, true, true, true, true, true, false, false] rfl rfl (one_of HT_.out (by kernel_rfl)) (by decide) (fun K hK => ?_)
                              refine value_ (w1 := ?_) (v := ?_) (by rfl) rfl ?_ ?_
                              rotate_left 2
                              · go_simp
                                constructor
                                · rfl
                                · rfl
                              refine hK.out _ _ ⟨(World.cell?_alloc_lt _ _ _ (World.block_lt_of_cell? _ _ (((HB.out.cell (World.block_lt_of_cell? w _ hw1142_0)).trans hw1142_0)))).trans (((HB.out.cell (World.block_lt_of_cell? w _ hw1142_0)).trans hw1142_0)), (World.cell?_alloc_lt _ _ _ (World.block_lt_of_cell? _ _ (((HB.out.cell (World.block_lt_of_cell? w _ hw1142_1)).trans hw1142_1)))).trans (((HB.out.cell (World.block_lt_of_cell? w _ hw1142_1)).trans hw1142_1)), (World.cell?_alloc_lt _ _ _ (World.block_lt_of_cell? _ _ (((HB.out.cell (World.block_lt_of_cell? w _ hw1143_0)).trans hw1143_0)))).trans (((HB.out.cell (World.block_lt_of_cell? w _ hw1143_0)).trans hw1143_0)), (World.cell?_alloc_lt _ _ _ (World.block_lt_of_cell? _ _ (((HB.out.cell (World.block_lt_of_cell? w _ hw1143_1)).trans hw1143_1)))).trans (((HB.out.cell (World.block_lt_of_cell? w _ hw1143_1)).trans hw1143_1)), (World.cell?_alloc_lt _ _ _ (World.block_lt_of_cell? _ _ (((HB.out.cell (World.block_lt_of_cell? w _ hw1144_0)).trans hw1144_0)))).trans (((HB.out.cell (World.block_lt_of_cell? w _ hw1144_0)).trans hw1144_0)), (World.cell?_alloc_lt _ _ _ (World.block_lt_of_cell? _ _ (((HB.out.cell (World.block_lt_of_cell? w _ hw1144_1)).trans hw1144_1)))).trans (((HB.out.cell (World.block_lt_of_cell? w _ hw1144_1)).trans hw1144_1)), (World.cell?_alloc_lt _ _ _ (World.block_lt_of_cell? _ _ (((HB.out.cell (World.block_lt_of_cell? w _ hw1145_0)).trans hw1145_0)))).trans (((HB.out.cell (World.block_lt_of_cell? w _ hw1145_0)).trans hw1145_0)), (World.cell?_alloc_lt _ _ _ (World.block_lt_of_cell? _ _ (((HB.out.cell (World.block_lt_of_cell? w _ hw1145_1)).trans hw1145_1)))).trans (((HB.out.cell (World.block_lt_of_cell? w _ hw1145_1)).trans hw1145_1))⟩ (fun hHeld => ?_)
                              clear hK K
                              refine norm_ (a' := ?_) ?_ ?_
                              rotate_left
                              · show Act.put _ (some 65) _ = _
                                simp only [Act.put, List.setIfInBounds_toArray, List.set_cons_zero, List.set_cons_succ, i64_w, i32_w]
                                rfl
                              refine one_ (i := 22) (N := some 66) #[true, true, true, true, true, true, true, true, true, true, true, true, true, true, true, true, true, true, true, true, true, true, true, false] rfl rfl (one_of HT_.out (by kernel_rfl)) (by decide) (fun K hK => ?_)
                              refine Kd.R_append_step k125 (w0 := w) w.heap.size (by rfl) (.tmp 44) (.tmp 65) 46 125 (.agg #[(.int .u8 0), (.int .i64 0), (.int .i64 0)]) 24 rfl Try.underlying46 info125 rfl (by decide) (by omega) u3 x3_3 (⟨68, (rd_T142 ((rd_T107 l0 x5_1).f1) x6_3).f0, (rd_T142 ((rd_T107 l0 x5_1).f1) x6_3).f1⟩ : S125) [.int .u8 68, .int .i64 ((rd_T142 ((rd_T107 l0 x5_1).f1) x6_3).f0), .int .i64 ((rd_T142 ((rd_T107 l0 x5_1).f1) x6_3).f1)] (fun _ => True) (fun _ => False) rfl rfl ?aP (fun _ hk => hk.elim) ?aF ?aO ?aB ?aS ?aL ?_
                              (case aP => exact k125_mkM _ _ _ (⟨68, (rd_T142 ((rd_T107 l0 x5_1).f1) x6_3).f0, (rd_T142 ((rd_T107 l0 x5_1).f1) x6_3).f1⟩ : S125))
                              (case aB => exact (by repeat (first | (with_reducible first | exact HB.out | apply below_alloc | apply pw_below_drewN | apply below_drew1) | exact HB.out)))
                              (case aF => exact (fun _ _ => trivial))
                              (case aO => exact (by (with_reducible repeat (first | apply Kd.R_alloc | apply Kd.R_drewN | apply Kd.R_drew)); exact HO_3.out))
                              (case aS => exact (below_size (by repeat (first | (with_reducible first | exact HB.out | apply below_alloc | apply pw_below_drewN | apply below_drew1) | exact HB.out))))
                              (case aL => have := LMc19.out; omega)
                              intro v1147 w21 ho hb hg hat
                              rw [← Ny1146.out] at ho
                              have n0_ := Aside0.mk (hb)
                              have n1_ := Aside0.mk (ho)
                              clear HB
                              clear HO_3
                              have HB := n0_
                              have HO1148 := n1_
                              clear n0_ n1_
                              clear ho hb hg hat
                              refine hK.out _ _ ⟨((HB.out.cell (World.block_lt_of_cell? w _ hw1142_0)).trans hw1142_0), ((HB.out.cell (World.block_lt_of_cell? w _ hw1142_1)).trans hw1142_1), ((HB.out.cell (World.block_lt_of_cell? w _ hw1143_0)).trans hw1143_0), ((HB.out.cell (World.block_lt_of_cell? w _ hw1143_1)).trans hw1143_1), ((HB.out.cell (World.block_lt_of_cell? w _ hw1144_0)).trans hw1144_0), ((HB.out.cell (World.block_lt_of_cell? w _ hw1144_1)).trans hw1144_1), ((HB.out.cell (World.block_lt_of_cell? w _ hw1145_0)).trans hw1145_0), ((HB.out.cell (World.block_lt_of_cell? w _ hw1145_1)).trans hw1145_1)⟩ (fun hHeld => ?_)
                              clear hK K
                              refine norm_ (a' := ?_) ?_ ?_
                              rotate_left
                              · show Act.put _ (some 66) _ = _
                                simp only [Act.put, List.setIfInBounds_toArray, List.set_cons_zero, List.set_cons_succ, i64_w, i32_w]
                                rfl
                              refine pure_ (i := 23) (N := some 3) (v := ?_) (a' := ?_) #[true, true, true, true, true, true, true, true, true, true, true, true, true, true, true, true, true, true, true, true, true, true, true, true] rfl rfl (any_of HT_.out (by kernel_rfl)) (fun _ _ _ h => h) (Or.inl ⟨by rfl, ?_⟩) ?_ ?_
                              rotate_left
                              · intro w'
                                go_simp
                                with_reducible rfl
                              rotate_left
                              · simp only [Act.put, List.setIfInBounds_toArray, List.set_cons_zero, List.set_cons_succ, i64_w, i32_w]
                                rfl
                              refine done_ (done_of HT_.out (by kernel_rfl)) ?_
                              try go_wp2
                              go_roundg k3
                              case measure => have := HK1.out; have := HJ5.out; have := HK3.out; omega
                              case rel => exact ⟨(y1146), (wrap64 (x6_3 + 1)), (by first | rfl | (simp; done) | (simp [*]; done)), H', ⟨by have := HK1.out; have := HJ5.out; have := HK3.out; omega⟩, ⟨by (with_reducible repeat (first | apply Kd.R_alloc | apply Kd.R_drewN | apply Kd.R_drew)); exact HO1148.out⟩, ⟨by repeat (first | (with_reducible first | exact HB.out | apply below_alloc | apply pw_below_drewN | apply below_drew1) | exact HB.out)⟩⟩
                            · rw [if_neg c19] at H
                              exact absurd H (by simp)
                          · rw [if_neg c18] at H
                            exact absurd H (by simp)
                      · rw [if_neg c12] at H
                        have c12b0 : decide (x6_3 < (((rd_T107 l0 x5_1).f1).length : Int)) = false := decide_eq_false c12
                        clear c12
                        have H' := Aside0.mk H
                        clear H
                        have p1134 : 0 ≤ (x5_1 : Int) := of_decide_eq_true (by first | (with_reducible assumption) | assumption)
                        have q1134 : x5_1 < (l0.length : Int) := of_decide_eq_true (by first | (with_reducible assumption) | assumption)
                        obtain ⟨ad1134, A1134_1, c1134_1, e1134, hx1134_0, hx1134_1, hl1134_1, hi1134_1⟩ := at_T107 HR0.out x5_1 p1134 q1134
                        obtain rfl : ad1129 = ad1134 := (by injection e1134)
                        replace hx1134_0 := (HB.out.cell (World.block_lt_of_cell? w _ hx1134_0)).trans hx1134_0
                        replace hx1134_1 := (HB.out.cell (World.block_lt_of_cell? w _ hx1134_1)).trans hx1134_1
                        have HR1134_1 := Aside0.mk hi1134_1
                        have HC1134_1 := Aside0.mk hl1134_1
                        clear hi1134_1 hl1134_1
                        replace p1134 := eq_true p1134
                        replace q1134 := eq_true q1134
                        go_wp2
                        go_roundg k3
                        case measure => have := HK1.out; have := HJ5.out; have := HK3.out; omega
                        case rel => exact ⟨(x3_3), (x4_5), (wrap64 (x5_1 + 1)), (by first | rfl | (simp; done) | (simp [*]; done)), (by first | rfl | (simp; done) | (simp [*]; done)), H', ⟨by have := HK1.out; have := HJ5.out; have := HK3.out; omega⟩, ⟨by (with_reducible repeat (first | apply Kd.R_alloc | apply Kd.R_drewN | apply Kd.R_drew)); exact HO_3.out⟩, ⟨by repeat (first | (with_reducible first | exact HB.out | apply below_alloc | apply pw_below_drewN | apply below_drew1) | exact HB.out)⟩⟩
                    · rw [if_neg c11] at H
                      exact absurd H (by simp)
                  · rw [if_neg c10] at H
                    exact absurd H (by simp)
        · rw [if_neg c5] at H
          exact absurd H (by simp)
      · rw [if_neg c4] at H
        have c4b0 : decide (x5_1 < (l0.length : Int)) = false := decide_eq_false c4
        clear c4
        obtain rfl := Option.some.inj H
        go_wp2
        go_ret
        exact ⟨_, by first | rfl | (simp [errW_none, errW_some] <;> rfl) | (simp [*, errW_none, errW_some] <;> rfl), by (with_reducible repeat (first | apply Kd.R_alloc | apply Kd.R_drewN | apply Kd.R_drew)); exact HO_3.out, by repeat (first | (with_reducible first | exact HB.out | apply below_alloc | apply pw_below_drewN | apply below_drew1) | exact HB.out)⟩

end Go.Proofs.Ytnimjikikfhlpaa.F

namespace Go.Proofs.Ytnimjikikfhlpaa.F
open Go.RowKit Go.Proofs.YtnimjikikfhlpaaW.PrintWords Go.Proofs.YtnimjikikfhlpaaW.PrintLast Go.Proofs.YtnimjikikfhlpaaW.PrintMore
attribute [local go_sem] max2_int min2_int max_two min_two max_three min_three max_four min_four   -- for this text's walks alone
set_option linter.unusedVariables false
set_option linter.unusedSimpArgs false

/-! ### spec_ProgramOf: function 60 -/
def spec_ProgramOf.f (k : Nat) (l0 : List (S107)) : Option ((List (S125)) × Int) := (spec_l28Code.f k l0).bind fun t1149 => (if t1149 = 0 then ((spec_l29Of.f k l0).bind fun t1150 => (if (t1150.length : Int) > 400 then (some (([] : List (S125)), 3)) else (some (t1150, 0)))) else (some (([] : List (S125)), t1149)))
theorem spec_ProgramOf.mono : ∀ a0 k, LeO (spec_ProgramOf.f k a0) (spec_ProgramOf.f (k + 1) a0) := by
  intro a0 k
  unfold spec_ProgramOf.f
  repeat' first
      | (with_reducible exact spec_l28Code.mono _ _)
      | (with_reducible exact spec_l29Of.mono _ _)
      | (with_reducible exact LeO.refl _)
      | (with_reducible exact LeO.none _)
      | (with_reducible refine LeO.ite ?_ ?_)
      | (with_reducible refine LeO.bind ?_ (fun _ => ?_))
      | exact spec_l28Code.mono _ _
      | exact spec_l29Of.mono _ _
      | exact LeO.none _
      | refine LeO.ite ?_ ?_
      | refine LeO.bind ?_ (fun _ => ?_)
set_option maxHeartbeats 8000000 in
set_option maxRecDepth 100000 in
theorem spec_ProgramOf.calls (k : Nat) (A0 : Option Addr) (c0 : Nat) (l0 : List (S107)) (r1 : List (S125)) (r2 : Int) (w : World) (hr0 : Kd.C k107 w A0 l0.length l0) (hc0 : l0.length ≤ c0) (h : spec_ProgramOf.f k l0 = some (r1, r2)) :
    Calls Try.prog 60 #[.slice A0 l0.length c0] w fun e w' => ∃ v0_ : Value, e = .returned (.tuple #[v0_, .int .i64 r2]) ∧ Kd.R k125 125 w' w.heap.size (fun _ => True) v0_ r1 ∧ Below w.heap.size w w' := by
  have HR0 := Aside0.mk hr0
  have HC0 := Aside0.mk hc0
  clear hr0 hc0
  have HB := Aside0.mk (Below.refl w.heap.size w)
  have H : ((spec_l28Code.f k l0).bind fun t1149 => (if t1149 = 0 then ((spec_l29Of.f k l0).bind fun t1150 => (if (t1150.length : Int) > 400 then (some (([] : List (S125)), 3)) else (some (t1150, 0)))) else (some (([] : List (S125)), t1149)))) = some (r1, r2) := h
  clear h
  replace H := Option.bind_eq_some_iff.mp H
  obtain ⟨t1149, A20, H⟩ := H
  replace H : (if t1149 = 0 then ((spec_l29Of.f k l0).bind fun t1150 => (if (t1150.length : Int) > 400 then (some (([] : List (S125)), 3)) else (some (t1150, 0)))) else (some (([] : List (S125)), t1149))) = some (r1, r2) := H
  have A2 := Aside0.mk A20
  clear A20
  by_cases c3 : t1149 = 0
  · rw [if_pos c3] at H
    have c3b0 : (t1149 == 0) = true := beq_iff_eq.mpr c3
    have c3b1 : (t1149 != 0) = false := bne_eq_false_iff_eq.mpr c3
    clear c3
    replace H := Option.bind_eq_some_iff.mp H
    obtain ⟨t1150, A40, H⟩ := H
    replace H : (if (t1150.length : Int) > 400 then (some (([] : List (S125)), 3)) else (some (t1150, 0))) = some (r1, r2) := H
    have A4 := Aside0.mk A40
    clear A40
    by_cases c5 : (t1150.length : Int) > 400
    · rw [if_pos c5] at H
      have c5b0 : decide (400 < (t1150.length : Int)) = true := decide_eq_true c5
      have c5b1 : decide (400 < t1150.length) = true := decide_eq_true (by omega)
      clear c5
      simp only [Option.some.injEq, Prod.mk.injEq] at H
      obtain ⟨rfl, rfl⟩ := H
      go_enter Try.func60, Try.ntmps60
      go_wp2_with (first | ((with_reducible refine gate_callee (f := 65) rfl ?_); refine goesL_ (some 7) rfl rfl Try.func65 (by kernel_rfl) rfl #[.slice A0 l0.length c0] rfl (by (try simp only [List.map_toArray, List.map_cons, List.map_nil]); first | done | rfl | (simp only [List.length_drop, List.length_take]; rfl)) ?_; (with_reducible refine (spec_l28Code.calls k _ _ l0 t1149 _ ?side1 ?side2 A2.out).mono ?_); (case side1 => repeat (first | exact HR0.out | (with_reducible refine Kd.C_alloc ?_ _) | (with_reducible refine Kd.C_drewN ?_ _) | (with_reducible refine Kd.C_drew ?_))); (case side2 => exact HC0.out); rintro e w' ⟨rfl, ⟨nd, rfl⟩⟩; refine ⟨_, rfl, ?_⟩) | ((with_reducible refine gate_callee (f := 115) rfl ?_); refine goesL_ (some 12) rfl rfl Try.func115 (by kernel_rfl) rfl #[.slice A0 l0.length c0] rfl (by (try simp only [List.map_toArray, List.map_cons, List.map_nil]); first | done | rfl | (simp only [List.length_drop, List.length_take]; rfl)) ?_; (with_reducible refine (spec_l29Of.calls k _ _ l0 t1150 _ ?side1 ?side2 A4.out).mono ?_); (case side1 => repeat (first | exact HR0.out | (with_reducible refine Kd.C_alloc ?_ _) | (with_reducible refine Kd.C_drewN ?_ _) | (with_reducible refine Kd.C_drew ?_))); (case side2 => exact HC0.out); rintro e w6 ⟨v1151, rfl, ho0, hb⟩; refine ⟨_, rfl, ?_⟩; have n0_ := Aside0.mk (Kd.R_lower ho0 (below_size (by repeat (first | (with_reducible first | exact HB.out | apply below_alloc | apply pw_below_drewN | apply below_drew1) | exact HB.out)))); have n1_ := Aside0.mk (below_step (by repeat (first | (with_reducible first | exact HB.out | apply below_alloc | apply pw_below_drewN | apply below_drew1) | exact HB.out)) hb); clear HB; have HO1152 := n0_; have HB := n1_; clear n0_ n1_; (try clear hb); (try clear hb2); (try clear hk); (try clear hi); (try clear ho0); obtain ⟨Ao7, co7, eo7⟩ := Kd.R_slice HO1152.out; subst eo7))
      go_ret2
      exact ⟨_, by first | rfl | (simp [errW_none, errW_some] <;> rfl) | (simp [*, errW_none, errW_some] <;> rfl), by first | exact Kd.R_nil _ _ _ _ _ | exact Kd.N_nil _ _ _ _ _ | exact Kd.V_nil _ _ _ _ _ | exact Kd.Q_nil _ _ _ _ _ | exact Kd.S_nil _ _ _ _ _, by repeat (first | (with_reducible first | exact HB.out | apply below_alloc | apply pw_below_drewN | apply below_drew1) | exact HB.out)⟩
    · rw [if_neg c5] at H
      have c5b0 : decide (400 < (t1150.length : Int)) = false := decide_eq_false c5
      have c5b1 : decide (400 < t1150.length) = false := decide_eq_false (by omega)
      clear c5
      simp only [Option.some.injEq, Prod.mk.injEq] at H
      obtain ⟨rfl, rfl⟩ := H
      go_enter Try.func60, Try.ntmps60
      go_wp2_with (first | ((with_reducible refine gate_callee (f := 65) rfl ?_); refine goesL_ (some 7) rfl rfl Try.func65 (by kernel_rfl) rfl #[.slice A0 l0.length c0] rfl (by (try simp only [List.map_toArray, List.map_cons, List.map_nil]); first | done | rfl | (simp only [List.length_drop, List.length_take]; rfl)) ?_; (with_reducible refine (spec_l28Code.calls k _ _ l0 t1149 _ ?side1 ?side2 A2.out).mono ?_); (case side1 => repeat (first | exact HR0.out | (with_reducible refine Kd.C_alloc ?_ _) | (with_reducible refine Kd.C_drewN ?_ _) | (with_reducible refine Kd.C_drew ?_))); (case side2 => exact HC0.out); rintro e w' ⟨rfl, ⟨nd, rfl⟩⟩; refine ⟨_, rfl, ?_⟩) | ((with_reducible refine gate_callee (f := 115) rfl ?_); refine goesL_ (some 12) rfl rfl Try.func115 (by kernel_rfl) rfl #[.slice A0 l0.length c0] rfl (by (try simp only [List.map_toArray, List.map_cons, List.map_nil]); first | done | rfl | (simp only [List.length_drop, List.length_take]; rfl)) ?_; (with_reducible refine (spec_l29Of.calls k _ _ l0 t1150 _ ?side1 ?side2 A4.out).mono ?_); (case side1 => repeat (first | exact HR0.out | (with_reducible refine Kd.C_alloc ?_ _) | (with_reducible refine Kd.C_drewN ?_ _) | (with_reducible refine Kd.C_drew ?_))); (case side2 => exact HC0.out); rintro e w8 ⟨v1151, rfl, ho0, hb⟩; refine ⟨_, rfl, ?_⟩; have n0_ := Aside0.mk (Kd.R_lower ho0 (below_size (by repeat (first | (with_reducible first | exact HB.out | apply below_alloc | apply pw_below_drewN | apply below_drew1) | exact HB.out)))); have n1_ := Aside0.mk (below_step (by repeat (first | (with_reducible first | exact HB.out | apply below_alloc | apply pw_below_drewN | apply below_drew1) | exact HB.out)) hb); clear HB; have HO1152 := n0_; have HB := n1_; clear n0_ n1_; (try clear hb); (try clear hb2); (try clear hk); (try clear hi); (try clear ho0); obtain ⟨Ao9, co9, eo9⟩ := Kd.R_slice HO1152.out; subst eo9))
      go_ret2
      exact ⟨_, by first | rfl | (simp [errW_none, errW_some] <;> rfl) | (simp [*, errW_none, errW_some] <;> rfl), by (with_reducible repeat (first | apply Kd.R_alloc | apply Kd.R_drewN | apply Kd.R_drew)); exact HO1152.out, by repeat (first | (with_reducible first | exact HB.out | apply below_alloc | apply pw_below_drewN | apply below_drew1) | exact HB.out)⟩
  · rw [if_neg c3] at H
    have c3b0 : (t1149 == 0) = false := beq_eq_false_iff_ne.mpr c3
    have c3b1 : (t1149 != 0) = true := bne_iff_ne.mpr c3
    simp only [Option.some.injEq, Prod.mk.injEq] at H
    obtain ⟨rfl, rfl⟩ := H
    go_enter Try.func60, Try.ntmps60
    go_wp2_with (first | ((with_reducible refine gate_callee (f := 65) rfl ?_); refine goesL_ (some 7) rfl rfl Try.func65 (by kernel_rfl) rfl #[.slice A0 l0.length c0] rfl (by (try simp only [List.map_toArray, List.map_cons, List.map_nil]); first | done | rfl | (simp only [List.length_drop, List.length_take]; rfl)) ?_; (with_reducible refine (spec_l28Code.calls k _ _ l0 t1149 _ ?side1 ?side2 A2.out).mono ?_); (case side1 => repeat (first | exact HR0.out | (with_reducible refine Kd.C_alloc ?_ _) | (with_reducible refine Kd.C_drewN ?_ _) | (with_reducible refine Kd.C_drew ?_))); (case side2 => exact HC0.out); rintro e w' ⟨rfl, ⟨nd, rfl⟩⟩; refine ⟨_, rfl, ?_⟩))
    go_ret2
    exact ⟨_, by first | rfl | (simp [errW_none, errW_some] <;> rfl) | (simp [*, errW_none, errW_some] <;> rfl), by first | exact Kd.R_nil _ _ _ _ _ | exact Kd.N_nil _ _ _ _ _ | exact Kd.V_nil _ _ _ _ _ | exact Kd.Q_nil _ _ _ _ _ | exact Kd.S_nil _ _ _ _ _, by repeat (first | (with_reducible first | exact HB.out | apply below_alloc | apply pw_below_drewN | apply below_drew1) | exact HB.out)⟩

end Go.Proofs.Ytnimjikikfhlpaa.F

namespace Go.Proofs.Ytnimjikikfhlpaa.Pure
open Go.RowKit Go.Proofs.Ytnimjikikfhlpaa.F Go.Proofs.YtnimjikikfhlpaaW.PrintWords Go.Proofs.YtnimjikikfhlpaaW.PrintLast Go.Proofs.YtnimjikikfhlpaaW.PrintMore Go.Proofs.YtnimjikikfhlpaaB
set_option linter.unusedVariables false
set_option linter.unusedSimpArgs false
theorem spec_l01In_f (a b c : Int) : spec_l01In.f a b c = some (inB a b c) := inB_if a b c

end Go.Proofs.Ytnimjikikfhlpaa.Pure

namespace Go.Proofs.Ytnimjikikfhlpaa.Pure
open Go.RowKit Go.Proofs.Ytnimjikikfhlpaa.F Go.Proofs.YtnimjikikfhlpaaW.PrintWords Go.Proofs.YtnimjikikfhlpaaW.PrintLast Go.Proofs.YtnimjikikfhlpaaW.PrintMore Go.Proofs.YtnimjikikfhlpaaB
set_option linter.unusedVariables false
set_option linter.unusedSimpArgs false
theorem spec_l14Point_f (a b : Int) : spec_l14Point.f a b = some (inB a (-1000000) 1000000 && inB b (-1000000) 1000000) := by
  simp only [spec_l14Point.f, spec_l01In_f, Option.bind_some]
  cases inB a (-1000000) 1000000 <;> simp

end Go.Proofs.Ytnimjikikfhlpaa.Pure

namespace Go.Proofs.Ytnimjikikfhlpaa.Pure
open Go.RowKit Go.Proofs.Ytnimjikikfhlpaa.F Go.Proofs.YtnimjikikfhlpaaW.PrintWords Go.Proofs.YtnimjikikfhlpaaW.PrintLast Go.Proofs.YtnimjikikfhlpaaW.PrintMore Go.Proofs.YtnimjikikfhlpaaB
set_option linter.unusedVariables false
set_option linter.unusedSimpArgs false
theorem spec_l16Points_l0 (xs : List S142) (hx : xs.length ≤ 9223372036854775807) : ∀ (ys : List S142) (m : Nat), xs.drop m = ys → Ev (fun k => spec_l16Points.l0 k xs m) (ys.all ptB)
  | [], m, h => by
    have := drop_nil h
    exact ev_step (fun _ => rfl) (ev_neg (by omega) (ev_now rfl))
  | y :: ys, m, h => by
    obtain ⟨hm, _, hd⟩ := drop_cons h
    refine ev_step (fun _ => rfl) (ev_pos (by omega) (ev_pos (by omega) ?_))
    rw [rdP h, w64 (by omega) (by omega)]
    refine ev_some (spec_l14Point_f _ _) ?_
    rw [List.all_cons, show (inB y.f0 (-1000000) 1000000 && inB y.f1 (-1000000) 1000000) = ptB y from rfl]
    cases ptB y
    · exact ev_neg (by simp) (ev_now (by simp))
    · exact ev_pos rfl (ev_eq (spec_l16Points_l0 xs hx ys (m + 1) hd) (by simp))
theorem spec_l16Points_f (xs : List S142) (hx : xs.length ≤ 9223372036854775807) : Ev (fun k => spec_l16Points.f k xs) (xs.all ptB) := spec_l16Points_l0 xs hx xs 0 rfl

end Go.Proofs.Ytnimjikikfhlpaa.Pure

namespace Go.Proofs.Ytnimjikikfhlpaa.Pure
open Go.RowKit Go.Proofs.Ytnimjikikfhlpaa.F Go.Proofs.YtnimjikikfhlpaaW.PrintWords Go.Proofs.YtnimjikikfhlpaaW.PrintLast Go.Proofs.YtnimjikikfhlpaaW.PrintMore Go.Proofs.YtnimjikikfhlpaaB
set_option linter.unusedVariables false
set_option linter.unusedSimpArgs false
theorem spec_IsLine_f (l : List S142) : Ev (fun k => spec_IsLine.f k l) (lineB l) := by
  unfold lineB
  by_cases h : l.length ≤ 200
  · rw [decide_eq_true h, Bool.true_and]
    exact ev_pos (by omega) (ev_bind (spec_l16Points_f l (by omega)) (ev_now rfl))
  · rw [decide_eq_false h, Bool.false_and]
    exact ev_neg (by omega) (ev_now rfl)

end Go.Proofs.Ytnimjikikfhlpaa.Pure

namespace Go.Proofs.Ytnimjikikfhlpaa.Pure
open Go.RowKit Go.Proofs.Ytnimjikikfhlpaa.F Go.Proofs.YtnimjikikfhlpaaW.PrintWords Go.Proofs.YtnimjikikfhlpaaW.PrintLast Go.Proofs.YtnimjikikfhlpaaW.PrintMore Go.Proofs.YtnimjikikfhlpaaB
set_option linter.unusedVariables false
set_option linter.unusedSimpArgs false
theorem spec_l28Pen_f (a : Int) : spec_l28Pen.f a = some (inB a 1 8) := by
  simp only [spec_l28Pen.f, spec_l01In_f, Option.bind_some]

end Go.Proofs.Ytnimjikikfhlpaa.Pure

namespace Go.Proofs.Ytnimjikikfhlpaa.Pure
open Go.RowKit Go.Proofs.Ytnimjikikfhlpaa.F Go.Proofs.YtnimjikikfhlpaaW.PrintWords Go.Proofs.YtnimjikikfhlpaaW.PrintLast Go.Proofs.YtnimjikikfhlpaaW.PrintMore Go.Proofs.YtnimjikikfhlpaaB
set_option linter.unusedVariables false
set_option linter.unusedSimpArgs false
theorem spec_l28Code_l0 (xs : List S107) (hx : xs.length ≤ 9223372036854775807) : ∀ (ys : List S107) (m : Nat), xs.drop m = ys →
    Ev (fun k => spec_l28Code.l0 k xs m) (if ys.all strokeB = true then (if 40 < xs.length then 3 else 0) else 1)
  | [], m, h => by
    have := drop_nil h
    refine ev_step (fun _ => rfl) (ev_neg (by omega) (ev_now ?_))
    simp only [List.all_nil, if_true]
    by_cases h4 : 40 < xs.length
    · rw [if_pos (by omega), if_pos h4]
    · rw [if_neg (by omega), if_neg h4]
  | y :: ys, m, h => by
    obtain ⟨hm, _, hd⟩ := drop_cons h
    refine ev_step (fun _ => rfl) (ev_pos (by omega) (ev_pos (by omega) ?_))
    rw [rdS h, w64 (by omega) (by omega)]
    refine ev_some (spec_l28Pen_f _) ?_
    have ih := spec_l28Code_l0 xs hx ys (m + 1) hd
    rw [List.all_cons, show strokeB y = (inB y.f0 1 8 && lineB y.f1 && decide (2 ≤ y.f1.length)) from rfl]
    cases inB y.f0 1 8
    · exact ev_neg (by simp) (ev_now (by simp))
    refine ev_pos rfl (ev_bind (spec_IsLine_f y.f1) ?_)
    cases lineB y.f1
    · exact ev_neg (by simp) (ev_now (by simp))
    refine ev_pos rfl (ev_ite (fun h2 => ev_now ?_) (fun h2 => ev_eq ih ?_))
    · rw [decide_eq_false (show ¬ 2 ≤ y.f1.length by omega)]; simp
    · rw [decide_eq_true (show 2 ≤ y.f1.length by omega)]; simp
theorem spec_l28Code_f (xs : List S107) (hx : xs.length ≤ 9223372036854775807) : Ev (fun k => spec_l28Code.f k xs) (codeS xs) := spec_l28Code_l0 xs hx xs 0 rfl

end Go.Proofs.Ytnimjikikfhlpaa.Pure

namespace Go.Proofs.Ytnimjikikfhlpaa.Pure
open Go.RowKit Go.Proofs.Ytnimjikikfhlpaa.F Go.Proofs.YtnimjikikfhlpaaW.PrintWords Go.Proofs.YtnimjikikfhlpaaW.PrintLast Go.Proofs.YtnimjikikfhlpaaW.PrintMore Go.Proofs.YtnimjikikfhlpaaB
set_option linter.unusedVariables false
set_option linter.unusedSimpArgs false
theorem spec_l29Of_l1 (xs : List S107) (pen : Int) (i : Nat) (hi : i < xs.length) (y : S107) (hy : rd_T107 xs (i : Int) = y) (hl : y.f1.length ≤ 200) (hx : xs.length ≤ 40) (res : List S125) : ∀ (ps : List S142) (j : Nat) (out : List S125), y.f1.drop j = ps → out.length + ps.length ≤ 100000 →
    Ev (fun k => spec_l29Of.l0 k xs (out ++ lineC (if j = 0 then 85 else 68) ps) pen ((i : Int) + 1)) res → Ev (fun k => spec_l29Of.l1 k xs out pen i j) res
  | [], j, out, h, ho, hc => by
    have := drop_nil h
    refine ev_step (fun _ => rfl) (ev_pos (by omega) (ev_pos (by omega) ?_))
    rw [hy]
    refine ev_neg (by omega) ?_
    rw [w64 (by omega) (by omega)]
    rw [show out ++ lineC (if j = 0 then 85 else 68) [] = out from List.append_nil _] at hc
    exact hc
  | p :: ps, j, out, h, ho, hc => by
    obtain ⟨hj, _, hd⟩ := drop_cons h
    simp only [List.length_cons] at ho
    refine ev_step (fun _ => rfl) (ev_pos (by omega) (ev_pos (by omega) ?_))
    rw [hy]
    refine ev_pos (by omega) ?_
    rw [rdP h, w64 (by omega) (by omega)]
    rw [lineC_cons] at hc
    refine ev_ite (fun hq => ?_) (fun hq => ?_)
    · refine ev_pos (by omega) (ev_pos (by omega) (spec_l29Of_l1 xs pen i hi y hy hl hx res ps (j + 1) _ hd (by simp; omega) ?_))
      rw [if_pos (by omega)] at hc
      rw [if_neg (by omega), List.append_assoc]
      exact hc
    · refine ev_pos (by omega) (ev_pos (by omega) (spec_l29Of_l1 xs pen i hi y hy hl hx res ps (j + 1) _ hd (by simp; omega) ?_))
      rw [if_neg (by omega)] at hc
      rw [if_neg (by omega), List.append_assoc]
      exact hc
theorem spec_l29Of_l0 (xs : List S107) (hx : xs.length ≤ 40) (hi : ∀ x ∈ xs, x.f1.length ≤ 200) : ∀ (ys : List S107) (m : Nat) (pen : Int) (out : List S125), xs.drop m = ys → out.length + 201 * ys.length ≤ 100000 →
    Ev (fun k => spec_l29Of.l0 k xs out pen m) (out ++ progS pen ys)
  | [], m, pen, out, h, ho => by
    have := drop_nil h
    exact ev_step (fun _ => rfl) (ev_neg (by omega) (ev_now (by rw [show progS pen [] = [] from rfl, List.append_nil])))
  | y :: ys, m, pen, out, h, ho => by
    obtain ⟨hm, _, hd⟩ := drop_cons h
    have hmem : y ∈ xs := List.mem_of_mem_drop (by rw [h]; exact List.mem_cons_self)
    have hy := hi y hmem
    simp only [List.length_cons] at ho
    have key : ∀ (p : Int) (o : List S125), p = y.f0 → o.length + y.f1.length + 201 * ys.length ≤ 100000 → Ev (fun k => spec_l29Of.l1 k xs o p m 0) (o ++ (lineC 85 y.f1 ++ progS y.f0 ys)) := fun p o hp ho => by
      refine spec_l29Of_l1 xs p m hm y (rdS h) hy hx _ y.f1 0 o rfl (by omega) ?_
      subst hp
      rw [if_pos rfl, ← List.append_assoc]
      exact spec_l29Of_l0 xs hx hi ys (m + 1) y.f0 _ hd (by rw [List.length_append, lineC_length]; omega)
    refine ev_step (fun _ => rfl) (ev_pos (by omega) (ev_pos (by omega) ?_))
    rw [rdS h, progS_cons]
    refine ev_ite (fun hq => ?_) (fun hq => ev_pos (by omega) ?_)
    · rw [if_pos hq]
      exact ev_step (fun _ => rfl) (key pen out hq.symm (by omega))
    · rw [if_neg hq, ← List.append_assoc out]
      exact ev_step (fun _ => rfl) (key y.f0 _ rfl (by simp; omega))
theorem spec_l29Of_f (xs : List S107) (hx : xs.length ≤ 40) (hi : ∀ x ∈ xs, x.f1.length ≤ 200) : Ev (fun k => spec_l29Of.f k xs) (progS 0 xs) := spec_l29Of_l0 xs hx hi xs 0 0 [] rfl (by simp; omega)

end Go.Proofs.Ytnimjikikfhlpaa.Pure

namespace Go.Proofs.Ytnimjikikfhlpaa.Pure
open Go.RowKit Go.Proofs.Ytnimjikikfhlpaa.F Go.Proofs.YtnimjikikfhlpaaW.PrintWords Go.Proofs.YtnimjikikfhlpaaW.PrintLast Go.Proofs.YtnimjikikfhlpaaW.PrintMore Go.Proofs.YtnimjikikfhlpaaB
set_option linter.unusedVariables false
set_option linter.unusedSimpArgs false
theorem spec_ProgramOf_f (xs : List S107) (hx : xs.length ≤ 9223372036854775807) : Ev (fun k => spec_ProgramOf.f k xs) (resProg xs) := by
  refine ev_bind (spec_l28Code_f xs hx) ?_
  unfold resProg
  refine ev_ite (fun h => ?_) (fun h => ?_)
  · rw [if_pos h]
    obtain ⟨h1, h2⟩ := codeS_200 h
    refine ev_bind (spec_l29Of_f xs h1 h2) (ev_ite (fun h3 => ev_now ?_) (fun h3 => ev_now ?_))
    · rw [if_pos (by omega)]
    · rw [if_neg (by omega)]
  · rw [if_neg h]
    exact ev_now rfl

end Go.Proofs.Ytnimjikikfhlpaa.Pure

namespace Go.Proofs.Ytnimjikikfhlpaa.Pure
open Go.RowKit Go.Proofs.Ytnimjikikfhlpaa.F Go.Proofs.YtnimjikikfhlpaaW.PrintWords Go.Proofs.YtnimjikikfhlpaaW.PrintLast Go.Proofs.YtnimjikikfhlpaaW.PrintMore Go.Proofs.YtnimjikikfhlpaaB
set_option linter.unusedVariables false
set_option linter.unusedSimpArgs false
theorem EQ_CommandS (A A' : Option Addr) (c c' : Nat) (l : List S125) (w : World) (hr : Kd.C k125 w A l.length l) (hc : l.length ≤ c) (hr' : Kd.C k125 w A' l.length l) (hc' : l.length ≤ c') (h : Ev (fun k => laws_eqCommandS.f k l l) true) :
    Calls Try.prog 32 #[.slice A l.length c, .slice A' l.length c'] w fun e w' => e = .returned (.bool true) ∧ Below w.heap.size w w' := by
  obtain ⟨k, h⟩ := h.rounds
  exact (laws_eqCommandS.calls k A c l A' c' l true w hr hc hr' hc' h).mono fun e w' ⟨h1, h2⟩ => ⟨h1, h2⟩

end Go.Proofs.Ytnimjikikfhlpaa.Pure

namespace Go.Proofs.Ytnimjikikfhlpaa.Pure
open Go.RowKit Go.Proofs.Ytnimjikikfhlpaa.F Go.Proofs.YtnimjikikfhlpaaW.PrintWords Go.Proofs.YtnimjikikfhlpaaW.PrintLast Go.Proofs.YtnimjikikfhlpaaW.PrintMore Go.Proofs.YtnimjikikfhlpaaB
set_option linter.unusedVariables false
set_option linter.unusedSimpArgs false
theorem EQ_StrokeS (A A' : Option Addr) (c c' : Nat) (l : List S107) (w : World) (hr : Kd.C k107 w A l.length l) (hc : l.length ≤ c) (hr' : Kd.C k107 w A' l.length l) (hc' : l.length ≤ c') (h : Ev (fun k => laws_eqStrokeS.f k l l) true) :
    Calls Try.prog 20 #[.slice A l.length c, .slice A' l.length c'] w fun e w' => e = .returned (.bool true) ∧ Below w.heap.size w w' := by
  obtain ⟨k, h⟩ := h.rounds
  exact (laws_eqStrokeS.calls k A c l A' c' l true w hr hc hr' hc' h).mono fun e w' ⟨h1, h2⟩ => ⟨h1, h2⟩

end Go.Proofs.Ytnimjikikfhlpaa.Pure

namespace Go.Proofs.Ytnimjikikfhlpaa.Pure
open Go.RowKit Go.Proofs.Ytnimjikikfhlpaa.F Go.Proofs.YtnimjikikfhlpaaW.PrintWords Go.Proofs.YtnimjikikfhlpaaW.PrintLast Go.Proofs.YtnimjikikfhlpaaW.PrintMore Go.Proofs.YtnimjikikfhlpaaB
set_option linter.unusedVariables false
set_option linter.unusedSimpArgs false
theorem HD_CommandS (A : Option Addr) (c m : Nat) (l : List S125) (a n : Int) (w : World) (hm : l.length = m) (hr : Kd.C k125 w A l.length l) (hc : l.length ≤ c) (h : Ev (fun k => laws_heldCommandS.f k l a) n) :
    Calls Try.prog 63 #[.slice A m c, .int .i64 a] w fun e w' => e = .returned (.int .i64 n) ∧ Below w.heap.size w w' := by
  obtain ⟨k, h⟩ := h.rounds
  subst hm
  exact (laws_heldCommandS.calls k A c l a n w hr hc h).mono fun e w' ⟨h1, h2⟩ => ⟨h1, h2.below⟩

end Go.Proofs.Ytnimjikikfhlpaa.Pure

namespace Go.Proofs.Ytnimjikikfhlpaa.Pure
open Go.RowKit Go.Proofs.Ytnimjikikfhlpaa.F Go.Proofs.YtnimjikikfhlpaaW.PrintWords Go.Proofs.YtnimjikikfhlpaaW.PrintLast Go.Proofs.YtnimjikikfhlpaaW.PrintMore Go.Proofs.YtnimjikikfhlpaaB
set_option linter.unusedVariables false
set_option linter.unusedSimpArgs false
theorem MK_CommandS (P : Nat → Prop) (A : Option Addr) (c : Nat) (l ys : List S125) (a n : Int) (w0 w : World) (hB : Below w0.heap.size w0 w) (hO : Kd.R k125 125 w w0.heap.size P (.slice A l.length c) l) (h : Ev (fun k => laws_markCommandS.f k l a) (n, ys)) :
    Calls Try.prog 62 #[.slice A l.length c, .int .i64 a] w fun e w' => e = .returned (.int .i64 n) ∧ Kd.R k125 125 w' w0.heap.size (fun k => P k ∨ w.heap.size ≤ k) (.slice A l.length c) ys ∧ Below w0.heap.size w0 w' ∧ Kept w w' P := by
  obtain ⟨k, h⟩ := h.rounds
  exact laws_markCommandS.calls k P _ l a n ys w0 w hB hO h

end Go.Proofs.Ytnimjikikfhlpaa.Pure

namespace Go.Proofs.Ytnimjikikfhlpaa.Pure
open Go.RowKit Go.Proofs.Ytnimjikikfhlpaa.F Go.Proofs.YtnimjikikfhlpaaW.PrintWords Go.Proofs.YtnimjikikfhlpaaW.PrintLast Go.Proofs.YtnimjikikfhlpaaW.PrintMore Go.Proofs.YtnimjikikfhlpaaB
set_option linter.unusedVariables false
set_option linter.unusedSimpArgs false
section
variable {α : Type} {d : Kd α} {e : Nat} {w : World} {base : Nat} {ok : Nat → Prop} {A : Option Addr} {n c : Nat} {xs : List α}
theorem Kd.R_now (h : d.R e w base ok (.slice A n c) xs) (hl : xs.length = n) : xs.length ≤ c ∧ d.C w A xs.length xs := by
  obtain ⟨h1, h2, h3⟩ := Kd.R_reads' h
  exact ⟨by omega, h3⟩
theorem Kd.S_now (h : Kd.S d e w base ok (.slice A n c) xs) (hl : xs.length = n) : xs.length ≤ c ∧ d.C w A xs.length xs := by
  obtain ⟨h1, h2, h3⟩ := Kd.S_reads' h
  exact ⟨by omega, h3⟩
end

end Go.Proofs.Ytnimjikikfhlpaa.Pure

namespace Go.Proofs.Ytnimjikikfhlpaa.Pure
open Go.RowKit Go.Proofs.Ytnimjikikfhlpaa.F Go.Proofs.YtnimjikikfhlpaaW.PrintWords Go.Proofs.YtnimjikikfhlpaaW.PrintLast Go.Proofs.YtnimjikikfhlpaaW.PrintMore Go.Proofs.YtnimjikikfhlpaaB
set_option linter.unusedVariables false
set_option linter.unusedSimpArgs false
theorem SZ_StrokeS (A : Option Addr) (c : Nat) (l : List S102) (a n : Int) (w : World) (hr : Kd.C k102 w A l.length l) (hc : l.length ≤ c) (h : Ev (fun k => laws_szStrokeS.f k l a) n) :
    Calls Try.prog 15 #[.slice A l.length c, .int .i64 a] w fun e w' => e = .returned (.int .i64 n) ∧ Below w.heap.size w w' := by
  obtain ⟨k, h⟩ := h.rounds
  exact (laws_szStrokeS.calls k A c l a n w hr hc h).mono fun e w' ⟨h1, h2⟩ => ⟨h1, h2⟩

end Go.Proofs.Ytnimjikikfhlpaa.Pure

namespace Go.Proofs.Ytnimjikikfhlpaa.Pure
open Go.RowKit Go.Proofs.Ytnimjikikfhlpaa.F Go.Proofs.YtnimjikikfhlpaaW.PrintWords Go.Proofs.YtnimjikikfhlpaaW.PrintLast Go.Proofs.YtnimjikikfhlpaaW.PrintMore Go.Proofs.YtnimjikikfhlpaaB
set_option linter.unusedVariables false
set_option linter.unusedSimpArgs false
theorem TO_StrokeS (A : Option Addr) (c : Nat) (l : List S102) (xs : List S107) (w : World) (hr : Kd.C k102 w A l.length l) (hc : l.length ≤ c) (h : Ev (fun k => laws_toStrokeS.f k l) xs) :
    Calls Try.prog 17 #[.slice A l.length c] w fun e w' => ∃ A' c', e = .returned (.slice A' xs.length c') ∧ Kd.S k107 107 w' w.heap.size (fun k => w.heap.size ≤ k ∧ k < w'.heap.size) (.slice A' xs.length c') xs ∧ Below w.heap.size w w' := by
  obtain ⟨k, h⟩ := h.rounds
  refine (laws_toStrokeS.calls k A c l xs w hr hc h).mono fun e w' ⟨v, h1, h2, h3⟩ => ?_
  obtain ⟨A', c', rfl⟩ := Kd.S_slice h2
  exact ⟨A', c', h1, Kd.S_mono (Kd.S_bound h2) (fun k hk => ⟨hk.2.1, hk.2.2.1⟩), h3⟩

end Go.Proofs.Ytnimjikikfhlpaa.Pure

namespace Go.Proofs.Ytnimjikikfhlpaa.Pure
open Go.RowKit Go.Proofs.Ytnimjikikfhlpaa.F Go.Proofs.YtnimjikikfhlpaaW.PrintWords Go.Proofs.YtnimjikikfhlpaaW.PrintLast Go.Proofs.YtnimjikikfhlpaaW.PrintMore Go.Proofs.YtnimjikikfhlpaaB
set_option linter.unusedVariables false
set_option linter.unusedSimpArgs false
set_option maxHeartbeats 8000000 in
set_option maxRecDepth 100000 in
theorem early0_FnExactProgramOf (A0 : Option Addr) (c0 : Nat) (l0 : List S102) (n0 : Int) (w : World) (hr0 : Kd.C k102 w A0 l0.length l0) (hc0 : l0.length ≤ c0) (Hsz0 : Ev (fun k => laws_szStrokeS.f k l0 1048576) n0) (Hn0 : n0 < 0) :
    Calls Try.prog 14 #[.slice A0 l0.length c0] w fun e w' => e = .returned (.bool true) ∧ Below w.heap.size w w' := by
  have HB := Aside0.mk (Below.refl w.heap.size w)
  have HR0 := Aside0.mk hr0
  have HC0 := Aside0.mk hc0
  clear hr0 hc0
  have QHsz0 := Aside0.mk Hsz0
  clear Hsz0
  go_enter Try.func14, Try.ntmps14
  go_wp2_with fail
  refine (SZ_StrokeS A0 c0 l0 1048576 n0 _ (Kd.C_below HR0.out HB.out) HC0.out QHsz0.out).mono ?_
  rintro e w1 ⟨rfl, hb⟩
  have n_ := Aside0.mk (HB.out.trans (hb.mono HB.out.size))
  clear HB hb
  have HB := n_
  clear n_
  go_wp2
  go_ret
  exact ⟨rfl, HB.out⟩
set_option maxHeartbeats 8000000 in
set_option maxRecDepth 100000 in
theorem walk_FnExactProgramOf (A0 : Option Addr) (c0 : Nat) (l0 : List S102) (x0 : List S107) (n0 : Int) (r0 : List S125) (r1 : Int) (ya0 : List S107) (ma0 : Int) (yr0 : List S125) (mr0 : Int) (w : World) (hr0 : Kd.C k102 w A0 l0.length l0) (hc0 : l0.length ≤ c0) (Hsz0 : Ev (fun k => laws_szStrokeS.f k l0 1048576) n0) (Hn0 : 0 ≤ n0) (Ht0 : Ev (fun k => laws_toStrokeS.f k l0) x0) (Hx0 : Ev (fun k => laws_eqStrokeS.f k x0 x0) true) (Hs : Ev (fun k => spec_ProgramOf.f k x0) (r0, r1)) (Hi : Ev (fun k => impl_ProgramOf.f k x0) (r0, r1)) (He0 : Ev (fun k => laws_eqCommandS.f k r0 r0) true) (Hma0 : MarkSt x0 ya0 1 ma0) (Hmn0 : 0 ≤ ma0) (Hmr0 : Ev (fun k => laws_markCommandS.f k r0 1) (mr0, yr0)) (Hrn0 : 0 ≤ mr0) (Hl0 : yr0.length = r0.length) (Hh0 : Ev (fun k => laws_heldCommandS.f k yr0 1) mr0) :
    Calls Try.prog 14 #[.slice A0 l0.length c0] w fun e w' => e = .returned (.bool true) ∧ Below w.heap.size w w' := by
  have HB := Aside0.mk (Below.refl w.heap.size w)
  have HR0 := Aside0.mk hr0
  have HC0 := Aside0.mk hc0
  clear hr0 hc0
  have QHsz0 := Aside0.mk Hsz0
  clear Hsz0
  have QHt0 := Aside0.mk Ht0
  clear Ht0
  have QHx0 := Aside0.mk Hx0
  clear Hx0
  have QHs := Aside0.mk Hs
  clear Hs
  have QHi := Aside0.mk Hi
  clear Hi
  have QHe0 := Aside0.mk He0
  clear He0
  have QHma0 := Aside0.mk Hma0
  clear Hma0
  have QHmr0 := Aside0.mk Hmr0
  clear Hmr0
  have QHl0 := Aside0.mk Hl0
  clear Hl0
  have QHh0 := Aside0.mk Hh0
  clear Hh0
  have hcc : ∀ r : Int, (r != r) = false := fun r => by simp
  go_enter Try.func14, Try.ntmps14
  go_wp2_with fail
  refine (SZ_StrokeS A0 c0 l0 1048576 n0 _ (Kd.C_below HR0.out HB.out) HC0.out QHsz0.out).mono ?_
  rintro e w1 ⟨rfl, hb⟩
  have HZ2 := Aside0.mk hb.size
  have n_ := Aside0.mk (HB.out.trans (hb.mono HB.out.size))
  clear HB hb
  have HB := n_
  clear n_
  go_wp2_with fail
  refine (TO_StrokeS A0 c0 l0 x0 _ (Kd.C_below HR0.out HB.out) HC0.out QHt0.out).mono ?_
  rintro e w3 ⟨B4, d4, rfl, hO, hb⟩
  have HZ5 := Aside0.mk hb.size
  have n_ := Aside0.mk (HB.out.trans (hb.mono HB.out.size))
  clear HB hb
  have HB := n_
  clear n_
  have HO4 := Aside0.mk hO
  clear hO
  go_wp2_with fail
  obtain ⟨kHs7, hHs7⟩ := QHs.out.rounds
  refine (spec_ProgramOf.calls kHs7 B4 d4 x0 r0 r1 _ (Kd.S_reads' HO4.out).2.2 (Kd.S_reads' HO4.out).2.1 hHs7).mono ?_
  clear hHs7
  rintro e w6 ⟨v7_0, rfl, ho7_0, hb⟩
  obtain ⟨Bv7_0, dv7_0, rfl⟩ := Kd.R_slice ho7_0
  have HO7 := Aside0.mk (Kd.R_mono (Kd.R_bound ho7_0) (ok' := fun k_ => w3.heap.size ≤ k_ ∧ k_ < w6.heap.size) (fun k_ h_ => ⟨h_.2.1, h_.2.2.1⟩))
  clear ho7_0
  have n_ := Aside0.mk (Kd.S_below HO4.out hb)
  clear HO4
  have HO4 := n_
  clear n_
  have HZ8 := Aside0.mk hb.size
  have n_ := Aside0.mk (HB.out.trans (hb.mono HB.out.size))
  clear HB hb
  have HB := n_
  clear n_
  go_wp2_with fail
  clear HO4
  refine (TO_StrokeS A0 c0 l0 x0 _ (Kd.C_below HR0.out HB.out) HC0.out QHt0.out).mono ?_
  rintro e w9 ⟨B10, d10, rfl, hO, hb⟩
  have n_ := Aside0.mk (Kd.R_below HO7.out hb)
  clear HO7
  have HO7 := n_
  clear n_
  have HZ11 := Aside0.mk hb.size
  have n_ := Aside0.mk (HB.out.trans (hb.mono HB.out.size))
  clear HB hb
  have HB := n_
  clear n_
  have HO10 := Aside0.mk hO
  clear hO
  go_wp2_with fail
  obtain ⟨kHi13, hHi13⟩ := QHi.out.rounds
  refine (impl_ProgramOf.calls kHi13 B10 d10 x0 r0 r1 _ (Kd.S_reads' HO10.out).2.2 (Kd.S_reads' HO10.out).2.1 hHi13).mono ?_
  clear hHi13
  rintro e w12 ⟨v13_0, rfl, ho13_0, hb⟩
  obtain ⟨Bv13_0, dv13_0, rfl⟩ := Kd.R_slice ho13_0
  have HO13 := Aside0.mk (Kd.R_mono (Kd.R_bound ho13_0) (ok' := fun k_ => w9.heap.size ≤ k_ ∧ k_ < w12.heap.size) (fun k_ h_ => ⟨h_.2.1, h_.2.2.1⟩))
  clear ho13_0
  have n_ := Aside0.mk (Kd.R_below HO7.out hb)
  clear HO7
  have HO7 := n_
  clear n_
  have n_ := Aside0.mk (Kd.S_below HO10.out hb)
  clear HO10
  have HO10 := n_
  clear n_
  have HZ14 := Aside0.mk hb.size
  have n_ := Aside0.mk (HB.out.trans (hb.mono HB.out.size))
  clear HB hb
  have HB := n_
  clear n_
  go_wp2_with fail
  refine (EQ_CommandS Bv13_0 Bv7_0 dv13_0 dv7_0 r0 _ (Kd.R_reads' HO13.out).2.2 (Kd.R_reads' HO13.out).2.1 (Kd.R_reads' HO7.out).2.2 (Kd.R_reads' HO7.out).2.1 QHe0.out).mono ?_
  rintro e w15 ⟨rfl, hb⟩
  have n_ := Aside0.mk (Kd.R_below HO7.out hb)
  clear HO7
  have HO7 := n_
  clear n_
  have n_ := Aside0.mk (Kd.S_below HO10.out hb)
  clear HO10
  have HO10 := n_
  clear n_
  have n_ := Aside0.mk (Kd.R_below HO13.out hb)
  clear HO13
  have HO13 := n_
  clear n_
  have HZ16 := Aside0.mk hb.size
  have n_ := Aside0.mk (HB.out.trans (hb.mono HB.out.size))
  clear HB hb
  have HB := n_
  clear n_
  go_wp2_with fail
  refine (TO_StrokeS A0 c0 l0 x0 _ (Kd.C_below HR0.out HB.out) HC0.out QHt0.out).mono ?_
  rintro e w17 ⟨B18, d18, rfl, hO, hb⟩
  have n_ := Aside0.mk (Kd.R_below HO7.out hb)
  clear HO7
  have HO7 := n_
  clear n_
  have n_ := Aside0.mk (Kd.S_below HO10.out hb)
  clear HO10
  have HO10 := n_
  clear n_
  have n_ := Aside0.mk (Kd.R_below HO13.out hb)
  clear HO13
  have HO13 := n_
  clear n_
  have HZ19 := Aside0.mk hb.size
  have n_ := Aside0.mk (HB.out.trans (hb.mono HB.out.size))
  clear HB hb
  have HB := n_
  clear n_
  have HO18 := Aside0.mk hO
  clear hO
  go_wp2_with fail
  refine (EQ_StrokeS B10 B18 d10 d18 x0 _ (Kd.S_reads' HO10.out).2.2 (Kd.S_reads' HO10.out).2.1 (Kd.S_reads' HO18.out).2.2 (Kd.S_reads' HO18.out).2.1 QHx0.out).mono ?_
  rintro e w20 ⟨rfl, hb⟩
  have n_ := Aside0.mk (Kd.R_below HO7.out hb)
  clear HO7
  have HO7 := n_
  clear n_
  have n_ := Aside0.mk (Kd.S_below HO10.out hb)
  clear HO10
  have HO10 := n_
  clear n_
  have n_ := Aside0.mk (Kd.R_below HO13.out hb)
  clear HO13
  have HO13 := n_
  clear n_
  have n_ := Aside0.mk (Kd.S_below HO18.out hb)
  clear HO18
  have HO18 := n_
  clear n_
  have HZ21 := Aside0.mk hb.size
  have n_ := Aside0.mk (HB.out.trans (hb.mono HB.out.size))
  clear HB hb
  have HB := n_
  clear n_
  go_wp2_with fail
  clear HO18
  refine (MK_StrokeS (fun k_ => w6.heap.size ≤ k_ ∧ k_ < w9.heap.size) B10 d10 x0 ya0 1 ma0 w _ HB.out (Kd.S_lower HO10.out (by have := HZ2.out; have := HZ5.out; have := HZ8.out; have := HZ11.out; have := HZ14.out; have := HZ16.out; have := HZ19.out; have := HZ21.out; omega)) QHma0.out).mono ?_
  rintro e w22 ⟨rfl, hO, hB2, hK⟩
  have n_ := Aside0.mk (Kd.R_kept HO7.out hK (fun k_ h_ h2_ => by have := HZ2.out; have := HZ5.out; have := HZ8.out; have := HZ11.out; have := HZ14.out; have := HZ16.out; have := HZ19.out; have := HZ21.out; obtain ⟨h3_, h4_⟩ := h2_; rcases h_ with h_ <;> omega))
  clear HO7
  have HO7 := n_
  clear n_
  have n_ := Aside0.mk (Kd.R_kept HO13.out hK (fun k_ h_ h2_ => by have := HZ2.out; have := HZ5.out; have := HZ8.out; have := HZ11.out; have := HZ14.out; have := HZ16.out; have := HZ19.out; have := HZ21.out; obtain ⟨h3_, h4_⟩ := h2_; rcases h_ with h_ <;> omega))
  clear HO13
  have HO13 := n_
  clear n_
  have HZ23 := Aside0.mk hK.1
  clear HB
  have HB := Aside0.mk hB2
  clear HO10
  clear hO hB2 hK
  go_wp2_with fail
  refine (EQ_CommandS Bv13_0 Bv7_0 dv13_0 dv7_0 r0 _ (Kd.R_reads' HO13.out).2.2 (Kd.R_reads' HO13.out).2.1 (Kd.R_reads' HO7.out).2.2 (Kd.R_reads' HO7.out).2.1 QHe0.out).mono ?_
  rintro e w24 ⟨rfl, hb⟩
  have n_ := Aside0.mk (Kd.R_below HO7.out hb)
  clear HO7
  have HO7 := n_
  clear n_
  have n_ := Aside0.mk (Kd.R_below HO13.out hb)
  clear HO13
  have HO13 := n_
  clear n_
  have HZ25 := Aside0.mk hb.size
  have n_ := Aside0.mk (HB.out.trans (hb.mono HB.out.size))
  clear HB hb
  have HB := n_
  clear n_
  go_wp2_with fail
  refine (MK_CommandS (fun k_ => w9.heap.size ≤ k_ ∧ k_ < w12.heap.size) Bv13_0 dv13_0 r0 yr0 1 mr0 w _ HB.out (Kd.R_lower HO13.out (by have := HZ2.out; have := HZ5.out; have := HZ8.out; have := HZ11.out; have := HZ14.out; have := HZ16.out; have := HZ19.out; have := HZ21.out; have := HZ23.out; have := HZ25.out; omega)) QHmr0.out).mono ?_
  rintro e w26 ⟨rfl, hO, hB2, hK⟩
  have n_ := Aside0.mk (Kd.R_kept HO7.out hK (fun k_ h_ h2_ => by have := HZ2.out; have := HZ5.out; have := HZ8.out; have := HZ11.out; have := HZ14.out; have := HZ16.out; have := HZ19.out; have := HZ21.out; have := HZ23.out; have := HZ25.out; obtain ⟨h3_, h4_⟩ := h2_; rcases h_ with h_ <;> omega))
  clear HO7
  have HO7 := n_
  clear n_
  have HZ27 := Aside0.mk hK.1
  clear HB
  have HB := Aside0.mk hB2
  clear HO13
  have HO13 := Aside0.mk hO
  clear hO hB2 hK
  go_wp2_with fail
  refine (HD_CommandS Bv13_0 dv13_0 r0.length yr0 1 mr0 _ QHl0.out (Kd.R_now HO13.out QHl0.out).2 (Kd.R_now HO13.out QHl0.out).1 QHh0.out).mono ?_
  rintro e w28 ⟨rfl, hb⟩
  have n_ := Aside0.mk (Kd.R_below HO7.out hb)
  clear HO7
  have HO7 := n_
  clear n_
  have n_ := Aside0.mk (Kd.R_below HO13.out hb)
  clear HO13
  have HO13 := n_
  clear n_
  have HZ29 := Aside0.mk hb.size
  have n_ := Aside0.mk (HB.out.trans (hb.mono HB.out.size))
  clear HB hb
  have HB := n_
  clear n_
  go_wp2_with fail
  refine (TO_StrokeS A0 c0 l0 x0 _ (Kd.C_below HR0.out HB.out) HC0.out QHt0.out).mono ?_
  rintro e w30 ⟨B31, d31, rfl, hO, hb⟩
  have n_ := Aside0.mk (Kd.R_below HO7.out hb)
  clear HO7
  have HO7 := n_
  clear n_
  have n_ := Aside0.mk (Kd.R_below HO13.out hb)
  clear HO13
  have HO13 := n_
  clear n_
  have HZ32 := Aside0.mk hb.size
  have n_ := Aside0.mk (HB.out.trans (hb.mono HB.out.size))
  clear HB hb
  have HB := n_
  clear n_
  have HO31 := Aside0.mk hO
  clear hO
  go_wp2_with fail
  obtain ⟨kHi34, hHi34⟩ := QHi.out.rounds
  refine (impl_ProgramOf.calls kHi34 B31 d31 x0 r0 r1 _ (Kd.S_reads' HO31.out).2.2 (Kd.S_reads' HO31.out).2.1 hHi34).mono ?_
  clear hHi34
  rintro e w33 ⟨v34_0, rfl, ho34_0, hb⟩
  obtain ⟨Bv34_0, dv34_0, rfl⟩ := Kd.R_slice ho34_0
  have HO34 := Aside0.mk (Kd.R_mono (Kd.R_bound ho34_0) (ok' := fun k_ => w30.heap.size ≤ k_ ∧ k_ < w33.heap.size) (fun k_ h_ => ⟨h_.2.1, h_.2.2.1⟩))
  clear ho34_0
  have n_ := Aside0.mk (Kd.R_below HO7.out hb)
  clear HO7
  have HO7 := n_
  clear n_
  have n_ := Aside0.mk (Kd.R_below HO13.out hb)
  clear HO13
  have HO13 := n_
  clear n_
  have n_ := Aside0.mk (Kd.S_below HO31.out hb)
  clear HO31
  have HO31 := n_
  clear n_
  have HZ35 := Aside0.mk hb.size
  have n_ := Aside0.mk (HB.out.trans (hb.mono HB.out.size))
  clear HB hb
  have HB := n_
  clear n_
  go_wp2_with fail
  clear HO31
  refine (EQ_CommandS Bv34_0 Bv7_0 dv34_0 dv7_0 r0 _ (Kd.R_reads' HO34.out).2.2 (Kd.R_reads' HO34.out).2.1 (Kd.R_reads' HO7.out).2.2 (Kd.R_reads' HO7.out).2.1 QHe0.out).mono ?_
  rintro e w36 ⟨rfl, hb⟩
  have n_ := Aside0.mk (Kd.R_below HO7.out hb)
  clear HO7
  have HO7 := n_
  clear n_
  have n_ := Aside0.mk (Kd.R_below HO13.out hb)
  clear HO13
  have HO13 := n_
  clear n_
  have n_ := Aside0.mk (Kd.R_below HO34.out hb)
  clear HO34
  have HO34 := n_
  clear n_
  have HZ37 := Aside0.mk hb.size
  have n_ := Aside0.mk (HB.out.trans (hb.mono HB.out.size))
  clear HB hb
  have HB := n_
  clear n_
  go_wp2_with fail
  clear HO34
  refine (HD_CommandS Bv13_0 dv13_0 r0.length yr0 1 mr0 _ QHl0.out (Kd.R_now HO13.out QHl0.out).2 (Kd.R_now HO13.out QHl0.out).1 QHh0.out).mono ?_
  rintro e w38 ⟨rfl, hb⟩
  have n_ := Aside0.mk (Kd.R_below HO7.out hb)
  clear HO7
  have HO7 := n_
  clear n_
  have n_ := Aside0.mk (Kd.R_below HO13.out hb)
  clear HO13
  have HO13 := n_
  clear n_
  have HZ39 := Aside0.mk hb.size
  have n_ := Aside0.mk (HB.out.trans (hb.mono HB.out.size))
  clear HB hb
  have HB := n_
  clear n_
  try go_wp2
  go_ret
  exact ⟨rfl, HB.out⟩

end Go.Proofs.Ytnimjikikfhlpaa.Pure

namespace Go.Proofs.Ytnimjikikfhlpaa.Pure
open Go.RowKit Go.Proofs.Ytnimjikikfhlpaa.F Go.Proofs.YtnimjikikfhlpaaW.PrintWords Go.Proofs.YtnimjikikfhlpaaW.PrintLast Go.Proofs.YtnimjikikfhlpaaW.PrintMore Go.Proofs.YtnimjikikfhlpaaB
set_option linter.unusedVariables false
set_option linter.unusedSimpArgs false
theorem walkFnExactProgramOf (A0 : Option Addr) (c0 : Nat) (l0 : (List S102)) (w : World) (hr0 : Kd.C k102 w A0 l0.length l0) (hc0 : l0.length ≤ c0) (hm0 : l0.length ≤ maxLen) (hg0 : ∀ y ∈ l0, g102 y) :
    Calls Try.prog 14 #[.slice A0 l0.length c0] w fun e w' => e = .returned (.bool true) ∧ Below w.heap.size w w' := by
  unfold maxLen at hm0
  have hi : ∀ x ∈ l0, x.f1.length ≤ 9223372036854775807 := fun x hx => (hg0 x hx).2.1
  have hs := laws_szStrokeS_f l0 1048576 (by omega) (by omega) hm0 hi
  by_cases h : (1048576 : Int) < l0.length + total szStroke l0
  · rw [if_pos h] at hs
    exact early0_FnExactProgramOf A0 c0 l0 (-1) w hr0 hc0 hs (by omega)
  rw [if_neg h] at hs
  obtain ⟨s1, s2⟩ := szStroke_small l0 h
  have t := laws_toStrokeS_f l0 s1 s2
  have sm := toSt_small l0 s2
  have sl : (l0.map toSt).length ≤ 1048576 := by rw [List.length_map]; exact s1
  obtain ⟨mk, mk0, _⟩ := markSt_arg l0 1 (by omega) (by omega) h
  generalize l0.map toSt = zs at *
  have rl := resProg_length zs
  have hS := spec_ProgramOf_f zs (by omega)
  have hI := impl_ProgramOf_f zs (by omega)
  generalize resProg zs = r at *
  obtain ⟨r0, r1⟩ := r
  simp only at rl
  exact walk_FnExactProgramOf A0 c0 l0 zs _ r0 r1 _ _ _ _ w hr0 hc0 hs (by omega) t (laws_eqStrokeS_f zs (by omega) (fun x hx => by have := sm x hx; omega)) hS hI (laws_eqCommandS_f r0 (by omega)) mk mk0
    (laws_markCommandS_f r0 1 (by omega) (by omega) (by omega)) (by omega) (markC_length _ _) (laws_heldCommandS_f r0 1 (by omega) (by omega) (by omega))

end Go.Proofs.Ytnimjikikfhlpaa.Pure

namespace Go.Proofs.Ytnimjikikfhlpaa.fnExactProgramOf
open Go.ChangeShapes Go.WideShapes Go.ChangeAt Go.RowKit Go.Proofs.YtnimjikikfhlpaaO Go.Proofs.Ytnimjikikfhlpaa.F Go.Proofs.YtnimjikikfhlpaaW.PrintWords
open Go.ChangeMaps (open_string shut_string)
set_option linter.unusedVariables false
theorem own : ownKnob Try.prog.godebug = none := by kernel_rfl
theorem laidOut : laidOutB Try.prog = true := by kernel_rfl
set_option maxRecDepth 100000 in
theorem lifted (os : Os) (started : os.Started) (H : Type) (enc : TypeId × Value → H) :
    ReturnsInHanded {} Try.checked os 14 .any (Rows.fnExactProgramOfSpec.pre6 enc Try.prog Try.f14 Rows.fnExactProgramOfRow.domain false) (Rows.fnExactProgramOfSpec.post enc Try.prog Try.f14 false true false false) := by
  refine returnsInHanded_of_change (C := Try.checked) own started (by kernel_rfl) Try.func14
    (ChangeSpec.witness6 (enc := enc) (C := Try.checked) false ⟨#[], #[.slice none 0 0], []⟩ 8 (by kernel_rfl) (by kernel_rfl) (by kernel_rfl) (by kernel_rfl)) ?_
  intro W base args ds gs before hval0 hW hcnd _
  have hval : ∀ (j : Nat) t v, Try.f14.params[j]? = some t → args[j]? = some v → Value.okWide Try.prog W .any base t v := hval0
  have hW' := hW
  obtain ⟨p, q, hA0, hV, rfl, hfz, hnd⟩ := hW
  have hA : DataW.TrodAll enc Try.prog W 0 (fun _ => true) true Try.f14.params.toList args.toList ds p := hA0
  rw [Try.params14] at hA hval
  obtain ⟨v0, vs0, d0, ds0, p0, q0, hargs, rfl, rfl, h0, r0⟩ := trodAll_cons hA
  obtain ⟨rfl, rfl, rfl⟩ := trodAll_nil r0
  obtain rfl : args = #[v0] := by cases args; simp_all
  obtain ⟨rfl, rfl⟩ := trodVars_none hV
  obtain ⟨a0, len0, cap0, rfl⟩ := okWide_slice Try.underlying22 (hval 0 22 v0 rfl rfl)
  have k0_ := h0
  have lt0 : ∀ x ∈ p0, x.block < W.heap.size := by obtain ⟨m, hm⟩ := k0_; exact DataW.trod_lt m _ _ _ hm
  obtain ⟨fuel0, hf0⟩ := h0
  obtain ⟨A0, l0, c0, hcs0, hc0, hb0, hr0, hg0⟩ := opens_row (d := k102) (G := g102) Try.underlying22 (by kernel_rfl) o102 hf0
  simp [Value.cells] at hcs0
  obtain ⟨rfl, rfl, rfl⟩ := hcs0
  clear hA0 hval0
  refine (Pure.walkFnExactProgramOf _ _ l0 W hr0 hc0 (Nat.le_trans hc0 hb0) hg0).mono fun e W' ⟨he, bel⟩ => ?_
  subst he
  exact ⟨_, rfl, _, _, _, [], _, [], hW', trodAll_mk1 (shut_bool Try.underlying4 _), (trodAll_cons_mk (Below.trod laidOut (by kernel_rfl) (of_decide_eq_true (by kernel_rfl)) k0_ bel lt0) trodAll_mk0), rfl, bel.frame _, fun h => by cases h⟩
theorem over : Rows.fnExactProgramOfRow.holds Try.pinned (OpenSpec.ofChange Rows.fnExactProgramOfSpec) :=
  OpenClaim.holds_of_wide 14 Try.f14 rfl rfl rfl rfl rfl rfl rfl ⟨rfl, rfl, rfl, rfl, rfl⟩ rfl rfl rfl rfl rfl (by kernel_rfl) Try.func14 (by kernel_rfl)
    (of_decide_eq_true (by kernel_rfl)) (by unfold Func.isWrapper; first | (rw [if_pos (by decide +kernel)]; kernel_rfl) | (rw [if_neg (by decide +kernel)]; exact ⟨rfl, rfl⟩))
    (fun os started H enc _ => lifted os started H enc)
theorem proved : Rows.FnExactProgramOfSaid := over
end Go.Proofs.Ytnimjikikfhlpaa.fnExactProgramOf
namespace Go.Proofs.Ytnimjikikfhlpaa
/-- The row, under a short name, for the claim. -/
theorem fnExactProgramOf_holds : Rows.FnExactProgramOfSaid := fnExactProgramOf.proved
end Go.Proofs.Ytnimjikikfhlpaa
#print axioms Go.Proofs.Ytnimjikikfhlpaa.fnExactProgramOf_holds
