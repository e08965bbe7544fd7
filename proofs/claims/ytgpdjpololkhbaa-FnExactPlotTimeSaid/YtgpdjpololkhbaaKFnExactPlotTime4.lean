/-
  A part of the proof of FnExactPlotTime: contracts of the Go functions that it reaches, and plain statements on what they come to; each says its own conditions.
-/
import Derived.Test.YtgpdjpololkhbaaKFnExactPlotTime3

namespace Go.Proofs.Ytgpdjpololkhbaa.F
open Go.RowKit Go.Proofs.YtgpdjpololkhbaaW.PrintWords Go.Proofs.YtgpdjpololkhbaaW.PrintLast Go.Proofs.YtgpdjpololkhbaaW.PrintMore
attribute [local go_sem] max2_int min2_int max_two min_two max_three min_three max_four min_four   -- for this text's walks alone
set_option linter.unusedVariables false
set_option linter.unusedSimpArgs false

/-! ### spec_l01Floor: function 163 -/
def spec_l01Floor.f (a0 : Int) (a1 : Int) : Option (Int) := if a1 < 0 then (if (wrap64 (-a1)) = 0 then (none) else (if (Int.tmod (wrap64 (-a0)) (wrap64 (-a1))) < 0 then (some (wrap64 ((wrap64 (Int.tdiv (wrap64 (-a0)) (wrap64 (-a1)))) - 1))) else (some (wrap64 (Int.tdiv (wrap64 (-a0)) (wrap64 (-a1))))))) else (if a1 = 0 then (none) else (if (Int.tmod a0 a1) < 0 then (some (wrap64 ((wrap64 (Int.tdiv a0 a1)) - 1))) else (some (wrap64 (Int.tdiv a0 a1)))))
set_option maxHeartbeats 8000000 in
set_option maxRecDepth 100000 in
theorem spec_l01Floor.calls (a0 : Int) (a1 : Int) (r : Int) (w : World) (h : spec_l01Floor.f a0 a1 = some r) :
    Calls Try.prog 163 #[.int .i64 a0, .int .i64 a1] w fun e w' => e = .returned (.int .i64 r) ∧ Drawn0 w w' := by
  have H : (if a1 < 0 then (if (wrap64 (-a1)) = 0 then (none) else (if (Int.tmod (wrap64 (-a0)) (wrap64 (-a1))) < 0 then (some (wrap64 ((wrap64 (Int.tdiv (wrap64 (-a0)) (wrap64 (-a1)))) - 1))) else (some (wrap64 (Int.tdiv (wrap64 (-a0)) (wrap64 (-a1))))))) else (if a1 = 0 then (none) else (if (Int.tmod a0 a1) < 0 then (some (wrap64 ((wrap64 (Int.tdiv a0 a1)) - 1))) else (some (wrap64 (Int.tdiv a0 a1)))))) = some r := h
  clear h
  by_cases c3 : a1 < 0
  · rw [if_pos c3] at H
    have c3b0 : decide (a1 < 0) = true := decide_eq_true c3
    clear c3
    by_cases c4 : (wrap64 (-a1)) = 0
    · rw [if_pos c4] at H
      exact absurd H (by simp)
    · rw [if_neg c4] at H
      have c4b0 : ((wrap64 (-a1)) == 0) = false := beq_eq_false_iff_ne.mpr c4
      have c4b1 : ((wrap64 (-a1)) != 0) = true := bne_iff_ne.mpr c4
      by_cases c5 : (Int.tmod (wrap64 (-a0)) (wrap64 (-a1))) < 0
      · rw [if_pos c5] at H
        have c5b0 : decide ((Int.tmod (wrap64 (-a0)) (wrap64 (-a1))) < 0) = true := decide_eq_true c5
        clear c5
        obtain rfl := Option.some.inj H
        go_enter Try.func163, Try.ntmps163
        go_wp2
        go_ret
        exact ⟨by first | rfl | (simp; done) | (simp [*]; done), by repeat (first | exact Drawn0.refl _ | apply Drawn0.step)⟩
      · rw [if_neg c5] at H
        have c5b0 : decide ((Int.tmod (wrap64 (-a0)) (wrap64 (-a1))) < 0) = false := decide_eq_false c5
        clear c5
        obtain rfl := Option.some.inj H
        go_enter Try.func163, Try.ntmps163
        go_wp2
        go_ret
        exact ⟨by first | rfl | (simp; done) | (simp [*]; done), by repeat (first | exact Drawn0.refl _ | apply Drawn0.step)⟩
  · rw [if_neg c3] at H
    have c3b0 : decide (a1 < 0) = false := decide_eq_false c3
    clear c3
    by_cases c6 : a1 = 0
    · rw [if_pos c6] at H
      exact absurd H (by simp)
    · rw [if_neg c6] at H
      have c6b0 : (a1 == 0) = false := beq_eq_false_iff_ne.mpr c6
      have c6b1 : (a1 != 0) = true := bne_iff_ne.mpr c6
      by_cases c7 : (Int.tmod a0 a1) < 0
      · rw [if_pos c7] at H
        have c7b0 : decide ((Int.tmod a0 a1) < 0) = true := decide_eq_true c7
        clear c7
        obtain rfl := Option.some.inj H
        go_enter Try.func163, Try.ntmps163
        go_wp2
        go_ret
        exact ⟨by first | rfl | (simp; done) | (simp [*]; done), by repeat (first | exact Drawn0.refl _ | apply Drawn0.step)⟩
      · rw [if_neg c7] at H
        have c7b0 : decide ((Int.tmod a0 a1) < 0) = false := decide_eq_false c7
        clear c7
        obtain rfl := Option.some.inj H
        go_enter Try.func163, Try.ntmps163
        go_wp2
        go_ret
        exact ⟨by first | rfl | (simp; done) | (simp [*]; done), by repeat (first | exact Drawn0.refl _ | apply Drawn0.step)⟩

end Go.Proofs.Ytgpdjpololkhbaa.F

namespace Go.Proofs.Ytgpdjpololkhbaa.F
open Go.RowKit Go.Proofs.YtgpdjpololkhbaaW.PrintWords Go.Proofs.YtgpdjpololkhbaaW.PrintLast Go.Proofs.YtgpdjpololkhbaaW.PrintMore
attribute [local go_sem] max2_int min2_int max_two min_two max_three min_three max_four min_four   -- for this text's walks alone
set_option linter.unusedVariables false
set_option linter.unusedSimpArgs false

/-! ### spec_l01Ceil: function 115 -/
def spec_l01Ceil.f (a0 : Int) (a1 : Int) : Option (Int) := (spec_l01Floor.f (wrap64 (-a0)) a1).bind fun t967 => (some (wrap64 (-t967)))
set_option maxHeartbeats 8000000 in
set_option maxRecDepth 100000 in
theorem spec_l01Ceil.calls (a0 : Int) (a1 : Int) (r : Int) (w : World) (h : spec_l01Ceil.f a0 a1 = some r) :
    Calls Try.prog 115 #[.int .i64 a0, .int .i64 a1] w fun e w' => e = .returned (.int .i64 r) ∧ Drawn0 w w' := by
  have H : ((spec_l01Floor.f (wrap64 (-a0)) a1).bind fun t967 => (some (wrap64 (-t967)))) = some r := h
  clear h
  replace H := Option.bind_eq_some_iff.mp H
  obtain ⟨t967, A30, H⟩ := H
  replace H : (some (wrap64 (-t967))) = some r := H
  have A3 := Aside0.mk A30
  clear A30
  obtain rfl := Option.some.inj H
  go_enter Try.func115, Try.ntmps115
  go_wp2_with (first | ((with_reducible refine gate_callee (f := 163) rfl ?_); refine goesL_ (some 8) rfl rfl Try.func163 (by kernel_rfl) rfl #[.int .i64 (wrap64 (-a0)), .int .i64 a1] rfl (by (try simp only [List.map_toArray, List.map_cons, List.map_nil]); first | done | rfl | (simp only [List.length_drop, List.length_take]; rfl)) ?_; (with_reducible refine (spec_l01Floor.calls (wrap64 (-a0)) a1 t967 _ A3.out).mono ?_); rintro e w' ⟨rfl, ⟨nd, rfl⟩⟩; refine ⟨_, rfl, ?_⟩))
  go_ret
  exact ⟨by first | rfl | (simp; done) | (simp [*]; done), by repeat (first | exact Drawn0.refl _ | apply Drawn0.step)⟩

end Go.Proofs.Ytgpdjpololkhbaa.F

namespace Go.Proofs.Ytgpdjpololkhbaa.F
open Go.RowKit Go.Proofs.YtgpdjpololkhbaaW.PrintWords Go.Proofs.YtgpdjpololkhbaaW.PrintLast Go.Proofs.YtgpdjpololkhbaaW.PrintMore
attribute [local go_sem] max2_int min2_int max_two min_two max_three min_three max_four min_four   -- for this text's walks alone
set_option linter.unusedVariables false
set_option linter.unusedSimpArgs false

/-! ### spec_PlotTime: function 53 -/
mutual
def spec_PlotTime.j0 : Nat → Int → Int → Int → Int → Bool → Int → Int → Int → Bool → List (S110) → Int → Int → Int → Option (Int × Int)
  | 0, _, _, _, _, _, _, _, _, _, _, _, _, _ => none
  | k + 1, x1, x2, x3, x11, x37, x980000, x980001, x980002, x980003, x980004, x980005, x980006, x980007 => if x37 = true then (spec_PlotTime.j1 k x1 x2 x3 2 x980000 x980001 x980002 x980003 x980004 x980005 x980006 x980007) else (spec_PlotTime.j1 k x1 x2 x3 x11 x980000 x980001 x980002 x980003 x980004 x980005 x980006 x980007)
def spec_PlotTime.j1 : Nat → Int → Int → Int → Int → Int → Int → Int → Bool → List (S110) → Int → Int → Int → Option (Int × Int)
  | 0, _, _, _, _, _, _, _, _, _, _, _, _ => none
  | k + 1, x1, x2, x3, x11, x980000, x980001, x980002, x980003, x980004, x980005, x980006, x980007 => if x11 = 0 then ((spec_l01Ceil.f x980005 x1).bind fun t986 => ((spec_l01Ceil.f x980006 x2).bind fun t987 => (some (wrap64 ((wrap64 (t986 + t987)) + (wrap64 (x3 * x980007))), 0)))) else (some (0, x11))
end
def spec_PlotTime.f (k : Nat) (l0 : List (S137)) (a1 : Int) (a2 : Int) (a3 : Int) : Option (Int × Int) := (spec_l30All.f k l0).bind fun bt968 => (if bt968.2.2.2.2.2.2.2.2 = 0 then ((spec_l01In.f a1 1 1000000).bind fun t980 => (if t980 = true then ((spec_l01In.f a2 1 1000000).bind fun t981 => (if t981 = true then ((spec_l01In.f a3 0 1000000).bind fun t982 => (spec_PlotTime.j0 k a1 a2 a3 bt968.2.2.2.2.2.2.2.2 (!t982) bt968.1 bt968.2.1 bt968.2.2.1 bt968.2.2.2.1 bt968.2.2.2.2.1 bt968.2.2.2.2.2.1 bt968.2.2.2.2.2.2.1 bt968.2.2.2.2.2.2.2.1)) else (spec_PlotTime.j0 k a1 a2 a3 bt968.2.2.2.2.2.2.2.2 true bt968.1 bt968.2.1 bt968.2.2.1 bt968.2.2.2.1 bt968.2.2.2.2.1 bt968.2.2.2.2.2.1 bt968.2.2.2.2.2.2.1 bt968.2.2.2.2.2.2.2.1))) else (spec_PlotTime.j0 k a1 a2 a3 bt968.2.2.2.2.2.2.2.2 true bt968.1 bt968.2.1 bt968.2.2.1 bt968.2.2.2.1 bt968.2.2.2.2.1 bt968.2.2.2.2.2.1 bt968.2.2.2.2.2.2.1 bt968.2.2.2.2.2.2.2.1))) else (if bt968.2.2.2.2.2.2.2.2 = 5 then ((spec_l01In.f a1 1 1000000).bind fun t983 => (if t983 = true then ((spec_l01In.f a2 1 1000000).bind fun t984 => (if t984 = true then ((spec_l01In.f a3 0 1000000).bind fun t985 => (spec_PlotTime.j0 k a1 a2 a3 bt968.2.2.2.2.2.2.2.2 (!t985) bt968.1 bt968.2.1 bt968.2.2.1 bt968.2.2.2.1 bt968.2.2.2.2.1 bt968.2.2.2.2.2.1 bt968.2.2.2.2.2.2.1 bt968.2.2.2.2.2.2.2.1)) else (spec_PlotTime.j0 k a1 a2 a3 bt968.2.2.2.2.2.2.2.2 true bt968.1 bt968.2.1 bt968.2.2.1 bt968.2.2.2.1 bt968.2.2.2.2.1 bt968.2.2.2.2.2.1 bt968.2.2.2.2.2.2.1 bt968.2.2.2.2.2.2.2.1))) else (spec_PlotTime.j0 k a1 a2 a3 bt968.2.2.2.2.2.2.2.2 true bt968.1 bt968.2.1 bt968.2.2.1 bt968.2.2.2.1 bt968.2.2.2.2.1 bt968.2.2.2.2.2.1 bt968.2.2.2.2.2.2.1 bt968.2.2.2.2.2.2.2.1))) else (spec_PlotTime.j0 k a1 a2 a3 bt968.2.2.2.2.2.2.2.2 false bt968.1 bt968.2.1 bt968.2.2.1 bt968.2.2.2.1 bt968.2.2.2.2.1 bt968.2.2.2.2.2.1 bt968.2.2.2.2.2.2.1 bt968.2.2.2.2.2.2.2.1)))
theorem spec_PlotTime.mono_l : ∀ k, (∀ y0 y1 y2 y3 y4 y5 y6 y7 y8 y9 y10 y11 y12, LeO (spec_PlotTime.j0 k y0 y1 y2 y3 y4 y5 y6 y7 y8 y9 y10 y11 y12) (spec_PlotTime.j0 (k + 1) y0 y1 y2 y3 y4 y5 y6 y7 y8 y9 y10 y11 y12)) ∧ (∀ y0 y1 y2 y3 y4 y5 y6 y7 y8 y9 y10 y11, LeO (spec_PlotTime.j1 k y0 y1 y2 y3 y4 y5 y6 y7 y8 y9 y10 y11) (spec_PlotTime.j1 (k + 1) y0 y1 y2 y3 y4 y5 y6 y7 y8 y9 y10 y11))
  | 0 => ⟨fun _ _ _ _ _ _ _ _ _ _ _ _ _ r h => by simp [spec_PlotTime.j0] at h, fun _ _ _ _ _ _ _ _ _ _ _ _ r h => by simp [spec_PlotTime.j1] at h⟩
  | k + 1 => by
    obtain ⟨ih0, ih1⟩ := spec_PlotTime.mono_l k
    refine ⟨?_, ?_⟩
    · intro y0 y1 y2 y3 y4 y5 y6 y7 y8 y9 y10 y11 y12
      unfold spec_PlotTime.j0
      repeat' first
      | (with_reducible exact ih0 _ _ _ _ _ _ _ _ _ _ _ _ _)
      | (with_reducible exact ih1 _ _ _ _ _ _ _ _ _ _ _ _)
      | (with_reducible exact spec_l30All.mono _ _)
      | (with_reducible exact LeO.refl _)
      | (with_reducible exact LeO.none _)
      | (with_reducible refine LeO.ite ?_ ?_)
      | (with_reducible refine LeO.bind ?_ (fun _ => ?_))
      | exact ih0 _ _ _ _ _ _ _ _ _ _ _ _ _
      | exact ih1 _ _ _ _ _ _ _ _ _ _ _ _
      | exact spec_l30All.mono _ _
      | exact LeO.none _
      | refine LeO.ite ?_ ?_
      | refine LeO.bind ?_ (fun _ => ?_)
    · intro y0 y1 y2 y3 y4 y5 y6 y7 y8 y9 y10 y11
      unfold spec_PlotTime.j1
      repeat' first
      | (with_reducible exact ih0 _ _ _ _ _ _ _ _ _ _ _ _ _)
      | (with_reducible exact ih1 _ _ _ _ _ _ _ _ _ _ _ _)
      | (with_reducible exact spec_l30All.mono _ _)
      | (with_reducible exact LeO.refl _)
      | (with_reducible exact LeO.none _)
      | (with_reducible refine LeO.ite ?_ ?_)
      | (with_reducible refine LeO.bind ?_ (fun _ => ?_))
      | exact ih0 _ _ _ _ _ _ _ _ _ _ _ _ _
      | exact ih1 _ _ _ _ _ _ _ _ _ _ _ _
      | exact spec_l30All.mono _ _
      | exact LeO.none _
      | refine LeO.ite ?_ ?_
      | refine LeO.bind ?_ (fun _ => ?_)
theorem spec_PlotTime.mono : ∀ a0 a1 a2 a3 k, LeO (spec_PlotTime.f k a0 a1 a2 a3) (spec_PlotTime.f (k + 1) a0 a1 a2 a3) := by
  intro a0 a1 a2 a3 k
  obtain ⟨ih0, ih1⟩ := spec_PlotTime.mono_l k
  unfold spec_PlotTime.f
  repeat' first
      | (with_reducible exact ih0 _ _ _ _ _ _ _ _ _ _ _ _ _)
      | (with_reducible exact ih1 _ _ _ _ _ _ _ _ _ _ _ _)
      | (with_reducible exact spec_l30All.mono _ _)
      | (with_reducible exact LeO.refl _)
      | (with_reducible exact LeO.none _)
      | (with_reducible refine LeO.ite ?_ ?_)
      | (with_reducible refine LeO.bind ?_ (fun _ => ?_))
      | exact ih0 _ _ _ _ _ _ _ _ _ _ _ _ _
      | exact ih1 _ _ _ _ _ _ _ _ _ _ _ _
      | exact spec_l30All.mono _ _
      | exact LeO.none _
      | refine LeO.ite ?_ ?_
      | refine LeO.bind ?_ (fun _ => ?_)
set_option maxHeartbeats 8000000 in
set_option maxRecDepth 100000 in
theorem spec_PlotTime.calls (k : Nat) (A0 : Option Addr) (c0 : Nat) (l0 : List (S137)) (a1 : Int) (a2 : Int) (a3 : Int) (r1 : Int) (r2 : Int) (w : World) (hr0 : Kd.C k137 w A0 l0.length l0) (hc0 : l0.length ≤ c0) (h : spec_PlotTime.f k l0 a1 a2 a3 = some (r1, r2)) :
    Calls Try.prog 53 #[.slice A0 l0.length c0, .int .i64 a1, .int .i64 a2, .int .i64 a3] w fun e w' => e = .returned (.tuple #[.int .i64 r1, .int .i64 r2]) ∧ Below w.heap.size w w' := by
  have hu153 := Try.underlying153
  have HR0 := Aside0.mk hr0
  have HC0 := Aside0.mk hc0
  clear hr0 hc0
  have HB := Aside0.mk (Below.refl w.heap.size w)
  have H : ((spec_l30All.f k l0).bind fun bt968 => (if bt968.2.2.2.2.2.2.2.2 = 0 then ((spec_l01In.f a1 1 1000000).bind fun t980 => (if t980 = true then ((spec_l01In.f a2 1 1000000).bind fun t981 => (if t981 = true then ((spec_l01In.f a3 0 1000000).bind fun t982 => (spec_PlotTime.j0 k a1 a2 a3 bt968.2.2.2.2.2.2.2.2 (!t982) bt968.1 bt968.2.1 bt968.2.2.1 bt968.2.2.2.1 bt968.2.2.2.2.1 bt968.2.2.2.2.2.1 bt968.2.2.2.2.2.2.1 bt968.2.2.2.2.2.2.2.1)) else (spec_PlotTime.j0 k a1 a2 a3 bt968.2.2.2.2.2.2.2.2 true bt968.1 bt968.2.1 bt968.2.2.1 bt968.2.2.2.1 bt968.2.2.2.2.1 bt968.2.2.2.2.2.1 bt968.2.2.2.2.2.2.1 bt968.2.2.2.2.2.2.2.1))) else (spec_PlotTime.j0 k a1 a2 a3 bt968.2.2.2.2.2.2.2.2 true bt968.1 bt968.2.1 bt968.2.2.1 bt968.2.2.2.1 bt968.2.2.2.2.1 bt968.2.2.2.2.2.1 bt968.2.2.2.2.2.2.1 bt968.2.2.2.2.2.2.2.1))) else (if bt968.2.2.2.2.2.2.2.2 = 5 then ((spec_l01In.f a1 1 1000000).bind fun t983 => (if t983 = true then ((spec_l01In.f a2 1 1000000).bind fun t984 => (if t984 = true then ((spec_l01In.f a3 0 1000000).bind fun t985 => (spec_PlotTime.j0 k a1 a2 a3 bt968.2.2.2.2.2.2.2.2 (!t985) bt968.1 bt968.2.1 bt968.2.2.1 bt968.2.2.2.1 bt968.2.2.2.2.1 bt968.2.2.2.2.2.1 bt968.2.2.2.2.2.2.1 bt968.2.2.2.2.2.2.2.1)) else (spec_PlotTime.j0 k a1 a2 a3 bt968.2.2.2.2.2.2.2.2 true bt968.1 bt968.2.1 bt968.2.2.1 bt968.2.2.2.1 bt968.2.2.2.2.1 bt968.2.2.2.2.2.1 bt968.2.2.2.2.2.2.1 bt968.2.2.2.2.2.2.2.1))) else (spec_PlotTime.j0 k a1 a2 a3 bt968.2.2.2.2.2.2.2.2 true bt968.1 bt968.2.1 bt968.2.2.1 bt968.2.2.2.1 bt968.2.2.2.2.1 bt968.2.2.2.2.2.1 bt968.2.2.2.2.2.2.1 bt968.2.2.2.2.2.2.2.1))) else (spec_PlotTime.j0 k a1 a2 a3 bt968.2.2.2.2.2.2.2.2 false bt968.1 bt968.2.1 bt968.2.2.1 bt968.2.2.2.1 bt968.2.2.2.2.1 bt968.2.2.2.2.2.1 bt968.2.2.2.2.2.2.1 bt968.2.2.2.2.2.2.2.1)))) = some (r1, r2) := h
  clear h
  replace H := Option.bind_eq_some_iff.mp H
  obtain ⟨⟨t968, t969, t970, t971, t972, t975, t976, t977, t978⟩, A50, H⟩ := H
  replace H : (if t978 = 0 then ((spec_l01In.f a1 1 1000000).bind fun t980 => (if t980 = true then ((spec_l01In.f a2 1 1000000).bind fun t981 => (if t981 = true then ((spec_l01In.f a3 0 1000000).bind fun t982 => (spec_PlotTime.j0 k a1 a2 a3 t978 (!t982) t968 t969 t970 t971 t972 t975 t976 t977)) else (spec_PlotTime.j0 k a1 a2 a3 t978 true t968 t969 t970 t971 t972 t975 t976 t977))) else (spec_PlotTime.j0 k a1 a2 a3 t978 true t968 t969 t970 t971 t972 t975 t976 t977))) else (if t978 = 5 then ((spec_l01In.f a1 1 1000000).bind fun t983 => (if t983 = true then ((spec_l01In.f a2 1 1000000).bind fun t984 => (if t984 = true then ((spec_l01In.f a3 0 1000000).bind fun t985 => (spec_PlotTime.j0 k a1 a2 a3 t978 (!t985) t968 t969 t970 t971 t972 t975 t976 t977)) else (spec_PlotTime.j0 k a1 a2 a3 t978 true t968 t969 t970 t971 t972 t975 t976 t977))) else (spec_PlotTime.j0 k a1 a2 a3 t978 true t968 t969 t970 t971 t972 t975 t976 t977))) else (spec_PlotTime.j0 k a1 a2 a3 t978 false t968 t969 t970 t971 t972 t975 t976 t977))) = some (r1, r2) := H
  have A5 := Aside0.mk A50
  clear A50
  have HC6 := Aside0.mk H
  clear H
  go_enter Try.func53, Try.ntmps53
  go_upto_region 2 with (first | (go_at_call 111; (with_reducible refine (spec_l30All.calls k _ _ l0 t968 t969 t970 t971 t972 t975 t976 t977 t978 _ ?side1 ?side2 A5.out).mono ?_); (case side1 => repeat (first | exact HR0.out | (with_reducible refine Kd.C_alloc ?_ _) | (with_reducible refine Kd.C_drewN ?_ _) | (with_reducible refine Kd.C_drew ?_))); (case side2 => exact HC0.out); rintro e w7 ⟨v973, rfl, ho0, hb⟩; have n0_ := Aside0.mk (Kd.N_lower (Kd.N_mono (ok' := fun k_ => True) ho0 (fun k_ hk_ => trivial)) (below_size (by repeat (first | (with_reducible first | exact HB.out | apply below_alloc | apply pw_below_drewN | apply below_drew1) | exact HB.out)))); have n1_ := Aside0.mk (below_step (by repeat (first | (with_reducible first | exact HB.out | apply below_alloc | apply pw_below_drewN | apply below_drew1) | exact HB.out)) hb); clear HB; have HO974 := n0_; have HB := n1_; clear n0_ n1_; (try clear hb); (try clear hb2); (try clear hk); (try clear hi); (try clear ho0)) | ((with_reducible refine gate_dst (N := 10) rfl ?_); refine box_event ?hg (N := 10) ?hd (cs := #[.int .i64 0, .int .i64 0, .int .i64 0, .bool false, .slice none 0 0, .int .i64 0, .int .i64 0, .int .i64 0]) (t := 153) ?hr ?_; (case hd => rfl); (case hg => rfl); (case hr => first | (go_simp; done) | (go_simp; rfl)); intro gb979 hg w8 hbox hb; have n0_ := Aside0.mk (Kd.N_below (Kd.N_elderB (by (with_reducible repeat (first | apply Kd.N_alloc | apply Kd.N_drewN | apply Kd.N_drew)); exact HO974.out) gb979 (Nat.le_of_eq hg.symm)) hb); have n1_ := Aside0.mk (below_step (by repeat (first | (with_reducible first | exact HB.out | apply below_alloc | apply pw_below_drewN | apply below_drew1) | exact HB.out)) hb); have n2_ := Aside0.mk (hbox); have n3_ := Aside0.mk ((by rw [hg]; exact (below_size (by repeat (first | (with_reducible first | exact HB.out | apply below_alloc | apply pw_below_drewN | apply below_drew1) | exact HB.out))) : w.heap.size ≤ gb979)); have n4_ := Aside0.mk ((by rw [hg]; exact (below_size (by repeat (first | (with_reducible first | exact HB.out | apply below_alloc | apply pw_below_drewN | apply below_drew1) | exact HB.out))) : w.heap.size ≤ gb979)); clear HO974; clear HB; have HO974 := n0_; have HB := n1_; have BK979 := n2_; have GW979 := n3_; have GE979 := n4_; clear n0_ n1_ n2_ n3_ n4_; clear hb hbox hg; have hcz9_0 : w8.cell? ⟨gb979, 0, none⟩ = some (.int .i64 0) := (blk_cell BK979.out 0).trans rfl; have hcz9_1 : w8.cell? ⟨gb979, 1, none⟩ = some (.int .i64 0) := (blk_cell BK979.out 1).trans rfl; have hcz9_2 : w8.cell? ⟨gb979, 2, none⟩ = some (.int .i64 0) := (blk_cell BK979.out 2).trans rfl; have hcz9_3 : w8.cell? ⟨gb979, 3, none⟩ = some (.bool false) := (blk_cell BK979.out 3).trans rfl; have hcz9_4 : w8.cell? ⟨gb979, 4, none⟩ = some (.slice none 0 0) := (blk_cell BK979.out 4).trans rfl; have hcz9_5 : w8.cell? ⟨gb979, 5, none⟩ = some (.int .i64 0) := (blk_cell BK979.out 5).trans rfl; have hcz9_6 : w8.cell? ⟨gb979, 6, none⟩ = some (.int .i64 0) := (blk_cell BK979.out 6).trans rfl; have hcz9_7 : w8.cell? ⟨gb979, 7, none⟩ = some (.int .i64 0) := (blk_cell BK979.out 7).trans rfl; have hfz9_0 := blk_frozen BK979.out 0; have hfz9_1 := blk_frozen BK979.out 1; have hfz9_2 := blk_frozen BK979.out 2; have hfz9_3 := blk_frozen BK979.out 3; have hfz9_4 := blk_frozen BK979.out 4; have hfz9_5 := blk_frozen BK979.out 5; have hfz9_6 := blk_frozen BK979.out 6; have hfz9_7 := blk_frozen BK979.out 7; obtain ⟨Ao10, co10, eo10⟩ := Kd.N_slice HO974.out; subst eo10))
  repeat (go_quiet (first | (go_at_call 111; (with_reducible refine (spec_l30All.calls k _ _ l0 t968 t969 t970 t971 t972 t975 t976 t977 t978 _ ?side1 ?side2 A5.out).mono ?_); (case side1 => repeat (first | exact HR0.out | (with_reducible refine Kd.C_alloc ?_ _) | (with_reducible refine Kd.C_drewN ?_ _) | (with_reducible refine Kd.C_drew ?_))); (case side2 => exact HC0.out); rintro e w7 ⟨v973, rfl, ho0, hb⟩; have n0_ := Aside0.mk (Kd.N_lower (Kd.N_mono (ok' := fun k_ => True) ho0 (fun k_ hk_ => trivial)) (below_size (by repeat (first | (with_reducible first | exact HB.out | apply below_alloc | apply pw_below_drewN | apply below_drew1) | exact HB.out)))); have n1_ := Aside0.mk (below_step (by repeat (first | (with_reducible first | exact HB.out | apply below_alloc | apply pw_below_drewN | apply below_drew1) | exact HB.out)) hb); clear HB; have HO974 := n0_; have HB := n1_; clear n0_ n1_; (try clear hb); (try clear hb2); (try clear hk); (try clear hi); (try clear ho0)) | ((with_reducible refine gate_dst (N := 10) rfl ?_); refine box_event ?hg (N := 10) ?hd (cs := #[.int .i64 0, .int .i64 0, .int .i64 0, .bool false, .slice none 0 0, .int .i64 0, .int .i64 0, .int .i64 0]) (t := 153) ?hr ?_; (case hd => rfl); (case hg => rfl); (case hr => first | (go_simp; done) | (go_simp; rfl)); intro gb979 hg w8 hbox hb; have n0_ := Aside0.mk (Kd.N_below (Kd.N_elderB (by (with_reducible repeat (first | apply Kd.N_alloc | apply Kd.N_drewN | apply Kd.N_drew)); exact HO974.out) gb979 (Nat.le_of_eq hg.symm)) hb); have n1_ := Aside0.mk (below_step (by repeat (first | (with_reducible first | exact HB.out | apply below_alloc | apply pw_below_drewN | apply below_drew1) | exact HB.out)) hb); have n2_ := Aside0.mk (hbox); have n3_ := Aside0.mk ((by rw [hg]; exact (below_size (by repeat (first | (with_reducible first | exact HB.out | apply below_alloc | apply pw_below_drewN | apply below_drew1) | exact HB.out))) : w.heap.size ≤ gb979)); have n4_ := Aside0.mk ((by rw [hg]; exact (below_size (by repeat (first | (with_reducible first | exact HB.out | apply below_alloc | apply pw_below_drewN | apply below_drew1) | exact HB.out))) : w.heap.size ≤ gb979)); clear HO974; clear HB; have HO974 := n0_; have HB := n1_; have BK979 := n2_; have GW979 := n3_; have GE979 := n4_; clear n0_ n1_ n2_ n3_ n4_; clear hb hbox hg; have hcz9_0 : w8.cell? ⟨gb979, 0, none⟩ = some (.int .i64 0) := (blk_cell BK979.out 0).trans rfl; have hcz9_1 : w8.cell? ⟨gb979, 1, none⟩ = some (.int .i64 0) := (blk_cell BK979.out 1).trans rfl; have hcz9_2 : w8.cell? ⟨gb979, 2, none⟩ = some (.int .i64 0) := (blk_cell BK979.out 2).trans rfl; have hcz9_3 : w8.cell? ⟨gb979, 3, none⟩ = some (.bool false) := (blk_cell BK979.out 3).trans rfl; have hcz9_4 : w8.cell? ⟨gb979, 4, none⟩ = some (.slice none 0 0) := (blk_cell BK979.out 4).trans rfl; have hcz9_5 : w8.cell? ⟨gb979, 5, none⟩ = some (.int .i64 0) := (blk_cell BK979.out 5).trans rfl; have hcz9_6 : w8.cell? ⟨gb979, 6, none⟩ = some (.int .i64 0) := (blk_cell BK979.out 6).trans rfl; have hcz9_7 : w8.cell? ⟨gb979, 7, none⟩ = some (.int .i64 0) := (blk_cell BK979.out 7).trans rfl; have hfz9_0 := blk_frozen BK979.out 0; have hfz9_1 := blk_frozen BK979.out 1; have hfz9_2 := blk_frozen BK979.out 2; have hfz9_3 := blk_frozen BK979.out 3; have hfz9_4 := blk_frozen BK979.out 4; have hfz9_5 := blk_frozen BK979.out 5; have hfz9_6 := blk_frozen BK979.out 6; have hfz9_7 := blk_frozen BK979.out 7; obtain ⟨Ao10, co10, eo10⟩ := Kd.N_slice HO974.out; subst eo10)); go_upto_region 2 with (first | (go_at_call 111; (with_reducible refine (spec_l30All.calls k _ _ l0 t968 t969 t970 t971 t972 t975 t976 t977 t978 _ ?side1 ?side2 A5.out).mono ?_); (case side1 => repeat (first | exact HR0.out | (with_reducible refine Kd.C_alloc ?_ _) | (with_reducible refine Kd.C_drewN ?_ _) | (with_reducible refine Kd.C_drew ?_))); (case side2 => exact HC0.out); rintro e w7 ⟨v973, rfl, ho0, hb⟩; have n0_ := Aside0.mk (Kd.N_lower (Kd.N_mono (ok' := fun k_ => True) ho0 (fun k_ hk_ => trivial)) (below_size (by repeat (first | (with_reducible first | exact HB.out | apply below_alloc | apply pw_below_drewN | apply below_drew1) | exact HB.out)))); have n1_ := Aside0.mk (below_step (by repeat (first | (with_reducible first | exact HB.out | apply below_alloc | apply pw_below_drewN | apply below_drew1) | exact HB.out)) hb); clear HB; have HO974 := n0_; have HB := n1_; clear n0_ n1_; (try clear hb); (try clear hb2); (try clear hk); (try clear hi); (try clear ho0)) | ((with_reducible refine gate_dst (N := 10) rfl ?_); refine box_event ?hg (N := 10) ?hd (cs := #[.int .i64 0, .int .i64 0, .int .i64 0, .bool false, .slice none 0 0, .int .i64 0, .int .i64 0, .int .i64 0]) (t := 153) ?hr ?_; (case hd => rfl); (case hg => rfl); (case hr => first | (go_simp; done) | (go_simp; rfl)); intro gb979 hg w8 hbox hb; have n0_ := Aside0.mk (Kd.N_below (Kd.N_elderB (by (with_reducible repeat (first | apply Kd.N_alloc | apply Kd.N_drewN | apply Kd.N_drew)); exact HO974.out) gb979 (Nat.le_of_eq hg.symm)) hb); have n1_ := Aside0.mk (below_step (by repeat (first | (with_reducible first | exact HB.out | apply below_alloc | apply pw_below_drewN | apply below_drew1) | exact HB.out)) hb); have n2_ := Aside0.mk (hbox); have n3_ := Aside0.mk ((by rw [hg]; exact (below_size (by repeat (first | (with_reducible first | exact HB.out | apply below_alloc | apply pw_below_drewN | apply below_drew1) | exact HB.out))) : w.heap.size ≤ gb979)); have n4_ := Aside0.mk ((by rw [hg]; exact (below_size (by repeat (first | (with_reducible first | exact HB.out | apply below_alloc | apply pw_below_drewN | apply below_drew1) | exact HB.out))) : w.heap.size ≤ gb979)); clear HO974; clear HB; have HO974 := n0_; have HB := n1_; have BK979 := n2_; have GW979 := n3_; have GE979 := n4_; clear n0_ n1_ n2_ n3_ n4_; clear hb hbox hg; have hcz9_0 : w8.cell? ⟨gb979, 0, none⟩ = some (.int .i64 0) := (blk_cell BK979.out 0).trans rfl; have hcz9_1 : w8.cell? ⟨gb979, 1, none⟩ = some (.int .i64 0) := (blk_cell BK979.out 1).trans rfl; have hcz9_2 : w8.cell? ⟨gb979, 2, none⟩ = some (.int .i64 0) := (blk_cell BK979.out 2).trans rfl; have hcz9_3 : w8.cell? ⟨gb979, 3, none⟩ = some (.bool false) := (blk_cell BK979.out 3).trans rfl; have hcz9_4 : w8.cell? ⟨gb979, 4, none⟩ = some (.slice none 0 0) := (blk_cell BK979.out 4).trans rfl; have hcz9_5 : w8.cell? ⟨gb979, 5, none⟩ = some (.int .i64 0) := (blk_cell BK979.out 5).trans rfl; have hcz9_6 : w8.cell? ⟨gb979, 6, none⟩ = some (.int .i64 0) := (blk_cell BK979.out 6).trans rfl; have hcz9_7 : w8.cell? ⟨gb979, 7, none⟩ = some (.int .i64 0) := (blk_cell BK979.out 7).trans rfl; have hfz9_0 := blk_frozen BK979.out 0; have hfz9_1 := blk_frozen BK979.out 1; have hfz9_2 := blk_frozen BK979.out 2; have hfz9_3 := blk_frozen BK979.out 3; have hfz9_4 := blk_frozen BK979.out 4; have hfz9_5 := blk_frozen BK979.out 5; have hfz9_6 := blk_frozen BK979.out 6; have hfz9_7 := blk_frozen BK979.out 7; obtain ⟨Ao10, co10, eo10⟩ := Kd.N_slice HO974.out; subst eo10)))
  (try simp only [Act.put, List.setIfInBounds_toArray, List.set_cons_zero, List.set_cons_succ])
  go_cut [37] (fun v37 wc => ∃ (kq : Nat) (x37_5 : Bool), v37 = .bool x37_5 ∧ Aside0 (spec_PlotTime.j0 kq a1 a2 a3 t978 x37_5 t968 t969 t970 t971 t972 t975 t976 t977 = some (r1, r2)) ∧ Aside0 (kq ≤ k) ∧ Aside0 (Kd.N k110 110 wc w.heap.size (fun k_ => k_ ≠ gb979) (.slice Ao10 t972.length co10) t972) ∧ Aside0 (wc.heap[gb979]? = some (.cells #[.int .i64 t968, .int .i64 t969, .int .i64 t970, .bool t971, (.slice Ao10 t972.length co10), .int .i64 t975, .int .i64 t976, .int .i64 t977] 153 (0, 0))) ∧ Aside0 (Below w.heap.size w wc))
  case first =>
    have H := HC6.out
    clear HC6
    by_cases c11 : t978 = 0
    · rw [if_pos c11] at H
      have c11b0 : (t978 == 0) = true := beq_iff_eq.mpr c11
      have c11b1 : (t978 != 0) = false := bne_eq_false_iff_eq.mpr c11
      clear c11
      (first | rw [c11b0] | (simp only [i64_w, i32_w]; rw [c11b0]) | skip)
      replace H := Option.bind_eq_some_iff.mp H
      obtain ⟨t980, A120, H⟩ := H
      replace H : (if t980 = true then ((spec_l01In.f a2 1 1000000).bind fun t981 => (if t981 = true then ((spec_l01In.f a3 0 1000000).bind fun t982 => (spec_PlotTime.j0 k a1 a2 a3 t978 (!t982) t968 t969 t970 t971 t972 t975 t976 t977)) else (spec_PlotTime.j0 k a1 a2 a3 t978 true t968 t969 t970 t971 t972 t975 t976 t977))) else (spec_PlotTime.j0 k a1 a2 a3 t978 true t968 t969 t970 t971 t972 t975 t976 t977)) = some (r1, r2) := H
      have A12 := Aside0.mk A120
      clear A120
      by_cases c13 : t980 = true
      · subst c13
        have H1 : ((spec_l01In.f a2 1 1000000).bind fun t981 => (if t981 = true then ((spec_l01In.f a3 0 1000000).bind fun t982 => (spec_PlotTime.j0 k a1 a2 a3 t978 (!t982) t968 t969 t970 t971 t972 t975 t976 t977)) else (spec_PlotTime.j0 k a1 a2 a3 t978 true t968 t969 t970 t971 t972 t975 t976 t977))) = some (r1, r2) := by rw [if_pos rfl] at H; exact H
        clear H
        have H := H1
        clear H1
        replace H := Option.bind_eq_some_iff.mp H
        obtain ⟨t981, A140, H⟩ := H
        replace H : (if t981 = true then ((spec_l01In.f a3 0 1000000).bind fun t982 => (spec_PlotTime.j0 k a1 a2 a3 t978 (!t982) t968 t969 t970 t971 t972 t975 t976 t977)) else (spec_PlotTime.j0 k a1 a2 a3 t978 true t968 t969 t970 t971 t972 t975 t976 t977)) = some (r1, r2) := H
        have A14 := Aside0.mk A140
        clear A140
        by_cases c15 : t981 = true
        · subst c15
          have H1 : ((spec_l01In.f a3 0 1000000).bind fun t982 => (spec_PlotTime.j0 k a1 a2 a3 t978 (!t982) t968 t969 t970 t971 t972 t975 t976 t977)) = some (r1, r2) := by rw [if_pos rfl] at H; exact H
          clear H
          have H := H1
          clear H1
          replace H := Option.bind_eq_some_iff.mp H
          obtain ⟨t982, A160, H⟩ := H
          replace H : (spec_PlotTime.j0 k a1 a2 a3 t978 (!t982) t968 t969 t970 t971 t972 t975 t976 t977) = some (r1, r2) := H
          have A16 := Aside0.mk A160
          clear A160
          have H' := Aside0.mk H
          clear H
          go_wp2_with (first | (go_at_call 89; (with_reducible refine (spec_l01In.calls a1 1 1000000 true _ A12.out).mono ?_); rintro e w' ⟨rfl, ⟨nd, rfl⟩⟩; (try first | exact ⟨rfl, _, World.drewN_drewN _ _ _⟩ | exact ⟨rfl, _, Eq.trans (World.drewN_drewN _ _ _) (congrArg (World.drewN _) (Nat.add_assoc _ _ _))⟩)) | (go_at_call 89; (with_reducible refine (spec_l01In.calls a2 1 1000000 true _ A14.out).mono ?_); rintro e w' ⟨rfl, ⟨nd, rfl⟩⟩; (try first | exact ⟨rfl, _, World.drewN_drewN _ _ _⟩ | exact ⟨rfl, _, Eq.trans (World.drewN_drewN _ _ _) (congrArg (World.drewN _) (Nat.add_assoc _ _ _))⟩)) | (go_at_call 89; (with_reducible refine (spec_l01In.calls a3 0 1000000 t982 _ A16.out).mono ?_); rintro e w' ⟨rfl, ⟨nd, rfl⟩⟩; (try first | exact ⟨rfl, _, World.drewN_drewN _ _ _⟩ | exact ⟨rfl, _, Eq.trans (World.drewN_drewN _ _ _) (congrArg (World.drewN _) (Nat.add_assoc _ _ _))⟩)))
          repeat (go_quiet (first | (go_at_call 89; (with_reducible refine (spec_l01In.calls a1 1 1000000 true _ A12.out).mono ?_); rintro e w' ⟨rfl, ⟨nd, rfl⟩⟩; (try first | exact ⟨rfl, _, World.drewN_drewN _ _ _⟩ | exact ⟨rfl, _, Eq.trans (World.drewN_drewN _ _ _) (congrArg (World.drewN _) (Nat.add_assoc _ _ _))⟩)) | (go_at_call 89; (with_reducible refine (spec_l01In.calls a2 1 1000000 true _ A14.out).mono ?_); rintro e w' ⟨rfl, ⟨nd, rfl⟩⟩; (try first | exact ⟨rfl, _, World.drewN_drewN _ _ _⟩ | exact ⟨rfl, _, Eq.trans (World.drewN_drewN _ _ _) (congrArg (World.drewN _) (Nat.add_assoc _ _ _))⟩)) | (go_at_call 89; (with_reducible refine (spec_l01In.calls a3 0 1000000 t982 _ A16.out).mono ?_); rintro e w' ⟨rfl, ⟨nd, rfl⟩⟩; (try first | exact ⟨rfl, _, World.drewN_drewN _ _ _⟩ | exact ⟨rfl, _, Eq.trans (World.drewN_drewN _ _ _) (congrArg (World.drewN _) (Nat.add_assoc _ _ _))⟩))); try go_wp2_with (first | (go_at_call 89; (with_reducible refine (spec_l01In.calls a1 1 1000000 true _ A12.out).mono ?_); rintro e w' ⟨rfl, ⟨nd, rfl⟩⟩; (try first | exact ⟨rfl, _, World.drewN_drewN _ _ _⟩ | exact ⟨rfl, _, Eq.trans (World.drewN_drewN _ _ _) (congrArg (World.drewN _) (Nat.add_assoc _ _ _))⟩)) | (go_at_call 89; (with_reducible refine (spec_l01In.calls a2 1 1000000 true _ A14.out).mono ?_); rintro e w' ⟨rfl, ⟨nd, rfl⟩⟩; (try first | exact ⟨rfl, _, World.drewN_drewN _ _ _⟩ | exact ⟨rfl, _, Eq.trans (World.drewN_drewN _ _ _) (congrArg (World.drewN _) (Nat.add_assoc _ _ _))⟩)) | (go_at_call 89; (with_reducible refine (spec_l01In.calls a3 0 1000000 t982 _ A16.out).mono ?_); rintro e w' ⟨rfl, ⟨nd, rfl⟩⟩; (try first | exact ⟨rfl, _, World.drewN_drewN _ _ _⟩ | exact ⟨rfl, _, Eq.trans (World.drewN_drewN _ _ _) (congrArg (World.drewN _) (Nat.add_assoc _ _ _))⟩))))
          go_meet
          case rel => exact ⟨_, (!t982), (by first | rfl | (simp; done) | (simp [*]; done)), H', ⟨by first | omega | exact Nat.le_refl _⟩, ⟨by (with_reducible repeat (first | apply Kd.N_alloc | apply Kd.N_drewN | apply Kd.N_drew)); exact Kd.N_mono (Kd.N_far (p := ⟨gb979, 7, none⟩) (Kd.N_far (p := ⟨gb979, 6, none⟩) (Kd.N_far (p := ⟨gb979, 5, none⟩) (Kd.N_far (p := ⟨gb979, 4, none⟩) (Kd.N_far (p := ⟨gb979, 3, none⟩) (Kd.N_far (p := ⟨gb979, 2, none⟩) (Kd.N_far (p := ⟨gb979, 1, none⟩) (Kd.N_far (p := ⟨gb979, 0, none⟩) (Kd.N_mono HO974.out (fun k_ hk => (⟨hk, hk.2⟩ : _ ∧ k_ ≠ gb979))) (fun _ hk => hk.2) (.int .i64 t968)) (fun _ hk => hk.2) (.int .i64 t969)) (fun _ hk => hk.2) (.int .i64 t970)) (fun _ hk => hk.2) (.bool t971)) (fun _ hk => hk.2) (.slice Ao10 t972.length co10)) (fun _ hk => hk.2) (.int .i64 t975)) (fun _ hk => hk.2) (.int .i64 t976)) (fun _ hk => hk.2) (.int .i64 t977)) (fun _ hk => hk.1.2)⟩, ⟨by (with_reducible repeat (first | refine blk_drewN ?_ _ | refine blk_drew ?_ | refine blk_alloc ?_ _)); refine blk_put (cs := #[.int .i64 t968, .int .i64 t969, .int .i64 t970, .bool t971, .slice Ao10 t972.length co10, .int .i64 t975, .int .i64 t976, .int .i64 0]) ?_ 7 _ rfl; (with_reducible repeat (first | refine blk_drewN ?_ _ | refine blk_drew ?_ | refine blk_alloc ?_ _)); refine blk_put (cs := #[.int .i64 t968, .int .i64 t969, .int .i64 t970, .bool t971, .slice Ao10 t972.length co10, .int .i64 t975, .int .i64 0, .int .i64 0]) ?_ 6 _ rfl; (with_reducible repeat (first | refine blk_drewN ?_ _ | refine blk_drew ?_ | refine blk_alloc ?_ _)); refine blk_put (cs := #[.int .i64 t968, .int .i64 t969, .int .i64 t970, .bool t971, .slice Ao10 t972.length co10, .int .i64 0, .int .i64 0, .int .i64 0]) ?_ 5 _ rfl; (with_reducible repeat (first | refine blk_drewN ?_ _ | refine blk_drew ?_ | refine blk_alloc ?_ _)); refine blk_put (cs := #[.int .i64 t968, .int .i64 t969, .int .i64 t970, .bool t971, .slice none 0 0, .int .i64 0, .int .i64 0, .int .i64 0]) ?_ 4 _ rfl; (with_reducible repeat (first | refine blk_drewN ?_ _ | refine blk_drew ?_ | refine blk_alloc ?_ _)); refine blk_put (cs := #[.int .i64 t968, .int .i64 t969, .int .i64 t970, .bool false, .slice none 0 0, .int .i64 0, .int .i64 0, .int .i64 0]) ?_ 3 _ rfl; (with_reducible repeat (first | refine blk_drewN ?_ _ | refine blk_drew ?_ | refine blk_alloc ?_ _)); refine blk_put (cs := #[.int .i64 t968, .int .i64 t969, .int .i64 0, .bool false, .slice none 0 0, .int .i64 0, .int .i64 0, .int .i64 0]) ?_ 2 _ rfl; (with_reducible repeat (first | refine blk_drewN ?_ _ | refine blk_drew ?_ | refine blk_alloc ?_ _)); refine blk_put (cs := #[.int .i64 t968, .int .i64 0, .int .i64 0, .bool false, .slice none 0 0, .int .i64 0, .int .i64 0, .int .i64 0]) ?_ 1 _ rfl; (with_reducible repeat (first | refine blk_drewN ?_ _ | refine blk_drew ?_ | refine blk_alloc ?_ _)); refine blk_put (cs := #[.int .i64 0, .int .i64 0, .int .i64 0, .bool false, .slice none 0 0, .int .i64 0, .int .i64 0, .int .i64 0]) ?_ 0 _ rfl; (with_reducible repeat (first | refine blk_drewN ?_ _ | refine blk_drew ?_ | refine blk_alloc ?_ _)); exact BK979.out⟩, ⟨by repeat (first | (with_reducible first | exact HB.out | apply below_alloc | apply pw_below_drewN | apply below_drew1 | refine below_set ?_ GE979.out) | exact HB.out)⟩⟩
        · replace c15 := Bool.eq_false_iff.mpr c15
          subst c15
          have H1 : (spec_PlotTime.j0 k a1 a2 a3 t978 true t968 t969 t970 t971 t972 t975 t976 t977) = some (r1, r2) := by rw [if_neg (show ¬ (false = true) by decide)] at H; exact H
          clear H
          have H := H1
          clear H1
          have H' := Aside0.mk H
          clear H
          go_wp2_with (first | (go_at_call 89; (with_reducible refine (spec_l01In.calls a1 1 1000000 true _ A12.out).mono ?_); rintro e w' ⟨rfl, ⟨nd, rfl⟩⟩; (try first | exact ⟨rfl, _, World.drewN_drewN _ _ _⟩ | exact ⟨rfl, _, Eq.trans (World.drewN_drewN _ _ _) (congrArg (World.drewN _) (Nat.add_assoc _ _ _))⟩)) | (go_at_call 89; (with_reducible refine (spec_l01In.calls a2 1 1000000 false _ A14.out).mono ?_); rintro e w' ⟨rfl, ⟨nd, rfl⟩⟩; (try first | exact ⟨rfl, _, World.drewN_drewN _ _ _⟩ | exact ⟨rfl, _, Eq.trans (World.drewN_drewN _ _ _) (congrArg (World.drewN _) (Nat.add_assoc _ _ _))⟩)))
          repeat (go_quiet (first | (go_at_call 89; (with_reducible refine (spec_l01In.calls a1 1 1000000 true _ A12.out).mono ?_); rintro e w' ⟨rfl, ⟨nd, rfl⟩⟩; (try first | exact ⟨rfl, _, World.drewN_drewN _ _ _⟩ | exact ⟨rfl, _, Eq.trans (World.drewN_drewN _ _ _) (congrArg (World.drewN _) (Nat.add_assoc _ _ _))⟩)) | (go_at_call 89; (with_reducible refine (spec_l01In.calls a2 1 1000000 false _ A14.out).mono ?_); rintro e w' ⟨rfl, ⟨nd, rfl⟩⟩; (try first | exact ⟨rfl, _, World.drewN_drewN _ _ _⟩ | exact ⟨rfl, _, Eq.trans (World.drewN_drewN _ _ _) (congrArg (World.drewN _) (Nat.add_assoc _ _ _))⟩))); try go_wp2_with (first | (go_at_call 89; (with_reducible refine (spec_l01In.calls a1 1 1000000 true _ A12.out).mono ?_); rintro e w' ⟨rfl, ⟨nd, rfl⟩⟩; (try first | exact ⟨rfl, _, World.drewN_drewN _ _ _⟩ | exact ⟨rfl, _, Eq.trans (World.drewN_drewN _ _ _) (congrArg (World.drewN _) (Nat.add_assoc _ _ _))⟩)) | (go_at_call 89; (with_reducible refine (spec_l01In.calls a2 1 1000000 false _ A14.out).mono ?_); rintro e w' ⟨rfl, ⟨nd, rfl⟩⟩; (try first | exact ⟨rfl, _, World.drewN_drewN _ _ _⟩ | exact ⟨rfl, _, Eq.trans (World.drewN_drewN _ _ _) (congrArg (World.drewN _) (Nat.add_assoc _ _ _))⟩))))
          go_meet
          case rel => exact ⟨_, (true), (by first | rfl | (simp; done) | (simp [*]; done)), H', ⟨by first | omega | exact Nat.le_refl _⟩, ⟨by (with_reducible repeat (first | apply Kd.N_alloc | apply Kd.N_drewN | apply Kd.N_drew)); exact Kd.N_mono (Kd.N_far (p := ⟨gb979, 7, none⟩) (Kd.N_far (p := ⟨gb979, 6, none⟩) (Kd.N_far (p := ⟨gb979, 5, none⟩) (Kd.N_far (p := ⟨gb979, 4, none⟩) (Kd.N_far (p := ⟨gb979, 3, none⟩) (Kd.N_far (p := ⟨gb979, 2, none⟩) (Kd.N_far (p := ⟨gb979, 1, none⟩) (Kd.N_far (p := ⟨gb979, 0, none⟩) (Kd.N_mono HO974.out (fun k_ hk => (⟨hk, hk.2⟩ : _ ∧ k_ ≠ gb979))) (fun _ hk => hk.2) (.int .i64 t968)) (fun _ hk => hk.2) (.int .i64 t969)) (fun _ hk => hk.2) (.int .i64 t970)) (fun _ hk => hk.2) (.bool t971)) (fun _ hk => hk.2) (.slice Ao10 t972.length co10)) (fun _ hk => hk.2) (.int .i64 t975)) (fun _ hk => hk.2) (.int .i64 t976)) (fun _ hk => hk.2) (.int .i64 t977)) (fun _ hk => hk.1.2)⟩, ⟨by (with_reducible repeat (first | refine blk_drewN ?_ _ | refine blk_drew ?_ | refine blk_alloc ?_ _)); refine blk_put (cs := #[.int .i64 t968, .int .i64 t969, .int .i64 t970, .bool t971, .slice Ao10 t972.length co10, .int .i64 t975, .int .i64 t976, .int .i64 0]) ?_ 7 _ rfl; (with_reducible repeat (first | refine blk_drewN ?_ _ | refine blk_drew ?_ | refine blk_alloc ?_ _)); refine blk_put (cs := #[.int .i64 t968, .int .i64 t969, .int .i64 t970, .bool t971, .slice Ao10 t972.length co10, .int .i64 t975, .int .i64 0, .int .i64 0]) ?_ 6 _ rfl; (with_reducible repeat (first | refine blk_drewN ?_ _ | refine blk_drew ?_ | refine blk_alloc ?_ _)); refine blk_put (cs := #[.int .i64 t968, .int .i64 t969, .int .i64 t970, .bool t971, .slice Ao10 t972.length co10, .int .i64 0, .int .i64 0, .int .i64 0]) ?_ 5 _ rfl; (with_reducible repeat (first | refine blk_drewN ?_ _ | refine blk_drew ?_ | refine blk_alloc ?_ _)); refine blk_put (cs := #[.int .i64 t968, .int .i64 t969, .int .i64 t970, .bool t971, .slice none 0 0, .int .i64 0, .int .i64 0, .int .i64 0]) ?_ 4 _ rfl; (with_reducible repeat (first | refine blk_drewN ?_ _ | refine blk_drew ?_ | refine blk_alloc ?_ _)); refine blk_put (cs := #[.int .i64 t968, .int .i64 t969, .int .i64 t970, .bool false, .slice none 0 0, .int .i64 0, .int .i64 0, .int .i64 0]) ?_ 3 _ rfl; (with_reducible repeat (first | refine blk_drewN ?_ _ | refine blk_drew ?_ | refine blk_alloc ?_ _)); refine blk_put (cs := #[.int .i64 t968, .int .i64 t969, .int .i64 0, .bool false, .slice none 0 0, .int .i64 0, .int .i64 0, .int .i64 0]) ?_ 2 _ rfl; (with_reducible repeat (first | refine blk_drewN ?_ _ | refine blk_drew ?_ | refine blk_alloc ?_ _)); refine blk_put (cs := #[.int .i64 t968, .int .i64 0, .int .i64 0, .bool false, .slice none 0 0, .int .i64 0, .int .i64 0, .int .i64 0]) ?_ 1 _ rfl; (with_reducible repeat (first | refine blk_drewN ?_ _ | refine blk_drew ?_ | refine blk_alloc ?_ _)); refine blk_put (cs := #[.int .i64 0, .int .i64 0, .int .i64 0, .bool false, .slice none 0 0, .int .i64 0, .int .i64 0, .int .i64 0]) ?_ 0 _ rfl; (with_reducible repeat (first | refine blk_drewN ?_ _ | refine blk_drew ?_ | refine blk_alloc ?_ _)); exact BK979.out⟩, ⟨by repeat (first | (with_reducible first | exact HB.out | apply below_alloc | apply pw_below_drewN | apply below_drew1 | refine below_set ?_ GE979.out) | exact HB.out)⟩⟩
      · replace c13 := Bool.eq_false_iff.mpr c13
        subst c13
        have H1 : (spec_PlotTime.j0 k a1 a2 a3 t978 true t968 t969 t970 t971 t972 t975 t976 t977) = some (r1, r2) := by rw [if_neg (show ¬ (false = true) by decide)] at H; exact H
        clear H
        have H := H1
        clear H1
        have H' := Aside0.mk H
        clear H
        go_wp2_with (first | (go_at_call 89; (with_reducible refine (spec_l01In.calls a1 1 1000000 false _ A12.out).mono ?_); rintro e w' ⟨rfl, ⟨nd, rfl⟩⟩; (try first | exact ⟨rfl, _, World.drewN_drewN _ _ _⟩ | exact ⟨rfl, _, Eq.trans (World.drewN_drewN _ _ _) (congrArg (World.drewN _) (Nat.add_assoc _ _ _))⟩)))
        repeat (go_quiet (first | (go_at_call 89; (with_reducible refine (spec_l01In.calls a1 1 1000000 false _ A12.out).mono ?_); rintro e w' ⟨rfl, ⟨nd, rfl⟩⟩; (try first | exact ⟨rfl, _, World.drewN_drewN _ _ _⟩ | exact ⟨rfl, _, Eq.trans (World.drewN_drewN _ _ _) (congrArg (World.drewN _) (Nat.add_assoc _ _ _))⟩))); try go_wp2_with (first | (go_at_call 89; (with_reducible refine (spec_l01In.calls a1 1 1000000 false _ A12.out).mono ?_); rintro e w' ⟨rfl, ⟨nd, rfl⟩⟩; (try first | exact ⟨rfl, _, World.drewN_drewN _ _ _⟩ | exact ⟨rfl, _, Eq.trans (World.drewN_drewN _ _ _) (congrArg (World.drewN _) (Nat.add_assoc _ _ _))⟩))))
        go_meet
        case rel => exact ⟨_, (true), (by first | rfl | (simp; done) | (simp [*]; done)), H', ⟨by first | omega | exact Nat.le_refl _⟩, ⟨by (with_reducible repeat (first | apply Kd.N_alloc | apply Kd.N_drewN | apply Kd.N_drew)); exact Kd.N_mono (Kd.N_far (p := ⟨gb979, 7, none⟩) (Kd.N_far (p := ⟨gb979, 6, none⟩) (Kd.N_far (p := ⟨gb979, 5, none⟩) (Kd.N_far (p := ⟨gb979, 4, none⟩) (Kd.N_far (p := ⟨gb979, 3, none⟩) (Kd.N_far (p := ⟨gb979, 2, none⟩) (Kd.N_far (p := ⟨gb979, 1, none⟩) (Kd.N_far (p := ⟨gb979, 0, none⟩) (Kd.N_mono HO974.out (fun k_ hk => (⟨hk, hk.2⟩ : _ ∧ k_ ≠ gb979))) (fun _ hk => hk.2) (.int .i64 t968)) (fun _ hk => hk.2) (.int .i64 t969)) (fun _ hk => hk.2) (.int .i64 t970)) (fun _ hk => hk.2) (.bool t971)) (fun _ hk => hk.2) (.slice Ao10 t972.length co10)) (fun _ hk => hk.2) (.int .i64 t975)) (fun _ hk => hk.2) (.int .i64 t976)) (fun _ hk => hk.2) (.int .i64 t977)) (fun _ hk => hk.1.2)⟩, ⟨by (with_reducible repeat (first | refine blk_drewN ?_ _ | refine blk_drew ?_ | refine blk_alloc ?_ _)); refine blk_put (cs := #[.int .i64 t968, .int .i64 t969, .int .i64 t970, .bool t971, .slice Ao10 t972.length co10, .int .i64 t975, .int .i64 t976, .int .i64 0]) ?_ 7 _ rfl; (with_reducible repeat (first | refine blk_drewN ?_ _ | refine blk_drew ?_ | refine blk_alloc ?_ _)); refine blk_put (cs := #[.int .i64 t968, .int .i64 t969, .int .i64 t970, .bool t971, .slice Ao10 t972.length co10, .int .i64 t975, .int .i64 0, .int .i64 0]) ?_ 6 _ rfl; (with_reducible repeat (first | refine blk_drewN ?_ _ | refine blk_drew ?_ | refine blk_alloc ?_ _)); refine blk_put (cs := #[.int .i64 t968, .int .i64 t969, .int .i64 t970, .bool t971, .slice Ao10 t972.length co10, .int .i64 0, .int .i64 0, .int .i64 0]) ?_ 5 _ rfl; (with_reducible repeat (first | refine blk_drewN ?_ _ | refine blk_drew ?_ | refine blk_alloc ?_ _)); refine blk_put (cs := #[.int .i64 t968, .int .i64 t969, .int .i64 t970, .bool t971, .slice none 0 0, .int .i64 0, .int .i64 0, .int .i64 0]) ?_ 4 _ rfl; (with_reducible repeat (first | refine blk_drewN ?_ _ | refine blk_drew ?_ | refine blk_alloc ?_ _)); refine blk_put (cs := #[.int .i64 t968, .int .i64 t969, .int .i64 t970, .bool false, .slice none 0 0, .int .i64 0, .int .i64 0, .int .i64 0]) ?_ 3 _ rfl; (with_reducible repeat (first | refine blk_drewN ?_ _ | refine blk_drew ?_ | refine blk_alloc ?_ _)); refine blk_put (cs := #[.int .i64 t968, .int .i64 t969, .int .i64 0, .bool false, .slice none 0 0, .int .i64 0, .int .i64 0, .int .i64 0]) ?_ 2 _ rfl; (with_reducible repeat (first | refine blk_drewN ?_ _ | refine blk_drew ?_ | refine blk_alloc ?_ _)); refine blk_put (cs := #[.int .i64 t968, .int .i64 0, .int .i64 0, .bool false, .slice none 0 0, .int .i64 0, .int .i64 0, .int .i64 0]) ?_ 1 _ rfl; (with_reducible repeat (first | refine blk_drewN ?_ _ | refine blk_drew ?_ | refine blk_alloc ?_ _)); refine blk_put (cs := #[.int .i64 0, .int .i64 0, .int .i64 0, .bool false, .slice none 0 0, .int .i64 0, .int .i64 0, .int .i64 0]) ?_ 0 _ rfl; (with_reducible repeat (first | refine blk_drewN ?_ _ | refine blk_drew ?_ | refine blk_alloc ?_ _)); exact BK979.out⟩, ⟨by repeat (first | (with_reducible first | exact HB.out | apply below_alloc | apply pw_below_drewN | apply below_drew1 | refine below_set ?_ GE979.out) | exact HB.out)⟩⟩
    · rw [if_neg c11] at H
      have c11b0 : (t978 == 0) = false := beq_eq_false_iff_ne.mpr c11
      have c11b1 : (t978 != 0) = true := bne_iff_ne.mpr c11
      (first | rw [c11b0] | (simp only [i64_w, i32_w]; rw [c11b0]) | skip)
      by_cases c17 : t978 = 5
      · rw [if_pos c17] at H
        have c17b0 : (t978 == 5) = true := beq_iff_eq.mpr c17
        have c17b1 : (t978 != 5) = false := bne_eq_false_iff_eq.mpr c17
        clear c17
        replace H := Option.bind_eq_some_iff.mp H
        obtain ⟨t983, A180, H⟩ := H
        replace H : (if t983 = true then ((spec_l01In.f a2 1 1000000).bind fun t984 => (if t984 = true then ((spec_l01In.f a3 0 1000000).bind fun t985 => (spec_PlotTime.j0 k a1 a2 a3 t978 (!t985) t968 t969 t970 t971 t972 t975 t976 t977)) else (spec_PlotTime.j0 k a1 a2 a3 t978 true t968 t969 t970 t971 t972 t975 t976 t977))) else (spec_PlotTime.j0 k a1 a2 a3 t978 true t968 t969 t970 t971 t972 t975 t976 t977)) = some (r1, r2) := H
        have A18 := Aside0.mk A180
        clear A180
        by_cases c19 : t983 = true
        · subst c19
          have H1 : ((spec_l01In.f a2 1 1000000).bind fun t984 => (if t984 = true then ((spec_l01In.f a3 0 1000000).bind fun t985 => (spec_PlotTime.j0 k a1 a2 a3 t978 (!t985) t968 t969 t970 t971 t972 t975 t976 t977)) else (spec_PlotTime.j0 k a1 a2 a3 t978 true t968 t969 t970 t971 t972 t975 t976 t977))) = some (r1, r2) := by rw [if_pos rfl] at H; exact H
          clear H
          have H := H1
          clear H1
          replace H := Option.bind_eq_some_iff.mp H
          obtain ⟨t984, A200, H⟩ := H
          replace H : (if t984 = true then ((spec_l01In.f a3 0 1000000).bind fun t985 => (spec_PlotTime.j0 k a1 a2 a3 t978 (!t985) t968 t969 t970 t971 t972 t975 t976 t977)) else (spec_PlotTime.j0 k a1 a2 a3 t978 true t968 t969 t970 t971 t972 t975 t976 t977)) = some (r1, r2) := H
          have A20 := Aside0.mk A200
          clear A200
          by_cases c21 : t984 = true
          · subst c21
            have H1 : ((spec_l01In.f a3 0 1000000).bind fun t985 => (spec_PlotTime.j0 k a1 a2 a3 t978 (!t985) t968 t969 t970 t971 t972 t975 t976 t977)) = some (r1, r2) := by rw [if_pos rfl] at H; exact H
            clear H
            have H := H1
            clear H1
            replace H := Option.bind_eq_some_iff.mp H
            obtain ⟨t985, A220, H⟩ := H
            replace H : (spec_PlotTime.j0 k a1 a2 a3 t978 (!t985) t968 t969 t970 t971 t972 t975 t976 t977) = some (r1, r2) := H
            have A22 := Aside0.mk A220
            clear A220
            have H' := Aside0.mk H
            clear H
            go_wp2_with (first | (go_at_call 89; (with_reducible refine (spec_l01In.calls a1 1 1000000 true _ A18.out).mono ?_); rintro e w' ⟨rfl, ⟨nd, rfl⟩⟩; (try first | exact ⟨rfl, _, World.drewN_drewN _ _ _⟩ | exact ⟨rfl, _, Eq.trans (World.drewN_drewN _ _ _) (congrArg (World.drewN _) (Nat.add_assoc _ _ _))⟩)) | (go_at_call 89; (with_reducible refine (spec_l01In.calls a2 1 1000000 true _ A20.out).mono ?_); rintro e w' ⟨rfl, ⟨nd, rfl⟩⟩; (try first | exact ⟨rfl, _, World.drewN_drewN _ _ _⟩ | exact ⟨rfl, _, Eq.trans (World.drewN_drewN _ _ _) (congrArg (World.drewN _) (Nat.add_assoc _ _ _))⟩)) | (go_at_call 89; (with_reducible refine (spec_l01In.calls a3 0 1000000 t985 _ A22.out).mono ?_); rintro e w' ⟨rfl, ⟨nd, rfl⟩⟩; (try first | exact ⟨rfl, _, World.drewN_drewN _ _ _⟩ | exact ⟨rfl, _, Eq.trans (World.drewN_drewN _ _ _) (congrArg (World.drewN _) (Nat.add_assoc _ _ _))⟩)))
            repeat (go_quiet (first | (go_at_call 89; (with_reducible refine (spec_l01In.calls a1 1 1000000 true _ A18.out).mono ?_); rintro e w' ⟨rfl, ⟨nd, rfl⟩⟩; (try first | exact ⟨rfl, _, World.drewN_drewN _ _ _⟩ | exact ⟨rfl, _, Eq.trans (World.drewN_drewN _ _ _) (congrArg (World.drewN _) (Nat.add_assoc _ _ _))⟩)) | (go_at_call 89; (with_reducible refine (spec_l01In.calls a2 1 1000000 true _ A20.out).mono ?_); rintro e w' ⟨rfl, ⟨nd, rfl⟩⟩; (try first | exact ⟨rfl, _, World.drewN_drewN _ _ _⟩ | exact ⟨rfl, _, Eq.trans (World.drewN_drewN _ _ _) (congrArg (World.drewN _) (Nat.add_assoc _ _ _))⟩)) | (go_at_call 89; (with_reducible refine (spec_l01In.calls a3 0 1000000 t985 _ A22.out).mono ?_); rintro e w' ⟨rfl, ⟨nd, rfl⟩⟩; (try first | exact ⟨rfl, _, World.drewN_drewN _ _ _⟩ | exact ⟨rfl, _, Eq.trans (World.drewN_drewN _ _ _) (congrArg (World.drewN _) (Nat.add_assoc _ _ _))⟩))); try go_wp2_with (first | (go_at_call 89; (with_reducible refine (spec_l01In.calls a1 1 1000000 true _ A18.out).mono ?_); rintro e w' ⟨rfl, ⟨nd, rfl⟩⟩; (try first | exact ⟨rfl, _, World.drewN_drewN _ _ _⟩ | exact ⟨rfl, _, Eq.trans (World.drewN_drewN _ _ _) (congrArg (World.drewN _) (Nat.add_assoc _ _ _))⟩)) | (go_at_call 89; (with_reducible refine (spec_l01In.calls a2 1 1000000 true _ A20.out).mono ?_); rintro e w' ⟨rfl, ⟨nd, rfl⟩⟩; (try first | exact ⟨rfl, _, World.drewN_drewN _ _ _⟩ | exact ⟨rfl, _, Eq.trans (World.drewN_drewN _ _ _) (congrArg (World.drewN _) (Nat.add_assoc _ _ _))⟩)) | (go_at_call 89; (with_reducible refine (spec_l01In.calls a3 0 1000000 t985 _ A22.out).mono ?_); rintro e w' ⟨rfl, ⟨nd, rfl⟩⟩; (try first | exact ⟨rfl, _, World.drewN_drewN _ _ _⟩ | exact ⟨rfl, _, Eq.trans (World.drewN_drewN _ _ _) (congrArg (World.drewN _) (Nat.add_assoc _ _ _))⟩))))
            go_meet
            case rel => exact ⟨_, (!t985), (by first | rfl | (simp; done) | (simp [*]; done)), H', ⟨by first | omega | exact Nat.le_refl _⟩, ⟨by (with_reducible repeat (first | apply Kd.N_alloc | apply Kd.N_drewN | apply Kd.N_drew)); exact Kd.N_mono (Kd.N_far (p := ⟨gb979, 7, none⟩) (Kd.N_far (p := ⟨gb979, 6, none⟩) (Kd.N_far (p := ⟨gb979, 5, none⟩) (Kd.N_far (p := ⟨gb979, 4, none⟩) (Kd.N_far (p := ⟨gb979, 3, none⟩) (Kd.N_far (p := ⟨gb979, 2, none⟩) (Kd.N_far (p := ⟨gb979, 1, none⟩) (Kd.N_far (p := ⟨gb979, 0, none⟩) (Kd.N_mono HO974.out (fun k_ hk => (⟨hk, hk.2⟩ : _ ∧ k_ ≠ gb979))) (fun _ hk => hk.2) (.int .i64 t968)) (fun _ hk => hk.2) (.int .i64 t969)) (fun _ hk => hk.2) (.int .i64 t970)) (fun _ hk => hk.2) (.bool t971)) (fun _ hk => hk.2) (.slice Ao10 t972.length co10)) (fun _ hk => hk.2) (.int .i64 t975)) (fun _ hk => hk.2) (.int .i64 t976)) (fun _ hk => hk.2) (.int .i64 t977)) (fun _ hk => hk.1.2)⟩, ⟨by (with_reducible repeat (first | refine blk_drewN ?_ _ | refine blk_drew ?_ | refine blk_alloc ?_ _)); refine blk_put (cs := #[.int .i64 t968, .int .i64 t969, .int .i64 t970, .bool t971, .slice Ao10 t972.length co10, .int .i64 t975, .int .i64 t976, .int .i64 0]) ?_ 7 _ rfl; (with_reducible repeat (first | refine blk_drewN ?_ _ | refine blk_drew ?_ | refine blk_alloc ?_ _)); refine blk_put (cs := #[.int .i64 t968, .int .i64 t969, .int .i64 t970, .bool t971, .slice Ao10 t972.length co10, .int .i64 t975, .int .i64 0, .int .i64 0]) ?_ 6 _ rfl; (with_reducible repeat (first | refine blk_drewN ?_ _ | refine blk_drew ?_ | refine blk_alloc ?_ _)); refine blk_put (cs := #[.int .i64 t968, .int .i64 t969, .int .i64 t970, .bool t971, .slice Ao10 t972.length co10, .int .i64 0, .int .i64 0, .int .i64 0]) ?_ 5 _ rfl; (with_reducible repeat (first | refine blk_drewN ?_ _ | refine blk_drew ?_ | refine blk_alloc ?_ _)); refine blk_put (cs := #[.int .i64 t968, .int .i64 t969, .int .i64 t970, .bool t971, .slice none 0 0, .int .i64 0, .int .i64 0, .int .i64 0]) ?_ 4 _ rfl; (with_reducible repeat (first | refine blk_drewN ?_ _ | refine blk_drew ?_ | refine blk_alloc ?_ _)); refine blk_put (cs := #[.int .i64 t968, .int .i64 t969, .int .i64 t970, .bool false, .slice none 0 0, .int .i64 0, .int .i64 0, .int .i64 0]) ?_ 3 _ rfl; (with_reducible repeat (first | refine blk_drewN ?_ _ | refine blk_drew ?_ | refine blk_alloc ?_ _)); refine blk_put (cs := #[.int .i64 t968, .int .i64 t969, .int .i64 0, .bool false, .slice none 0 0, .int .i64 0, .int .i64 0, .int .i64 0]) ?_ 2 _ rfl; (with_reducible repeat (first | refine blk_drewN ?_ _ | refine blk_drew ?_ | refine blk_alloc ?_ _)); refine blk_put (cs := #[.int .i64 t968, .int .i64 0, .int .i64 0, .bool false, .slice none 0 0, .int .i64 0, .int .i64 0, .int .i64 0]) ?_ 1 _ rfl; (with_reducible repeat (first | refine blk_drewN ?_ _ | refine blk_drew ?_ | refine blk_alloc ?_ _)); refine blk_put (cs := #[.int .i64 0, .int .i64 0, .int .i64 0, .bool false, .slice none 0 0, .int .i64 0, .int .i64 0, .int .i64 0]) ?_ 0 _ rfl; (with_reducible repeat (first | refine blk_drewN ?_ _ | refine blk_drew ?_ | refine blk_alloc ?_ _)); exact BK979.out⟩, ⟨by repeat (first | (with_reducible first | exact HB.out | apply below_alloc | apply pw_below_drewN | apply below_drew1 | refine below_set ?_ GE979.out) | exact HB.out)⟩⟩
          · replace c21 := Bool.eq_false_iff.mpr c21
            subst c21
            have H1 : (spec_PlotTime.j0 k a1 a2 a3 t978 true t968 t969 t970 t971 t972 t975 t976 t977) = some (r1, r2) := by rw [if_neg (show ¬ (false = true) by decide)] at H; exact H
            clear H
            have H := H1
            clear H1
            have H' := Aside0.mk H
            clear H
            go_wp2_with (first | (go_at_call 89; (with_reducible refine (spec_l01In.calls a1 1 1000000 true _ A18.out).mono ?_); rintro e w' ⟨rfl, ⟨nd, rfl⟩⟩; (try first | exact ⟨rfl, _, World.drewN_drewN _ _ _⟩ | exact ⟨rfl, _, Eq.trans (World.drewN_drewN _ _ _) (congrArg (World.drewN _) (Nat.add_assoc _ _ _))⟩)) | (go_at_call 89; (with_reducible refine (spec_l01In.calls a2 1 1000000 false _ A20.out).mono ?_); rintro e w' ⟨rfl, ⟨nd, rfl⟩⟩; (try first | exact ⟨rfl, _, World.drewN_drewN _ _ _⟩ | exact ⟨rfl, _, Eq.trans (World.drewN_drewN _ _ _) (congrArg (World.drewN _) (Nat.add_assoc _ _ _))⟩)))
            repeat (go_quiet (first | (go_at_call 89; (with_reducible refine (spec_l01In.calls a1 1 1000000 true _ A18.out).mono ?_); rintro e w' ⟨rfl, ⟨nd, rfl⟩⟩; (try first | exact ⟨rfl, _, World.drewN_drewN _ _ _⟩ | exact ⟨rfl, _, Eq.trans (World.drewN_drewN _ _ _) (congrArg (World.drewN _) (Nat.add_assoc _ _ _))⟩)) | (go_at_call 89; (with_reducible refine (spec_l01In.calls a2 1 1000000 false _ A20.out).mono ?_); rintro e w' ⟨rfl, ⟨nd, rfl⟩⟩; (try first | exact ⟨rfl, _, World.drewN_drewN _ _ _⟩ | exact ⟨rfl, _, Eq.trans (World.drewN_drewN _ _ _) (congrArg (World.drewN _) (Nat.add_assoc _ _ _))⟩))); try go_wp2_with (first | (go_at_call 89; (with_reducible refine (spec_l01In.calls a1 1 1000000 true _ A18.out).mono ?_); rintro e w' ⟨rfl, ⟨nd, rfl⟩⟩; (try first | exact ⟨rfl, _, World.drewN_drewN _ _ _⟩ | exact ⟨rfl, _, Eq.trans (World.drewN_drewN _ _ _) (congrArg (World.drewN _) (Nat.add_assoc _ _ _))⟩)) | (go_at_call 89; (with_reducible refine (spec_l01In.calls a2 1 1000000 false _ A20.out).mono ?_); rintro e w' ⟨rfl, ⟨nd, rfl⟩⟩; (try first | exact ⟨rfl, _, World.drewN_drewN _ _ _⟩ | exact ⟨rfl, _, Eq.trans (World.drewN_drewN _ _ _) (congrArg (World.drewN _) (Nat.add_assoc _ _ _))⟩))))
            go_meet
            case rel => exact ⟨_, (true), (by first | rfl | (simp; done) | (simp [*]; done)), H', ⟨by first | omega | exact Nat.le_refl _⟩, ⟨by (with_reducible repeat (first | apply Kd.N_alloc | apply Kd.N_drewN | apply Kd.N_drew)); exact Kd.N_mono (Kd.N_far (p := ⟨gb979, 7, none⟩) (Kd.N_far (p := ⟨gb979, 6, none⟩) (Kd.N_far (p := ⟨gb979, 5, none⟩) (Kd.N_far (p := ⟨gb979, 4, none⟩) (Kd.N_far (p := ⟨gb979, 3, none⟩) (Kd.N_far (p := ⟨gb979, 2, none⟩) (Kd.N_far (p := ⟨gb979, 1, none⟩) (Kd.N_far (p := ⟨gb979, 0, none⟩) (Kd.N_mono HO974.out (fun k_ hk => (⟨hk, hk.2⟩ : _ ∧ k_ ≠ gb979))) (fun _ hk => hk.2) (.int .i64 t968)) (fun _ hk => hk.2) (.int .i64 t969)) (fun _ hk => hk.2) (.int .i64 t970)) (fun _ hk => hk.2) (.bool t971)) (fun _ hk => hk.2) (.slice Ao10 t972.length co10)) (fun _ hk => hk.2) (.int .i64 t975)) (fun _ hk => hk.2) (.int .i64 t976)) (fun _ hk => hk.2) (.int .i64 t977)) (fun _ hk => hk.1.2)⟩, ⟨by (with_reducible repeat (first | refine blk_drewN ?_ _ | refine blk_drew ?_ | refine blk_alloc ?_ _)); refine blk_put (cs := #[.int .i64 t968, .int .i64 t969, .int .i64 t970, .bool t971, .slice Ao10 t972.length co10, .int .i64 t975, .int .i64 t976, .int .i64 0]) ?_ 7 _ rfl; (with_reducible repeat (first | refine blk_drewN ?_ _ | refine blk_drew ?_ | refine blk_alloc ?_ _)); refine blk_put (cs := #[.int .i64 t968, .int .i64 t969, .int .i64 t970, .bool t971, .slice Ao10 t972.length co10, .int .i64 t975, .int .i64 0, .int .i64 0]) ?_ 6 _ rfl; (with_reducible repeat (first | refine blk_drewN ?_ _ | refine blk_drew ?_ | refine blk_alloc ?_ _)); refine blk_put (cs := #[.int .i64 t968, .int .i64 t969, .int .i64 t970, .bool t971, .slice Ao10 t972.length co10, .int .i64 0, .int .i64 0, .int .i64 0]) ?_ 5 _ rfl; (with_reducible repeat (first | refine blk_drewN ?_ _ | refine blk_drew ?_ | refine blk_alloc ?_ _)); refine blk_put (cs := #[.int .i64 t968, .int .i64 t969, .int .i64 t970, .bool t971, .slice none 0 0, .int .i64 0, .int .i64 0, .int .i64 0]) ?_ 4 _ rfl; (with_reducible repeat (first | refine blk_drewN ?_ _ | refine blk_drew ?_ | refine blk_alloc ?_ _)); refine blk_put (cs := #[.int .i64 t968, .int .i64 t969, .int .i64 t970, .bool false, .slice none 0 0, .int .i64 0, .int .i64 0, .int .i64 0]) ?_ 3 _ rfl; (with_reducible repeat (first | refine blk_drewN ?_ _ | refine blk_drew ?_ | refine blk_alloc ?_ _)); refine blk_put (cs := #[.int .i64 t968, .int .i64 t969, .int .i64 0, .bool false, .slice none 0 0, .int .i64 0, .int .i64 0, .int .i64 0]) ?_ 2 _ rfl; (with_reducible repeat (first | refine blk_drewN ?_ _ | refine blk_drew ?_ | refine blk_alloc ?_ _)); refine blk_put (cs := #[.int .i64 t968, .int .i64 0, .int .i64 0, .bool false, .slice none 0 0, .int .i64 0, .int .i64 0, .int .i64 0]) ?_ 1 _ rfl; (with_reducible repeat (first | refine blk_drewN ?_ _ | refine blk_drew ?_ | refine blk_alloc ?_ _)); refine blk_put (cs := #[.int .i64 0, .int .i64 0, .int .i64 0, .bool false, .slice none 0 0, .int .i64 0, .int .i64 0, .int .i64 0]) ?_ 0 _ rfl; (with_reducible repeat (first | refine blk_drewN ?_ _ | refine blk_drew ?_ | refine blk_alloc ?_ _)); exact BK979.out⟩, ⟨by repeat (first | (with_reducible first | exact HB.out | apply below_alloc | apply pw_below_drewN | apply below_drew1 | refine below_set ?_ GE979.out) | exact HB.out)⟩⟩
        · replace c19 := Bool.eq_false_iff.mpr c19
          subst c19
          have H1 : (spec_PlotTime.j0 k a1 a2 a3 t978 true t968 t969 t970 t971 t972 t975 t976 t977) = some (r1, r2) := by rw [if_neg (show ¬ (false = true) by decide)] at H; exact H
          clear H
          have H := H1
          clear H1
          have H' := Aside0.mk H
          clear H
          go_wp2_with (first | (go_at_call 89; (with_reducible refine (spec_l01In.calls a1 1 1000000 false _ A18.out).mono ?_); rintro e w' ⟨rfl, ⟨nd, rfl⟩⟩; (try first | exact ⟨rfl, _, World.drewN_drewN _ _ _⟩ | exact ⟨rfl, _, Eq.trans (World.drewN_drewN _ _ _) (congrArg (World.drewN _) (Nat.add_assoc _ _ _))⟩)))
          repeat (go_quiet (first | (go_at_call 89; (with_reducible refine (spec_l01In.calls a1 1 1000000 false _ A18.out).mono ?_); rintro e w' ⟨rfl, ⟨nd, rfl⟩⟩; (try first | exact ⟨rfl, _, World.drewN_drewN _ _ _⟩ | exact ⟨rfl, _, Eq.trans (World.drewN_drewN _ _ _) (congrArg (World.drewN _) (Nat.add_assoc _ _ _))⟩))); try go_wp2_with (first | (go_at_call 89; (with_reducible refine (spec_l01In.calls a1 1 1000000 false _ A18.out).mono ?_); rintro e w' ⟨rfl, ⟨nd, rfl⟩⟩; (try first | exact ⟨rfl, _, World.drewN_drewN _ _ _⟩ | exact ⟨rfl, _, Eq.trans (World.drewN_drewN _ _ _) (congrArg (World.drewN _) (Nat.add_assoc _ _ _))⟩))))
          go_meet
          case rel => exact ⟨_, (true), (by first | rfl | (simp; done) | (simp [*]; done)), H', ⟨by first | omega | exact Nat.le_refl _⟩, ⟨by (with_reducible repeat (first | apply Kd.N_alloc | apply Kd.N_drewN | apply Kd.N_drew)); exact Kd.N_mono (Kd.N_far (p := ⟨gb979, 7, none⟩) (Kd.N_far (p := ⟨gb979, 6, none⟩) (Kd.N_far (p := ⟨gb979, 5, none⟩) (Kd.N_far (p := ⟨gb979, 4, none⟩) (Kd.N_far (p := ⟨gb979, 3, none⟩) (Kd.N_far (p := ⟨gb979, 2, none⟩) (Kd.N_far (p := ⟨gb979, 1, none⟩) (Kd.N_far (p := ⟨gb979, 0, none⟩) (Kd.N_mono HO974.out (fun k_ hk => (⟨hk, hk.2⟩ : _ ∧ k_ ≠ gb979))) (fun _ hk => hk.2) (.int .i64 t968)) (fun _ hk => hk.2) (.int .i64 t969)) (fun _ hk => hk.2) (.int .i64 t970)) (fun _ hk => hk.2) (.bool t971)) (fun _ hk => hk.2) (.slice Ao10 t972.length co10)) (fun _ hk => hk.2) (.int .i64 t975)) (fun _ hk => hk.2) (.int .i64 t976)) (fun _ hk => hk.2) (.int .i64 t977)) (fun _ hk => hk.1.2)⟩, ⟨by (with_reducible repeat (first | refine blk_drewN ?_ _ | refine blk_drew ?_ | refine blk_alloc ?_ _)); refine blk_put (cs := #[.int .i64 t968, .int .i64 t969, .int .i64 t970, .bool t971, .slice Ao10 t972.length co10, .int .i64 t975, .int .i64 t976, .int .i64 0]) ?_ 7 _ rfl; (with_reducible repeat (first | refine blk_drewN ?_ _ | refine blk_drew ?_ | refine blk_alloc ?_ _)); refine blk_put (cs := #[.int .i64 t968, .int .i64 t969, .int .i64 t970, .bool t971, .slice Ao10 t972.length co10, .int .i64 t975, .int .i64 0, .int .i64 0]) ?_ 6 _ rfl; (with_reducible repeat (first | refine blk_drewN ?_ _ | refine blk_drew ?_ | refine blk_alloc ?_ _)); refine blk_put (cs := #[.int .i64 t968, .int .i64 t969, .int .i64 t970, .bool t971, .slice Ao10 t972.length co10, .int .i64 0, .int .i64 0, .int .i64 0]) ?_ 5 _ rfl; (with_reducible repeat (first | refine blk_drewN ?_ _ | refine blk_drew ?_ | refine blk_alloc ?_ _)); refine blk_put (cs := #[.int .i64 t968, .int .i64 t969, .int .i64 t970, .bool t971, .slice none 0 0, .int .i64 0, .int .i64 0, .int .i64 0]) ?_ 4 _ rfl; (with_reducible repeat (first | refine blk_drewN ?_ _ | refine blk_drew ?_ | refine blk_alloc ?_ _)); refine blk_put (cs := #[.int .i64 t968, .int .i64 t969, .int .i64 t970, .bool false, .slice none 0 0, .int .i64 0, .int .i64 0, .int .i64 0]) ?_ 3 _ rfl; (with_reducible repeat (first | refine blk_drewN ?_ _ | refine blk_drew ?_ | refine blk_alloc ?_ _)); refine blk_put (cs := #[.int .i64 t968, .int .i64 t969, .int .i64 0, .bool false, .slice none 0 0, .int .i64 0, .int .i64 0, .int .i64 0]) ?_ 2 _ rfl; (with_reducible repeat (first | refine blk_drewN ?_ _ | refine blk_drew ?_ | refine blk_alloc ?_ _)); refine blk_put (cs := #[.int .i64 t968, .int .i64 0, .int .i64 0, .bool false, .slice none 0 0, .int .i64 0, .int .i64 0, .int .i64 0]) ?_ 1 _ rfl; (with_reducible repeat (first | refine blk_drewN ?_ _ | refine blk_drew ?_ | refine blk_alloc ?_ _)); refine blk_put (cs := #[.int .i64 0, .int .i64 0, .int .i64 0, .bool false, .slice none 0 0, .int .i64 0, .int .i64 0, .int .i64 0]) ?_ 0 _ rfl; (with_reducible repeat (first | refine blk_drewN ?_ _ | refine blk_drew ?_ | refine blk_alloc ?_ _)); exact BK979.out⟩, ⟨by repeat (first | (with_reducible first | exact HB.out | apply below_alloc | apply pw_below_drewN | apply below_drew1 | refine below_set ?_ GE979.out) | exact HB.out)⟩⟩
      · rw [if_neg c17] at H
        have c17b0 : (t978 == 5) = false := beq_eq_false_iff_ne.mpr c17
        have c17b1 : (t978 != 5) = true := bne_iff_ne.mpr c17
        have H' := Aside0.mk H
        clear H
        go_wp2
        repeat (go_quiet (fail); try go_wp2)
        go_meet
        case rel => exact ⟨_, (false), (by first | rfl | (simp; done) | (simp [*]; done)), H', ⟨by first | omega | exact Nat.le_refl _⟩, ⟨by (with_reducible repeat (first | apply Kd.N_alloc | apply Kd.N_drewN | apply Kd.N_drew)); exact Kd.N_mono (Kd.N_far (p := ⟨gb979, 7, none⟩) (Kd.N_far (p := ⟨gb979, 6, none⟩) (Kd.N_far (p := ⟨gb979, 5, none⟩) (Kd.N_far (p := ⟨gb979, 4, none⟩) (Kd.N_far (p := ⟨gb979, 3, none⟩) (Kd.N_far (p := ⟨gb979, 2, none⟩) (Kd.N_far (p := ⟨gb979, 1, none⟩) (Kd.N_far (p := ⟨gb979, 0, none⟩) (Kd.N_mono HO974.out (fun k_ hk => (⟨hk, hk.2⟩ : _ ∧ k_ ≠ gb979))) (fun _ hk => hk.2) (.int .i64 t968)) (fun _ hk => hk.2) (.int .i64 t969)) (fun _ hk => hk.2) (.int .i64 t970)) (fun _ hk => hk.2) (.bool t971)) (fun _ hk => hk.2) (.slice Ao10 t972.length co10)) (fun _ hk => hk.2) (.int .i64 t975)) (fun _ hk => hk.2) (.int .i64 t976)) (fun _ hk => hk.2) (.int .i64 t977)) (fun _ hk => hk.1.2)⟩, ⟨by (with_reducible repeat (first | refine blk_drewN ?_ _ | refine blk_drew ?_ | refine blk_alloc ?_ _)); refine blk_put (cs := #[.int .i64 t968, .int .i64 t969, .int .i64 t970, .bool t971, .slice Ao10 t972.length co10, .int .i64 t975, .int .i64 t976, .int .i64 0]) ?_ 7 _ rfl; (with_reducible repeat (first | refine blk_drewN ?_ _ | refine blk_drew ?_ | refine blk_alloc ?_ _)); refine blk_put (cs := #[.int .i64 t968, .int .i64 t969, .int .i64 t970, .bool t971, .slice Ao10 t972.length co10, .int .i64 t975, .int .i64 0, .int .i64 0]) ?_ 6 _ rfl; (with_reducible repeat (first | refine blk_drewN ?_ _ | refine blk_drew ?_ | refine blk_alloc ?_ _)); refine blk_put (cs := #[.int .i64 t968, .int .i64 t969, .int .i64 t970, .bool t971, .slice Ao10 t972.length co10, .int .i64 0, .int .i64 0, .int .i64 0]) ?_ 5 _ rfl; (with_reducible repeat (first | refine blk_drewN ?_ _ | refine blk_drew ?_ | refine blk_alloc ?_ _)); refine blk_put (cs := #[.int .i64 t968, .int .i64 t969, .int .i64 t970, .bool t971, .slice none 0 0, .int .i64 0, .int .i64 0, .int .i64 0]) ?_ 4 _ rfl; (with_reducible repeat (first | refine blk_drewN ?_ _ | refine blk_drew ?_ | refine blk_alloc ?_ _)); refine blk_put (cs := #[.int .i64 t968, .int .i64 t969, .int .i64 t970, .bool false, .slice none 0 0, .int .i64 0, .int .i64 0, .int .i64 0]) ?_ 3 _ rfl; (with_reducible repeat (first | refine blk_drewN ?_ _ | refine blk_drew ?_ | refine blk_alloc ?_ _)); refine blk_put (cs := #[.int .i64 t968, .int .i64 t969, .int .i64 0, .bool false, .slice none 0 0, .int .i64 0, .int .i64 0, .int .i64 0]) ?_ 2 _ rfl; (with_reducible repeat (first | refine blk_drewN ?_ _ | refine blk_drew ?_ | refine blk_alloc ?_ _)); refine blk_put (cs := #[.int .i64 t968, .int .i64 0, .int .i64 0, .bool false, .slice none 0 0, .int .i64 0, .int .i64 0, .int .i64 0]) ?_ 1 _ rfl; (with_reducible repeat (first | refine blk_drewN ?_ _ | refine blk_drew ?_ | refine blk_alloc ?_ _)); refine blk_put (cs := #[.int .i64 0, .int .i64 0, .int .i64 0, .bool false, .slice none 0 0, .int .i64 0, .int .i64 0, .int .i64 0]) ?_ 0 _ rfl; (with_reducible repeat (first | refine blk_drewN ?_ _ | refine blk_drew ?_ | refine blk_alloc ?_ _)); exact BK979.out⟩, ⟨by repeat (first | (with_reducible first | exact HB.out | apply below_alloc | apply pw_below_drewN | apply below_drew1 | refine below_set ?_ GE979.out) | exact HB.out)⟩⟩
  case rest =>
    clear HC6
    try clear c1
    try clear c2
    try clear p2
    try clear c5
    try clear c11
    try clear c11b0
    try clear c11b1
    try clear c13
    try clear c15
    try clear c17
    try clear c17b0
    try clear c17b1
    try clear c19
    try clear c21
    try clear hcz9_0
    try clear hcz9_1
    try clear hcz9_2
    try clear hcz9_3
    try clear hcz9_4
    try clear hcz9_5
    try clear hcz9_6
    try clear hcz9_7
    try clear hfz9_0
    try clear hfz9_1
    try clear hfz9_2
    try clear hfz9_3
    try clear hfz9_4
    try clear hfz9_5
    try clear hfz9_6
    try clear hfz9_7
    obtain ⟨kq, x37_5, rfl, HA, HJ5, HO_980004, BK979, HB⟩ := hcut
    cases kq with
    | zero => exact absurd HA.out (by simp [spec_PlotTime.j0])
    | succ kj5 =>
      have H := HA.out
      clear HA
      simp only [spec_PlotTime.j0] at H
      have HC23 := Aside0.mk H
      clear H
      go_upto_if 37 with (fail)
      repeat (go_quiet (fail); go_upto_if 37 with (fail))
      go_cut [11] (fun v11 wc => ∃ (kq : Nat) (x11_22 : Int), v11 = .int .i64 x11_22 ∧ Aside0 (spec_PlotTime.j1 kq a1 a2 a3 x11_22 t968 t969 t970 t971 t972 t975 t976 t977 = some (r1, r2)) ∧ Aside0 (kq ≤ kj5) ∧ Aside0 (Kd.N k110 110 wc w.heap.size (fun k_ => k_ ≠ gb979) (.slice Ao10 t972.length co10) t972) ∧ Aside0 (wc.heap[gb979]? = some (.cells #[.int .i64 t968, .int .i64 t969, .int .i64 t970, .bool t971, (.slice Ao10 t972.length co10), .int .i64 t975, .int .i64 t976, .int .i64 t977] 153 (0, 0))) ∧ Aside0 (Below w.heap.size w wc))
      case first =>
        have H := HC23.out
        clear HC23
        by_cases c24 : x37_5 = true
        · subst c24
          have H1 : (spec_PlotTime.j1 kj5 a1 a2 a3 2 t968 t969 t970 t971 t972 t975 t976 t977) = some (r1, r2) := by rw [if_pos rfl] at H; exact H
          clear H
          have H := H1
          clear H1
          have H' := Aside0.mk H
          clear H
          go_wp2
          repeat (go_quiet (fail); try go_wp2)
          go_meet
          case rel => exact ⟨_, (2), (by first | rfl | (simp; done) | (simp [*]; done)), H', ⟨by have := HJ5.out; first | omega | exact Nat.le_refl _⟩, ⟨by (with_reducible repeat (first | apply Kd.N_alloc | apply Kd.N_drewN | apply Kd.N_drew)); exact HO_980004.out⟩, ⟨by (with_reducible repeat (first | refine blk_drewN ?_ _ | refine blk_drew ?_ | refine blk_alloc ?_ _)); exact BK979.out⟩, ⟨by repeat (first | (with_reducible first | exact HB.out | apply below_alloc | apply pw_below_drewN | apply below_drew1 | refine below_set ?_ GE979.out) | exact HB.out)⟩⟩
        · replace c24 := Bool.eq_false_iff.mpr c24
          subst c24
          have H1 : (spec_PlotTime.j1 kj5 a1 a2 a3 t978 t968 t969 t970 t971 t972 t975 t976 t977) = some (r1, r2) := by rw [if_neg (show ¬ (false = true) by decide)] at H; exact H
          clear H
          have H := H1
          clear H1
          have H' := Aside0.mk H
          clear H
          go_wp2
          repeat (go_quiet (fail); try go_wp2)
          go_meet
          case rel => exact ⟨_, (t978), (by first | rfl | (simp; done) | (simp [*]; done)), H', ⟨by have := HJ5.out; first | omega | exact Nat.le_refl _⟩, ⟨by (with_reducible repeat (first | apply Kd.N_alloc | apply Kd.N_drewN | apply Kd.N_drew)); exact HO_980004.out⟩, ⟨by (with_reducible repeat (first | refine blk_drewN ?_ _ | refine blk_drew ?_ | refine blk_alloc ?_ _)); exact BK979.out⟩, ⟨by repeat (first | (with_reducible first | exact HB.out | apply below_alloc | apply pw_below_drewN | apply below_drew1 | refine below_set ?_ GE979.out) | exact HB.out)⟩⟩
      case rest =>
        clear HC23
        try clear c1
        try clear c2
        try clear p2
        try clear c5
        try clear c11
        try clear c11b0
        try clear c11b1
        try clear c13
        try clear c15
        try clear c17
        try clear c17b0
        try clear c17b1
        try clear c19
        try clear c21
        try clear c24
        try clear hcz9_0
        try clear hcz9_1
        try clear hcz9_2
        try clear hcz9_3
        try clear hcz9_4
        try clear hcz9_5
        try clear hcz9_6
        try clear hcz9_7
        try clear hfz9_0
        try clear hfz9_1
        try clear hfz9_2
        try clear hfz9_3
        try clear hfz9_4
        try clear hfz9_5
        try clear hfz9_6
        try clear hfz9_7
        try clear p2
        obtain ⟨kq, x11_22, rfl, HA, HJ22, HO_980004, BK979, HB⟩ := hcut
        cases kq with
        | zero => exact absurd HA.out (by simp [spec_PlotTime.j1])
        | succ kj22 =>
          have H := HA.out
          clear HA
          simp only [spec_PlotTime.j1] at H
          by_cases c25 : x11_22 = 0
          · rw [if_pos c25] at H
            have c25b0 : (x11_22 == 0) = true := beq_iff_eq.mpr c25
            have c25b1 : (x11_22 != 0) = false := bne_eq_false_iff_eq.mpr c25
            clear c25
            replace H := Option.bind_eq_some_iff.mp H
            obtain ⟨t986, A260, H⟩ := H
            replace H : ((spec_l01Ceil.f t976 a2).bind fun t987 => (some (wrap64 ((wrap64 (t986 + t987)) + (wrap64 (a3 * t977))), 0))) = some (r1, r2) := H
            have A26 := Aside0.mk A260
            clear A260
            replace H := Option.bind_eq_some_iff.mp H
            obtain ⟨t987, A270, H⟩ := H
            replace H : (some (wrap64 ((wrap64 (t986 + t987)) + (wrap64 (a3 * t977))), 0)) = some (r1, r2) := H
            have A27 := Aside0.mk A270
            clear A270
            simp only [Option.some.injEq, Prod.mk.injEq] at H
            obtain ⟨rfl, rfl⟩ := H
            have hcz28_0 : wc.cell? ⟨gb979, 0, none⟩ = some (.int .i64 t968) := (blk_cell BK979.out 0).trans rfl
            have hcz28_1 : wc.cell? ⟨gb979, 1, none⟩ = some (.int .i64 t969) := (blk_cell BK979.out 1).trans rfl
            have hcz28_2 : wc.cell? ⟨gb979, 2, none⟩ = some (.int .i64 t970) := (blk_cell BK979.out 2).trans rfl
            have hcz28_3 : wc.cell? ⟨gb979, 3, none⟩ = some (.bool t971) := (blk_cell BK979.out 3).trans rfl
            have hcz28_4 : wc.cell? ⟨gb979, 4, none⟩ = some (.slice Ao10 t972.length co10) := (blk_cell BK979.out 4).trans rfl
            have hcz28_5 : wc.cell? ⟨gb979, 5, none⟩ = some (.int .i64 t975) := (blk_cell BK979.out 5).trans rfl
            have hcz28_6 : wc.cell? ⟨gb979, 6, none⟩ = some (.int .i64 t976) := (blk_cell BK979.out 6).trans rfl
            have hcz28_7 : wc.cell? ⟨gb979, 7, none⟩ = some (.int .i64 t977) := (blk_cell BK979.out 7).trans rfl
            have hfz28_0 := blk_frozen BK979.out 0
            have hfz28_1 := blk_frozen BK979.out 1
            have hfz28_2 := blk_frozen BK979.out 2
            have hfz28_3 := blk_frozen BK979.out 3
            have hfz28_4 := blk_frozen BK979.out 4
            have hfz28_5 := blk_frozen BK979.out 5
            have hfz28_6 := blk_frozen BK979.out 6
            have hfz28_7 := blk_frozen BK979.out 7
            go_wp2_with (first | (go_at_call 115; (with_reducible refine (spec_l01Ceil.calls t975 a1 t986 _ A26.out).mono ?_); rintro e w' ⟨rfl, ⟨nd, rfl⟩⟩; (try first | exact ⟨rfl, _, World.drewN_drewN _ _ _⟩ | exact ⟨rfl, _, Eq.trans (World.drewN_drewN _ _ _) (congrArg (World.drewN _) (Nat.add_assoc _ _ _))⟩)) | (go_at_call 115; (with_reducible refine (spec_l01Ceil.calls t976 a2 t987 _ A27.out).mono ?_); rintro e w' ⟨rfl, ⟨nd, rfl⟩⟩; (try first | exact ⟨rfl, _, World.drewN_drewN _ _ _⟩ | exact ⟨rfl, _, Eq.trans (World.drewN_drewN _ _ _) (congrArg (World.drewN _) (Nat.add_assoc _ _ _))⟩)))
            repeat (go_quiet (first | (go_at_call 115; (with_reducible refine (spec_l01Ceil.calls t975 a1 t986 _ A26.out).mono ?_); rintro e w' ⟨rfl, ⟨nd, rfl⟩⟩; (try first | exact ⟨rfl, _, World.drewN_drewN _ _ _⟩ | exact ⟨rfl, _, Eq.trans (World.drewN_drewN _ _ _) (congrArg (World.drewN _) (Nat.add_assoc _ _ _))⟩)) | (go_at_call 115; (with_reducible refine (spec_l01Ceil.calls t976 a2 t987 _ A27.out).mono ?_); rintro e w' ⟨rfl, ⟨nd, rfl⟩⟩; (try first | exact ⟨rfl, _, World.drewN_drewN _ _ _⟩ | exact ⟨rfl, _, Eq.trans (World.drewN_drewN _ _ _) (congrArg (World.drewN _) (Nat.add_assoc _ _ _))⟩))); try go_wp2_with (first | (go_at_call 115; (with_reducible refine (spec_l01Ceil.calls t975 a1 t986 _ A26.out).mono ?_); rintro e w' ⟨rfl, ⟨nd, rfl⟩⟩; (try first | exact ⟨rfl, _, World.drewN_drewN _ _ _⟩ | exact ⟨rfl, _, Eq.trans (World.drewN_drewN _ _ _) (congrArg (World.drewN _) (Nat.add_assoc _ _ _))⟩)) | (go_at_call 115; (with_reducible refine (spec_l01Ceil.calls t976 a2 t987 _ A27.out).mono ?_); rintro e w' ⟨rfl, ⟨nd, rfl⟩⟩; (try first | exact ⟨rfl, _, World.drewN_drewN _ _ _⟩ | exact ⟨rfl, _, Eq.trans (World.drewN_drewN _ _ _) (congrArg (World.drewN _) (Nat.add_assoc _ _ _))⟩))))
            go_ret2
            exact ⟨by first | rfl | (simp [errW_none, errW_some] <;> rfl) | (simp [*, errW_none, errW_some] <;> rfl), by repeat (first | (with_reducible first | exact HB.out | apply below_alloc | apply pw_below_drewN | apply below_drew1 | refine below_set ?_ GE979.out) | exact HB.out)⟩
          · rw [if_neg c25] at H
            have c25b0 : (x11_22 == 0) = false := beq_eq_false_iff_ne.mpr c25
            have c25b1 : (x11_22 != 0) = true := bne_iff_ne.mpr c25
            simp only [Option.some.injEq, Prod.mk.injEq] at H
            obtain ⟨rfl, rfl⟩ := H
            go_wp2
            repeat (go_quiet (fail); try go_wp2)
            go_ret2
            exact ⟨by first | rfl | (simp [errW_none, errW_some] <;> rfl) | (simp [*, errW_none, errW_some] <;> rfl), by repeat (first | (with_reducible first | exact HB.out | apply below_alloc | apply pw_below_drewN | apply below_drew1 | refine below_set ?_ GE979.out) | exact HB.out)⟩

end Go.Proofs.Ytgpdjpololkhbaa.F

namespace Go.Proofs.Ytgpdjpololkhbaa.F
open Go.RowKit Go.Proofs.YtgpdjpololkhbaaW.PrintWords Go.Proofs.YtgpdjpololkhbaaW.PrintLast Go.Proofs.YtgpdjpololkhbaaW.PrintMore
attribute [local go_sem] max2_int min2_int max_two min_two max_three min_three max_four min_four   -- for this text's walks alone
set_option linter.unusedVariables false
set_option linter.unusedSimpArgs false

/-! ### impl_in: function 92 -/
def impl_in.f (a0 : Int) (a1 : Int) (a2 : Int) : Option (Bool) := if a0 ≥ a1 then (some (decide (a0 ≤ a2))) else (some false)
set_option maxHeartbeats 8000000 in
set_option maxRecDepth 100000 in
theorem impl_in.calls (a0 : Int) (a1 : Int) (a2 : Int) (r : Bool) (w : World) (h : impl_in.f a0 a1 a2 = some r) :
    Calls Try.prog 92 #[.int .i64 a0, .int .i64 a1, .int .i64 a2] w fun e w' => e = .returned (.bool r) ∧ Drawn0 w w' := by
  have H : (if a0 ≥ a1 then (some (decide (a0 ≤ a2))) else (some false)) = some r := h
  clear h
  by_cases c4 : a0 ≥ a1
  · rw [if_pos c4] at H
    have c4b0 : decide (a1 ≤ a0) = true := decide_eq_true c4
    clear c4
    obtain rfl := Option.some.inj H
    go_enter Try.func92, Try.ntmps92
    go_wp2
    go_ret
    exact ⟨by first | rfl | (simp; done) | (simp [*]; done), by repeat (first | exact Drawn0.refl _ | apply Drawn0.step)⟩
  · rw [if_neg c4] at H
    have c4b0 : decide (a1 ≤ a0) = false := decide_eq_false c4
    clear c4
    obtain rfl := Option.some.inj H
    go_enter Try.func92, Try.ntmps92
    go_wp2
    go_ret
    exact ⟨by first | rfl | (simp; done) | (simp [*]; done), by repeat (first | exact Drawn0.refl _ | apply Drawn0.step)⟩

end Go.Proofs.Ytgpdjpololkhbaa.F

namespace Go.Proofs.Ytgpdjpololkhbaa.F
open Go.RowKit Go.Proofs.YtgpdjpololkhbaaW.PrintWords Go.Proofs.YtgpdjpololkhbaaW.PrintLast Go.Proofs.YtgpdjpololkhbaaW.PrintMore
attribute [local go_sem] max2_int min2_int max_two min_two max_three min_three max_four min_four   -- for this text's walks alone
set_option linter.unusedVariables false
set_option linter.unusedSimpArgs false

/-! ### impl_isPen: function 146 -/
def impl_isPen.f (a0 : Int) : Option (Bool) := (impl_in.f a0 1 8).bind fun t192 => (some t192)
set_option maxHeartbeats 8000000 in
set_option maxRecDepth 100000 in
theorem impl_isPen.calls (a0 : Int) (r : Bool) (w : World) (h : impl_isPen.f a0 = some r) :
    Calls Try.prog 146 #[.int .i64 a0] w fun e w' => e = .returned (.bool r) ∧ Drawn0 w w' := by
  have H : ((impl_in.f a0 1 8).bind fun t192 => (some t192)) = some r := h
  clear h
  replace H := Option.bind_eq_some_iff.mp H
  obtain ⟨t192, A20, H⟩ := H
  replace H : (some t192) = some r := H
  have A2 := Aside0.mk A20
  clear A20
  obtain rfl := Option.some.inj H
  go_enter Try.func146, Try.ntmps146
  go_wp2_with (first | ((with_reducible refine gate_callee (f := 92) rfl ?_); refine goesL_ (some 4) rfl rfl Try.func92 (by kernel_rfl) rfl #[.int .i64 a0, .int .i64 1, .int .i64 8] rfl (by (try simp only [List.map_toArray, List.map_cons, List.map_nil]); first | done | rfl | (simp only [List.length_drop, List.length_take]; rfl)) ?_; (with_reducible refine (impl_in.calls a0 1 8 t192 _ A2.out).mono ?_); rintro e w' ⟨rfl, ⟨nd, rfl⟩⟩; refine ⟨_, rfl, ?_⟩))
  go_ret
  exact ⟨by first | rfl | (simp; done) | (simp [*]; done), by repeat (first | exact Drawn0.refl _ | apply Drawn0.step)⟩

end Go.Proofs.Ytgpdjpololkhbaa.F

namespace Go.Proofs.Ytgpdjpololkhbaa.F
open Go.RowKit Go.Proofs.YtgpdjpololkhbaaW.PrintWords Go.Proofs.YtgpdjpololkhbaaW.PrintLast Go.Proofs.YtgpdjpololkhbaaW.PrintMore
attribute [local go_sem] max2_int min2_int max_two min_two max_three min_three max_four min_four   -- for this text's walks alone
set_option linter.unusedVariables false
set_option linter.unusedSimpArgs false

/-! ### impl_isSpot: function 99 -/
def impl_isSpot.f (a0 : Int) : Option (Bool) := (impl_in.f a0 (-1000000) 1000000).bind fun t193 => (some t193)
set_option maxHeartbeats 8000000 in
set_option maxRecDepth 100000 in
theorem impl_isSpot.calls (a0 : Int) (r : Bool) (w : World) (h : impl_isSpot.f a0 = some r) :
    Calls Try.prog 99 #[.int .i64 a0] w fun e w' => e = .returned (.bool r) ∧ Drawn0 w w' := by
  have H : ((impl_in.f a0 (-1000000) 1000000).bind fun t193 => (some t193)) = some r := h
  clear h
  replace H := Option.bind_eq_some_iff.mp H
  obtain ⟨t193, A20, H⟩ := H
  replace H : (some t193) = some r := H
  have A2 := Aside0.mk A20
  clear A20
  obtain rfl := Option.some.inj H
  go_enter Try.func99, Try.ntmps99
  go_wp2_with (first | ((with_reducible refine gate_callee (f := 92) rfl ?_); refine goesL_ (some 4) rfl rfl Try.func92 (by kernel_rfl) rfl #[.int .i64 a0, .int .i64 (-1000000), .int .i64 1000000] rfl (by (try simp only [List.map_toArray, List.map_cons, List.map_nil]); first | done | rfl | (simp only [List.length_drop, List.length_take]; rfl)) ?_; (with_reducible refine (impl_in.calls a0 (-1000000) 1000000 t193 _ A2.out).mono ?_); rintro e w' ⟨rfl, ⟨nd, rfl⟩⟩; refine ⟨_, rfl, ?_⟩))
  go_ret
  exact ⟨by first | rfl | (simp; done) | (simp [*]; done), by repeat (first | exact Drawn0.refl _ | apply Drawn0.step)⟩

end Go.Proofs.Ytgpdjpololkhbaa.F

namespace Go.Proofs.Ytgpdjpololkhbaa.F
open Go.RowKit Go.Proofs.YtgpdjpololkhbaaW.PrintWords Go.Proofs.YtgpdjpololkhbaaW.PrintLast Go.Proofs.YtgpdjpololkhbaaW.PrintMore
attribute [local go_sem] max2_int min2_int max_two min_two max_three min_three max_four min_four   -- for this text's walks alone
set_option linter.unusedVariables false
set_option linter.unusedSimpArgs false

/-! ### impl_isCommand: function 178 -/
def impl_isCommand.j0 : Nat → Bool → Int → Int → Int → Option (Bool)
  | 0, _, _, _, _ => none
  | k + 1, x15, x535000, x535001, x535002 => if x15 = true then ((impl_isSpot.f x535001).bind fun t536 => (if t536 = true then ((impl_isSpot.f x535002).bind fun t537 => (some t537)) else (some false))) else (some false)
def impl_isCommand.f (k : Nat) (a0_0 : Int) (a0_1 : Int) (a0_2 : Int) : Option (Bool) := if a0_0 = 80 then ((impl_isPen.f a0_1).bind fun t535 => (if t535 = true then (some (a0_2 == 0)) else (some false))) else (if a0_0 = 85 then (impl_isCommand.j0 k (a0_0 == 85) a0_0 a0_1 a0_2) else (impl_isCommand.j0 k (a0_0 == 68) a0_0 a0_1 a0_2))
theorem impl_isCommand.mono_l : ∀ k, (∀ y0 y1 y2 y3, LeO (impl_isCommand.j0 k y0 y1 y2 y3) (impl_isCommand.j0 (k + 1) y0 y1 y2 y3))
  | 0 => fun _ _ _ _ r h => by simp [impl_isCommand.j0] at h
  | k + 1 => by
    have ih0 := impl_isCommand.mono_l k
    · intro y0 y1 y2 y3
      unfold impl_isCommand.j0
      repeat' first
      | (with_reducible exact ih0 _ _ _ _)
      | (with_reducible exact LeO.refl _)
      | (with_reducible exact LeO.none _)
      | (with_reducible refine LeO.ite ?_ ?_)
      | (with_reducible refine LeO.bind ?_ (fun _ => ?_))
      | exact ih0 _ _ _ _
      | exact LeO.none _
      | refine LeO.ite ?_ ?_
      | refine LeO.bind ?_ (fun _ => ?_)
theorem impl_isCommand.mono : ∀ a0 a1 a2 k, LeO (impl_isCommand.f k a0 a1 a2) (impl_isCommand.f (k + 1) a0 a1 a2) := by
  intro a0 a1 a2 k
  have ih0 := impl_isCommand.mono_l k
  unfold impl_isCommand.f
  repeat' first
      | (with_reducible exact ih0 _ _ _ _)
      | (with_reducible exact LeO.refl _)
      | (with_reducible exact LeO.none _)
      | (with_reducible refine LeO.ite ?_ ?_)
      | (with_reducible refine LeO.bind ?_ (fun _ => ?_))
      | exact ih0 _ _ _ _
      | exact LeO.none _
      | refine LeO.ite ?_ ?_
      | refine LeO.bind ?_ (fun _ => ?_)
set_option maxHeartbeats 8000000 in
set_option maxRecDepth 100000 in
theorem impl_isCommand.calls (k : Nat) (a0_0 : Int) (a0_1 : Int) (a0_2 : Int) (r : Bool) (w : World) (h : impl_isCommand.f k a0_0 a0_1 a0_2 = some r) :
    Calls Try.prog 178 #[.agg #[.int .u8 a0_0, .int .i64 a0_1, .int .i64 a0_2]] w fun e w' => e = .returned (.bool r) ∧ Below w.heap.size w w' := by
  have hu137 := Try.underlying137
  have HB := Aside0.mk (Below.refl w.heap.size w)
  have H : (if a0_0 = 80 then ((impl_isPen.f a0_1).bind fun t535 => (if t535 = true then (some (a0_2 == 0)) else (some false))) else (if a0_0 = 85 then (impl_isCommand.j0 k (a0_0 == 85) a0_0 a0_1 a0_2) else (impl_isCommand.j0 k (a0_0 == 68) a0_0 a0_1 a0_2))) = some r := h
  clear h
  by_cases c2 : a0_0 = 80
  · rw [if_pos c2] at H
    have c2b0 : (a0_0 == 80) = true := beq_iff_eq.mpr c2
    have c2b1 : (a0_0 != 80) = false := bne_eq_false_iff_eq.mpr c2
    clear c2
    replace H := Option.bind_eq_some_iff.mp H
    obtain ⟨t535, A30, H⟩ := H
    replace H : (if t535 = true then (some (a0_2 == 0)) else (some false)) = some r := H
    have A3 := Aside0.mk A30
    clear A30
    by_cases c4 : t535 = true
    · subst c4
      have H1 : (some (a0_2 == 0)) = some r := by rw [if_pos rfl] at H; exact H
      clear H
      have H := H1
      clear H1
      obtain rfl := Option.some.inj H
      go_enter Try.func178, Try.ntmps178
      go_wp2_with (first | ((with_reducible refine gate_dst (N := 1) rfl ?_); refine box_event ?hg (N := 1) ?hd (cs := #[.int .u8 a0_0, .int .i64 a0_1, .int .i64 a0_2]) (t := 137) ?hr ?_; (case hd => rfl); (case hg => rfl); (case hr => first | (go_simp; done) | (go_simp; rfl)); intro gb534 hg w5 hbox hb; have n0_ := Aside0.mk (below_step (by repeat (first | (with_reducible first | exact HB.out | apply below_alloc | apply pw_below_drewN | apply below_drew1) | exact HB.out)) hb); have n1_ := Aside0.mk (hbox); have n2_ := Aside0.mk ((by rw [hg]; exact (below_size (by repeat (first | (with_reducible first | exact HB.out | apply below_alloc | apply pw_below_drewN | apply below_drew1) | exact HB.out))) : w.heap.size ≤ gb534)); have n3_ := Aside0.mk ((by rw [hg]; exact (below_size (by repeat (first | (with_reducible first | exact HB.out | apply below_alloc | apply pw_below_drewN | apply below_drew1) | exact HB.out))) : w.heap.size ≤ gb534)); clear HB; have HB := n0_; have BK534 := n1_; have GW534 := n2_; have GE534 := n3_; clear n0_ n1_ n2_ n3_; clear hb hbox hg; have hcz6_0 : w5.cell? ⟨gb534, 0, none⟩ = some (.int .u8 a0_0) := (blk_cell BK534.out 0).trans rfl; have hcz6_1 : w5.cell? ⟨gb534, 1, none⟩ = some (.int .i64 a0_1) := (blk_cell BK534.out 1).trans rfl; have hcz6_2 : w5.cell? ⟨gb534, 2, none⟩ = some (.int .i64 a0_2) := (blk_cell BK534.out 2).trans rfl; have hfz6_0 := blk_frozen BK534.out 0; have hfz6_1 := blk_frozen BK534.out 1; have hfz6_2 := blk_frozen BK534.out 2) | ((with_reducible refine gate_callee (f := 146) rfl ?_); refine goesL_ (some 9) rfl rfl Try.func146 (by kernel_rfl) rfl #[.int .i64 a0_1] rfl (by (try simp only [List.map_toArray, List.map_cons, List.map_nil]); first | done | rfl | (simp only [List.length_drop, List.length_take]; rfl)) ?_; (with_reducible refine (impl_isPen.calls a0_1 true _ A3.out).mono ?_); rintro e w' ⟨rfl, ⟨nd, rfl⟩⟩; refine ⟨_, rfl, ?_⟩))
      go_ret
      exact ⟨by first | rfl | (simp [errW_none, errW_some] <;> rfl) | (simp [*, errW_none, errW_some] <;> rfl), by repeat (first | (with_reducible first | exact HB.out | apply below_alloc | apply pw_below_drewN | apply below_drew1 | refine below_set ?_ GE534.out) | exact HB.out)⟩
    · replace c4 := Bool.eq_false_iff.mpr c4
      subst c4
      have H1 : (some false) = some r := by rw [if_neg (show ¬ (false = true) by decide)] at H; exact H
      clear H
      have H := H1
      clear H1
      obtain rfl := Option.some.inj H
      go_enter Try.func178, Try.ntmps178
      go_wp2_with (first | ((with_reducible refine gate_dst (N := 1) rfl ?_); refine box_event ?hg (N := 1) ?hd (cs := #[.int .u8 a0_0, .int .i64 a0_1, .int .i64 a0_2]) (t := 137) ?hr ?_; (case hd => rfl); (case hg => rfl); (case hr => first | (go_simp; done) | (go_simp; rfl)); intro gb534 hg w7 hbox hb; have n0_ := Aside0.mk (below_step (by repeat (first | (with_reducible first | exact HB.out | apply below_alloc | apply pw_below_drewN | apply below_drew1) | exact HB.out)) hb); have n1_ := Aside0.mk (hbox); have n2_ := Aside0.mk ((by rw [hg]; exact (below_size (by repeat (first | (with_reducible first | exact HB.out | apply below_alloc | apply pw_below_drewN | apply below_drew1) | exact HB.out))) : w.heap.size ≤ gb534)); have n3_ := Aside0.mk ((by rw [hg]; exact (below_size (by repeat (first | (with_reducible first | exact HB.out | apply below_alloc | apply pw_below_drewN | apply below_drew1) | exact HB.out))) : w.heap.size ≤ gb534)); clear HB; have HB := n0_; have BK534 := n1_; have GW534 := n2_; have GE534 := n3_; clear n0_ n1_ n2_ n3_; clear hb hbox hg; have hcz8_0 : w7.cell? ⟨gb534, 0, none⟩ = some (.int .u8 a0_0) := (blk_cell BK534.out 0).trans rfl; have hcz8_1 : w7.cell? ⟨gb534, 1, none⟩ = some (.int .i64 a0_1) := (blk_cell BK534.out 1).trans rfl; have hcz8_2 : w7.cell? ⟨gb534, 2, none⟩ = some (.int .i64 a0_2) := (blk_cell BK534.out 2).trans rfl; have hfz8_0 := blk_frozen BK534.out 0; have hfz8_1 := blk_frozen BK534.out 1; have hfz8_2 := blk_frozen BK534.out 2) | ((with_reducible refine gate_callee (f := 146) rfl ?_); refine goesL_ (some 9) rfl rfl Try.func146 (by kernel_rfl) rfl #[.int .i64 a0_1] rfl (by (try simp only [List.map_toArray, List.map_cons, List.map_nil]); first | done | rfl | (simp only [List.length_drop, List.length_take]; rfl)) ?_; (with_reducible refine (impl_isPen.calls a0_1 false _ A3.out).mono ?_); rintro e w' ⟨rfl, ⟨nd, rfl⟩⟩; refine ⟨_, rfl, ?_⟩))
      go_ret
      exact ⟨by first | rfl | (simp [errW_none, errW_some] <;> rfl) | (simp [*, errW_none, errW_some] <;> rfl), by repeat (first | (with_reducible first | exact HB.out | apply below_alloc | apply pw_below_drewN | apply below_drew1 | refine below_set ?_ GE534.out) | exact HB.out)⟩
  · rw [if_neg c2] at H
    have c2b0 : (a0_0 == 80) = false := beq_eq_false_iff_ne.mpr c2
    have c2b1 : (a0_0 != 80) = true := bne_iff_ne.mpr c2
    have HC9 := Aside0.mk H
    clear H
    go_enter Try.func178, Try.ntmps178
    go_upto_if 15 with (first | ((with_reducible refine gate_dst (N := 1) rfl ?_); refine box_event ?hg (N := 1) ?hd (cs := #[.int .u8 a0_0, .int .i64 a0_1, .int .i64 a0_2]) (t := 137) ?hr ?_; (case hd => rfl); (case hg => rfl); (case hr => first | (go_simp; done) | (go_simp; rfl)); intro gb534 hg w10 hbox hb; have n0_ := Aside0.mk (below_step (by repeat (first | (with_reducible first | exact HB.out | apply below_alloc | apply pw_below_drewN | apply below_drew1) | exact HB.out)) hb); have n1_ := Aside0.mk (hbox); have n2_ := Aside0.mk ((by rw [hg]; exact (below_size (by repeat (first | (with_reducible first | exact HB.out | apply below_alloc | apply pw_below_drewN | apply below_drew1) | exact HB.out))) : w.heap.size ≤ gb534)); have n3_ := Aside0.mk ((by rw [hg]; exact (below_size (by repeat (first | (with_reducible first | exact HB.out | apply below_alloc | apply pw_below_drewN | apply below_drew1) | exact HB.out))) : w.heap.size ≤ gb534)); clear HB; have HB := n0_; have BK534 := n1_; have GW534 := n2_; have GE534 := n3_; clear n0_ n1_ n2_ n3_; clear hb hbox hg; have hcz11_0 : w10.cell? ⟨gb534, 0, none⟩ = some (.int .u8 a0_0) := (blk_cell BK534.out 0).trans rfl; have hcz11_1 : w10.cell? ⟨gb534, 1, none⟩ = some (.int .i64 a0_1) := (blk_cell BK534.out 1).trans rfl; have hcz11_2 : w10.cell? ⟨gb534, 2, none⟩ = some (.int .i64 a0_2) := (blk_cell BK534.out 2).trans rfl; have hfz11_0 := blk_frozen BK534.out 0; have hfz11_1 := blk_frozen BK534.out 1; have hfz11_2 := blk_frozen BK534.out 2))
    (try simp only [Act.put, List.setIfInBounds_toArray, List.set_cons_zero, List.set_cons_succ])
    go_cut [15] (fun v15 wc => ∃ (kq : Nat) (x15_8 : Bool), v15 = .bool x15_8 ∧ Aside0 (impl_isCommand.j0 kq x15_8 a0_0 a0_1 a0_2 = some r) ∧ Aside0 (kq ≤ k) ∧ Aside0 (wc.heap[gb534]? = some (.cells #[.int .u8 a0_0, .int .i64 a0_1, .int .i64 a0_2] 137 (0, 0))) ∧ Aside0 (Below w.heap.size w wc))
    case first =>
      have H := HC9.out
      clear HC9
      by_cases c12 : a0_0 = 85
      · rw [if_pos c12] at H
        have c12b0 : (a0_0 == 85) = true := beq_iff_eq.mpr c12
        have c12b1 : (a0_0 != 85) = false := bne_eq_false_iff_eq.mpr c12
        clear c12
        (first | rw [c12b0] | (simp only [i64_w, i32_w]; rw [c12b0]) | skip)
        have H' := Aside0.mk H
        clear H
        go_wp2
        go_meet
        case rel => exact ⟨_, ((a0_0 == 85)), (by first | rfl | (simp; done) | (simp [*]; done)), H', ⟨by first | omega | exact Nat.le_refl _⟩, ⟨by (with_reducible repeat (first | refine blk_drewN ?_ _ | refine blk_drew ?_ | refine blk_alloc ?_ _)); exact BK534.out⟩, ⟨by repeat (first | (with_reducible first | exact HB.out | apply below_alloc | apply pw_below_drewN | apply below_drew1 | refine below_set ?_ GE534.out) | exact HB.out)⟩⟩
      · rw [if_neg c12] at H
        have c12b0 : (a0_0 == 85) = false := beq_eq_false_iff_ne.mpr c12
        have c12b1 : (a0_0 != 85) = true := bne_iff_ne.mpr c12
        (first | rw [c12b0] | (simp only [i64_w, i32_w]; rw [c12b0]) | skip)
        have H' := Aside0.mk H
        clear H
        go_wp2
        go_meet
        case rel => exact ⟨_, ((a0_0 == 68)), (by first | rfl | (simp; done) | (simp [*]; done)), H', ⟨by first | omega | exact Nat.le_refl _⟩, ⟨by (with_reducible repeat (first | refine blk_drewN ?_ _ | refine blk_drew ?_ | refine blk_alloc ?_ _)); exact BK534.out⟩, ⟨by repeat (first | (with_reducible first | exact HB.out | apply below_alloc | apply pw_below_drewN | apply below_drew1 | refine below_set ?_ GE534.out) | exact HB.out)⟩⟩
    case rest =>
      clear HC9
      try clear c1
      try clear c2
      try clear c2b0
      try clear c2b1
      try clear p2
      try clear c4
      try clear c12
      try clear c12b0
      try clear c12b1
      try clear hcz11_0
      try clear hcz11_1
      try clear hcz11_2
      try clear hcz6_0
      try clear hcz6_1
      try clear hcz6_2
      try clear hcz8_0
      try clear hcz8_1
      try clear hcz8_2
      try clear hfz11_0
      try clear hfz11_1
      try clear hfz11_2
      try clear hfz6_0
      try clear hfz6_1
      try clear hfz6_2
      try clear hfz8_0
      try clear hfz8_1
      try clear hfz8_2
      obtain ⟨kq, x15_8, rfl, HA, HJ8, BK534, HB⟩ := hcut
      cases kq with
      | zero => exact absurd HA.out (by simp [impl_isCommand.j0])
      | succ kj8 =>
        have H := HA.out
        clear HA
        simp only [impl_isCommand.j0] at H
        by_cases c13 : x15_8 = true
        · subst c13
          have H1 : ((impl_isSpot.f a0_1).bind fun t536 => (if t536 = true then ((impl_isSpot.f a0_2).bind fun t537 => (some t537)) else (some false))) = some r := by rw [if_pos rfl] at H; exact H
          clear H
          have H := H1
          clear H1
          replace H := Option.bind_eq_some_iff.mp H
          obtain ⟨t536, A140, H⟩ := H
          replace H : (if t536 = true then ((impl_isSpot.f a0_2).bind fun t537 => (some t537)) else (some false)) = some r := H
          have A14 := Aside0.mk A140
          clear A140
          by_cases c15 : t536 = true
          · subst c15
            have H1 : ((impl_isSpot.f a0_2).bind fun t537 => (some t537)) = some r := by rw [if_pos rfl] at H; exact H
            clear H
            have H := H1
            clear H1
            replace H := Option.bind_eq_some_iff.mp H
            obtain ⟨t537, A160, H⟩ := H
            replace H : (some t537) = some r := H
            have A16 := Aside0.mk A160
            clear A160
            obtain rfl := Option.some.inj H
            have hcz17_0 : wc.cell? ⟨gb534, 0, none⟩ = some (.int .u8 a0_0) := (blk_cell BK534.out 0).trans rfl
            have hcz17_1 : wc.cell? ⟨gb534, 1, none⟩ = some (.int .i64 a0_1) := (blk_cell BK534.out 1).trans rfl
            have hcz17_2 : wc.cell? ⟨gb534, 2, none⟩ = some (.int .i64 a0_2) := (blk_cell BK534.out 2).trans rfl
            have hfz17_0 := blk_frozen BK534.out 0
            have hfz17_1 := blk_frozen BK534.out 1
            have hfz17_2 := blk_frozen BK534.out 2
            go_wp2_with (first | ((with_reducible refine gate_callee (f := 99) rfl ?_); refine goesL_ (some 20) rfl rfl Try.func99 (by kernel_rfl) rfl #[.int .i64 a0_1] rfl (by (try simp only [List.map_toArray, List.map_cons, List.map_nil]); first | done | rfl | (simp only [List.length_drop, List.length_take]; rfl)) ?_; (with_reducible refine (impl_isSpot.calls a0_1 true _ A14.out).mono ?_); rintro e w' ⟨rfl, ⟨nd, rfl⟩⟩; refine ⟨_, rfl, ?_⟩) | (go_at_call 99; (with_reducible refine (impl_isSpot.calls a0_2 t537 _ A16.out).mono ?_); rintro e w' ⟨rfl, ⟨nd, rfl⟩⟩))
            go_ret
            exact ⟨by first | rfl | (simp [errW_none, errW_some] <;> rfl) | (simp [*, errW_none, errW_some] <;> rfl), by repeat (first | (with_reducible first | exact HB.out | apply below_alloc | apply pw_below_drewN | apply below_drew1 | refine below_set ?_ GE534.out) | exact HB.out)⟩
          · replace c15 := Bool.eq_false_iff.mpr c15
            subst c15
            have H1 : (some false) = some r := by rw [if_neg (show ¬ (false = true) by decide)] at H; exact H
            clear H
            have H := H1
            clear H1
            obtain rfl := Option.some.inj H
            have hcz18_0 : wc.cell? ⟨gb534, 0, none⟩ = some (.int .u8 a0_0) := (blk_cell BK534.out 0).trans rfl
            have hcz18_1 : wc.cell? ⟨gb534, 1, none⟩ = some (.int .i64 a0_1) := (blk_cell BK534.out 1).trans rfl
            have hcz18_2 : wc.cell? ⟨gb534, 2, none⟩ = some (.int .i64 a0_2) := (blk_cell BK534.out 2).trans rfl
            have hfz18_0 := blk_frozen BK534.out 0
            have hfz18_1 := blk_frozen BK534.out 1
            have hfz18_2 := blk_frozen BK534.out 2
            go_wp2_with (first | ((with_reducible refine gate_callee (f := 99) rfl ?_); refine goesL_ (some 20) rfl rfl Try.func99 (by kernel_rfl) rfl #[.int .i64 a0_1] rfl (by (try simp only [List.map_toArray, List.map_cons, List.map_nil]); first | done | rfl | (simp only [List.length_drop, List.length_take]; rfl)) ?_; (with_reducible refine (impl_isSpot.calls a0_1 false _ A14.out).mono ?_); rintro e w' ⟨rfl, ⟨nd, rfl⟩⟩; refine ⟨_, rfl, ?_⟩))
            go_ret
            exact ⟨by first | rfl | (simp [errW_none, errW_some] <;> rfl) | (simp [*, errW_none, errW_some] <;> rfl), by repeat (first | (with_reducible first | exact HB.out | apply below_alloc | apply pw_below_drewN | apply below_drew1 | refine below_set ?_ GE534.out) | exact HB.out)⟩
        · replace c13 := Bool.eq_false_iff.mpr c13
          subst c13
          have H1 : (some false) = some r := by rw [if_neg (show ¬ (false = true) by decide)] at H; exact H
          clear H
          have H := H1
          clear H1
          obtain rfl := Option.some.inj H
          go_wp2
          go_ret
          exact ⟨by first | rfl | (simp [errW_none, errW_some] <;> rfl) | (simp [*, errW_none, errW_some] <;> rfl), by repeat (first | (with_reducible first | exact HB.out | apply below_alloc | apply pw_below_drewN | apply below_drew1 | refine below_set ?_ GE534.out) | exact HB.out)⟩

end Go.Proofs.Ytgpdjpololkhbaa.F

namespace Go.Proofs.Ytgpdjpololkhbaa.F
open Go.RowKit Go.Proofs.YtgpdjpololkhbaaW.PrintWords Go.Proofs.YtgpdjpololkhbaaW.PrintLast Go.Proofs.YtgpdjpololkhbaaW.PrintMore
attribute [local go_sem] max2_int min2_int max_two min_two max_three min_three max_four min_four   -- for this text's walks alone
set_option linter.unusedVariables false
set_option linter.unusedSimpArgs false

/-! ### impl_areCommands: function 143 -/
def impl_areCommands.l0 : Nat → List (S137) → Int → Int → Option (Bool)
  | 0, _, _, _ => none
  | k + 1, x5, x6, x7 => if x7 < x6 then (if 0 ≤ x7 then (if x7 < (x5.length : Int) then ((impl_isCommand.f k ((rd_T137 x5 x7).f0) ((rd_T137 x5 x7).f1) ((rd_T137 x5 x7).f2)).bind fun t540 => (if t540 = true then (impl_areCommands.l0 k x5 x6 (wrap64 (x7 + 1))) else (some false))) else (none)) else (none)) else (some true)
def impl_areCommands.f (k : Nat) (l0 : List (S137)) : Option (Bool) := impl_areCommands.l0 k l0 (l0.length : Int) 0
theorem impl_areCommands.mono_l : ∀ k, (∀ y0 y1 y2, LeO (impl_areCommands.l0 k y0 y1 y2) (impl_areCommands.l0 (k + 1) y0 y1 y2))
  | 0 => fun _ _ _ r h => by simp [impl_areCommands.l0] at h
  | k + 1 => by
    have ih0 := impl_areCommands.mono_l k
    · intro y0 y1 y2
      unfold impl_areCommands.l0
      repeat' first
      | (with_reducible exact ih0 _ _ _)
      | (with_reducible exact impl_isCommand.mono _ _ _ _)
      | (with_reducible exact LeO.refl _)
      | (with_reducible exact LeO.none _)
      | (with_reducible refine LeO.ite ?_ ?_)
      | (with_reducible refine LeO.bind ?_ (fun _ => ?_))
      | exact ih0 _ _ _
      | exact impl_isCommand.mono _ _ _ _
      | exact LeO.none _
      | refine LeO.ite ?_ ?_
      | refine LeO.bind ?_ (fun _ => ?_)
theorem impl_areCommands.mono : ∀ a0 k, LeO (impl_areCommands.f k a0) (impl_areCommands.f (k + 1) a0) := by
  intro a0 k
  have ih0 := impl_areCommands.mono_l k
  unfold impl_areCommands.f
  repeat' first
      | (with_reducible exact ih0 _ _ _)
      | (with_reducible exact impl_isCommand.mono _ _ _ _)
      | (with_reducible exact LeO.refl _)
      | (with_reducible exact LeO.none _)
      | (with_reducible refine LeO.ite ?_ ?_)
      | (with_reducible refine LeO.bind ?_ (fun _ => ?_))
      | exact ih0 _ _ _
      | exact impl_isCommand.mono _ _ _ _
      | exact LeO.none _
      | refine LeO.ite ?_ ?_
      | refine LeO.bind ?_ (fun _ => ?_)
set_option maxHeartbeats 8000000 in
set_option maxRecDepth 100000 in
theorem impl_areCommands.calls (k : Nat) (A0 : Option Addr) (c0 : Nat) (l0 : List (S137)) (r : Bool) (w : World) (hr0 : Kd.C k137 w A0 l0.length l0) (hc0 : l0.length ≤ c0) (h : impl_areCommands.f k l0 = some r) :
    Calls Try.prog 143 #[.slice A0 l0.length c0] w fun e w' => e = .returned (.bool r) ∧ Below w.heap.size w w' := by
  have hu137 := Try.underlying137
  have HR0 := Aside0.mk hr0
  have HC0 := Aside0.mk hc0
  clear hr0 hc0
  have HB := Aside0.mk (Below.refl w.heap.size w)
  have H : (impl_areCommands.l0 k l0 (l0.length : Int) 0) = some r := h
  clear h
  have H' := Aside0.mk H
  clear H
  go_enter Try.func143, Try.ntmps143
  go_wp2
  go_loopg [7] k (fun kq v7 w' => ∃ (x7_1 : Int), v7 = .int .i64 x7_1 ∧ Aside0 (impl_areCommands.l0 kq l0 (l0.length : Int) x7_1 = some r) ∧ Aside0 (kq ≤ k) ∧ Aside0 (Below w.heap.size w w'))
  case atStart => exact ⟨(0), (by first | rfl | (simp; done) | (simp [*]; done)), H', ⟨Nat.le_refl _⟩, ⟨by repeat (first | (with_reducible first | exact HB.out | apply below_alloc | apply pw_below_drewN | apply below_drew1) | exact HB.out)⟩⟩
  case round =>
    clear H'
    try clear c1
    obtain ⟨x7_1, rfl, HA, HK1, HB⟩ := hrel
    cases gk with
    | zero => exact absurd HA.out (by simp [impl_areCommands.l0])
    | succ k1 =>
      have H := HA.out
      clear HA
      simp only [impl_areCommands.l0] at H
      by_cases c2 : x7_1 < (l0.length : Int)
      · rw [if_pos c2] at H
        have c2b0 : decide (x7_1 < (l0.length : Int)) = true := decide_eq_true c2
        clear c2
        by_cases c3 : 0 ≤ x7_1
        · rw [if_pos c3] at H
          have c3b0 : decide (0 ≤ x7_1) = true := decide_eq_true c3
          clear c3
          by_cases c4 : x7_1 < (l0.length : Int)
          · rw [if_pos c4] at H
            have c4b0 : decide (x7_1 < (l0.length : Int)) = true := decide_eq_true c4
            clear c4
            replace H := Option.bind_eq_some_iff.mp H
            obtain ⟨t540, A50, H⟩ := H
            replace H : (if t540 = true then (impl_areCommands.l0 k1 l0 (l0.length : Int) (wrap64 (x7_1 + 1))) else (some false)) = some r := H
            have A5 := Aside0.mk A50
            clear A50
            by_cases c6 : t540 = true
            · subst c6
              have H1 : (impl_areCommands.l0 k1 l0 (l0.length : Int) (wrap64 (x7_1 + 1))) = some r := by rw [if_pos rfl] at H; exact H
              clear H
              have H := H1
              clear H1
              have H' := Aside0.mk H
              clear H
              have p538 : 0 ≤ (x7_1 : Int) := of_decide_eq_true (by first | (with_reducible assumption) | assumption)
              have q538 : x7_1 < (l0.length : Int) := of_decide_eq_true (by first | (with_reducible assumption) | assumption)
              obtain ⟨ad538, e538, hx538_0, hx538_1, hx538_2⟩ := at_T137 HR0.out x7_1 p538 q538
              cases e538
              replace hx538_0 := (HB.out.cell (World.block_lt_of_cell? w _ hx538_0)).trans hx538_0
              replace hx538_1 := (HB.out.cell (World.block_lt_of_cell? w _ hx538_1)).trans hx538_1
              replace hx538_2 := (HB.out.cell (World.block_lt_of_cell? w _ hx538_2)).trans hx538_2
              replace p538 := eq_true p538
              replace q538 := eq_true q538
              go_wp2_with (first | ((with_reducible refine gate_dst (N := 4) rfl ?_); refine box_event ?hg (N := 4) ?hd (cs := #[.int .u8 0, .int .i64 0, .int .i64 0]) (t := 137) ?hr ?_; (case hd => rfl); (case hg => rfl); (case hr => first | (go_simp; done) | (go_simp; rfl)); intro gb539 hg w7 hbox hb; have n0_ := Aside0.mk (below_step (by repeat (first | (with_reducible first | exact HB.out | apply below_alloc | apply pw_below_drewN | apply below_drew1) | exact HB.out)) hb); have n1_ := Aside0.mk (hbox); have n2_ := Aside0.mk ((by rw [hg]; exact (below_size (by repeat (first | (with_reducible first | exact HB.out | apply below_alloc | apply pw_below_drewN | apply below_drew1) | exact HB.out))) : w.heap.size ≤ gb539)); have n3_ := Aside0.mk ((by rw [hg]; exact (below_size (by repeat (first | (with_reducible first | exact HB.out | apply below_alloc | apply pw_below_drewN | apply below_drew1) | exact HB.out))) : w.heap.size ≤ gb539)); clear HB; have HB := n0_; have BK539 := n1_; have GW539 := n2_; have GE539 := n3_; clear n0_ n1_ n2_ n3_; clear hb hbox hg; have hcz8_0 : w7.cell? ⟨gb539, 0, none⟩ = some (.int .u8 0) := (blk_cell BK539.out 0).trans rfl; have hcz8_1 : w7.cell? ⟨gb539, 1, none⟩ = some (.int .i64 0) := (blk_cell BK539.out 1).trans rfl; have hcz8_2 : w7.cell? ⟨gb539, 2, none⟩ = some (.int .i64 0) := (blk_cell BK539.out 2).trans rfl; have hfz8_0 := blk_frozen BK539.out 0; have hfz8_1 := blk_frozen BK539.out 1; have hfz8_2 := blk_frozen BK539.out 2) | ((with_reducible refine gate_callee (f := 178) rfl ?_); refine goesL_ (some 12) rfl rfl Try.func178 (by kernel_rfl) rfl #[.agg #[.int .u8 ((rd_T137 l0 x7_1).f0), .int .i64 ((rd_T137 l0 x7_1).f1), .int .i64 ((rd_T137 l0 x7_1).f2)]] rfl (by (try simp only [List.map_toArray, List.map_cons, List.map_nil]); first | done | rfl | (simp only [List.length_drop, List.length_take]; rfl)) ?_; (with_reducible refine (impl_isCommand.calls k1 ((rd_T137 l0 x7_1).f0) ((rd_T137 l0 x7_1).f1) ((rd_T137 l0 x7_1).f2) true _ A5.out).mono ?_); rintro e w9 ⟨rfl, hb⟩; refine ⟨_, rfl, ?_⟩; have n0_ := Aside0.mk (blk_below (g := gb539) (o := .cells #[.int .u8 ((rd_T137 l0 x7_1).f0), .int .i64 ((rd_T137 l0 x7_1).f1), .int .i64 ((rd_T137 l0 x7_1).f2)] 137 (0, 0)) (by (with_reducible repeat (first | refine blk_drewN ?_ _ | refine blk_drew ?_ | refine blk_alloc ?_ _)); refine blk_put (cs := #[.int .u8 ((rd_T137 l0 x7_1).f0), .int .i64 ((rd_T137 l0 x7_1).f1), .int .i64 0]) ?_ 2 _ rfl; (with_reducible repeat (first | refine blk_drewN ?_ _ | refine blk_drew ?_ | refine blk_alloc ?_ _)); refine blk_put (cs := #[.int .u8 ((rd_T137 l0 x7_1).f0), .int .i64 0, .int .i64 0]) ?_ 1 _ rfl; (with_reducible repeat (first | refine blk_drewN ?_ _ | refine blk_drew ?_ | refine blk_alloc ?_ _)); refine blk_put (cs := #[.int .u8 0, .int .i64 0, .int .i64 0]) ?_ 0 _ rfl; (with_reducible repeat (first | refine blk_drewN ?_ _ | refine blk_drew ?_ | refine blk_alloc ?_ _)); exact BK539.out) hb); have n1_ := Aside0.mk (below_step (by repeat (first | (with_reducible first | exact HB.out | apply below_alloc | apply pw_below_drewN | apply below_drew1 | refine below_set ?_ GE539.out) | exact HB.out)) hb); clear BK539; clear HB; have BK539 := n0_; have HB := n1_; clear n0_ n1_; (try clear hb); (try clear hb2); (try clear hk); (try clear hi)))
              go_roundg k1
              case measure => have := HK1.out; omega
              case rel => exact ⟨(wrap64 (x7_1 + 1)), (by first | rfl | (simp; done) | (simp [*]; done)), H', ⟨by have := HK1.out; omega⟩, ⟨by repeat (first | (with_reducible first | exact HB.out | apply below_alloc | apply pw_below_drewN | apply below_drew1 | refine below_set ?_ GE539.out) | exact HB.out)⟩⟩
            · replace c6 := Bool.eq_false_iff.mpr c6
              subst c6
              have H1 : (some false) = some r := by rw [if_neg (show ¬ (false = true) by decide)] at H; exact H
              clear H
              have H := H1
              clear H1
              obtain rfl := Option.some.inj H
              have p538 : 0 ≤ (x7_1 : Int) := of_decide_eq_true (by first | (with_reducible assumption) | assumption)
              have q538 : x7_1 < (l0.length : Int) := of_decide_eq_true (by first | (with_reducible assumption) | assumption)
              obtain ⟨ad538, e538, hx538_0, hx538_1, hx538_2⟩ := at_T137 HR0.out x7_1 p538 q538
              cases e538
              replace hx538_0 := (HB.out.cell (World.block_lt_of_cell? w _ hx538_0)).trans hx538_0
              replace hx538_1 := (HB.out.cell (World.block_lt_of_cell? w _ hx538_1)).trans hx538_1
              replace hx538_2 := (HB.out.cell (World.block_lt_of_cell? w _ hx538_2)).trans hx538_2
              replace p538 := eq_true p538
              replace q538 := eq_true q538
              go_wp2_with (first | ((with_reducible refine gate_dst (N := 4) rfl ?_); refine box_event ?hg (N := 4) ?hd (cs := #[.int .u8 0, .int .i64 0, .int .i64 0]) (t := 137) ?hr ?_; (case hd => rfl); (case hg => rfl); (case hr => first | (go_simp; done) | (go_simp; rfl)); intro gb539 hg w10 hbox hb; have n0_ := Aside0.mk (below_step (by repeat (first | (with_reducible first | exact HB.out | apply below_alloc | apply pw_below_drewN | apply below_drew1) | exact HB.out)) hb); have n1_ := Aside0.mk (hbox); have n2_ := Aside0.mk ((by rw [hg]; exact (below_size (by repeat (first | (with_reducible first | exact HB.out | apply below_alloc | apply pw_below_drewN | apply below_drew1) | exact HB.out))) : w.heap.size ≤ gb539)); have n3_ := Aside0.mk ((by rw [hg]; exact (below_size (by repeat (first | (with_reducible first | exact HB.out | apply below_alloc | apply pw_below_drewN | apply below_drew1) | exact HB.out))) : w.heap.size ≤ gb539)); clear HB; have HB := n0_; have BK539 := n1_; have GW539 := n2_; have GE539 := n3_; clear n0_ n1_ n2_ n3_; clear hb hbox hg; have hcz11_0 : w10.cell? ⟨gb539, 0, none⟩ = some (.int .u8 0) := (blk_cell BK539.out 0).trans rfl; have hcz11_1 : w10.cell? ⟨gb539, 1, none⟩ = some (.int .i64 0) := (blk_cell BK539.out 1).trans rfl; have hcz11_2 : w10.cell? ⟨gb539, 2, none⟩ = some (.int .i64 0) := (blk_cell BK539.out 2).trans rfl; have hfz11_0 := blk_frozen BK539.out 0; have hfz11_1 := blk_frozen BK539.out 1; have hfz11_2 := blk_frozen BK539.out 2) | ((with_reducible refine gate_callee (f := 178) rfl ?_); refine goesL_ (some 12) rfl rfl Try.func178 (by kernel_rfl) rfl #[.agg #[.int .u8 ((rd_T137 l0 x7_1).f0), .int .i64 ((rd_T137 l0 x7_1).f1), .int .i64 ((rd_T137 l0 x7_1).f2)]] rfl (by (try simp only [List.map_toArray, List.map_cons, List.map_nil]); first | done | rfl | (simp only [List.length_drop, List.length_take]; rfl)) ?_; (with_reducible refine (impl_isCommand.calls k1 ((rd_T137 l0 x7_1).f0) ((rd_T137 l0 x7_1).f1) ((rd_T137 l0 x7_1).f2) false _ A5.out).mono ?_); rintro e w12 ⟨rfl, hb⟩; refine ⟨_, rfl, ?_⟩; have n0_ := Aside0.mk (blk_below (g := gb539) (o := .cells #[.int .u8 ((rd_T137 l0 x7_1).f0), .int .i64 ((rd_T137 l0 x7_1).f1), .int .i64 ((rd_T137 l0 x7_1).f2)] 137 (0, 0)) (by (with_reducible repeat (first | refine blk_drewN ?_ _ | refine blk_drew ?_ | refine blk_alloc ?_ _)); refine blk_put (cs := #[.int .u8 ((rd_T137 l0 x7_1).f0), .int .i64 ((rd_T137 l0 x7_1).f1), .int .i64 0]) ?_ 2 _ rfl; (with_reducible repeat (first | refine blk_drewN ?_ _ | refine blk_drew ?_ | refine blk_alloc ?_ _)); refine blk_put (cs := #[.int .u8 ((rd_T137 l0 x7_1).f0), .int .i64 0, .int .i64 0]) ?_ 1 _ rfl; (with_reducible repeat (first | refine blk_drewN ?_ _ | refine blk_drew ?_ | refine blk_alloc ?_ _)); refine blk_put (cs := #[.int .u8 0, .int .i64 0, .int .i64 0]) ?_ 0 _ rfl; (with_reducible repeat (first | refine blk_drewN ?_ _ | refine blk_drew ?_ | refine blk_alloc ?_ _)); exact BK539.out) hb); have n1_ := Aside0.mk (below_step (by repeat (first | (with_reducible first | exact HB.out | apply below_alloc | apply pw_below_drewN | apply below_drew1 | refine below_set ?_ GE539.out) | exact HB.out)) hb); clear BK539; clear HB; have BK539 := n0_; have HB := n1_; clear n0_ n1_; (try clear hb); (try clear hb2); (try clear hk); (try clear hi)))
              go_ret
              exact ⟨by first | rfl | (simp [errW_none, errW_some] <;> rfl) | (simp [*, errW_none, errW_some] <;> rfl), by repeat (first | (with_reducible first | exact HB.out | apply below_alloc | apply pw_below_drewN | apply below_drew1 | refine below_set ?_ GE539.out) | exact HB.out)⟩
          · rw [if_neg c4] at H
            exact absurd H (by simp)
        · rw [if_neg c3] at H
          exact absurd H (by simp)
      · rw [if_neg c2] at H
        have c2b0 : decide (x7_1 < (l0.length : Int)) = false := decide_eq_false c2
        clear c2
        obtain rfl := Option.some.inj H
        go_wp2
        go_ret
        exact ⟨by first | rfl | (simp [errW_none, errW_some] <;> rfl) | (simp [*, errW_none, errW_some] <;> rfl), by repeat (first | (with_reducible first | exact HB.out | apply below_alloc | apply pw_below_drewN | apply below_drew1) | exact HB.out)⟩

end Go.Proofs.Ytgpdjpololkhbaa.F

namespace Go.Proofs.Ytgpdjpololkhbaa.F
open Go.RowKit Go.Proofs.YtgpdjpololkhbaaW.PrintWords Go.Proofs.YtgpdjpololkhbaaW.PrintLast Go.Proofs.YtgpdjpololkhbaaW.PrintMore
attribute [local go_sem] max2_int min2_int max_two min_two max_three min_three max_four min_four   -- for this text's walks alone
set_option linter.unusedVariables false
set_option linter.unusedSimpArgs false

/-! ### impl_program: function 91 -/
def impl_program.f (k : Nat) (l0 : List (S137)) : Option (Int) := (impl_areCommands.f k l0).bind fun t541 => (if t541 = true then (if (l0.length : Int) > 400 then (some 3) else (some 0)) else (some 1))
theorem impl_program.mono : ∀ a0 k, LeO (impl_program.f k a0) (impl_program.f (k + 1) a0) := by
  intro a0 k
  unfold impl_program.f
  repeat' first
      | (with_reducible exact impl_areCommands.mono _ _)
      | (with_reducible exact LeO.refl _)
      | (with_reducible exact LeO.none _)
      | (with_reducible refine LeO.ite ?_ ?_)
      | (with_reducible refine LeO.bind ?_ (fun _ => ?_))
      | exact impl_areCommands.mono _ _
      | exact LeO.none _
      | refine LeO.ite ?_ ?_
      | refine LeO.bind ?_ (fun _ => ?_)
set_option maxHeartbeats 8000000 in
set_option maxRecDepth 100000 in
theorem impl_program.calls (k : Nat) (A0 : Option Addr) (c0 : Nat) (l0 : List (S137)) (r : Int) (w : World) (hr0 : Kd.C k137 w A0 l0.length l0) (hc0 : l0.length ≤ c0) (h : impl_program.f k l0 = some r) :
    Calls Try.prog 91 #[.slice A0 l0.length c0] w fun e w' => e = .returned (.int .i64 r) ∧ Below w.heap.size w w' := by
  have HR0 := Aside0.mk hr0
  have HC0 := Aside0.mk hc0
  clear hr0 hc0
  have HB := Aside0.mk (Below.refl w.heap.size w)
  have H : ((impl_areCommands.f k l0).bind fun t541 => (if t541 = true then (if (l0.length : Int) > 400 then (some 3) else (some 0)) else (some 1))) = some r := h
  clear h
  replace H := Option.bind_eq_some_iff.mp H
  obtain ⟨t541, A20, H⟩ := H
  replace H : (if t541 = true then (if (l0.length : Int) > 400 then (some 3) else (some 0)) else (some 1)) = some r := H
  have A2 := Aside0.mk A20
  clear A20
  by_cases c3 : t541 = true
  · subst c3
    have H1 : (if (l0.length : Int) > 400 then (some 3) else (some 0)) = some r := by rw [if_pos rfl] at H; exact H
    clear H
    have H := H1
    clear H1
    by_cases c4 : (l0.length : Int) > 400
    · rw [if_pos c4] at H
      have c4b0 : decide (400 < (l0.length : Int)) = true := decide_eq_true c4
      have c4b1 : decide (400 < l0.length) = true := decide_eq_true (by omega)
      clear c4
      obtain rfl := Option.some.inj H
      go_enter Try.func91, Try.ntmps91
      go_wp2_with (first | ((with_reducible refine gate_callee (f := 143) rfl ?_); refine goesL_ (some 5) rfl rfl Try.func143 (by kernel_rfl) rfl #[.slice A0 l0.length c0] rfl (by (try simp only [List.map_toArray, List.map_cons, List.map_nil]); first | done | rfl | (simp only [List.length_drop, List.length_take]; rfl)) ?_; (with_reducible refine (impl_areCommands.calls k _ _ l0 true _ ?side1 ?side2 A2.out).mono ?_); (case side1 => repeat (first | exact HR0.out | (with_reducible refine Kd.C_alloc ?_ _) | (with_reducible refine Kd.C_drewN ?_ _) | (with_reducible refine Kd.C_drew ?_))); (case side2 => exact HC0.out); rintro e w5 ⟨rfl, hb⟩; refine ⟨_, rfl, ?_⟩; have n0_ := Aside0.mk (below_step (by repeat (first | (with_reducible first | exact HB.out | apply below_alloc | apply pw_below_drewN | apply below_drew1) | exact HB.out)) hb); clear HB; have HB := n0_; clear n0_; (try clear hb); (try clear hb2); (try clear hk); (try clear hi)))
      go_ret
      exact ⟨by first | rfl | (simp [errW_none, errW_some] <;> rfl) | (simp [*, errW_none, errW_some] <;> rfl), by repeat (first | (with_reducible first | exact HB.out | apply below_alloc | apply pw_below_drewN | apply below_drew1) | exact HB.out)⟩
    · rw [if_neg c4] at H
      have c4b0 : decide (400 < (l0.length : Int)) = false := decide_eq_false c4
      have c4b1 : decide (400 < l0.length) = false := decide_eq_false (by omega)
      clear c4
      obtain rfl := Option.some.inj H
      go_enter Try.func91, Try.ntmps91
      go_wp2_with (first | ((with_reducible refine gate_callee (f := 143) rfl ?_); refine goesL_ (some 5) rfl rfl Try.func143 (by kernel_rfl) rfl #[.slice A0 l0.length c0] rfl (by (try simp only [List.map_toArray, List.map_cons, List.map_nil]); first | done | rfl | (simp only [List.length_drop, List.length_take]; rfl)) ?_; (with_reducible refine (impl_areCommands.calls k _ _ l0 true _ ?side1 ?side2 A2.out).mono ?_); (case side1 => repeat (first | exact HR0.out | (with_reducible refine Kd.C_alloc ?_ _) | (with_reducible refine Kd.C_drewN ?_ _) | (with_reducible refine Kd.C_drew ?_))); (case side2 => exact HC0.out); rintro e w6 ⟨rfl, hb⟩; refine ⟨_, rfl, ?_⟩; have n0_ := Aside0.mk (below_step (by repeat (first | (with_reducible first | exact HB.out | apply below_alloc | apply pw_below_drewN | apply below_drew1) | exact HB.out)) hb); clear HB; have HB := n0_; clear n0_; (try clear hb); (try clear hb2); (try clear hk); (try clear hi)))
      go_ret
      exact ⟨by first | rfl | (simp [errW_none, errW_some] <;> rfl) | (simp [*, errW_none, errW_some] <;> rfl), by repeat (first | (with_reducible first | exact HB.out | apply below_alloc | apply pw_below_drewN | apply below_drew1) | exact HB.out)⟩
  · replace c3 := Bool.eq_false_iff.mpr c3
    subst c3
    have H1 : (some 1) = some r := by rw [if_neg (show ¬ (false = true) by decide)] at H; exact H
    clear H
    have H := H1
    clear H1
    obtain rfl := Option.some.inj H
    go_enter Try.func91, Try.ntmps91
    go_wp2_with (first | ((with_reducible refine gate_callee (f := 143) rfl ?_); refine goesL_ (some 5) rfl rfl Try.func143 (by kernel_rfl) rfl #[.slice A0 l0.length c0] rfl (by (try simp only [List.map_toArray, List.map_cons, List.map_nil]); first | done | rfl | (simp only [List.length_drop, List.length_take]; rfl)) ?_; (with_reducible refine (impl_areCommands.calls k _ _ l0 false _ ?side1 ?side2 A2.out).mono ?_); (case side1 => repeat (first | exact HR0.out | (with_reducible refine Kd.C_alloc ?_ _) | (with_reducible refine Kd.C_drewN ?_ _) | (with_reducible refine Kd.C_drew ?_))); (case side2 => exact HC0.out); rintro e w7 ⟨rfl, hb⟩; refine ⟨_, rfl, ?_⟩; have n0_ := Aside0.mk (below_step (by repeat (first | (with_reducible first | exact HB.out | apply below_alloc | apply pw_below_drewN | apply below_drew1) | exact HB.out)) hb); clear HB; have HB := n0_; clear n0_; (try clear hb); (try clear hb2); (try clear hk); (try clear hi)))
    go_ret
    exact ⟨by first | rfl | (simp [errW_none, errW_some] <;> rfl) | (simp [*, errW_none, errW_some] <;> rfl), by repeat (first | (with_reducible first | exact HB.out | apply below_alloc | apply pw_below_drewN | apply below_drew1) | exact HB.out)⟩

end Go.Proofs.Ytgpdjpololkhbaa.F

namespace Go.Proofs.Ytgpdjpololkhbaa.F
open Go.RowKit Go.Proofs.YtgpdjpololkhbaaW.PrintWords Go.Proofs.YtgpdjpololkhbaaW.PrintLast Go.Proofs.YtgpdjpololkhbaaW.PrintMore
attribute [local go_sem] max2_int min2_int max_two min_two max_three min_three max_four min_four   -- for this text's walks alone
set_option linter.unusedVariables false
set_option linter.unusedSimpArgs false

/-! ### impl_Point_square: function 170 -/
def impl_Point_square.f (a0_0 : Int) (a0_1 : Int) (a1_0 : Int) (a1_1 : Int) : Option (Int) := some (wrap64 ((wrap64 ((wrap64 (a0_0 - a1_0)) * (wrap64 (a0_0 - a1_0)))) + (wrap64 ((wrap64 (a0_1 - a1_1)) * (wrap64 (a0_1 - a1_1))))))
set_option maxHeartbeats 8000000 in
set_option maxRecDepth 100000 in
theorem impl_Point_square.calls (a0_0 : Int) (a0_1 : Int) (a1_0 : Int) (a1_1 : Int) (r : Int) (w : World) (h : impl_Point_square.f a0_0 a0_1 a1_0 a1_1 = some r) :
    Calls Try.prog 170 #[.agg #[.int .i64 a0_0, .int .i64 a0_1], .agg #[.int .i64 a1_0, .int .i64 a1_1]] w fun e w' => e = .returned (.int .i64 r) ∧ Below w.heap.size w w' := by
  have hu90 := Try.underlying90
  have HB := Aside0.mk (Below.refl w.heap.size w)
  have H : (some (wrap64 ((wrap64 ((wrap64 (a0_0 - a1_0)) * (wrap64 (a0_0 - a1_0)))) + (wrap64 ((wrap64 (a0_1 - a1_1)) * (wrap64 (a0_1 - a1_1))))))) = some r := h
  clear h
  obtain rfl := Option.some.inj H
  go_enter Try.func170, Try.ntmps170
  go_wp2_with (first | ((with_reducible refine gate_dst (N := 2) rfl ?_); refine box_event ?hg (N := 2) ?hd (cs := #[.int .i64 a0_0, .int .i64 a0_1]) (t := 90) ?hr ?_; (case hd => rfl); (case hg => rfl); (case hr => first | (go_simp; done) | (go_simp; rfl)); intro gb237 hg w3 hbox hb; have n0_ := Aside0.mk (below_step (by repeat (first | (with_reducible first | exact HB.out | apply below_alloc | apply pw_below_drewN | apply below_drew1) | exact HB.out)) hb); have n1_ := Aside0.mk (hbox); have n2_ := Aside0.mk ((by rw [hg]; exact (below_size (by repeat (first | (with_reducible first | exact HB.out | apply below_alloc | apply pw_below_drewN | apply below_drew1) | exact HB.out))) : w.heap.size ≤ gb237)); have n3_ := Aside0.mk ((by rw [hg]; exact (below_size (by repeat (first | (with_reducible first | exact HB.out | apply below_alloc | apply pw_below_drewN | apply below_drew1) | exact HB.out))) : w.heap.size ≤ gb237)); clear HB; have HB := n0_; have BK237 := n1_; have GW237 := n2_; have GE237 := n3_; clear n0_ n1_ n2_ n3_; clear hb hbox hg) | ((with_reducible refine gate_dst (N := 3) rfl ?_); refine box_event ?hg (N := 3) ?hd (cs := #[.int .i64 a1_0, .int .i64 a1_1]) (t := 90) ?hr ?_; (case hd => rfl); (case hg => rfl); (case hr => first | (go_simp; done) | (go_simp; rfl)); intro gb238 hg w4 hbox hb; have n0_ := Aside0.mk (blk_below (g := gb237) (o := .cells #[.int .i64 a0_0, .int .i64 a0_1] 90 (0, 0)) (by (with_reducible repeat (first | refine blk_drewN ?_ _ | refine blk_drew ?_ | refine blk_alloc ?_ _)); exact BK237.out) hb); have n1_ := Aside0.mk (below_step (by repeat (first | (with_reducible first | exact HB.out | apply below_alloc | apply pw_below_drewN | apply below_drew1 | refine below_set ?_ GE237.out) | exact HB.out)) hb); have n2_ := Aside0.mk (hbox); have n3_ := Aside0.mk ((by rw [hg]; exact (below_size (by repeat (first | (with_reducible first | exact HB.out | apply below_alloc | apply pw_below_drewN | apply below_drew1 | refine below_set ?_ GE237.out) | exact HB.out))) : w.heap.size ≤ gb238)); have n4_ := Aside0.mk ((by rw [hg]; exact (below_size (by repeat (first | (with_reducible first | exact HB.out | apply below_alloc | apply pw_below_drewN | apply below_drew1 | refine below_set ?_ GE237.out) | exact HB.out))) : w.heap.size ≤ gb238)); have n5_ := Aside0.mk ((by rw [hg]; exact Nat.ne_of_lt (blk_lt (g := gb237) (o := .cells #[.int .i64 a0_0, .int .i64 a0_1] 90 (0, 0)) (by (with_reducible repeat (first | refine blk_drewN ?_ _ | refine blk_drew ?_ | refine blk_alloc ?_ _)); exact BK237.out)) : gb237 ≠ gb238)); have n6_ := Aside0.mk ((by rw [hg]; exact Nat.ne_of_gt (blk_lt (g := gb237) (o := .cells #[.int .i64 a0_0, .int .i64 a0_1] 90 (0, 0)) (by (with_reducible repeat (first | refine blk_drewN ?_ _ | refine blk_drew ?_ | refine blk_alloc ?_ _)); exact BK237.out)) : gb238 ≠ gb237)); clear BK237; clear HB; have BK237 := n0_; have HB := n1_; have BK238 := n2_; have GW238 := n3_; have GE238 := n4_; have NB237_238 := n5_; have NB238_237 := n6_; clear n0_ n1_ n2_ n3_ n4_ n5_ n6_; clear hb hbox hg; have hnb5 := NB237_238.out; have hnc5 := NB238_237.out; have hcz6_0 : w4.cell? ⟨gb237, 0, none⟩ = some (.int .i64 a0_0) := (blk_cell BK237.out 0).trans rfl; have hcz6_1 : w4.cell? ⟨gb237, 1, none⟩ = some (.int .i64 a0_1) := (blk_cell BK237.out 1).trans rfl; have hfz6_0 := blk_frozen BK237.out 0; have hfz6_1 := blk_frozen BK237.out 1; have hcz7_0 : w4.cell? ⟨gb238, 0, none⟩ = some (.int .i64 a1_0) := (blk_cell BK238.out 0).trans rfl; have hcz7_1 : w4.cell? ⟨gb238, 1, none⟩ = some (.int .i64 a1_1) := (blk_cell BK238.out 1).trans rfl; have hfz7_0 := blk_frozen BK238.out 0; have hfz7_1 := blk_frozen BK238.out 1))
  go_ret
  exact ⟨by first | rfl | (simp [errW_none, errW_some] <;> rfl) | (simp [*, errW_none, errW_some] <;> rfl), by repeat (first | (with_reducible first | exact HB.out | apply below_alloc | apply pw_below_drewN | apply below_drew1 | refine below_set ?_ GE237.out | refine below_set ?_ GE238.out) | exact HB.out)⟩

end Go.Proofs.Ytgpdjpololkhbaa.F

namespace Go.Proofs.Ytgpdjpololkhbaa.F
open Go.RowKit Go.Proofs.YtgpdjpololkhbaaW.PrintWords Go.Proofs.YtgpdjpololkhbaaW.PrintLast Go.Proofs.YtgpdjpololkhbaaW.PrintMore
attribute [local go_sem] max2_int min2_int max_two min_two max_three min_three max_four min_four   -- for this text's walks alone
set_option linter.unusedVariables false
set_option linter.unusedSimpArgs false

/-! ### impl_root: function 176 -/
def impl_root.l0 : Nat → Int → Int → Int → Option (Int)
  | 0, _, _, _ => none
  | k + 1, x0, x3, x4 => if (wrap64 (x4 - x3)) > 1 then (if (wrap64 ((wrap64 (Int.tdiv (wrap64 (x3 + x4)) 2)) * (wrap64 (Int.tdiv (wrap64 (x3 + x4)) 2)))) ≤ x0 then (impl_root.l0 k x0 (wrap64 (Int.tdiv (wrap64 (x3 + x4)) 2)) x4) else (impl_root.l0 k x0 x3 (wrap64 (Int.tdiv (wrap64 (x3 + x4)) 2)))) else (some x3)
def impl_root.f (k : Nat) (a0 : Int) : Option (Int) := impl_root.l0 k a0 0 2000000001
theorem impl_root.mono_l : ∀ k, (∀ y0 y1 y2, LeO (impl_root.l0 k y0 y1 y2) (impl_root.l0 (k + 1) y0 y1 y2))
  | 0 => fun _ _ _ r h => by simp [impl_root.l0] at h
  | k + 1 => by
    have ih0 := impl_root.mono_l k
    · intro y0 y1 y2
      unfold impl_root.l0
      repeat' first
      | (with_reducible exact ih0 _ _ _)
      | (with_reducible exact LeO.refl _)
      | (with_reducible exact LeO.none _)
      | (with_reducible refine LeO.ite ?_ ?_)
      | (with_reducible refine LeO.bind ?_ (fun _ => ?_))
      | exact ih0 _ _ _
      | exact LeO.none _
      | refine LeO.ite ?_ ?_
      | refine LeO.bind ?_ (fun _ => ?_)
theorem impl_root.mono : ∀ a0 k, LeO (impl_root.f k a0) (impl_root.f (k + 1) a0) := by
  intro a0 k
  have ih0 := impl_root.mono_l k
  unfold impl_root.f
  repeat' first
      | (with_reducible exact ih0 _ _ _)
      | (with_reducible exact LeO.refl _)
      | (with_reducible exact LeO.none _)
      | (with_reducible refine LeO.ite ?_ ?_)
      | (with_reducible refine LeO.bind ?_ (fun _ => ?_))
      | exact ih0 _ _ _
      | exact LeO.none _
      | refine LeO.ite ?_ ?_
      | refine LeO.bind ?_ (fun _ => ?_)
set_option maxHeartbeats 8000000 in
set_option maxRecDepth 100000 in
theorem impl_root.calls (k : Nat) (a0 : Int) (r : Int) (w : World) (h : impl_root.f k a0 = some r) :
    Calls Try.prog 176 #[.int .i64 a0] w fun e w' => e = .returned (.int .i64 r) ∧ Drawn0 w w' := by
  have H : (impl_root.l0 k a0 0 2000000001) = some r := h
  clear h
  have H' := Aside0.mk H
  clear H
  go_enter Try.func176, Try.ntmps176
  go_wp2
  go_loopg [3, 4] k (fun kq v3 v4 w' => ∃ (x3_1 : Int) (x4_1 : Int), v3 = .int .i64 x3_1 ∧ v4 = .int .i64 x4_1 ∧ Aside0 (impl_root.l0 kq a0 x3_1 x4_1 = some r) ∧ Aside0 (kq ≤ k) ∧ Drawn0 w w')
  case atStart => exact ⟨(0), (2000000001), (by first | rfl | (simp; done) | (simp [*]; done)), (by first | rfl | (simp; done) | (simp [*]; done)), H', ⟨Nat.le_refl _⟩, by repeat (first | exact Drawn0.refl _ | apply Drawn0.step)⟩
  case round =>
    clear H'
    try clear c1
    obtain ⟨x3_1, x4_1, rfl, rfl, HA, HK1, ⟨m1, rfl⟩⟩ := hrel
    cases gk with
    | zero => exact absurd HA.out (by simp [impl_root.l0])
    | succ k1 =>
      have H := HA.out
      clear HA
      simp only [impl_root.l0] at H
      by_cases c2 : (wrap64 (x4_1 - x3_1)) > 1
      · rw [if_pos c2] at H
        have c2b0 : decide (1 < (wrap64 (x4_1 - x3_1))) = true := decide_eq_true c2
        clear c2
        by_cases c3 : (wrap64 ((wrap64 (Int.tdiv (wrap64 (x3_1 + x4_1)) 2)) * (wrap64 (Int.tdiv (wrap64 (x3_1 + x4_1)) 2)))) ≤ a0
        · rw [if_pos c3] at H
          have c3b0 : decide ((wrap64 ((wrap64 (Int.tdiv (wrap64 (x3_1 + x4_1)) 2)) * (wrap64 (Int.tdiv (wrap64 (x3_1 + x4_1)) 2)))) ≤ a0) = true := decide_eq_true c3
          clear c3
          have H' := Aside0.mk H
          clear H
          go_wp2
          go_roundg k1
          case measure => have := HK1.out; omega
          case rel => exact ⟨(wrap64 (Int.tdiv (wrap64 (x3_1 + x4_1)) 2)), (x4_1), (by first | rfl | (simp; done) | (simp [*]; done)), (by first | rfl | (simp; done) | (simp [*]; done)), H', ⟨by have := HK1.out; omega⟩, by repeat (first | exact Drawn0.refl _ | apply Drawn0.step)⟩
        · rw [if_neg c3] at H
          have c3b0 : decide ((wrap64 ((wrap64 (Int.tdiv (wrap64 (x3_1 + x4_1)) 2)) * (wrap64 (Int.tdiv (wrap64 (x3_1 + x4_1)) 2)))) ≤ a0) = false := decide_eq_false c3
          clear c3
          have H' := Aside0.mk H
          clear H
          go_wp2
          go_roundg k1
          case measure => have := HK1.out; omega
          case rel => exact ⟨(x3_1), (wrap64 (Int.tdiv (wrap64 (x3_1 + x4_1)) 2)), (by first | rfl | (simp; done) | (simp [*]; done)), (by first | rfl | (simp; done) | (simp [*]; done)), H', ⟨by have := HK1.out; omega⟩, by repeat (first | exact Drawn0.refl _ | apply Drawn0.step)⟩
      · rw [if_neg c2] at H
        have c2b0 : decide (1 < (wrap64 (x4_1 - x3_1))) = false := decide_eq_false c2
        clear c2
        obtain rfl := Option.some.inj H
        go_wp2
        go_ret
        exact ⟨by first | rfl | (simp; done) | (simp [*]; done), by repeat (first | exact Drawn0.refl _ | apply Drawn0.step)⟩

end Go.Proofs.Ytgpdjpololkhbaa.F

namespace Go.Proofs.Ytgpdjpololkhbaa.F
open Go.RowKit Go.Proofs.YtgpdjpololkhbaaW.PrintWords Go.Proofs.YtgpdjpololkhbaaW.PrintLast Go.Proofs.YtgpdjpololkhbaaW.PrintMore
attribute [local go_sem] max2_int min2_int max_two min_two max_three min_three max_four min_four   -- for this text's walks alone
set_option linter.unusedVariables false
set_option linter.unusedSimpArgs false

/-! ### impl_distance: function 137 -/
def impl_distance.f (k : Nat) (a0_0 : Int) (a0_1 : Int) (a1_0 : Int) (a1_1 : Int) : Option (Int) := (impl_Point_square.f a0_0 a0_1 a1_0 a1_1).bind fun t241 => ((impl_root.f k t241).bind fun t242 => (some t242))
theorem impl_distance.mono : ∀ a0 a1 a2 a3 k, LeO (impl_distance.f k a0 a1 a2 a3) (impl_distance.f (k + 1) a0 a1 a2 a3) := by
  intro a0 a1 a2 a3 k
  unfold impl_distance.f
  repeat' first
      | (with_reducible exact impl_root.mono _ _)
      | (with_reducible exact LeO.refl _)
      | (with_reducible exact LeO.none _)
      | (with_reducible refine LeO.ite ?_ ?_)
      | (with_reducible refine LeO.bind ?_ (fun _ => ?_))
      | exact impl_root.mono _ _
      | exact LeO.none _
      | refine LeO.ite ?_ ?_
      | refine LeO.bind ?_ (fun _ => ?_)
set_option maxHeartbeats 8000000 in
set_option maxRecDepth 100000 in
theorem impl_distance.calls (k : Nat) (a0_0 : Int) (a0_1 : Int) (a1_0 : Int) (a1_1 : Int) (r : Int) (w : World) (h : impl_distance.f k a0_0 a0_1 a1_0 a1_1 = some r) :
    Calls Try.prog 137 #[.agg #[.int .i64 a0_0, .int .i64 a0_1], .agg #[.int .i64 a1_0, .int .i64 a1_1]] w fun e w' => e = .returned (.int .i64 r) ∧ Below w.heap.size w w' := by
  have hu90 := Try.underlying90
  have HB := Aside0.mk (Below.refl w.heap.size w)
  have H : ((impl_Point_square.f a0_0 a0_1 a1_0 a1_1).bind fun t241 => ((impl_root.f k t241).bind fun t242 => (some t242))) = some r := h
  clear h
  replace H := Option.bind_eq_some_iff.mp H
  obtain ⟨t241, A30, H⟩ := H
  replace H : ((impl_root.f k t241).bind fun t242 => (some t242)) = some r := H
  have A3 := Aside0.mk A30
  clear A30
  replace H := Option.bind_eq_some_iff.mp H
  obtain ⟨t242, A40, H⟩ := H
  replace H : (some t242) = some r := H
  have A4 := Aside0.mk A40
  clear A40
  obtain rfl := Option.some.inj H
  go_enter Try.func137, Try.ntmps137
  go_wp2_with (first | ((with_reducible refine gate_dst (N := 2) rfl ?_); refine box_event ?hg (N := 2) ?hd (cs := #[.int .i64 a0_0, .int .i64 a0_1]) (t := 90) ?hr ?_; (case hd => rfl); (case hg => rfl); (case hr => first | (go_simp; done) | (go_simp; rfl)); intro gb239 hg w5 hbox hb; have n0_ := Aside0.mk (below_step (by repeat (first | (with_reducible first | exact HB.out | apply below_alloc | apply pw_below_drewN | apply below_drew1) | exact HB.out)) hb); have n1_ := Aside0.mk (hbox); have n2_ := Aside0.mk ((by rw [hg]; exact (below_size (by repeat (first | (with_reducible first | exact HB.out | apply below_alloc | apply pw_below_drewN | apply below_drew1) | exact HB.out))) : w.heap.size ≤ gb239)); have n3_ := Aside0.mk ((by rw [hg]; exact (below_size (by repeat (first | (with_reducible first | exact HB.out | apply below_alloc | apply pw_below_drewN | apply below_drew1) | exact HB.out))) : w.heap.size ≤ gb239)); clear HB; have HB := n0_; have BK239 := n1_; have GW239 := n2_; have GE239 := n3_; clear n0_ n1_ n2_ n3_; clear hb hbox hg) | ((with_reducible refine gate_dst (N := 3) rfl ?_); refine box_event ?hg (N := 3) ?hd (cs := #[.int .i64 a1_0, .int .i64 a1_1]) (t := 90) ?hr ?_; (case hd => rfl); (case hg => rfl); (case hr => first | (go_simp; done) | (go_simp; rfl)); intro gb240 hg w6 hbox hb; have n0_ := Aside0.mk (blk_below (g := gb239) (o := .cells #[.int .i64 a0_0, .int .i64 a0_1] 90 (0, 0)) (by (with_reducible repeat (first | refine blk_drewN ?_ _ | refine blk_drew ?_ | refine blk_alloc ?_ _)); exact BK239.out) hb); have n1_ := Aside0.mk (below_step (by repeat (first | (with_reducible first | exact HB.out | apply below_alloc | apply pw_below_drewN | apply below_drew1 | refine below_set ?_ GE239.out) | exact HB.out)) hb); have n2_ := Aside0.mk (hbox); have n3_ := Aside0.mk ((by rw [hg]; exact (below_size (by repeat (first | (with_reducible first | exact HB.out | apply below_alloc | apply pw_below_drewN | apply below_drew1 | refine below_set ?_ GE239.out) | exact HB.out))) : w.heap.size ≤ gb240)); have n4_ := Aside0.mk ((by rw [hg]; exact (below_size (by repeat (first | (with_reducible first | exact HB.out | apply below_alloc | apply pw_below_drewN | apply below_drew1 | refine below_set ?_ GE239.out) | exact HB.out))) : w.heap.size ≤ gb240)); have n5_ := Aside0.mk ((by rw [hg]; exact Nat.ne_of_lt (blk_lt (g := gb239) (o := .cells #[.int .i64 a0_0, .int .i64 a0_1] 90 (0, 0)) (by (with_reducible repeat (first | refine blk_drewN ?_ _ | refine blk_drew ?_ | refine blk_alloc ?_ _)); exact BK239.out)) : gb239 ≠ gb240)); have n6_ := Aside0.mk ((by rw [hg]; exact Nat.ne_of_gt (blk_lt (g := gb239) (o := .cells #[.int .i64 a0_0, .int .i64 a0_1] 90 (0, 0)) (by (with_reducible repeat (first | refine blk_drewN ?_ _ | refine blk_drew ?_ | refine blk_alloc ?_ _)); exact BK239.out)) : gb240 ≠ gb239)); clear BK239; clear HB; have BK239 := n0_; have HB := n1_; have BK240 := n2_; have GW240 := n3_; have GE240 := n4_; have NB239_240 := n5_; have NB240_239 := n6_; clear n0_ n1_ n2_ n3_ n4_ n5_ n6_; clear hb hbox hg; have hnb7 := NB239_240.out; have hnc7 := NB240_239.out; have hcz8_0 : w6.cell? ⟨gb239, 0, none⟩ = some (.int .i64 a0_0) := (blk_cell BK239.out 0).trans rfl; have hcz8_1 : w6.cell? ⟨gb239, 1, none⟩ = some (.int .i64 a0_1) := (blk_cell BK239.out 1).trans rfl; have hfz8_0 := blk_frozen BK239.out 0; have hfz8_1 := blk_frozen BK239.out 1; have hcz9_0 : w6.cell? ⟨gb240, 0, none⟩ = some (.int .i64 a1_0) := (blk_cell BK240.out 0).trans rfl; have hcz9_1 : w6.cell? ⟨gb240, 1, none⟩ = some (.int .i64 a1_1) := (blk_cell BK240.out 1).trans rfl; have hfz9_0 := blk_frozen BK240.out 0; have hfz9_1 := blk_frozen BK240.out 1) | ((with_reducible refine gate_callee (f := 170) rfl ?_); refine goesL_ (some 7) rfl rfl Try.func170 (by kernel_rfl) rfl #[.agg #[.int .i64 a0_0, .int .i64 a0_1], .agg #[.int .i64 a1_0, .int .i64 a1_1]] rfl (by (try simp only [List.map_toArray, List.map_cons, List.map_nil]); first | done | rfl | (simp only [List.length_drop, List.length_take]; rfl)) ?_; (with_reducible refine (impl_Point_square.calls a0_0 a0_1 a1_0 a1_1 t241 _ A3.out).mono ?_); rintro e w10 ⟨rfl, hb⟩; refine ⟨_, rfl, ?_⟩; have n0_ := Aside0.mk (blk_below (g := gb239) (o := .cells #[.int .i64 a0_0, .int .i64 a0_1] 90 (0, 0)) (by (with_reducible repeat (first | refine blk_drewN ?_ _ | refine blk_drew ?_ | refine blk_alloc ?_ _)); exact BK239.out) hb); have n1_ := Aside0.mk (blk_below (g := gb240) (o := .cells #[.int .i64 a1_0, .int .i64 a1_1] 90 (0, 0)) (by (with_reducible repeat (first | refine blk_drewN ?_ _ | refine blk_drew ?_ | refine blk_alloc ?_ _)); exact BK240.out) hb); have n2_ := Aside0.mk (below_step (by repeat (first | (with_reducible first | exact HB.out | apply below_alloc | apply pw_below_drewN | apply below_drew1 | refine below_set ?_ GE239.out | refine below_set ?_ GE240.out) | exact HB.out)) hb); clear BK239; clear BK240; clear HB; have BK239 := n0_; have BK240 := n1_; have HB := n2_; clear n0_ n1_ n2_; (try clear hb); (try clear hb2); (try clear hk); (try clear hi)) | ((with_reducible refine gate_callee (f := 176) rfl ?_); refine goesL_ (some 8) rfl rfl Try.func176 (by kernel_rfl) rfl #[.int .i64 t241] rfl (by (try simp only [List.map_toArray, List.map_cons, List.map_nil]); first | done | rfl | (simp only [List.length_drop, List.length_take]; rfl)) ?_; (with_reducible refine (impl_root.calls k t241 t242 _ A4.out).mono ?_); rintro e w' ⟨rfl, ⟨nd, rfl⟩⟩; refine ⟨_, rfl, ?_⟩))
  go_ret
  exact ⟨by first | rfl | (simp [errW_none, errW_some] <;> rfl) | (simp [*, errW_none, errW_some] <;> rfl), by repeat (first | (with_reducible first | exact HB.out | apply below_alloc | apply pw_below_drewN | apply below_drew1 | refine below_set ?_ GE239.out | refine below_set ?_ GE240.out) | exact HB.out)⟩

end Go.Proofs.Ytgpdjpololkhbaa.F
