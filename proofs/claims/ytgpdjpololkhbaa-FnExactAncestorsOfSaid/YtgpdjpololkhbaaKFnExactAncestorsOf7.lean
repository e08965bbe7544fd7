/-
  FnExactAncestorsOf: the law returns true for every input and leaves its arguments as they were (the last theorem here). No condition.
-/
import Derived.Test.YtgpdjpololkhbaaRows
import Derived.ProofKit
import Derived.OpenShut
import Derived.ShutString
import Derived.ChangeOld
import Derived.Test.YtgpdjpololkhbaaKFnExactAncestorsOf6

namespace Go.Proofs.Ytgpdjpololkhbaa.F
open Go.RowKit Go.Proofs.YtgpdjpololkhbaaW.PrintWords Go.Proofs.YtgpdjpololkhbaaW.PrintLast Go.Proofs.YtgpdjpololkhbaaW.PrintMore
attribute [local go_sem] max2_int min2_int max_two min_two max_three min_three max_four min_four   -- for this text's walks alone
set_option linter.unusedVariables false
set_option linter.unusedSimpArgs false

/-! ### spec_AncestorsOf: function 25 -/
def spec_AncestorsOf.f (k : Nat) (l0 : List (S130)) (a1 : Int) : Option (List Int × Int) := (spec_l33Code.f k l0 a1).bind fun t360 => (if t360 = 0 then ((spec_l33Ancestors.f k l0 a1).bind fun t361 => (some (t361, 0))) else (some (([] : List Int), t360)))
theorem spec_AncestorsOf.mono : ∀ a0 a1 k, LeO (spec_AncestorsOf.f k a0 a1) (spec_AncestorsOf.f (k + 1) a0 a1) := by
  intro a0 a1 k
  unfold spec_AncestorsOf.f
  repeat' first
      | (with_reducible exact spec_l33Ancestors.mono _ _ _)
      | (with_reducible exact spec_l33Code.mono _ _ _)
      | (with_reducible exact LeO.refl _)
      | (with_reducible exact LeO.none _)
      | (with_reducible refine LeO.ite ?_ ?_)
      | (with_reducible refine LeO.bind ?_ (fun _ => ?_))
      | exact spec_l33Ancestors.mono _ _ _
      | exact spec_l33Code.mono _ _ _
      | exact LeO.none _
      | refine LeO.ite ?_ ?_
      | refine LeO.bind ?_ (fun _ => ?_)
set_option maxHeartbeats 8000000 in
set_option maxRecDepth 100000 in
theorem spec_AncestorsOf.calls (k : Nat) (A0 : Option Addr) (c0 : Nat) (l0 : List (S130)) (a1 : Int) (r1 : List Int) (r2 : Int) (w : World) (hr0 : Kd.C k130 w A0 l0.length l0) (hc0 : l0.length ≤ c0) (h : spec_AncestorsOf.f k l0 a1 = some (r1, r2)) :
    Calls Try.prog 25 #[.slice A0 l0.length c0, .int .i64 a1] w fun e w' => ∃ v0_ : Value, e = .returned (.tuple #[v0_, .int .i64 r2]) ∧ Kd.R (Kd.int .i64) 2 w' w.heap.size (fun _ => True) v0_ r1 ∧ Below w.heap.size w w' := by
  have HR0 := Aside0.mk hr0
  have HC0 := Aside0.mk hc0
  clear hr0 hc0
  have HB := Aside0.mk (Below.refl w.heap.size w)
  have H : ((spec_l33Code.f k l0 a1).bind fun t360 => (if t360 = 0 then ((spec_l33Ancestors.f k l0 a1).bind fun t361 => (some (t361, 0))) else (some (([] : List Int), t360)))) = some (r1, r2) := h
  clear h
  replace H := Option.bind_eq_some_iff.mp H
  obtain ⟨t360, A30, H⟩ := H
  replace H : (if t360 = 0 then ((spec_l33Ancestors.f k l0 a1).bind fun t361 => (some (t361, 0))) else (some (([] : List Int), t360))) = some (r1, r2) := H
  have A3 := Aside0.mk A30
  clear A30
  by_cases c4 : t360 = 0
  · rw [if_pos c4] at H
    have c4b0 : (t360 == 0) = true := beq_iff_eq.mpr c4
    have c4b1 : (t360 != 0) = false := bne_eq_false_iff_eq.mpr c4
    clear c4
    replace H := Option.bind_eq_some_iff.mp H
    obtain ⟨t361, A50, H⟩ := H
    replace H : (some (t361, 0)) = some (r1, r2) := H
    have A5 := Aside0.mk A50
    clear A50
    simp only [Option.some.injEq, Prod.mk.injEq] at H
    obtain ⟨rfl, rfl⟩ := H
    go_enter Try.func25, Try.ntmps25
    go_wp2_with (first | ((with_reducible refine gate_callee (f := 82) rfl ?_); refine goesL_ (some 9) rfl rfl Try.func82 (by kernel_rfl) rfl #[.slice A0 l0.length c0, .int .i64 a1] rfl (by (try simp only [List.map_toArray, List.map_cons, List.map_nil]); first | done | rfl | (simp only [List.length_drop, List.length_take]; rfl)) ?_; (with_reducible refine (spec_l33Code.calls k _ _ l0 a1 t360 _ ?side1 ?side2 A3.out).mono ?_); (case side1 => repeat (first | exact HR0.out | (with_reducible refine Kd.C_alloc ?_ _) | (with_reducible refine Kd.C_drewN ?_ _) | (with_reducible refine Kd.C_drew ?_))); (case side2 => exact HC0.out); rintro e w6 ⟨rfl, hb⟩; refine ⟨_, rfl, ?_⟩; have n0_ := Aside0.mk (below_step (by repeat (first | (with_reducible first | exact HB.out | apply below_alloc | apply pw_below_drewN | apply below_drew1) | exact HB.out)) hb); clear HB; have HB := n0_; clear n0_; (try clear hb); (try clear hb2); (try clear hk); (try clear hi)) | ((with_reducible refine gate_callee (f := 83) rfl ?_); refine goesL_ (some 15) rfl rfl Try.func83 (by kernel_rfl) rfl #[.slice A0 l0.length c0, .int .i64 a1] rfl (by (try simp only [List.map_toArray, List.map_cons, List.map_nil]); first | done | rfl | (simp only [List.length_drop, List.length_take]; rfl)) ?_; (with_reducible refine (spec_l33Ancestors.calls k _ _ l0 a1 t361 _ ?side1 ?side2 A5.out).mono ?_); (case side1 => repeat (first | exact (Kd.C_below HR0.out HB.out) | (with_reducible refine Kd.C_alloc ?_ _) | (with_reducible refine Kd.C_drewN ?_ _) | (with_reducible refine Kd.C_drew ?_))); (case side2 => exact HC0.out); rintro e w7 ⟨v362, rfl, ho0, hb⟩; refine ⟨_, rfl, ?_⟩; have n0_ := Aside0.mk (Kd.R_lower ho0 (below_size (by repeat (first | (with_reducible first | exact HB.out | apply below_alloc | apply pw_below_drewN | apply below_drew1) | exact HB.out)))); have n1_ := Aside0.mk (below_step (by repeat (first | (with_reducible first | exact HB.out | apply below_alloc | apply pw_below_drewN | apply below_drew1) | exact HB.out)) hb); clear HB; have HO363 := n0_; have HB := n1_; clear n0_ n1_; (try clear hb); (try clear hb2); (try clear hk); (try clear hi); (try clear ho0)))
    go_ret2
    exact ⟨_, by first | rfl | (simp [errW_none, errW_some] <;> rfl) | (simp [*, errW_none, errW_some] <;> rfl), by (with_reducible repeat (first | apply Kd.R_alloc | apply Kd.R_drewN | apply Kd.R_drew)); exact HO363.out, by repeat (first | (with_reducible first | exact HB.out | apply below_alloc | apply pw_below_drewN | apply below_drew1) | exact HB.out)⟩
  · rw [if_neg c4] at H
    have c4b0 : (t360 == 0) = false := beq_eq_false_iff_ne.mpr c4
    have c4b1 : (t360 != 0) = true := bne_iff_ne.mpr c4
    simp only [Option.some.injEq, Prod.mk.injEq] at H
    obtain ⟨rfl, rfl⟩ := H
    go_enter Try.func25, Try.ntmps25
    go_wp2_with (first | ((with_reducible refine gate_callee (f := 82) rfl ?_); refine goesL_ (some 9) rfl rfl Try.func82 (by kernel_rfl) rfl #[.slice A0 l0.length c0, .int .i64 a1] rfl (by (try simp only [List.map_toArray, List.map_cons, List.map_nil]); first | done | rfl | (simp only [List.length_drop, List.length_take]; rfl)) ?_; (with_reducible refine (spec_l33Code.calls k _ _ l0 a1 t360 _ ?side1 ?side2 A3.out).mono ?_); (case side1 => repeat (first | exact HR0.out | (with_reducible refine Kd.C_alloc ?_ _) | (with_reducible refine Kd.C_drewN ?_ _) | (with_reducible refine Kd.C_drew ?_))); (case side2 => exact HC0.out); rintro e w8 ⟨rfl, hb⟩; refine ⟨_, rfl, ?_⟩; have n0_ := Aside0.mk (below_step (by repeat (first | (with_reducible first | exact HB.out | apply below_alloc | apply pw_below_drewN | apply below_drew1) | exact HB.out)) hb); clear HB; have HB := n0_; clear n0_; (try clear hb); (try clear hb2); (try clear hk); (try clear hi)))
    go_ret2
    exact ⟨_, by first | rfl | (simp [errW_none, errW_some] <;> rfl) | (simp [*, errW_none, errW_some] <;> rfl), by first | exact Kd.R_nil _ _ _ _ _ | exact Kd.N_nil _ _ _ _ _ | exact Kd.V_nil _ _ _ _ _ | exact Kd.Q_nil _ _ _ _ _ | exact Kd.S_nil _ _ _ _ _, by repeat (first | (with_reducible first | exact HB.out | apply below_alloc | apply pw_below_drewN | apply below_drew1) | exact HB.out)⟩

end Go.Proofs.Ytgpdjpololkhbaa.F

namespace Go.Proofs.Ytgpdjpololkhbaa.Pure
open Go.RowKit Go.Proofs.Ytgpdjpololkhbaa.F Go.Proofs.YtgpdjpololkhbaaW.PrintWords Go.Proofs.YtgpdjpololkhbaaW.PrintLast Go.Proofs.YtgpdjpololkhbaaW.PrintMore Go.Proofs.YtgpdjpololkhbaaB
set_option linter.unusedVariables false
set_option linter.unusedSimpArgs false
theorem spec_l33Ancestors_l0 (xs : List S130) (hh : histB xs = true) : ∀ (d : Nat) (a : Int) (out : List Int), -1 ≤ a → a < xs.length → a < d → out.length + d ≤ 1000 →
    Ev (fun k => spec_l33Ancestors.l0 k xs a out) (out ++ anc xs d a)
  | 0, a, out, h0, h1, h2, ho => by
    refine ev_step (fun _ => rfl) (ev_neg (by omega) (ev_now ?_))
    rw [show anc xs 0 a = [] from rfl, List.append_nil]
  | d + 1, a, out, h0, h1, h2, ho => by
    by_cases h : 0 ≤ a
    · have hp := par_lt hh a h h1
      refine ev_step (fun _ => rfl) (ev_pos h (ev_pos (by omega) (ev_pos h (ev_pos h1 ?_))))
      rw [anc_pos xs d h]
      refine ev_eq (spec_l33Ancestors_l0 xs hh d (par xs a) (out ++ [a]) hp.1 (by omega) (by omega) (by simp; omega)) ?_
      rw [List.append_assoc]
      rfl
    · refine ev_step (fun _ => rfl) (ev_neg h (ev_now ?_))
      rw [anc_neg xs d h, List.append_nil]
theorem spec_l33Ancestors_f (xs : List S130) (hh : histB xs = true) (a : Int) (h0 : 0 ≤ a) (h1 : a < xs.length) : Ev (fun k => spec_l33Ancestors.f k xs a) (anc xs 13 a) :=
  spec_l33Ancestors_l0 xs hh 13 a [] (by omega) h1 (by have := hist_len hh; omega) (by simp)

end Go.Proofs.Ytgpdjpololkhbaa.Pure

namespace Go.Proofs.Ytgpdjpololkhbaa.Pure
open Go.RowKit Go.Proofs.Ytgpdjpololkhbaa.F Go.Proofs.YtgpdjpololkhbaaW.PrintWords Go.Proofs.YtgpdjpololkhbaaW.PrintLast Go.Proofs.YtgpdjpololkhbaaW.PrintMore Go.Proofs.YtgpdjpololkhbaaB
set_option linter.unusedVariables false
set_option linter.unusedSimpArgs false
theorem spec_l01In_f (a b c : Int) : spec_l01In.f a b c = some (inB a b c) := inB_if a b c

end Go.Proofs.Ytgpdjpololkhbaa.Pure

namespace Go.Proofs.Ytgpdjpololkhbaa.Pure
open Go.RowKit Go.Proofs.Ytgpdjpololkhbaa.F Go.Proofs.YtgpdjpololkhbaaW.PrintWords Go.Proofs.YtgpdjpololkhbaaW.PrintLast Go.Proofs.YtgpdjpololkhbaaW.PrintMore Go.Proofs.YtgpdjpololkhbaaB
set_option linter.unusedVariables false
set_option linter.unusedSimpArgs false
theorem spec_l09Latitude_f (a : Int) : spec_l09Latitude.f a = some (inB a (-324000) 324000) := by
  simp only [spec_l09Latitude.f, spec_l01In_f, Option.bind_some]

end Go.Proofs.Ytgpdjpololkhbaa.Pure

namespace Go.Proofs.Ytgpdjpololkhbaa.Pure
open Go.RowKit Go.Proofs.Ytgpdjpololkhbaa.F Go.Proofs.YtgpdjpololkhbaaW.PrintWords Go.Proofs.YtgpdjpololkhbaaW.PrintLast Go.Proofs.YtgpdjpololkhbaaW.PrintMore Go.Proofs.YtgpdjpololkhbaaB
set_option linter.unusedVariables false
set_option linter.unusedSimpArgs false
theorem spec_IsWall_f (a b : Int) : spec_IsWall.f a b = some (inB a 0 1295999 && inB b (-324000) 324000) := by
  simp only [spec_IsWall.f, spec_l01In_f, spec_l09Latitude_f, Option.bind_some]
  cases inB a 0 1295999 <;> simp

end Go.Proofs.Ytgpdjpololkhbaa.Pure

namespace Go.Proofs.Ytgpdjpololkhbaa.Pure
open Go.RowKit Go.Proofs.Ytgpdjpololkhbaa.F Go.Proofs.YtgpdjpololkhbaaW.PrintWords Go.Proofs.YtgpdjpololkhbaaW.PrintLast Go.Proofs.YtgpdjpololkhbaaW.PrintMore Go.Proofs.YtgpdjpololkhbaaB
set_option linter.unusedVariables false
set_option linter.unusedSimpArgs false
theorem spec_l14Height_f (a : Int) : spec_l14Height.f a = some (inB a 1 10000) := by
  simp only [spec_l14Height.f, spec_l01In_f, Option.bind_some]

end Go.Proofs.Ytgpdjpololkhbaa.Pure

namespace Go.Proofs.Ytgpdjpololkhbaa.Pure
open Go.RowKit Go.Proofs.Ytgpdjpololkhbaa.F Go.Proofs.YtgpdjpololkhbaaW.PrintWords Go.Proofs.YtgpdjpololkhbaaW.PrintLast Go.Proofs.YtgpdjpololkhbaaW.PrintMore Go.Proofs.YtgpdjpololkhbaaB
set_option linter.unusedVariables false
set_option linter.unusedSimpArgs false
theorem spec_IsDial_f (a b c d : Int) : spec_IsDial.f a b c d = some (dialB a b c d) := by
  simp only [spec_IsDial.f, spec_l09Latitude_f, spec_IsWall_f, spec_l14Height_f, Option.bind_some, dialB]
  cases inB a (-324000) 324000 <;> cases (inB b 0 1295999 && inB c (-324000) 324000) <;> simp

end Go.Proofs.Ytgpdjpololkhbaa.Pure

namespace Go.Proofs.Ytgpdjpololkhbaa.Pure
open Go.RowKit Go.Proofs.Ytgpdjpololkhbaa.F Go.Proofs.YtgpdjpololkhbaaW.PrintWords Go.Proofs.YtgpdjpololkhbaaW.PrintLast Go.Proofs.YtgpdjpololkhbaaW.PrintMore Go.Proofs.YtgpdjpololkhbaaB
set_option linter.unusedVariables false
set_option linter.unusedSimpArgs false
theorem spec_l01Rises_l0 (xs : List Int) (a : Int) (ha : 0 ≤ a) (ha' : a ≤ 1000000) (hx : xs.length ≤ 9223372036854775807) : ∀ (ys : List Int) (m : Nat), xs.drop m = ys →
    Ev (fun k => spec_l01Rises.l0 k xs a m) (risB (a - 1) (prevOf xs m) ys)
  | [], m, h => by
    have := drop_nil h
    exact ev_step (fun _ => rfl) (ev_neg (by omega) (ev_now rfl))
  | y :: ys, m, h => by
    obtain ⟨hm, _, hd⟩ := drop_cons h
    refine ev_step (fun _ => rfl) (ev_pos (by omega) (ev_pos (by omega) ?_))
    rw [rdI h, w64 (x := (m : Int) + 1) (by omega) (by omega), w64 (x := a - 1) (by omega) (by omega), w64 (x := (m : Int) - 1) (by omega) (by omega)]
    refine ev_some (spec_l01In_f _ _ _) ?_
    have ih := spec_l01Rises_l0 xs a ha ha' hx ys (m + 1) hd
    rw [prevOf_succ h] at ih
    unfold risB
    cases inB y 0 (a - 1)
    · exact ev_neg (by simp) (ev_now (by simp))
    refine ev_pos rfl ?_
    by_cases h0 : m = 0
    · subst h0
      exact ev_neg (by omega) (ev_eq ih (by simp [prevOf]))
    · refine ev_pos (by omega) (ev_pos (by omega) (ev_pos (by omega) ?_))
      have e : rd xs ((m : Int) - 1) = xs.getD (m - 1) 0 := by unfold rd; congr 1; omega
      rw [e]
      unfold prevOf
      rw [if_neg h0]
      refine ev_ite (fun hc => ev_now ?_) (fun hc => ev_eq ih ?_)
      · have : ¬ (xs.getD (m - 1) 0 < y) := by omega
        simp [-List.getD_eq_getElem?_getD, this]
      · have : xs.getD (m - 1) 0 < y := by omega
        simp [-List.getD_eq_getElem?_getD, this]
theorem spec_l01Rises_f (xs : List Int) (a : Int) (ha : 0 ≤ a) (ha' : a ≤ 1000000) (hx : xs.length ≤ 9223372036854775807) : Ev (fun k => spec_l01Rises.f k xs a) (risesB xs (a - 1)) := spec_l01Rises_l0 xs a ha ha' hx xs 0 rfl

end Go.Proofs.Ytgpdjpololkhbaa.Pure

namespace Go.Proofs.Ytgpdjpololkhbaa.Pure
open Go.RowKit Go.Proofs.Ytgpdjpololkhbaa.F Go.Proofs.YtgpdjpololkhbaaW.PrintWords Go.Proofs.YtgpdjpololkhbaaW.PrintLast Go.Proofs.YtgpdjpololkhbaaW.PrintMore Go.Proofs.YtgpdjpololkhbaaB
set_option linter.unusedVariables false
set_option linter.unusedSimpArgs false
theorem spec_l33Lists_f (xs ys : List Int) (hx : xs.length ≤ 9223372036854775807) (hy : ys.length ≤ 9223372036854775807) : Ev (fun k => spec_l33Lists.f k xs ys) (risesB xs 1439 && risesB ys 11) := by
  refine ev_bind (spec_l01Rises_f xs 1440 (by omega) (by omega) hx) ?_
  cases h : risesB xs (1440 - 1)
  · have h' : risesB xs 1439 = false := h
    rw [h']
    exact ev_neg (by simp) (ev_now (by simp))
  · have h' : risesB xs 1439 = true := h
    rw [h']
    exact ev_pos rfl (ev_bind (spec_l01Rises_f ys 12 (by omega) (by omega) hy) (ev_now rfl))

end Go.Proofs.Ytgpdjpololkhbaa.Pure

namespace Go.Proofs.Ytgpdjpololkhbaa.Pure
open Go.RowKit Go.Proofs.Ytgpdjpololkhbaa.F Go.Proofs.YtgpdjpololkhbaaW.PrintWords Go.Proofs.YtgpdjpololkhbaaW.PrintLast Go.Proofs.YtgpdjpololkhbaaW.PrintMore Go.Proofs.YtgpdjpololkhbaaB
set_option linter.unusedVariables false
set_option linter.unusedSimpArgs false
theorem spec_IsProject_f (a b c d e : Int) (xs ys : List Int) (hx : xs.length ≤ 4611686018427387903) (hy : ys.length ≤ 4611686018427387903) : Ev (fun k => spec_IsProject.f k a b c d e xs ys) (projB a b c d e xs ys) := by
  unfold projB
  refine ev_some (spec_IsDial_f a b c d) ?_
  cases dialB a b c d
  · exact ev_neg (by simp) (ev_now (by simp))
  refine ev_pos rfl (ev_some (spec_l01In_f _ _ _) ?_)
  cases inB e 1901 2099
  · exact ev_neg (by simp) (ev_now (by simp))
  refine ev_pos rfl (ev_bind (spec_l33Lists_f xs ys (by omega) (by omega)) ?_)
  cases (risesB xs 1439 && risesB ys 11)
  · exact ev_neg (by simp) (ev_now (by simp))
  refine ev_pos rfl (ev_now ?_)
  rw [w64 (by omega) (by omega)]
  by_cases h : xs.length + ys.length ≤ 40
  · rw [decide_eq_true (by omega), decide_eq_true h]; rfl
  · rw [decide_eq_false (by omega), decide_eq_false h]; rfl

end Go.Proofs.Ytgpdjpololkhbaa.Pure

namespace Go.Proofs.Ytgpdjpololkhbaa.Pure
open Go.RowKit Go.Proofs.Ytgpdjpololkhbaa.F Go.Proofs.YtgpdjpololkhbaaW.PrintWords Go.Proofs.YtgpdjpololkhbaaW.PrintLast Go.Proofs.YtgpdjpololkhbaaW.PrintMore Go.Proofs.YtgpdjpololkhbaaB
set_option linter.unusedVariables false
set_option linter.unusedSimpArgs false
theorem spec_IsHistory_l0 (xs : List S130) (hx : xs.length ≤ 9223372036854775807) (hi : ∀ x ∈ xs, x.f1.f2.length ≤ 1048576 ∧ x.f1.f3.length ≤ 1048576) : ∀ (ys : List S130) (m : Nat), xs.drop m = ys →
    Ev (fun k => spec_IsHistory.l0 k xs m) (histFrom m ys && decide (xs.length ≤ 12))
  | [], m, h => by
    have := drop_nil h
    exact ev_step (fun _ => rfl) (ev_neg (by omega) (ev_now (by rw [len12]; rfl)))
  | y :: ys, m, h => by
    obtain ⟨hm, _, hd⟩ := drop_cons h
    obtain ⟨e1, e2⟩ := hi y (List.mem_of_mem_drop (by rw [h]; exact List.mem_cons_self))
    have ih := spec_IsHistory_l0 xs hx hi ys (m + 1) hd
    have hp := spec_IsProject_f y.f1.f0.f0 y.f1.f0.f1.f0 y.f1.f0.f1.f1 y.f1.f0.f2 y.f1.f1 y.f1.f2 y.f1.f3 (by omega) (by omega)
    refine ev_step (fun _ => rfl) (ev_pos (by omega) (ev_pos (by omega) ?_))
    rw [rdV h, w64 (x := (m : Int) + 1) (by omega) (by omega), w64 (x := (m : Int) - 1) (by omega) (by omega), histFrom_cons]
    change Ev _ (pjB y.f1) at hp
    by_cases h0 : m = 0
    · subst h0
      refine ev_pos (by omega) ?_
      rw [show parB 0 y.f0 = (y.f0 == -1) from rfl]
      refine ev_ite (fun hq => ?_) (fun hq => ev_now ?_)
      · refine ev_neg (by omega) (ev_bind hp ?_)
        cases pjB y.f1
        · exact ev_neg (by simp) (ev_now (by simp))
        · exact ev_pos rfl (ev_eq ih (by simp [hq]))
      · simp [hq]
    · refine ev_neg (by omega) (ev_pos (by omega) (ev_some (spec_l01In_f _ _ _) ?_))
      rw [show parB m y.f0 = inB y.f0 0 (m - 1) from if_neg h0]
      cases inB y.f0 0 (m - 1)
      · exact ev_neg (by simp) (ev_now (by simp))
      refine ev_pos rfl (ev_bind hp ?_)
      cases pjB y.f1
      · exact ev_neg (by simp) (ev_now (by simp))
      · exact ev_pos rfl (ev_eq ih (by simp))
theorem spec_IsHistory_f (xs : List S130) (hx : xs.length ≤ 9223372036854775807) (hi : ∀ x ∈ xs, x.f1.f2.length ≤ 1048576 ∧ x.f1.f3.length ≤ 1048576) : Ev (fun k => spec_IsHistory.f k xs) (histB xs) := spec_IsHistory_l0 xs hx hi xs 0 rfl

end Go.Proofs.Ytgpdjpololkhbaa.Pure

namespace Go.Proofs.Ytgpdjpololkhbaa.Pure
open Go.RowKit Go.Proofs.Ytgpdjpololkhbaa.F Go.Proofs.YtgpdjpololkhbaaW.PrintWords Go.Proofs.YtgpdjpololkhbaaW.PrintLast Go.Proofs.YtgpdjpololkhbaaW.PrintMore Go.Proofs.YtgpdjpololkhbaaB
set_option linter.unusedVariables false
set_option linter.unusedSimpArgs false
theorem spec_l33Code_f (xs : List S130) (hx : smallV xs) (a : Int) : Ev (fun k => spec_l33Code.f k xs a) (codeH xs [a]) := by
  have hx1 := hx.1
  refine ev_bind (spec_IsHistory_f xs (by omega) hx.2) ?_
  unfold codeH
  rw [w64 (by omega) (by omega), List.all_cons, List.all_nil, Bool.and_true]
  cases histB xs
  · exact ev_neg (by simp) (ev_now rfl)
  · refine ev_pos rfl (ev_some (spec_l01In_f _ _ _) ?_)
    cases inB a 0 ((xs.length : Int) - 1)
    · exact ev_neg (by simp) (ev_now rfl)
    · exact ev_pos rfl (ev_now rfl)

end Go.Proofs.Ytgpdjpololkhbaa.Pure

namespace Go.Proofs.Ytgpdjpololkhbaa.Pure
open Go.RowKit Go.Proofs.Ytgpdjpololkhbaa.F Go.Proofs.YtgpdjpololkhbaaW.PrintWords Go.Proofs.YtgpdjpololkhbaaW.PrintLast Go.Proofs.YtgpdjpololkhbaaW.PrintMore Go.Proofs.YtgpdjpololkhbaaB
set_option linter.unusedVariables false
set_option linter.unusedSimpArgs false
theorem spec_AncestorsOf_f (xs : List S130) (hx : smallV xs) (a : Int) : Ev (fun k => spec_AncestorsOf.f k xs a) (resAnc xs a) := by
  refine ev_bind (spec_l33Code_f xs hx a) ?_
  unfold resAnc
  refine ev_ite (fun h => ?_) (fun h => ?_)
  · rw [if_pos h]
    obtain ⟨hh, hi⟩ := codeH_zero h
    have h1 := hi a (by simp)
    exact ev_bind (spec_l33Ancestors_f xs hh a h1.1 h1.2) (ev_now rfl)
  · rw [if_neg h]
    exact ev_now rfl

end Go.Proofs.Ytgpdjpololkhbaa.Pure

namespace Go.Proofs.Ytgpdjpololkhbaa.Pure
open Go.RowKit Go.Proofs.Ytgpdjpololkhbaa.F Go.Proofs.YtgpdjpololkhbaaW.PrintWords Go.Proofs.YtgpdjpololkhbaaW.PrintLast Go.Proofs.YtgpdjpololkhbaaW.PrintMore Go.Proofs.YtgpdjpololkhbaaB
set_option linter.unusedVariables false
set_option linter.unusedSimpArgs false
theorem EQ_Int64S (A A' : Option Addr) (c c' : Nat) (l : List Int) (w : World) (hr : Kd.C (Kd.int .i64) w A l.length l) (hc : l.length ≤ c) (hr' : Kd.C (Kd.int .i64) w A' l.length l) (hc' : l.length ≤ c') (h : Ev (fun k => laws_eqInt64S.f k l l) true) :
    Calls Try.prog 19 #[.slice A l.length c, .slice A' l.length c'] w fun e w' => e = .returned (.bool true) ∧ Below w.heap.size w w' := by
  obtain ⟨k, h⟩ := h.rounds
  exact (laws_eqInt64S.calls k A c l A' c' l true w hr hc hr' hc' h).mono fun e w' ⟨h1, h2⟩ => ⟨h1, h2.below⟩

end Go.Proofs.Ytgpdjpololkhbaa.Pure

namespace Go.Proofs.Ytgpdjpololkhbaa.Pure
open Go.RowKit Go.Proofs.Ytgpdjpololkhbaa.F Go.Proofs.YtgpdjpololkhbaaW.PrintWords Go.Proofs.YtgpdjpololkhbaaW.PrintLast Go.Proofs.YtgpdjpololkhbaaW.PrintMore Go.Proofs.YtgpdjpololkhbaaB
set_option linter.unusedVariables false
set_option linter.unusedSimpArgs false
theorem EQ_VersionS (A A' : Option Addr) (c c' : Nat) (l : List S130) (w : World) (hr : Kd.C k130 w A l.length l) (hc : l.length ≤ c) (hr' : Kd.C k130 w A' l.length l) (hc' : l.length ≤ c') (h : Ev (fun k => laws_eqVersionS.f k l l) true) :
    Calls Try.prog 28 #[.slice A l.length c, .slice A' l.length c'] w fun e w' => e = .returned (.bool true) ∧ Below w.heap.size w w' := by
  obtain ⟨k, h⟩ := h.rounds
  exact (laws_eqVersionS.calls k A c l A' c' l true w hr hc hr' hc' h).mono fun e w' ⟨h1, h2⟩ => ⟨h1, h2⟩

end Go.Proofs.Ytgpdjpololkhbaa.Pure

namespace Go.Proofs.Ytgpdjpololkhbaa.Pure
open Go.RowKit Go.Proofs.Ytgpdjpololkhbaa.F Go.Proofs.YtgpdjpololkhbaaW.PrintWords Go.Proofs.YtgpdjpololkhbaaW.PrintLast Go.Proofs.YtgpdjpololkhbaaW.PrintMore Go.Proofs.YtgpdjpololkhbaaB
set_option linter.unusedVariables false
set_option linter.unusedSimpArgs false
theorem HD_Int64S (A : Option Addr) (c m : Nat) (l : List Int) (a n : Int) (w : World) (hm : l.length = m) (hr : Kd.C (Kd.int .i64) w A l.length l) (hc : l.length ≤ c) (h : Ev (fun k => laws_heldInt64S.f k l a) n) :
    Calls Try.prog 23 #[.slice A m c, .int .i64 a] w fun e w' => e = .returned (.int .i64 n) ∧ Below w.heap.size w w' := by
  obtain ⟨k, h⟩ := h.rounds
  subst hm
  exact (laws_heldInt64S.calls k A c l a n w hr hc h).mono fun e w' ⟨h1, h2⟩ => ⟨h1, h2.below⟩

end Go.Proofs.Ytgpdjpololkhbaa.Pure

namespace Go.Proofs.Ytgpdjpololkhbaa.Pure
open Go.RowKit Go.Proofs.Ytgpdjpololkhbaa.F Go.Proofs.YtgpdjpololkhbaaW.PrintWords Go.Proofs.YtgpdjpololkhbaaW.PrintLast Go.Proofs.YtgpdjpololkhbaaW.PrintMore Go.Proofs.YtgpdjpololkhbaaB
set_option linter.unusedVariables false
set_option linter.unusedSimpArgs false
theorem MK_Int64S (P : Nat → Prop) (A : Option Addr) (c : Nat) (l ys : List Int) (a n : Int) (w0 w : World) (hB : Below w0.heap.size w0 w) (hO : Kd.R (Kd.int .i64) 2 w w0.heap.size P (.slice A l.length c) l) (h : Ev (fun k => laws_markInt64S.f k l a) (n, ys)) :
    Calls Try.prog 22 #[.slice A l.length c, .int .i64 a] w fun e w' => e = .returned (.int .i64 n) ∧ Kd.R (Kd.int .i64) 2 w' w0.heap.size (fun k => P k ∨ w.heap.size ≤ k) (.slice A l.length c) ys ∧ Below w0.heap.size w0 w' ∧ Kept w w' P := by
  obtain ⟨k, h⟩ := h.rounds
  exact laws_markInt64S.calls k P _ l a n ys w0 w hB hO h

end Go.Proofs.Ytgpdjpololkhbaa.Pure

namespace Go.Proofs.Ytgpdjpololkhbaa.Pure
open Go.RowKit Go.Proofs.Ytgpdjpololkhbaa.F Go.Proofs.YtgpdjpololkhbaaW.PrintWords Go.Proofs.YtgpdjpololkhbaaW.PrintLast Go.Proofs.YtgpdjpololkhbaaW.PrintMore Go.Proofs.YtgpdjpololkhbaaB
set_option linter.unusedVariables false
set_option linter.unusedSimpArgs false
/-- A cell that holds a number. -/
def IntCell (w : World) (a : Addr) : Prop := ∃ x, w.cell? a = some (.int .i64 x)
/-- Numbers have been written over numbers, in the blocks of P alone. -/
structure Mut (P : Nat → Prop) (w w' : World) : Prop where
  os : w'.os = w.os
  tape : w'.tape = w.tape
  output : w'.output = w.output
  size : w'.heap.size = w.heap.size
  far : ∀ k, ¬ P k → w'.heap[k]? = w.heap[k]?
  ints : ∀ a, IntCell w a → IntCell w' a
  rest : ∀ a, ¬ IntCell w a → w'.cell? a = w.cell? a
  froz : ∀ a, w'.frozen? a = w.frozen? a
theorem Mut.refl (P : Nat → Prop) (w : World) : Mut P w w := ⟨rfl, rfl, rfl, rfl, fun _ _ => rfl, fun _ h => h, fun _ _ => rfl, fun _ => rfl⟩
theorem Mut.set {P : Nat → Prop} {w w1 : World} (h : Mut P w w1) {a : Addr} (hp : P a.block) (hi : IntCell w a) (u : Int) : Mut P w (w1.setCell a (.int .i64 u)) := by
  obtain ⟨x, hx⟩ := h.ints a hi
  refine ⟨h.os, h.tape, h.output, by rw [World.size_setCell]; exact h.size, fun k hk => ?_, fun b hb => ?_, fun b hb => ?_, fun b => by rw [World.frozen?_setCell]; exact h.froz b⟩
  · exact (Below.heap_setCell w1 a _ k (fun e => hk (by rw [e]; exact hp))).trans (h.far k hk)
  · by_cases e : a = b
    · subst e
      exact ⟨u, World.cell?_setCell_same _ _ _ hx⟩
    · unfold IntCell
      rw [World.cell?_setCell_other _ _ _ _ e]
      exact h.ints b hb
  · rw [World.cell?_setCell_other _ _ _ _ (fun e => hb (by rw [← e]; exact hi))]
    exact h.rest b hb
theorem Mut.trans {P : Nat → Prop} {w w1 w2 : World} (h : Mut P w w1) (k : Mut P w1 w2) : Mut P w w2 := by
  refine ⟨k.os.trans h.os, k.tape.trans h.tape, k.output.trans h.output, k.size.trans h.size, fun i hi => (k.far i hi).trans (h.far i hi), fun a ha => k.ints a (h.ints a ha), fun a ha => ?_, fun a => (k.froz a).trans (h.froz a)⟩
  have h1 := h.rest a ha
  exact (k.rest a (fun hc => ha (by obtain ⟨x, hx⟩ := hc; exact ⟨x, h1 ▸ hx⟩))).trans h1
theorem Mut.kept {P : Nat → Prop} {w w' : World} (h : Mut P w w') : Kept w w' P := ⟨Nat.le_of_eq h.size.symm, fun i _ hn => h.far i hn⟩
theorem Mut.below {P : Nat → Prop} {w0 w w' : World} (h : Mut P w w') (hB : Below w0.heap.size w0 w) (hP : ∀ k, P k → w0.heap.size ≤ k) : Below w0.heap.size w0 w' :=
  ⟨h.os.trans hB.os, h.tape.trans hB.tape, h.output.trans hB.output, Nat.le_trans hB.size (Nat.le_of_eq h.size.symm), fun k hk => (h.far k (fun hp => by have := hP k hp; omega)).trans (hB.block k hk)⟩
/-- A cell that may be written, and holds a number. -/
def Free (P : Nat → Prop) (w : World) (g o : Nat) : Prop := P g ∧ IntCell w ⟨g, o, none⟩ ∧ w.frozen? ⟨g, o, none⟩ = false
theorem Free.mut {P : Nat → Prop} {w w1 : World} {g o : Nat} (h : Free P w g o) (m : Mut P w w1) : Free P w1 g o := ⟨h.1, m.ints _ h.2.1, (m.froz _).trans h.2.2⟩
/-- A row of numbers that may be written. -/
def FreeRow (P : Nat → Prop) (w : World) (A : Option Addr) (n : Nat) : Prop := n ≤ 1048576 ∧ (0 < n → ∃ g, A = some ⟨g, 0, none⟩ ∧ ∀ j, j < n → Free P w g j)
theorem FreeRow.mut {P : Nat → Prop} {w w1 : World} {A : Option Addr} {n : Nat} (h : FreeRow P w A n) (m : Mut P w w1) : FreeRow P w1 A n := ⟨h.1, fun hn => by
  obtain ⟨g, e, hg⟩ := h.2 hn
  exact ⟨g, e, fun j hj => (hg j hj).mut m⟩⟩
theorem FreeRow.of_R {P ok : Nat → Prop} {w : World} {base : Nat} {e : Nat} {v : Value} {xs : List Int} (h : (Kd.int .i64).R e w base ok v xs) (hok : ∀ k, ok k → P k) (hn : xs.length ≤ 1048576) : ∃ A c, v = .slice A xs.length c ∧ xs.length ≤ c ∧ FreeRow P w A xs.length := by
  obtain ⟨A, c, rfl⟩ := Kd.R_slice h
  obtain ⟨_, hc, hr⟩ := Kd.R_reads' h
  refine ⟨A, c, rfl, hc, hn, fun hp => ?_⟩
  obtain ⟨g, cap, eg, _, _, cells, hh⟩ := Kd.R_form h hp
  injection eg with ea
  subst ea
  refine ⟨g, rfl, fun j hj => ⟨hok g (h.1 g (by simp [Value.ownBlock])), ?_, by simp [World.frozen?, hh]⟩⟩
  obtain ⟨a, ea, hcells⟩ := hr.2.2 hp
  cases ea
  obtain ⟨cs, h1, h2, h3⟩ := hcells j xs[j] (List.getElem?_eq_getElem hj)
  have h4 := h3 0 (.int .i64 xs[j]) (by rw [h2]; rfl)
  refine ⟨xs[j], ?_⟩
  have e1 : (Addr.add ⟨g, 0, none⟩ (j * (Kd.int .i64).sz + 0)) = ⟨g, j, none⟩ := by
    show Addr.add ⟨g, 0, none⟩ (j * 1 + 0) = _
    unfold Addr.add
    by_cases hz : j * 1 + 0 = 0
    · rw [if_pos hz]
      have : j = 0 := by omega
      subst this
      rfl
    · rw [if_neg hz]
      show Addr.mk g (0 + (j * 1 + 0)) none = _
      rw [show 0 + (j * 1 + 0) = j by omega]
  rw [← e1]
  exact h4

end Go.Proofs.Ytgpdjpololkhbaa.Pure

namespace Go.Proofs.Ytgpdjpololkhbaa.Pure
open Go.RowKit Go.Proofs.Ytgpdjpololkhbaa.F Go.Proofs.YtgpdjpololkhbaaW.PrintWords Go.Proofs.YtgpdjpololkhbaaW.PrintLast Go.Proofs.YtgpdjpololkhbaaW.PrintMore Go.Proofs.YtgpdjpololkhbaaB
set_option linter.unusedVariables false
set_option linter.unusedSimpArgs false
set_option maxHeartbeats 8000000 in
set_option maxRecDepth 100000 in
theorem markInt64S_mut (P : Nat → Prop) (A : Option Addr) (n c : Nat) (a : Int) (w : World) (hF : FreeRow P w A n) (h0 : 0 ≤ a) (h1 : a ≤ 4611686018427387904) :
    Calls Try.prog 22 #[.slice A n c, .int .i64 a] w fun e w' => e = .returned (.int .i64 (a + n)) ∧ Mut P w w' := by
  have HF := Aside0.mk hF
  have hn := hF.1
  clear hF
  go_enter Try.func22, Try.ntmps22
  go_wp2
  go_loopw [1, 5] (fun v1 v5 wr => ∃ m : Nat, v1 = .int .i64 (a + m) ∧ v5 = .int .i64 m ∧ m ≤ n ∧ Aside0 (Mut P w wr)) (fun _ v5 _ => n - (intOf v5).toNat)
  case atStart => exact ⟨0, by simp, rfl, Nat.zero_le _, ⟨Mut.refl _ _⟩⟩
  case round =>
    obtain ⟨m, rfl, rfl, hm, HM⟩ := hrel
    by_cases hlt : m < n
    · obtain ⟨g, eg, hg⟩ := HF.out.2 (by omega)
      subst eg
      have hfr := hg m hlt
      have HG := Aside0.mk hfr
      have hfm := hfr.mut HM.out
      obtain ⟨x, hx⟩ := hfm.2.1
      have hf0 := hfm.2.2
      clear hg hfr hfm
      go_wp2
      go_roundw
      case rel => exact ⟨m + 1, by go_num, by go_num, by omega, ⟨HM.out.set HG.out.1 HG.out.2.1 _⟩⟩
      case measure => simp [intOf]; omega
    · go_wp2
      go_ret
      have : m = n := by omega
      subst this
      exact ⟨rfl, HM.out⟩

end Go.Proofs.Ytgpdjpololkhbaa.Pure

namespace Go.Proofs.Ytgpdjpololkhbaa.Pure
open Go.RowKit Go.Proofs.Ytgpdjpololkhbaa.F Go.Proofs.YtgpdjpololkhbaaW.PrintWords Go.Proofs.YtgpdjpololkhbaaW.PrintLast Go.Proofs.YtgpdjpololkhbaaW.PrintMore Go.Proofs.YtgpdjpololkhbaaB
set_option linter.unusedVariables false
set_option linter.unusedSimpArgs false
/-- A row of versions whose numbers may be written. -/
def VerFree (P : Nat → Prop) (w : World) (g : Nat) (l : List S130) : Prop := ∀ i, i < l.length → (∀ j, j < 6 → Free P w g (i * 8 + j)) ∧
  ∃ A6 c6 A7 c7, w.cell? ⟨g, i * 8 + 6, none⟩ = some (.slice A6 (rd_T130 l i).f1.f2.length c6) ∧ w.cell? ⟨g, i * 8 + 7, none⟩ = some (.slice A7 (rd_T130 l i).f1.f3.length c7) ∧ FreeRow P w A6 (rd_T130 l i).f1.f2.length ∧ FreeRow P w A7 (rd_T130 l i).f1.f3.length
theorem int_ne_slice {w : World} {a : Addr} {A : Option Addr} {n c : Nat} (h : w.cell? a = some (.slice A n c)) : ¬ IntCell w a := fun ⟨x, hx⟩ => by rw [h] at hx; cases hx
theorem VerFree.of_S {P : Nat → Prop} {w : World} {base g n cap : Nat} {l : List S130} (h : Kd.S k130 130 w base P (.slice (some ⟨g, 0, none⟩) n cap) l) (hn : n = l.length) (hs : ∀ y ∈ l, y.f1.f2.length ≤ 1048576 ∧ y.f1.f3.length ≤ 1048576) : VerFree P w g l := fun i hi => by
  have hPg : P g := (Kd.S_R h).1 g (by simp [Value.ownBlock])
  obtain ⟨oki, c, hcl, hM, hcc, hfr, hoki, _⟩ := Kd.S_elem h z130 (i : Int) (by omega) (by omega)
  have hmem : rd_T130 l (i : Int) ∈ l := by
    show l.getD _ _ ∈ l
    rw [Int.toNat_natCast, List.getD_eq_getElem?_getD, List.getElem?_eq_getElem hi]
    exact List.getElem_mem hi
  obtain ⟨v6, v7, rfl, h6, h7⟩ := k130_openM hM
  have hy := hs _ hmem
  obtain ⟨A6, c6, rfl, _, f6⟩ := FreeRow.of_R h6 (fun k hk => (hoki k hk).1) hy.1
  obtain ⟨A7, c7, rfl, _, f7⟩ := FreeRow.of_R h7 (fun k hk => (hoki k hk).1) hy.2
  rw [Int.toNat_natCast] at hcc hfr
  refine ⟨fun j hj => ⟨hPg, ?_, hfr j⟩, A6, c6, A7, c7, hcc 6 _ rfl, hcc 7 _ rfl, f6, f7⟩
  have : j = 0 ∨ j = 1 ∨ j = 2 ∨ j = 3 ∨ j = 4 ∨ j = 5 := by omega
  rcases this with rfl | rfl | rfl | rfl | rfl | rfl
  · exact ⟨_, hcc 0 _ rfl⟩
  · exact ⟨_, hcc 1 _ rfl⟩
  · exact ⟨_, hcc 2 _ rfl⟩
  · exact ⟨_, hcc 3 _ rfl⟩
  · exact ⟨_, hcc 4 _ rfl⟩
  · exact ⟨_, hcc 5 _ rfl⟩
set_option maxHeartbeats 1000000 in
set_option maxRecDepth 100000 in
theorem markVersionS_mut (P : Nat → Prop) (v : Value) (l : List S130) (a : Int) (base : Nat) (w : World) (hS : Kd.S k130 130 w base P v l) (hl : l.length ≤ 1048576) (hi : ∀ y ∈ l, y.f1.f2.length ≤ 1048576 ∧ y.f1.f3.length ≤ 1048576) (h0 : 0 ≤ a) (h1 : a + numV l ≤ 4611686018427387904) :
    Calls Try.prog 29 #[v, .int .i64 a] w fun e w' => e = .returned (.int .i64 (a + numV l)) ∧ Mut P w w' := by
  have hu := Try.underlying130
  have hu2 := Try.underlying69
  have hu3 := Try.underlying67
  have hu4 := Try.underlying65
  obtain ⟨A0, c0, rfl⟩ := Kd.S_slice hS
  have HV : 0 < l.length → ∃ g, A0 = some ⟨g, 0, none⟩ ∧ Aside0 (VerFree P w g l) := fun hp => by
    obtain ⟨g, cap, eg, _⟩ := Kd.S_form hS hp
    injection eg with ea _ ec
    subst ea ec
    exact ⟨g, rfl, ⟨VerFree.of_S hS rfl hi⟩⟩
  have HI := Aside0.mk hi
  have HA := Aside0.mk h0
  have HT := Aside0.mk h1
  clear hS hi h0 h1
  go_enter Try.func29, Try.ntmps29
  go_wp2
  go_loopw [1, 5] (fun v1 v5 wr => ∃ (m : Nat) (b : Int) (ys : List S130), v1 = .int .i64 b ∧ v5 = .int .i64 m ∧ m ≤ l.length ∧ Aside0 (l.drop m = ys ∧ b + numV ys = a + numV l ∧ 0 ≤ b) ∧ Aside0 (Mut P w wr)) (fun _ v5 _ => l.length - (intOf v5).toNat)
  case atStart => exact ⟨0, a, l, rfl, rfl, Nat.zero_le _, ⟨rfl, rfl, HA.out⟩, ⟨Mut.refl _ _⟩⟩
  case round =>
    obtain ⟨m, b, ys, rfl, rfl, hm, HF, HM⟩ := hrel
    by_cases hlt : m < l.length
    · cases ys with
      | nil => exact absurd (drop_nil HF.out.1) (by omega)
      | cons y ys =>
      obtain ⟨g, eg, HW⟩ := HV (by omega)
      subst eg
      have hb0 := HF.out.2.2
      have hb1 : b + numV1 y ≤ 4611686018427387904 := by
        have h2 := HF.out.2.1
        have h3 := HT.out
        have h4 := numV_nonneg ys
        simp only [numV] at h2
        omega
      unfold numV1 at hb1
      obtain ⟨hints, A6, c6, A7, c7, hs6, hs7, f6, f7⟩ := HW.out m hlt
      rw [show rd_T130 l (m : Int) = y from (drop_cons HF.out.1).2.1 _] at hs6 hs7 f6 f7
      have n0 : Free P w g (m * 8) := hints 0 (by omega)
      have n1 := hints 1 (by omega)
      have n2 := hints 2 (by omega)
      have n3 := hints 3 (by omega)
      have n4 := hints 4 (by omega)
      have n5 := hints 5 (by omega)
      have M0 := HM.out
      have M1 := M0.set (a := ⟨g, m * 8, none⟩) n0.1 n0.2.1 b
      have M2 := M1.set (a := ⟨g, m * 8 + 1, none⟩) n1.1 n1.2.1 (b + 1)
      have M3 := M2.set (a := ⟨g, m * 8 + 2, none⟩) n2.1 n2.2.1 (b + 1 + 1)
      have M4 := M3.set (a := ⟨g, m * 8 + 3, none⟩) n3.1 n3.2.1 (b + 1 + 1 + 1)
      have M5 := M4.set (a := ⟨g, m * 8 + 4, none⟩) n4.1 n4.2.1 (b + 1 + 1 + 1 + 1)
      have M6 := M5.set (a := ⟨g, m * 8 + 5, none⟩) n5.1 n5.2.1 (b + 1 + 1 + 1 + 1 + 1)
      obtain ⟨x0, hx0⟩ := (n0.mut M0).2.1
      obtain ⟨x1, hx1⟩ := (n1.mut M0).2.1
      obtain ⟨x2, hx2⟩ := (n2.mut M0).2.1
      obtain ⟨x3, hx3⟩ := (n3.mut M0).2.1
      obtain ⟨x4, hx4⟩ := (n4.mut M0).2.1
      obtain ⟨x5, hx5⟩ := (n5.mut M0).2.1
      have hf0 := (n0.mut M0).2.2
      have hf1 := (n1.mut M0).2.2
      have hf2 := (n2.mut M0).2.2
      have hf3 := (n3.mut M0).2.2
      have hf4 := (n4.mut M0).2.2
      have hf5 := (n5.mut M0).2.2
      have hx6 : wr.cell? ⟨g, m * 8 + 6, none⟩ = some (.slice A6 y.f1.f2.length c6) := (M0.rest _ (int_ne_slice hs6)).trans hs6
      have HM6 := Aside0.mk M6
      have HF6 := Aside0.mk (f6.mut M6)
      have HF7 := Aside0.mk f7
      have HS7 := Aside0.mk hs7
      clear hints hs6 hs7 f6 f7 n0 n1 n2 n3 n4 n5 M0 M1 M2 M3 M4 M5 M6 HV
      go_wp2_with fail
      refine (markInt64S_mut P A6 _ c6 _ _ HF6.out (by omega) (by omega)).mono ?_
      rintro e w2 ⟨rfl, hM2⟩
      have HM7 := Aside0.mk (HM6.out.trans hM2)
      have hx7 : w2.cell? ⟨g, m * 8 + 7, none⟩ = some (.slice A7 y.f1.f3.length c7) := (HM7.out.rest _ (int_ne_slice HS7.out)).trans HS7.out
      have HF7b := Aside0.mk (HF7.out.mut HM7.out)
      clear hM2 hx0 hx1 hx2 hx3 hx4 hx5 hx6 hf0 hf1 hf2 hf3 hf4 hf5 HM6 HF6
      go_wp2_with fail
      refine (markInt64S_mut P A7 _ c7 _ _ HF7b.out (by omega) (by omega)).mono ?_
      rintro e w3 ⟨rfl, hM3⟩
      have HM8 := Aside0.mk (HM7.out.trans hM3)
      have HFn : Aside0 (l.drop (m + 1) = ys ∧ b + 1 + 1 + 1 + 1 + 1 + 1 + (y.f1.f2.length : Int) + (y.f1.f3.length : Int) + numV ys = a + numV l ∧ 0 ≤ b + 1 + 1 + 1 + 1 + 1 + 1 + (y.f1.f2.length : Int) + (y.f1.f3.length : Int)) := ⟨(drop_cons HF.out.1).2.2, by have h2 := HF.out.2.1; simp only [numV, numV1] at h2; omega, by omega⟩
      clear hM3 hx7 HF HM HM7
      go_wp2_with fail
      go_roundw
      case rel => exact ⟨m + 1, _, ys, rfl, by go_num, by omega, HFn, HM8⟩
      case measure => simp [intOf]; omega
    · have HE : Aside0 (b = a + numV l) := ⟨by
        obtain ⟨f1, f2, _⟩ := HF.out
        have : ys = [] := by rw [← f1, List.drop_eq_nil_of_le (by omega)]
        subst this
        simp only [numV, Int.add_zero] at f2
        exact f2⟩
      clear HF
      go_wp2
      go_ret
      obtain rfl := HE.out
      exact ⟨rfl, HM.out⟩

end Go.Proofs.Ytgpdjpololkhbaa.Pure

namespace Go.Proofs.Ytgpdjpololkhbaa.Pure
open Go.RowKit Go.Proofs.Ytgpdjpololkhbaa.F Go.Proofs.YtgpdjpololkhbaaW.PrintWords Go.Proofs.YtgpdjpololkhbaaW.PrintLast Go.Proofs.YtgpdjpololkhbaaW.PrintMore Go.Proofs.YtgpdjpololkhbaaB
set_option linter.unusedVariables false
set_option linter.unusedSimpArgs false
/-- What the number behind marks from a on is. -/
def MarkVs (l ys : List S130) (a n : Int) : Prop := l.length ≤ 1048576 ∧ (∀ y ∈ l, y.f1.f2.length ≤ 1048576 ∧ y.f1.f3.length ≤ 1048576) ∧ 0 ≤ a ∧ a + numV l ≤ 4611686018427387904 ∧ n = a + numV l ∧ ys = l
theorem MK_VersionS (P : Nat → Prop) (A : Option Addr) (c : Nat) (l ys : List S130) (a n : Int) (w0 w : World) (hB : Below w0.heap.size w0 w) (hO : Kd.S k130 130 w w0.heap.size P (.slice A l.length c) l) (h : MarkVs l ys a n) :
    Calls Try.prog 29 #[.slice A l.length c, .int .i64 a] w fun e w' => e = .returned (.int .i64 n) ∧ True ∧ Below w0.heap.size w0 w' ∧ Kept w w' P := by
  obtain ⟨h1, h2, h3, h4, rfl, _⟩ := h
  have hO2 := Kd.S_mono (Kd.S_bound hO) (ok' := fun k => P k ∧ w0.heap.size ≤ k) (fun k hk => ⟨hk.1, hk.2.1⟩)
  exact (markVersionS_mut (fun k => P k ∧ w0.heap.size ≤ k) _ l a _ w hO2 h1 h2 h3 h4).mono fun e w' ⟨he, hm⟩ => ⟨he, trivial, hm.below hB (fun k hk => hk.2), hm.kept.mono (fun k hk => hk.1)⟩

end Go.Proofs.Ytgpdjpololkhbaa.Pure

namespace Go.Proofs.Ytgpdjpololkhbaa.Pure
open Go.RowKit Go.Proofs.Ytgpdjpololkhbaa.F Go.Proofs.YtgpdjpololkhbaaW.PrintWords Go.Proofs.YtgpdjpololkhbaaW.PrintLast Go.Proofs.YtgpdjpololkhbaaW.PrintMore Go.Proofs.YtgpdjpololkhbaaB
set_option linter.unusedVariables false
set_option linter.unusedSimpArgs false
section
variable {α : Type} {d : Kd α} {e : Nat} {w : World} {base : Nat} {ok : Nat → Prop} {A : Option Addr} {n c : Nat} {xs : List α}
theorem Kd.R_now (h : d.R e w base ok (.slice A n c) xs) (hl : xs.length = n) : xs.length ≤ c ∧ d.C w A xs.length xs := by
  obtain ⟨h1, h2, h3⟩ := Kd.R_reads' h
  exact ⟨by omega, h3⟩
theorem Kd.S_now (h : Kd.S d e w base ok (.slice A n c) xs) (hl : xs.length = n) : xs.length ≤ c ∧ d.C w A xs.length xs := by
  obtain ⟨h1, h2, h3⟩ := Kd.S_reads' h
  exact ⟨by omega, h3⟩
end

end Go.Proofs.Ytgpdjpololkhbaa.Pure

namespace Go.Proofs.Ytgpdjpololkhbaa.Pure
open Go.RowKit Go.Proofs.Ytgpdjpololkhbaa.F Go.Proofs.YtgpdjpololkhbaaW.PrintWords Go.Proofs.YtgpdjpololkhbaaW.PrintLast Go.Proofs.YtgpdjpololkhbaaW.PrintMore Go.Proofs.YtgpdjpololkhbaaB
set_option linter.unusedVariables false
set_option linter.unusedSimpArgs false
theorem SZ_VersionS (A : Option Addr) (c : Nat) (l : List S126) (a n : Int) (w : World) (hr : Kd.C k126 w A l.length l) (hc : l.length ≤ c) (h : Ev (fun k => laws_szVersionS.f k l a) n) :
    Calls Try.prog 24 #[.slice A l.length c, .int .i64 a] w fun e w' => e = .returned (.int .i64 n) ∧ Below w.heap.size w w' := by
  obtain ⟨k, h⟩ := h.rounds
  exact (laws_szVersionS.calls k A c l a n w hr hc h).mono fun e w' ⟨h1, h2⟩ => ⟨h1, h2⟩

end Go.Proofs.Ytgpdjpololkhbaa.Pure

namespace Go.Proofs.Ytgpdjpololkhbaa.Pure
open Go.RowKit Go.Proofs.Ytgpdjpololkhbaa.F Go.Proofs.YtgpdjpololkhbaaW.PrintWords Go.Proofs.YtgpdjpololkhbaaW.PrintLast Go.Proofs.YtgpdjpololkhbaaW.PrintMore Go.Proofs.YtgpdjpololkhbaaB
set_option linter.unusedVariables false
set_option linter.unusedSimpArgs false
theorem TO_VersionS (A : Option Addr) (c : Nat) (l : List S126) (xs : List S130) (w : World) (hr : Kd.C k126 w A l.length l) (hc : l.length ≤ c) (h : Ev (fun k => laws_toVersionS.f k l) xs) :
    Calls Try.prog 26 #[.slice A l.length c] w fun e w' => ∃ A' c', e = .returned (.slice A' xs.length c') ∧ Kd.S k130 130 w' w.heap.size (fun k => w.heap.size ≤ k ∧ k < w'.heap.size) (.slice A' xs.length c') xs ∧ Below w.heap.size w w' := by
  obtain ⟨k, h⟩ := h.rounds
  refine (laws_toVersionS.calls k A c l xs w hr hc h).mono fun e w' ⟨v, h1, h2, h3⟩ => ?_
  obtain ⟨A', c', rfl⟩ := Kd.S_slice h2
  exact ⟨A', c', h1, Kd.S_mono (Kd.S_bound h2) (fun k hk => ⟨hk.2.1, hk.2.2.1⟩), h3⟩

end Go.Proofs.Ytgpdjpololkhbaa.Pure

namespace Go.Proofs.Ytgpdjpololkhbaa.Pure
open Go.RowKit Go.Proofs.Ytgpdjpololkhbaa.F Go.Proofs.YtgpdjpololkhbaaW.PrintWords Go.Proofs.YtgpdjpololkhbaaW.PrintLast Go.Proofs.YtgpdjpololkhbaaW.PrintMore Go.Proofs.YtgpdjpololkhbaaB
set_option linter.unusedVariables false
set_option linter.unusedSimpArgs false
set_option maxHeartbeats 8000000 in
set_option maxRecDepth 100000 in
theorem early0_FnExactAncestorsOf (A0 : Option Addr) (c0 : Nat) (l0 : List S126) (a1 : Int) (n0 : Int) (w : World) (hr0 : Kd.C k126 w A0 l0.length l0) (hc0 : l0.length ≤ c0) (Hsz0 : Ev (fun k => laws_szVersionS.f k l0 1048576) n0) (Hn0 : n0 < 0) :
    Calls Try.prog 4 #[.slice A0 l0.length c0, .int .i64 a1] w fun e w' => e = .returned (.bool true) ∧ Below w.heap.size w w' := by
  have HB := Aside0.mk (Below.refl w.heap.size w)
  have HR0 := Aside0.mk hr0
  have HC0 := Aside0.mk hc0
  clear hr0 hc0
  have QHsz0 := Aside0.mk Hsz0
  clear Hsz0
  go_enter Try.func4, Try.ntmps4
  go_wp2_with fail
  refine (SZ_VersionS A0 c0 l0 1048576 n0 _ (Kd.C_below HR0.out HB.out) HC0.out QHsz0.out).mono ?_
  rintro e w1 ⟨rfl, hb⟩
  have n_ := Aside0.mk (HB.out.trans (hb.mono HB.out.size))
  clear HB hb
  have HB := n_
  clear n_
  go_wp2
  go_ret
  exact ⟨rfl, HB.out⟩
set_option maxHeartbeats 8000000 in
set_option maxRecDepth 100000 in
theorem walk_FnExactAncestorsOf (A0 : Option Addr) (c0 : Nat) (l0 : List S126) (x0 : List S130) (n0 : Int) (a1 : Int) (r0 : List Int) (r1 : Int) (ya0 : List S130) (ma0 : Int) (yr0 : List Int) (mr0 : Int) (w : World) (hr0 : Kd.C k126 w A0 l0.length l0) (hc0 : l0.length ≤ c0) (Hsz0 : Ev (fun k => laws_szVersionS.f k l0 1048576) n0) (Hn0 : 0 ≤ n0) (Ht0 : Ev (fun k => laws_toVersionS.f k l0) x0) (Hx0 : Ev (fun k => laws_eqVersionS.f k x0 x0) true) (Hs : Ev (fun k => spec_AncestorsOf.f k x0 a1) (r0, r1)) (Hi : Ev (fun k => impl_AncestorsOf.f k x0 a1) (r0, r1)) (He0 : Ev (fun k => laws_eqInt64S.f k r0 r0) true) (Hma0 : MarkVs x0 ya0 1 ma0) (Hmn0 : 0 ≤ ma0) (Hmr0 : Ev (fun k => laws_markInt64S.f k r0 1) (mr0, yr0)) (Hrn0 : 0 ≤ mr0) (Hl0 : yr0.length = r0.length) (Hh0 : Ev (fun k => laws_heldInt64S.f k yr0 1) mr0) :
    Calls Try.prog 4 #[.slice A0 l0.length c0, .int .i64 a1] w fun e w' => e = .returned (.bool true) ∧ Below w.heap.size w w' := by
  have HB := Aside0.mk (Below.refl w.heap.size w)
  have HR0 := Aside0.mk hr0
  have HC0 := Aside0.mk hc0
  clear hr0 hc0
  have QHsz0 := Aside0.mk Hsz0
  clear Hsz0
  have QHt0 := Aside0.mk Ht0
  clear Ht0
  have QHx0 := Aside0.mk Hx0
  clear Hx0
  have QHs := Aside0.mk Hs
  clear Hs
  have QHi := Aside0.mk Hi
  clear Hi
  have QHe0 := Aside0.mk He0
  clear He0
  have QHma0 := Aside0.mk Hma0
  clear Hma0
  have QHmr0 := Aside0.mk Hmr0
  clear Hmr0
  have QHl0 := Aside0.mk Hl0
  clear Hl0
  have QHh0 := Aside0.mk Hh0
  clear Hh0
  have hcc : ∀ r : Int, (r != r) = false := fun r => by simp
  go_enter Try.func4, Try.ntmps4
  go_wp2_with fail
  refine (SZ_VersionS A0 c0 l0 1048576 n0 _ (Kd.C_below HR0.out HB.out) HC0.out QHsz0.out).mono ?_
  rintro e w1 ⟨rfl, hb⟩
  have HZ2 := Aside0.mk hb.size
  have n_ := Aside0.mk (HB.out.trans (hb.mono HB.out.size))
  clear HB hb
  have HB := n_
  clear n_
  go_wp2_with fail
  refine (TO_VersionS A0 c0 l0 x0 _ (Kd.C_below HR0.out HB.out) HC0.out QHt0.out).mono ?_
  rintro e w3 ⟨B4, d4, rfl, hO, hb⟩
  have HZ5 := Aside0.mk hb.size
  have n_ := Aside0.mk (HB.out.trans (hb.mono HB.out.size))
  clear HB hb
  have HB := n_
  clear n_
  have HO4 := Aside0.mk hO
  clear hO
  go_wp2_with fail
  obtain ⟨kHs7, hHs7⟩ := QHs.out.rounds
  refine (spec_AncestorsOf.calls kHs7 B4 d4 x0 a1 r0 r1 _ (Kd.S_reads' HO4.out).2.2 (Kd.S_reads' HO4.out).2.1 hHs7).mono ?_
  clear hHs7
  rintro e w6 ⟨v7_0, rfl, ho7_0, hb⟩
  obtain ⟨Bv7_0, dv7_0, rfl⟩ := Kd.R_slice ho7_0
  have HO7 := Aside0.mk (Kd.R_mono (Kd.R_bound ho7_0) (ok' := fun k_ => w3.heap.size ≤ k_ ∧ k_ < w6.heap.size) (fun k_ h_ => ⟨h_.2.1, h_.2.2.1⟩))
  clear ho7_0
  have n_ := Aside0.mk (Kd.S_below HO4.out hb)
  clear HO4
  have HO4 := n_
  clear n_
  have HZ8 := Aside0.mk hb.size
  have n_ := Aside0.mk (HB.out.trans (hb.mono HB.out.size))
  clear HB hb
  have HB := n_
  clear n_
  go_wp2_with fail
  clear HO4
  refine (TO_VersionS A0 c0 l0 x0 _ (Kd.C_below HR0.out HB.out) HC0.out QHt0.out).mono ?_
  rintro e w9 ⟨B10, d10, rfl, hO, hb⟩
  have n_ := Aside0.mk (Kd.R_below HO7.out hb)
  clear HO7
  have HO7 := n_
  clear n_
  have HZ11 := Aside0.mk hb.size
  have n_ := Aside0.mk (HB.out.trans (hb.mono HB.out.size))
  clear HB hb
  have HB := n_
  clear n_
  have HO10 := Aside0.mk hO
  clear hO
  go_wp2_with fail
  obtain ⟨kHi13, hHi13⟩ := QHi.out.rounds
  refine (impl_AncestorsOf.calls kHi13 B10 d10 x0 a1 r0 r1 _ (Kd.S_reads' HO10.out).2.2 (Kd.S_reads' HO10.out).2.1 hHi13).mono ?_
  clear hHi13
  rintro e w12 ⟨v13_0, rfl, ho13_0, hb⟩
  obtain ⟨Bv13_0, dv13_0, rfl⟩ := Kd.R_slice ho13_0
  have HO13 := Aside0.mk (Kd.R_mono (Kd.R_bound ho13_0) (ok' := fun k_ => w9.heap.size ≤ k_ ∧ k_ < w12.heap.size) (fun k_ h_ => ⟨h_.2.1, h_.2.2.1⟩))
  clear ho13_0
  have n_ := Aside0.mk (Kd.R_below HO7.out hb)
  clear HO7
  have HO7 := n_
  clear n_
  have n_ := Aside0.mk (Kd.S_below HO10.out hb)
  clear HO10
  have HO10 := n_
  clear n_
  have HZ14 := Aside0.mk hb.size
  have n_ := Aside0.mk (HB.out.trans (hb.mono HB.out.size))
  clear HB hb
  have HB := n_
  clear n_
  go_wp2_with fail
  refine (EQ_Int64S Bv13_0 Bv7_0 dv13_0 dv7_0 r0 _ (Kd.R_reads' HO13.out).2.2 (Kd.R_reads' HO13.out).2.1 (Kd.R_reads' HO7.out).2.2 (Kd.R_reads' HO7.out).2.1 QHe0.out).mono ?_
  rintro e w15 ⟨rfl, hb⟩
  have n_ := Aside0.mk (Kd.R_below HO7.out hb)
  clear HO7
  have HO7 := n_
  clear n_
  have n_ := Aside0.mk (Kd.S_below HO10.out hb)
  clear HO10
  have HO10 := n_
  clear n_
  have n_ := Aside0.mk (Kd.R_below HO13.out hb)
  clear HO13
  have HO13 := n_
  clear n_
  have HZ16 := Aside0.mk hb.size
  have n_ := Aside0.mk (HB.out.trans (hb.mono HB.out.size))
  clear HB hb
  have HB := n_
  clear n_
  go_wp2_with fail
  refine (TO_VersionS A0 c0 l0 x0 _ (Kd.C_below HR0.out HB.out) HC0.out QHt0.out).mono ?_
  rintro e w17 ⟨B18, d18, rfl, hO, hb⟩
  have n_ := Aside0.mk (Kd.R_below HO7.out hb)
  clear HO7
  have HO7 := n_
  clear n_
  have n_ := Aside0.mk (Kd.S_below HO10.out hb)
  clear HO10
  have HO10 := n_
  clear n_
  have n_ := Aside0.mk (Kd.R_below HO13.out hb)
  clear HO13
  have HO13 := n_
  clear n_
  have HZ19 := Aside0.mk hb.size
  have n_ := Aside0.mk (HB.out.trans (hb.mono HB.out.size))
  clear HB hb
  have HB := n_
  clear n_
  have HO18 := Aside0.mk hO
  clear hO
  go_wp2_with fail
  refine (EQ_VersionS B10 B18 d10 d18 x0 _ (Kd.S_reads' HO10.out).2.2 (Kd.S_reads' HO10.out).2.1 (Kd.S_reads' HO18.out).2.2 (Kd.S_reads' HO18.out).2.1 QHx0.out).mono ?_
  rintro e w20 ⟨rfl, hb⟩
  have n_ := Aside0.mk (Kd.R_below HO7.out hb)
  clear HO7
  have HO7 := n_
  clear n_
  have n_ := Aside0.mk (Kd.S_below HO10.out hb)
  clear HO10
  have HO10 := n_
  clear n_
  have n_ := Aside0.mk (Kd.R_below HO13.out hb)
  clear HO13
  have HO13 := n_
  clear n_
  have n_ := Aside0.mk (Kd.S_below HO18.out hb)
  clear HO18
  have HO18 := n_
  clear n_
  have HZ21 := Aside0.mk hb.size
  have n_ := Aside0.mk (HB.out.trans (hb.mono HB.out.size))
  clear HB hb
  have HB := n_
  clear n_
  go_wp2_with fail
  clear HO18
  refine (MK_VersionS (fun k_ => w6.heap.size ≤ k_ ∧ k_ < w9.heap.size) B10 d10 x0 ya0 1 ma0 w _ HB.out (Kd.S_lower HO10.out (by have := HZ2.out; have := HZ5.out; have := HZ8.out; have := HZ11.out; have := HZ14.out; have := HZ16.out; have := HZ19.out; have := HZ21.out; omega)) QHma0.out).mono ?_
  rintro e w22 ⟨rfl, hO, hB2, hK⟩
  have n_ := Aside0.mk (Kd.R_kept HO7.out hK (fun k_ h_ h2_ => by have := HZ2.out; have := HZ5.out; have := HZ8.out; have := HZ11.out; have := HZ14.out; have := HZ16.out; have := HZ19.out; have := HZ21.out; obtain ⟨h3_, h4_⟩ := h2_; rcases h_ with h_ <;> omega))
  clear HO7
  have HO7 := n_
  clear n_
  have n_ := Aside0.mk (Kd.R_kept HO13.out hK (fun k_ h_ h2_ => by have := HZ2.out; have := HZ5.out; have := HZ8.out; have := HZ11.out; have := HZ14.out; have := HZ16.out; have := HZ19.out; have := HZ21.out; obtain ⟨h3_, h4_⟩ := h2_; rcases h_ with h_ <;> omega))
  clear HO13
  have HO13 := n_
  clear n_
  have HZ23 := Aside0.mk hK.1
  clear HB
  have HB := Aside0.mk hB2
  clear HO10
  clear hO hB2 hK
  go_wp2_with fail
  refine (EQ_Int64S Bv13_0 Bv7_0 dv13_0 dv7_0 r0 _ (Kd.R_reads' HO13.out).2.2 (Kd.R_reads' HO13.out).2.1 (Kd.R_reads' HO7.out).2.2 (Kd.R_reads' HO7.out).2.1 QHe0.out).mono ?_
  rintro e w24 ⟨rfl, hb⟩
  have n_ := Aside0.mk (Kd.R_below HO7.out hb)
  clear HO7
  have HO7 := n_
  clear n_
  have n_ := Aside0.mk (Kd.R_below HO13.out hb)
  clear HO13
  have HO13 := n_
  clear n_
  have HZ25 := Aside0.mk hb.size
  have n_ := Aside0.mk (HB.out.trans (hb.mono HB.out.size))
  clear HB hb
  have HB := n_
  clear n_
  go_wp2_with fail
  refine (MK_Int64S (fun k_ => w9.heap.size ≤ k_ ∧ k_ < w12.heap.size) Bv13_0 dv13_0 r0 yr0 1 mr0 w _ HB.out (Kd.R_lower HO13.out (by have := HZ2.out; have := HZ5.out; have := HZ8.out; have := HZ11.out; have := HZ14.out; have := HZ16.out; have := HZ19.out; have := HZ21.out; have := HZ23.out; have := HZ25.out; omega)) QHmr0.out).mono ?_
  rintro e w26 ⟨rfl, hO, hB2, hK⟩
  have n_ := Aside0.mk (Kd.R_kept HO7.out hK (fun k_ h_ h2_ => by have := HZ2.out; have := HZ5.out; have := HZ8.out; have := HZ11.out; have := HZ14.out; have := HZ16.out; have := HZ19.out; have := HZ21.out; have := HZ23.out; have := HZ25.out; obtain ⟨h3_, h4_⟩ := h2_; rcases h_ with h_ <;> omega))
  clear HO7
  have HO7 := n_
  clear n_
  have HZ27 := Aside0.mk hK.1
  clear HB
  have HB := Aside0.mk hB2
  clear HO13
  have HO13 := Aside0.mk hO
  clear hO hB2 hK
  go_wp2_with fail
  refine (HD_Int64S Bv13_0 dv13_0 r0.length yr0 1 mr0 _ QHl0.out (Kd.R_now HO13.out QHl0.out).2 (Kd.R_now HO13.out QHl0.out).1 QHh0.out).mono ?_
  rintro e w28 ⟨rfl, hb⟩
  have n_ := Aside0.mk (Kd.R_below HO7.out hb)
  clear HO7
  have HO7 := n_
  clear n_
  have n_ := Aside0.mk (Kd.R_below HO13.out hb)
  clear HO13
  have HO13 := n_
  clear n_
  have HZ29 := Aside0.mk hb.size
  have n_ := Aside0.mk (HB.out.trans (hb.mono HB.out.size))
  clear HB hb
  have HB := n_
  clear n_
  go_wp2_with fail
  refine (TO_VersionS A0 c0 l0 x0 _ (Kd.C_below HR0.out HB.out) HC0.out QHt0.out).mono ?_
  rintro e w30 ⟨B31, d31, rfl, hO, hb⟩
  have n_ := Aside0.mk (Kd.R_below HO7.out hb)
  clear HO7
  have HO7 := n_
  clear n_
  have n_ := Aside0.mk (Kd.R_below HO13.out hb)
  clear HO13
  have HO13 := n_
  clear n_
  have HZ32 := Aside0.mk hb.size
  have n_ := Aside0.mk (HB.out.trans (hb.mono HB.out.size))
  clear HB hb
  have HB := n_
  clear n_
  have HO31 := Aside0.mk hO
  clear hO
  go_wp2_with fail
  obtain ⟨kHi34, hHi34⟩ := QHi.out.rounds
  refine (impl_AncestorsOf.calls kHi34 B31 d31 x0 a1 r0 r1 _ (Kd.S_reads' HO31.out).2.2 (Kd.S_reads' HO31.out).2.1 hHi34).mono ?_
  clear hHi34
  rintro e w33 ⟨v34_0, rfl, ho34_0, hb⟩
  obtain ⟨Bv34_0, dv34_0, rfl⟩ := Kd.R_slice ho34_0
  have HO34 := Aside0.mk (Kd.R_mono (Kd.R_bound ho34_0) (ok' := fun k_ => w30.heap.size ≤ k_ ∧ k_ < w33.heap.size) (fun k_ h_ => ⟨h_.2.1, h_.2.2.1⟩))
  clear ho34_0
  have n_ := Aside0.mk (Kd.R_below HO7.out hb)
  clear HO7
  have HO7 := n_
  clear n_
  have n_ := Aside0.mk (Kd.R_below HO13.out hb)
  clear HO13
  have HO13 := n_
  clear n_
  have n_ := Aside0.mk (Kd.S_below HO31.out hb)
  clear HO31
  have HO31 := n_
  clear n_
  have HZ35 := Aside0.mk hb.size
  have n_ := Aside0.mk (HB.out.trans (hb.mono HB.out.size))
  clear HB hb
  have HB := n_
  clear n_
  go_wp2_with fail
  clear HO31
  refine (EQ_Int64S Bv34_0 Bv7_0 dv34_0 dv7_0 r0 _ (Kd.R_reads' HO34.out).2.2 (Kd.R_reads' HO34.out).2.1 (Kd.R_reads' HO7.out).2.2 (Kd.R_reads' HO7.out).2.1 QHe0.out).mono ?_
  rintro e w36 ⟨rfl, hb⟩
  have n_ := Aside0.mk (Kd.R_below HO7.out hb)
  clear HO7
  have HO7 := n_
  clear n_
  have n_ := Aside0.mk (Kd.R_below HO13.out hb)
  clear HO13
  have HO13 := n_
  clear n_
  have n_ := Aside0.mk (Kd.R_below HO34.out hb)
  clear HO34
  have HO34 := n_
  clear n_
  have HZ37 := Aside0.mk hb.size
  have n_ := Aside0.mk (HB.out.trans (hb.mono HB.out.size))
  clear HB hb
  have HB := n_
  clear n_
  go_wp2_with fail
  clear HO34
  refine (HD_Int64S Bv13_0 dv13_0 r0.length yr0 1 mr0 _ QHl0.out (Kd.R_now HO13.out QHl0.out).2 (Kd.R_now HO13.out QHl0.out).1 QHh0.out).mono ?_
  rintro e w38 ⟨rfl, hb⟩
  have n_ := Aside0.mk (Kd.R_below HO7.out hb)
  clear HO7
  have HO7 := n_
  clear n_
  have n_ := Aside0.mk (Kd.R_below HO13.out hb)
  clear HO13
  have HO13 := n_
  clear n_
  have HZ39 := Aside0.mk hb.size
  have n_ := Aside0.mk (HB.out.trans (hb.mono HB.out.size))
  clear HB hb
  have HB := n_
  clear n_
  try go_wp2
  go_ret
  exact ⟨rfl, HB.out⟩

end Go.Proofs.Ytgpdjpololkhbaa.Pure

namespace Go.Proofs.Ytgpdjpololkhbaa.Pure
open Go.RowKit Go.Proofs.Ytgpdjpololkhbaa.F Go.Proofs.YtgpdjpololkhbaaW.PrintWords Go.Proofs.YtgpdjpololkhbaaW.PrintLast Go.Proofs.YtgpdjpololkhbaaW.PrintMore Go.Proofs.YtgpdjpololkhbaaB
set_option linter.unusedVariables false
set_option linter.unusedSimpArgs false
theorem resAnc_length (xs : List S130) (a : Int) : (resAnc xs a).1.length ≤ 13 := by
  unfold resAnc
  split
  · exact anc_length xs 13 a
  · exact Nat.zero_le _
theorem walkFnExactAncestorsOf (A0 : Option Addr) (c0 : Nat) (l0 : (List S126)) (a1 : Int) (w : World) (hr0 : Kd.C k126 w A0 l0.length l0) (hc0 : l0.length ≤ c0) (hm0 : l0.length ≤ maxLen) (hg0 : ∀ y ∈ l0, g126 y) (hg1 : (Lit.int .i64 a1).wf = true) :
    Calls Try.prog 4 #[.slice A0 l0.length c0, .int .i64 a1] w fun e w' => e = .returned (.bool true) ∧ Below w.heap.size w w' := by
  unfold maxLen at hm0
  have hi : ∀ x ∈ l0, x.f1.f2.length ≤ 9223372036854775807 ∧ x.f1.f3.length ≤ 9223372036854775807 := fun x hx => by
    have h1 : g62 x.f1 := (hg0 x hx).2
    unfold g62 maxLen at h1
    exact ⟨h1.2.2.1.1, h1.2.2.2.1⟩
  have hs := laws_szVersionS_f l0 1048576 (by omega) (by omega) hm0 hi
  by_cases h : (1048576 : Int) < l0.length + total szVersion l0
  · rw [if_pos h] at hs
    exact early0_FnExactAncestorsOf A0 c0 l0 a1 (-1) w hr0 hc0 hs (by omega)
  rw [if_neg h] at hs
  obtain ⟨s1, s2⟩ := szVersion_small l0 h
  have t := laws_toVersionS_f l0 s1 s2
  have sm := toV_small l0 s2
  have sl : (l0.map toV).length ≤ 1048576 := by rw [List.length_map]; exact s1
  have nv := numV_total l0
  have nn := numV_nonneg (l0.map toV)
  generalize l0.map toV = zs at *
  have sv : smallV zs := ⟨sl, sm⟩
  have hS := spec_AncestorsOf_f zs sv a1
  have hI := impl_AncestorsOf_f zs sv a1
  have hr := resAnc_length zs a1
  generalize resAnc zs a1 = r at *
  obtain ⟨r0, r1⟩ := r
  simp only at hr
  exact walk_FnExactAncestorsOf A0 c0 l0 zs _ a1 r0 r1 _ _ _ _ w hr0 hc0 hs (by omega) t (laws_eqVersionS_f zs (by omega) sm) hS hI (laws_eqInt64S_f r0 (by omega)) ⟨by omega, sm, by omega, by omega, rfl, rfl⟩ (by omega)
    (laws_markInt64S_f r0 1 (by omega) (by omega) (by omega)) (by omega) (markI_length _ _) (laws_heldInt64S_f r0 1 (by omega) (by omega) (by omega))

end Go.Proofs.Ytgpdjpololkhbaa.Pure

namespace Go.Proofs.Ytgpdjpololkhbaa.fnExactAncestorsOf
open Go.ChangeShapes Go.WideShapes Go.ChangeAt Go.RowKit Go.Proofs.YtgpdjpololkhbaaO Go.Proofs.Ytgpdjpololkhbaa.F Go.Proofs.YtgpdjpololkhbaaW.PrintWords
open Go.ChangeMaps (open_string shut_string)
set_option linter.unusedVariables false
theorem own : ownKnob Try.prog.godebug = none := by kernel_rfl
theorem laidOut : laidOutB Try.prog = true := by kernel_rfl
set_option maxRecDepth 100000 in
theorem lifted (os : Os) (started : os.Started) (H : Type) (enc : TypeId × Value → H) :
    ReturnsInHanded {} Try.checked os 4 .any (Rows.fnExactAncestorsOfSpec.pre6 enc Try.prog Try.f4 Rows.fnExactAncestorsOfRow.domain false) (Rows.fnExactAncestorsOfSpec.post enc Try.prog Try.f4 false true false false) := by
  refine returnsInHanded_of_change (C := Try.checked) own started (by kernel_rfl) Try.func4
    (ChangeSpec.witness6 (enc := enc) (C := Try.checked) false ⟨#[], #[.slice none 0 0, .int .i64 0], []⟩ 8 (by kernel_rfl) (by kernel_rfl) (by kernel_rfl) (by kernel_rfl)) ?_
  intro W base args ds gs before hval0 hW hcnd _
  have hval : ∀ (j : Nat) t v, Try.f4.params[j]? = some t → args[j]? = some v → Value.okWide Try.prog W .any base t v := hval0
  have hW' := hW
  obtain ⟨p, q, hA0, hV, rfl, hfz, hnd⟩ := hW
  have hA : DataW.TrodAll enc Try.prog W 0 (fun _ => true) true Try.f4.params.toList args.toList ds p := hA0
  rw [Try.params4] at hA hval
  obtain ⟨v0, vs0, d0, ds0, p0, q0, hargs, rfl, rfl, h0, r0⟩ := trodAll_cons hA
  obtain ⟨v1, vs1, d1, ds1, p1, q1, rfl, rfl, rfl, h1, r1⟩ := trodAll_cons r0
  obtain ⟨rfl, rfl, rfl⟩ := trodAll_nil r1
  obtain rfl : args = #[v0, v1] := by cases args; simp_all
  obtain ⟨rfl, rfl⟩ := trodVars_none hV
  obtain ⟨a0, len0, cap0, rfl⟩ := okWide_slice Try.underlying34 (hval 0 34 v0 rfl rfl)
  have k0_ := h0
  have lt0 : ∀ x ∈ p0, x.block < W.heap.size := by obtain ⟨m, hm⟩ := k0_; exact DataW.trod_lt m _ _ _ hm
  obtain ⟨fuel0, hf0⟩ := h0
  obtain ⟨A0, l0, c0, hcs0, hc0, hb0, hr0, hg0⟩ := opens_row (d := k126) (G := g126) Try.underlying34 (by kernel_rfl) o126 hf0
  simp [Value.cells] at hcs0
  obtain ⟨rfl, rfl, rfl⟩ := hcs0
  obtain ⟨a1, rfl, rfl, rfl, hg1⟩ := open_int Try.underlying2 (hval 1 2 v1 rfl rfl) h1
  clear hA0 hval0
  refine (Pure.walkFnExactAncestorsOf _ _ l0 a1 W hr0 hc0 (Nat.le_trans hc0 hb0) hg0 hg1).mono fun e W' ⟨he, bel⟩ => ?_
  subst he
  exact ⟨_, rfl, _, _, _, [], _, [], hW', trodAll_mk1 (shut_bool Try.underlying4 _), (trodAll_cons_mk (Below.trod laidOut (by kernel_rfl) (of_decide_eq_true (by kernel_rfl)) k0_ bel lt0) (trodAll_cons_mk (shut_int Try.underlying2 hg1) trodAll_mk0)), rfl, bel.frame _, fun h => by cases h⟩
theorem over : Rows.fnExactAncestorsOfRow.holds Try.pinned (OpenSpec.ofChange Rows.fnExactAncestorsOfSpec) :=
  OpenClaim.holds_of_wide 4 Try.f4 rfl rfl rfl rfl rfl rfl rfl ⟨rfl, rfl, rfl, rfl, rfl⟩ rfl rfl rfl rfl rfl (by kernel_rfl) Try.func4 (by kernel_rfl)
    (of_decide_eq_true (by kernel_rfl)) (by unfold Func.isWrapper; first | (rw [if_pos (by decide +kernel)]; kernel_rfl) | (rw [if_neg (by decide +kernel)]; exact ⟨rfl, rfl⟩))
    (fun os started H enc _ => lifted os started H enc)
theorem proved : Rows.FnExactAncestorsOfSaid := over
end Go.Proofs.Ytgpdjpololkhbaa.fnExactAncestorsOf
namespace Go.Proofs.Ytgpdjpololkhbaa
/-- The row, under a short name, for the claim. -/
theorem fnExactAncestorsOf_holds : Rows.FnExactAncestorsOfSaid := fnExactAncestorsOf.proved
end Go.Proofs.Ytgpdjpololkhbaa
#print axioms Go.Proofs.Ytgpdjpololkhbaa.fnExactAncestorsOf_holds
