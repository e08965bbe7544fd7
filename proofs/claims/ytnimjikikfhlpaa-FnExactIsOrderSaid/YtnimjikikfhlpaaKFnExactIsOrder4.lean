/-
  FnExactIsOrder: the law returns true for every input and leaves its arguments as they were (the last theorem here). No condition.
-/
import Derived.Deep.Slices
import Derived.ChangeArms
import Derived.Test.YtnimjikikfhlpaaRows
import Derived.ProofKit
import Derived.OpenShut
import Derived.ShutString
import Derived.ChangeOld
import Derived.Test.YtnimjikikfhlpaaKFnExactIsOrder3

namespace Go.Proofs.Ytnimjikikfhlpaa.F
open Go.RowKit Go.Proofs.YtnimjikikfhlpaaW.PrintWords Go.Proofs.YtnimjikikfhlpaaW.PrintLast Go.Proofs.YtnimjikikfhlpaaW.PrintMore
attribute [local go_sem] max2_int min2_int max_two min_two max_three min_three max_four min_four   -- for this text's walks alone
set_option linter.unusedVariables false
set_option linter.unusedSimpArgs false

/-! ### laws_FnExactIsOrder: function 3 -/
def laws_FnExactIsOrder.j0 : Nat → List (S102) → List Int → List (S107) → List Int → Bool → Option (Bool)
  | 0, _, _, _, _, _ => none
  | k + 1, x0, x1, x8, x9, x45 => if x45 = true then (some false) else ((laws_toStrokeS.f k x0).bind fun t208 => ((laws_eqStrokeS.f k x8 t208).bind fun t211 => (if t211 = true then ((laws_toInt64S.f k x1).bind fun t212 => ((laws_eqInt64S.f k x9 t212).bind fun t215 => (if t215 = true then (some true) else (some false)))) else (some false))))
def laws_FnExactIsOrder.f (k : Nat) (l0 : List (S102)) (l1 : List Int) : Option (Bool) := if (l1.length : Int) > 1048576 then (some true) else ((laws_szStrokeS.f k l0 1048576).bind fun t191 => (if t191 < 0 then (some true) else ((laws_toStrokeS.f k l0).bind fun t192 => ((laws_toInt64S.f k l1).bind fun t195 => ((spec_IsOrder.f k t192 t195).bind fun bt198 => ((laws_toStrokeS.f k l0).bind fun t200 => ((laws_toInt64S.f k l1).bind fun t203 => ((impl_IsOrder.f k t200 t203).bind fun bt206 => (if (bt206.1 != bt198.1) = true then (laws_FnExactIsOrder.j0 k l0 l1 t200 t203 true) else (laws_FnExactIsOrder.j0 k l0 l1 t200 t203 (bt206.2 != bt198.2)))))))))))
theorem laws_FnExactIsOrder.mono_l : ∀ k, (∀ y0 y1 y2 y3 y4, LeO (laws_FnExactIsOrder.j0 k y0 y1 y2 y3 y4) (laws_FnExactIsOrder.j0 (k + 1) y0 y1 y2 y3 y4))
  | 0 => fun _ _ _ _ _ r h => by simp [laws_FnExactIsOrder.j0] at h
  | k + 1 => by
    have ih0 := laws_FnExactIsOrder.mono_l k
    · intro y0 y1 y2 y3 y4
      unfold laws_FnExactIsOrder.j0
      repeat' first
      | (with_reducible exact ih0 _ _ _ _ _)
      | (with_reducible exact impl_IsOrder.mono _ _ _)
      | (with_reducible exact laws_eqInt64S.mono _ _ _)
      | (with_reducible exact laws_eqStrokeS.mono _ _ _)
      | (with_reducible exact laws_szStrokeS.mono _ _ _)
      | (with_reducible exact laws_toInt64S.mono _ _)
      | (with_reducible exact laws_toStrokeS.mono _ _)
      | (with_reducible exact spec_IsOrder.mono _ _ _)
      | (with_reducible exact LeO.refl _)
      | (with_reducible exact LeO.none _)
      | (with_reducible refine LeO.ite ?_ ?_)
      | (with_reducible refine LeO.bind ?_ (fun _ => ?_))
      | exact ih0 _ _ _ _ _
      | exact impl_IsOrder.mono _ _ _
      | exact laws_eqInt64S.mono _ _ _
      | exact laws_eqStrokeS.mono _ _ _
      | exact laws_szStrokeS.mono _ _ _
      | exact laws_toInt64S.mono _ _
      | exact laws_toStrokeS.mono _ _
      | exact spec_IsOrder.mono _ _ _
      | exact LeO.none _
      | refine LeO.ite ?_ ?_
      | refine LeO.bind ?_ (fun _ => ?_)
theorem laws_FnExactIsOrder.mono : ∀ a0 a1 k, LeO (laws_FnExactIsOrder.f k a0 a1) (laws_FnExactIsOrder.f (k + 1) a0 a1) := by
  intro a0 a1 k
  have ih0 := laws_FnExactIsOrder.mono_l k
  unfold laws_FnExactIsOrder.f
  repeat' first
      | (with_reducible exact ih0 _ _ _ _ _)
      | (with_reducible exact impl_IsOrder.mono _ _ _)
      | (with_reducible exact laws_eqInt64S.mono _ _ _)
      | (with_reducible exact laws_eqStrokeS.mono _ _ _)
      | (with_reducible exact laws_szStrokeS.mono _ _ _)
      | (with_reducible exact laws_toInt64S.mono _ _)
      | (with_reducible exact laws_toStrokeS.mono _ _)
      | (with_reducible exact spec_IsOrder.mono _ _ _)
      | (with_reducible exact LeO.refl _)
      | (with_reducible exact LeO.none _)
      | (with_reducible refine LeO.ite ?_ ?_)
      | (with_reducible refine LeO.bind ?_ (fun _ => ?_))
      | exact ih0 _ _ _ _ _
      | exact impl_IsOrder.mono _ _ _
      | exact laws_eqInt64S.mono _ _ _
      | exact laws_eqStrokeS.mono _ _ _
      | exact laws_szStrokeS.mono _ _ _
      | exact laws_toInt64S.mono _ _
      | exact laws_toStrokeS.mono _ _
      | exact spec_IsOrder.mono _ _ _
      | exact LeO.none _
      | refine LeO.ite ?_ ?_
      | refine LeO.bind ?_ (fun _ => ?_)
set_option maxHeartbeats 8000000 in
set_option maxRecDepth 100000 in
theorem laws_FnExactIsOrder.calls (k : Nat) (A0 : Option Addr) (c0 : Nat) (l0 : List (S102)) (A1 : Option Addr) (c1 : Nat) (l1 : List Int) (r : Bool) (w : World) (hr0 : Kd.C k102 w A0 l0.length l0) (hc0 : l0.length ≤ c0) (hr1 : Kd.C (Kd.int .i64) w A1 l1.length l1) (hc1 : l1.length ≤ c1) (h : laws_FnExactIsOrder.f k l0 l1 = some r) :
    Calls Try.prog 3 #[.slice A0 l0.length c0, .slice A1 l1.length c1] w fun e w' => e = .returned (.bool r) ∧ Below w.heap.size w w' := by
  have HR0 := Aside0.mk hr0
  have HC0 := Aside0.mk hc0
  clear hr0 hc0
  have HR1 := Aside0.mk hr1
  have HC1 := Aside0.mk hc1
  clear hr1 hc1
  have HB := Aside0.mk (Below.refl w.heap.size w)
  have H : (if (l1.length : Int) > 1048576 then (some true) else ((laws_szStrokeS.f k l0 1048576).bind fun t191 => (if t191 < 0 then (some true) else ((laws_toStrokeS.f k l0).bind fun t192 => ((laws_toInt64S.f k l1).bind fun t195 => ((spec_IsOrder.f k t192 t195).bind fun bt198 => ((laws_toStrokeS.f k l0).bind fun t200 => ((laws_toInt64S.f k l1).bind fun t203 => ((impl_IsOrder.f k t200 t203).bind fun bt206 => (if (bt206.1 != bt198.1) = true then (laws_FnExactIsOrder.j0 k l0 l1 t200 t203 true) else (laws_FnExactIsOrder.j0 k l0 l1 t200 t203 (bt206.2 != bt198.2)))))))))))) = some r := h
  clear h
  by_cases c3 : (l1.length : Int) > 1048576
  · rw [if_pos c3] at H
    have c3b0 : decide (1048576 < (l1.length : Int)) = true := decide_eq_true c3
    have c3b1 : decide (1048576 < l1.length) = true := decide_eq_true (by omega)
    clear c3
    obtain rfl := Option.some.inj H
    go_enter Try.func3, Try.ntmps3
    go_wp2
    go_ret
    exact ⟨by first | rfl | (simp [errW_none, errW_some] <;> rfl) | (simp [*, errW_none, errW_some] <;> rfl), by repeat (first | (with_reducible first | exact HB.out | apply below_alloc | apply pw_below_drewN | apply below_drew1) | exact HB.out)⟩
  · rw [if_neg c3] at H
    have c3b0 : decide (1048576 < (l1.length : Int)) = false := decide_eq_false c3
    have c3b1 : decide (1048576 < l1.length) = false := decide_eq_false (by omega)
    clear c3
    replace H := Option.bind_eq_some_iff.mp H
    obtain ⟨t191, A40, H⟩ := H
    replace H : (if t191 < 0 then (some true) else ((laws_toStrokeS.f k l0).bind fun t192 => ((laws_toInt64S.f k l1).bind fun t195 => ((spec_IsOrder.f k t192 t195).bind fun bt198 => ((laws_toStrokeS.f k l0).bind fun t200 => ((laws_toInt64S.f k l1).bind fun t203 => ((impl_IsOrder.f k t200 t203).bind fun bt206 => (if (bt206.1 != bt198.1) = true then (laws_FnExactIsOrder.j0 k l0 l1 t200 t203 true) else (laws_FnExactIsOrder.j0 k l0 l1 t200 t203 (bt206.2 != bt198.2)))))))))) = some r := H
    have A4 := Aside0.mk A40
    clear A40
    by_cases c5 : t191 < 0
    · rw [if_pos c5] at H
      have c5b0 : decide (t191 < 0) = true := decide_eq_true c5
      clear c5
      obtain rfl := Option.some.inj H
      go_enter Try.func3, Try.ntmps3
      go_wp2_with (first | ((with_reducible refine gate_callee (f := 15) rfl ?_); refine goesL_ (some 17) rfl rfl Try.func15 (by kernel_rfl) rfl #[.slice A0 l0.length c0, .int .i64 1048576] rfl (by (try simp only [List.map_toArray, List.map_cons, List.map_nil]); first | done | rfl | (simp only [List.length_drop, List.length_take]; rfl)) ?_; (with_reducible refine (laws_szStrokeS.calls k _ _ l0 1048576 t191 _ ?side1 ?side2 A4.out).mono ?_); (case side1 => repeat (first | exact HR0.out | (with_reducible refine Kd.C_alloc ?_ _) | (with_reducible refine Kd.C_drewN ?_ _) | (with_reducible refine Kd.C_drew ?_))); (case side2 => exact HC0.out); rintro e w6 ⟨rfl, hb⟩; refine ⟨_, rfl, ?_⟩; have n0_ := Aside0.mk (below_step (by repeat (first | (with_reducible first | exact HB.out | apply below_alloc | apply pw_below_drewN | apply below_drew1) | exact HB.out)) hb); clear HB; have HB := n0_; clear n0_; (try clear hb); (try clear hb2); (try clear hk); (try clear hi)))
      go_ret
      exact ⟨by first | rfl | (simp [errW_none, errW_some] <;> rfl) | (simp [*, errW_none, errW_some] <;> rfl), by repeat (first | (with_reducible first | exact HB.out | apply below_alloc | apply pw_below_drewN | apply below_drew1) | exact HB.out)⟩
    · rw [if_neg c5] at H
      have c5b0 : decide (t191 < 0) = false := decide_eq_false c5
      clear c5
      replace H := Option.bind_eq_some_iff.mp H
      obtain ⟨t192, A70, H⟩ := H
      replace H : ((laws_toInt64S.f k l1).bind fun t195 => ((spec_IsOrder.f k t192 t195).bind fun bt198 => ((laws_toStrokeS.f k l0).bind fun t200 => ((laws_toInt64S.f k l1).bind fun t203 => ((impl_IsOrder.f k t200 t203).bind fun bt206 => (if (bt206.1 != bt198.1) = true then (laws_FnExactIsOrder.j0 k l0 l1 t200 t203 true) else (laws_FnExactIsOrder.j0 k l0 l1 t200 t203 (bt206.2 != bt198.2)))))))) = some r := H
      have A7 := Aside0.mk A70
      clear A70
      replace H := Option.bind_eq_some_iff.mp H
      obtain ⟨t195, A80, H⟩ := H
      replace H : ((spec_IsOrder.f k t192 t195).bind fun bt198 => ((laws_toStrokeS.f k l0).bind fun t200 => ((laws_toInt64S.f k l1).bind fun t203 => ((impl_IsOrder.f k t200 t203).bind fun bt206 => (if (bt206.1 != bt198.1) = true then (laws_FnExactIsOrder.j0 k l0 l1 t200 t203 true) else (laws_FnExactIsOrder.j0 k l0 l1 t200 t203 (bt206.2 != bt198.2))))))) = some r := H
      have A8 := Aside0.mk A80
      clear A80
      replace H := Option.bind_eq_some_iff.mp H
      obtain ⟨⟨t198, t199⟩, A90, H⟩ := H
      replace H : ((laws_toStrokeS.f k l0).bind fun t200 => ((laws_toInt64S.f k l1).bind fun t203 => ((impl_IsOrder.f k t200 t203).bind fun bt206 => (if (bt206.1 != t198) = true then (laws_FnExactIsOrder.j0 k l0 l1 t200 t203 true) else (laws_FnExactIsOrder.j0 k l0 l1 t200 t203 (bt206.2 != t199)))))) = some r := H
      have A9 := Aside0.mk A90
      clear A90
      replace H := Option.bind_eq_some_iff.mp H
      obtain ⟨t200, A100, H⟩ := H
      replace H : ((laws_toInt64S.f k l1).bind fun t203 => ((impl_IsOrder.f k t200 t203).bind fun bt206 => (if (bt206.1 != t198) = true then (laws_FnExactIsOrder.j0 k l0 l1 t200 t203 true) else (laws_FnExactIsOrder.j0 k l0 l1 t200 t203 (bt206.2 != t199))))) = some r := H
      have A10 := Aside0.mk A100
      clear A100
      replace H := Option.bind_eq_some_iff.mp H
      obtain ⟨t203, A110, H⟩ := H
      replace H : ((impl_IsOrder.f k t200 t203).bind fun bt206 => (if (bt206.1 != t198) = true then (laws_FnExactIsOrder.j0 k l0 l1 t200 t203 true) else (laws_FnExactIsOrder.j0 k l0 l1 t200 t203 (bt206.2 != t199)))) = some r := H
      have A11 := Aside0.mk A110
      clear A110
      replace H := Option.bind_eq_some_iff.mp H
      obtain ⟨⟨t206, t207⟩, A120, H⟩ := H
      replace H : (if (t206 != t198) = true then (laws_FnExactIsOrder.j0 k l0 l1 t200 t203 true) else (laws_FnExactIsOrder.j0 k l0 l1 t200 t203 (t207 != t199))) = some r := H
      have A12 := Aside0.mk A120
      clear A120
      have HC13 := Aside0.mk H
      clear H
      go_enter Try.func3, Try.ntmps3
      go_upto_region 11 with (first | ((with_reducible refine gate_callee (f := 15) rfl ?_); refine goesL_ (some 17) rfl rfl Try.func15 (by kernel_rfl) rfl #[.slice A0 l0.length c0, .int .i64 1048576] rfl (by (try simp only [List.map_toArray, List.map_cons, List.map_nil]); first | done | rfl | (simp only [List.length_drop, List.length_take]; rfl)) ?_; (with_reducible refine (laws_szStrokeS.calls k _ _ l0 1048576 t191 _ ?side1 ?side2 A4.out).mono ?_); (case side1 => repeat (first | exact HR0.out | (with_reducible refine Kd.C_alloc ?_ _) | (with_reducible refine Kd.C_drewN ?_ _) | (with_reducible refine Kd.C_drew ?_))); (case side2 => exact HC0.out); rintro e w14 ⟨rfl, hb⟩; refine ⟨_, rfl, ?_⟩; have n0_ := Aside0.mk (below_step (by repeat (first | (with_reducible first | exact HB.out | apply below_alloc | apply pw_below_drewN | apply below_drew1) | exact HB.out)) hb); clear HB; have HB := n0_; clear n0_; (try clear hb); (try clear hb2); (try clear hk); (try clear hi)) | ((with_reducible refine gate_callee (f := 17) rfl ?_); refine goesL_ (some 22) rfl rfl Try.func17 (by kernel_rfl) rfl #[.slice A0 l0.length c0] rfl (by (try simp only [List.map_toArray, List.map_cons, List.map_nil]); first | done | rfl | (simp only [List.length_drop, List.length_take]; rfl)) ?_; (with_reducible refine (laws_toStrokeS.calls k _ _ l0 t192 _ ?side1 ?side2 A7.out).mono ?_); (case side1 => repeat (first | exact (Kd.C_below HR0.out HB.out) | (with_reducible refine Kd.C_alloc ?_ _) | (with_reducible refine Kd.C_drewN ?_ _) | (with_reducible refine Kd.C_drew ?_))); (case side2 => exact HC0.out); rintro e w15 ⟨v193, rfl, ho0, hb⟩; refine ⟨_, rfl, ?_⟩; have n0_ := Aside0.mk (Kd.S_lower ho0 (below_size (by repeat (first | (with_reducible first | exact HB.out | apply below_alloc | apply pw_below_drewN | apply below_drew1) | exact HB.out)))); have n1_ := Aside0.mk (below_step (by repeat (first | (with_reducible first | exact HB.out | apply below_alloc | apply pw_below_drewN | apply below_drew1) | exact HB.out)) hb); clear HB; have HO194 := n0_; have HB := n1_; clear n0_ n1_; (try clear hb); (try clear hb2); (try clear hk); (try clear hi); (try clear ho0)) | ((with_reducible refine gate_callee (f := 18) rfl ?_); refine goesL_ (some 24) rfl rfl Try.func18 (by kernel_rfl) rfl #[.slice A1 l1.length c1] rfl (by (try simp only [List.map_toArray, List.map_cons, List.map_nil]); first | done | rfl | (simp only [List.length_drop, List.length_take]; rfl)) ?_; (with_reducible refine (laws_toInt64S.calls k _ _ l1 t195 _ ?side1 ?side2 A8.out).mono ?_); (case side1 => repeat (first | exact (Kd.C_below HR1.out HB.out) | (with_reducible refine Kd.C_alloc ?_ _) | (with_reducible refine Kd.C_drewN ?_ _) | (with_reducible refine Kd.C_drew ?_))); (case side2 => exact HC1.out); rintro e w16 ⟨v196, rfl, ho0, hb⟩; refine ⟨_, rfl, ?_⟩; have n0_ := Aside0.mk (Kd.S_below (by (with_reducible repeat (first | apply Kd.S_alloc | apply Kd.S_drewN | apply Kd.S_drew)); exact HO194.out) hb); have n1_ := Aside0.mk (Kd.R_lower ho0 (below_size (by repeat (first | (with_reducible first | exact HB.out | apply below_alloc | apply pw_below_drewN | apply below_drew1) | exact HB.out)))); have n2_ := Aside0.mk (below_step (by repeat (first | (with_reducible first | exact HB.out | apply below_alloc | apply pw_below_drewN | apply below_drew1) | exact HB.out)) hb); clear HO194; clear HB; have HO194 := n0_; have HO197 := n1_; have HB := n2_; clear n0_ n1_ n2_; (try clear hb); (try clear hb2); (try clear hk); (try clear hi); (try clear ho0); obtain ⟨Ao17, co17, eo17⟩ := Kd.S_slice HO194.out; subst eo17; obtain ⟨Ao18, co18, eo18⟩ := Kd.R_slice HO197.out; subst eo18) | ((with_reducible refine gate_callee (f := 16) rfl ?_); refine goesL_ (some 25) rfl rfl Try.func16 (by kernel_rfl) rfl #[.slice Ao17 t192.length co17, .slice Ao18 t195.length co18] rfl (by (try simp only [List.map_toArray, List.map_cons, List.map_nil]); first | done | rfl | (simp only [List.length_drop, List.length_take]; rfl)) ?_; (with_reducible refine (spec_IsOrder.calls k _ _ t192 _ _ t195 t198 t199 _ ?side1 ?side2 ?side3 ?side4 A9.out).mono ?_); (case side1 => repeat (first | exact (Kd.S_reads' HO194.out).2.2 | (with_reducible refine Kd.C_alloc ?_ _) | (with_reducible refine Kd.C_drewN ?_ _) | (with_reducible refine Kd.C_drew ?_))); (case side2 => exact (Kd.S_reads' HO194.out).2.1); (case side3 => repeat (first | exact (Kd.R_reads' HO197.out).2.2 | (with_reducible refine Kd.C_alloc ?_ _) | (with_reducible refine Kd.C_drewN ?_ _) | (with_reducible refine Kd.C_drew ?_))); (case side4 => exact (Kd.R_reads' HO197.out).2.1); rintro e w19 ⟨rfl, hb⟩; refine ⟨_, rfl, ?_⟩; have n0_ := Aside0.mk (Kd.S_below (by (with_reducible repeat (first | apply Kd.S_alloc | apply Kd.S_drewN | apply Kd.S_drew)); exact HO194.out) hb); have n1_ := Aside0.mk (Kd.R_below (by (with_reducible repeat (first | apply Kd.R_alloc | apply Kd.R_drewN | apply Kd.R_drew)); exact HO197.out) hb); have n2_ := Aside0.mk (below_step (by repeat (first | (with_reducible first | exact HB.out | apply below_alloc | apply pw_below_drewN | apply below_drew1) | exact HB.out)) hb); clear HO194; clear HO197; clear HB; have HO194 := n0_; have HO197 := n1_; have HB := n2_; clear n0_ n1_ n2_; (try clear hb); (try clear hb2); (try clear hk); (try clear hi)) | ((with_reducible refine gate_callee (f := 17) rfl ?_); refine goesL_ (some 29) rfl rfl Try.func17 (by kernel_rfl) rfl #[.slice A0 l0.length c0] rfl (by (try simp only [List.map_toArray, List.map_cons, List.map_nil]); first | done | rfl | (simp only [List.length_drop, List.length_take]; rfl)) ?_; (with_reducible refine (laws_toStrokeS.calls k _ _ l0 t200 _ ?side1 ?side2 A10.out).mono ?_); (case side1 => repeat (first | exact (Kd.C_below HR0.out HB.out) | (with_reducible refine Kd.C_alloc ?_ _) | (with_reducible refine Kd.C_drewN ?_ _) | (with_reducible refine Kd.C_drew ?_))); (case side2 => exact HC0.out); rintro e w20 ⟨v201, rfl, ho0, hb⟩; refine ⟨_, rfl, ?_⟩; have n0_ := Aside0.mk (Kd.S_elder' (by (with_reducible repeat (first | apply Kd.S_alloc | apply Kd.S_drewN | apply Kd.S_drew)); exact HO194.out) (Kd.S_base ho0) hb); have n1_ := Aside0.mk (Kd.R_below (by (with_reducible repeat (first | apply Kd.R_alloc | apply Kd.R_drewN | apply Kd.R_drew)); exact HO197.out) hb); have n2_ := Aside0.mk (Kd.S_lower (Kd.S_new' ho0 (Kd.S_lt (by (with_reducible repeat (first | apply Kd.S_alloc | apply Kd.S_drewN | apply Kd.S_drew)); exact HO194.out))) (below_size (by repeat (first | (with_reducible first | exact HB.out | apply below_alloc | apply pw_below_drewN | apply below_drew1) | exact HB.out)))); have n3_ := Aside0.mk (below_step (by repeat (first | (with_reducible first | exact HB.out | apply below_alloc | apply pw_below_drewN | apply below_drew1) | exact HB.out)) hb); clear HO194; clear HO197; clear HB; have HO194 := n0_; have HO197 := n1_; have HO202 := n2_; have HB := n3_; clear n0_ n1_ n2_ n3_; (try clear hb); (try clear hb2); (try clear hk); (try clear hi); (try clear ho0)) | ((with_reducible refine gate_callee (f := 18) rfl ?_); refine goesL_ (some 31) rfl rfl Try.func18 (by kernel_rfl) rfl #[.slice A1 l1.length c1] rfl (by (try simp only [List.map_toArray, List.map_cons, List.map_nil]); first | done | rfl | (simp only [List.length_drop, List.length_take]; rfl)) ?_; (with_reducible refine (laws_toInt64S.calls k _ _ l1 t203 _ ?side1 ?side2 A11.out).mono ?_); (case side1 => repeat (first | exact (Kd.C_below HR1.out HB.out) | (with_reducible refine Kd.C_alloc ?_ _) | (with_reducible refine Kd.C_drewN ?_ _) | (with_reducible refine Kd.C_drew ?_))); (case side2 => exact HC1.out); rintro e w21 ⟨v204, rfl, ho0, hb⟩; refine ⟨_, rfl, ?_⟩; have n0_ := Aside0.mk (Kd.S_below (by (with_reducible repeat (first | apply Kd.S_alloc | apply Kd.S_drewN | apply Kd.S_drew)); exact HO194.out) hb); have n1_ := Aside0.mk (Kd.R_elder' (by (with_reducible repeat (first | apply Kd.R_alloc | apply Kd.R_drewN | apply Kd.R_drew)); exact HO197.out) (Kd.R_base ho0) hb); have n2_ := Aside0.mk (Kd.S_below (by (with_reducible repeat (first | apply Kd.S_alloc | apply Kd.S_drewN | apply Kd.S_drew)); exact HO202.out) hb); have n3_ := Aside0.mk (Kd.R_lower (Kd.R_new' ho0 (Kd.R_lt (by (with_reducible repeat (first | apply Kd.R_alloc | apply Kd.R_drewN | apply Kd.R_drew)); exact HO197.out))) (below_size (by repeat (first | (with_reducible first | exact HB.out | apply below_alloc | apply pw_below_drewN | apply below_drew1) | exact HB.out)))); have n4_ := Aside0.mk (below_step (by repeat (first | (with_reducible first | exact HB.out | apply below_alloc | apply pw_below_drewN | apply below_drew1) | exact HB.out)) hb); clear HO194; clear HO197; clear HO202; clear HB; have HO194 := n0_; have HO197 := n1_; have HO202 := n2_; have HO205 := n3_; have HB := n4_; clear n0_ n1_ n2_ n3_ n4_; (try clear hb); (try clear hb2); (try clear hk); (try clear hi); (try clear ho0); obtain ⟨Ao22, co22, eo22⟩ := Kd.S_slice HO202.out; subst eo22; obtain ⟨Ao23, co23, eo23⟩ := Kd.R_slice HO205.out; subst eo23) | ((with_reducible refine gate_callee (f := 19) rfl ?_); refine goesL_ (some 35) rfl rfl Try.func19 (by kernel_rfl) rfl #[.slice Ao22 t200.length co22, .slice Ao23 t203.length co23] rfl (by (try simp only [List.map_toArray, List.map_cons, List.map_nil]); first | done | rfl | (simp only [List.length_drop, List.length_take]; rfl)) ?_; (with_reducible refine (impl_IsOrder.calls k _ _ t200 _ _ t203 t206 t207 _ ?side1 ?side2 ?side3 ?side4 A12.out).mono ?_); (case side1 => repeat (first | exact (Kd.S_reads' HO202.out).2.2 | (with_reducible refine Kd.C_alloc ?_ _) | (with_reducible refine Kd.C_drewN ?_ _) | (with_reducible refine Kd.C_drew ?_))); (case side2 => exact (Kd.S_reads' HO202.out).2.1); (case side3 => repeat (first | exact (Kd.R_reads' HO205.out).2.2 | (with_reducible refine Kd.C_alloc ?_ _) | (with_reducible refine Kd.C_drewN ?_ _) | (with_reducible refine Kd.C_drew ?_))); (case side4 => exact (Kd.R_reads' HO205.out).2.1); rintro e w24 ⟨rfl, hb⟩; refine ⟨_, rfl, ?_⟩; have n0_ := Aside0.mk (Kd.S_below (by (with_reducible repeat (first | apply Kd.S_alloc | apply Kd.S_drewN | apply Kd.S_drew)); exact HO194.out) hb); have n1_ := Aside0.mk (Kd.R_below (by (with_reducible repeat (first | apply Kd.R_alloc | apply Kd.R_drewN | apply Kd.R_drew)); exact HO197.out) hb); have n2_ := Aside0.mk (Kd.S_below (by (with_reducible repeat (first | apply Kd.S_alloc | apply Kd.S_drewN | apply Kd.S_drew)); exact HO202.out) hb); have n3_ := Aside0.mk (Kd.R_below (by (with_reducible repeat (first | apply Kd.R_alloc | apply Kd.R_drewN | apply Kd.R_drew)); exact HO205.out) hb); have n4_ := Aside0.mk (below_step (by repeat (first | (with_reducible first | exact HB.out | apply below_alloc | apply pw_below_drewN | apply below_drew1) | exact HB.out)) hb); clear HO194; clear HO197; clear HO202; clear HO205; clear HB; have HO194 := n0_; have HO197 := n1_; have HO202 := n2_; have HO205 := n3_; have HB := n4_; clear n0_ n1_ n2_ n3_ n4_; (try clear hb); (try clear hb2); (try clear hk); (try clear hi)))
      (try simp only [Act.put, List.setIfInBounds_toArray, List.set_cons_zero, List.set_cons_succ])
      go_cut [45] (fun v45 wc => ∃ (kq : Nat) (x45_12 : Bool), v45 = .bool x45_12 ∧ Aside0 (laws_FnExactIsOrder.j0 kq l0 l1 t200 t203 x45_12 = some r) ∧ Aside0 (kq ≤ k) ∧ Aside0 (Kd.S k107 107 wc w.heap.size (fun _ => True) (.slice Ao22 t200.length co22) t200) ∧ Aside0 (Kd.R (Kd.int .i64) 2 wc w.heap.size (fun _ => True) (.slice Ao23 t203.length co23) t203) ∧ Aside0 (Below w.heap.size w wc))
      case first =>
        have H := HC13.out
        clear HC13
        by_cases c25 : (t206 != t198) = true
        · rw [if_pos c25] at H
          have c25b0 : (t206 != t198) = true := c25
          (try (have c25b1 : decide (t206 = t198) = false := by simpa using c25))
          (try (have c25b2 : (t206 == t198) = false := by simpa using c25))
          (try (have c25b3 : ¬ (t206 = t198) := by simpa using c25))
          clear c25
          (first | rw [c25b0] | (simp only [i64_w, i32_w]; rw [c25b0]) | skip)
          have H' := Aside0.mk H
          clear H
          go_wp2
          go_meet
          case rel => exact ⟨_, (true), (by first | rfl | (simp; done) | (simp [*]; done)), H', ⟨by first | omega | exact Nat.le_refl _⟩, ⟨by (with_reducible repeat (first | apply Kd.S_alloc | apply Kd.S_drewN | apply Kd.S_drew)); exact Kd.S_mono HO202.out (fun _ hk => trivial)⟩, ⟨by (with_reducible repeat (first | apply Kd.R_alloc | apply Kd.R_drewN | apply Kd.R_drew)); exact Kd.R_mono HO205.out (fun _ hk => trivial)⟩, ⟨by repeat (first | (with_reducible first | exact HB.out | apply below_alloc | apply pw_below_drewN | apply below_drew1) | exact HB.out)⟩⟩
        · rw [if_neg c25] at H
          have c25b0 : (t206 != t198) = false := by simpa using c25
          (try (have c25b1 : decide (t206 = t198) = true := by simpa using c25))
          (try (have c25b2 : (t206 == t198) = true := by simpa using c25))
          clear c25
          (first | rw [c25b0] | (simp only [i64_w, i32_w]; rw [c25b0]) | skip)
          have H' := Aside0.mk H
          clear H
          go_wp2
          go_meet
          case rel => exact ⟨_, ((t207 != t199)), (by first | rfl | (simp; done) | (simp [*]; done)), H', ⟨by first | omega | exact Nat.le_refl _⟩, ⟨by (with_reducible repeat (first | apply Kd.S_alloc | apply Kd.S_drewN | apply Kd.S_drew)); exact Kd.S_mono HO202.out (fun _ hk => trivial)⟩, ⟨by (with_reducible repeat (first | apply Kd.R_alloc | apply Kd.R_drewN | apply Kd.R_drew)); exact Kd.R_mono HO205.out (fun _ hk => trivial)⟩, ⟨by repeat (first | (with_reducible first | exact HB.out | apply below_alloc | apply pw_below_drewN | apply below_drew1) | exact HB.out)⟩⟩
      case rest =>
        clear HC13
        try clear c1
        try clear c2
        try clear p2
        try clear c3
        try clear c3b0
        try clear c3b1
        try clear c5
        try clear c5b0
        try clear c15
        try clear c16
        try clear c17
        try clear c18
        try clear c19
        try clear c25
        try clear c25b0
        try clear c25b1
        try clear c25b2
        obtain ⟨kq, x45_12, rfl, HA, HJ12, HO_8, HO_9, HB⟩ := hcut
        cases kq with
        | zero => exact absurd HA.out (by simp [laws_FnExactIsOrder.j0])
        | succ kj12 =>
          have H := HA.out
          clear HA
          simp only [laws_FnExactIsOrder.j0] at H
          by_cases c26 : x45_12 = true
          · subst c26
            have H1 : (some false) = some r := by rw [if_pos rfl] at H; exact H
            clear H
            have H := H1
            clear H1
            obtain rfl := Option.some.inj H
            go_wp2
            go_ret
            exact ⟨by first | rfl | (simp [errW_none, errW_some] <;> rfl) | (simp [*, errW_none, errW_some] <;> rfl), by repeat (first | (with_reducible first | exact HB.out | apply below_alloc | apply pw_below_drewN | apply below_drew1) | exact HB.out)⟩
          · replace c26 := Bool.eq_false_iff.mpr c26
            subst c26
            have H1 : ((laws_toStrokeS.f kj12 l0).bind fun t208 => ((laws_eqStrokeS.f kj12 t200 t208).bind fun t211 => (if t211 = true then ((laws_toInt64S.f kj12 l1).bind fun t212 => ((laws_eqInt64S.f kj12 t203 t212).bind fun t215 => (if t215 = true then (some true) else (some false)))) else (some false)))) = some r := by rw [if_neg (show ¬ (false = true) by decide)] at H; exact H
            clear H
            have H := H1
            clear H1
            replace H := Option.bind_eq_some_iff.mp H
            obtain ⟨t208, A270, H⟩ := H
            replace H : ((laws_eqStrokeS.f kj12 t200 t208).bind fun t211 => (if t211 = true then ((laws_toInt64S.f kj12 l1).bind fun t212 => ((laws_eqInt64S.f kj12 t203 t212).bind fun t215 => (if t215 = true then (some true) else (some false)))) else (some false))) = some r := H
            have A27 := Aside0.mk A270
            clear A270
            replace H := Option.bind_eq_some_iff.mp H
            obtain ⟨t211, A280, H⟩ := H
            replace H : (if t211 = true then ((laws_toInt64S.f kj12 l1).bind fun t212 => ((laws_eqInt64S.f kj12 t203 t212).bind fun t215 => (if t215 = true then (some true) else (some false)))) else (some false)) = some r := H
            have A28 := Aside0.mk A280
            clear A280
            by_cases c29 : t211 = true
            · subst c29
              have H1 : ((laws_toInt64S.f kj12 l1).bind fun t212 => ((laws_eqInt64S.f kj12 t203 t212).bind fun t215 => (if t215 = true then (some true) else (some false)))) = some r := by rw [if_pos rfl] at H; exact H
              clear H
              have H := H1
              clear H1
              replace H := Option.bind_eq_some_iff.mp H
              obtain ⟨t212, A300, H⟩ := H
              replace H : ((laws_eqInt64S.f kj12 t203 t212).bind fun t215 => (if t215 = true then (some true) else (some false))) = some r := H
              have A30 := Aside0.mk A300
              clear A300
              replace H := Option.bind_eq_some_iff.mp H
              obtain ⟨t215, A310, H⟩ := H
              replace H : (if t215 = true then (some true) else (some false)) = some r := H
              have A31 := Aside0.mk A310
              clear A310
              by_cases c32 : t215 = true
              · subst c32
                have H1 : (some true) = some r := by rw [if_pos rfl] at H; exact H
                clear H
                have H := H1
                clear H1
                obtain rfl := Option.some.inj H
                go_wp2_with (first | ((with_reducible refine gate_callee (f := 17) rfl ?_); refine goesL_ (some 48) rfl rfl Try.func17 (by kernel_rfl) rfl #[.slice A0 l0.length c0] rfl (by (try simp only [List.map_toArray, List.map_cons, List.map_nil]); first | done | rfl | (simp only [List.length_drop, List.length_take]; rfl)) ?_; (with_reducible refine (laws_toStrokeS.calls kj12 _ _ l0 t208 _ ?side1 ?side2 A27.out).mono ?_); (case side1 => repeat (first | exact (Kd.C_below HR0.out HB.out) | (with_reducible refine Kd.C_alloc ?_ _) | (with_reducible refine Kd.C_drewN ?_ _) | (with_reducible refine Kd.C_drew ?_))); (case side2 => exact HC0.out); rintro e w33 ⟨v209, rfl, ho0, hb⟩; refine ⟨_, rfl, ?_⟩; have n0_ := Aside0.mk (Kd.S_elder' (by (with_reducible repeat (first | apply Kd.S_alloc | apply Kd.S_drewN | apply Kd.S_drew)); exact HO_8.out) (Kd.S_base ho0) hb); have n1_ := Aside0.mk (Kd.R_below (by (with_reducible repeat (first | apply Kd.R_alloc | apply Kd.R_drewN | apply Kd.R_drew)); exact HO_9.out) hb); have n2_ := Aside0.mk (Kd.S_lower (Kd.S_new' ho0 (Kd.S_lt (by (with_reducible repeat (first | apply Kd.S_alloc | apply Kd.S_drewN | apply Kd.S_drew)); exact HO_8.out))) (below_size (by repeat (first | (with_reducible first | exact HB.out | apply below_alloc | apply pw_below_drewN | apply below_drew1) | exact HB.out)))); have n3_ := Aside0.mk (below_step (by repeat (first | (with_reducible first | exact HB.out | apply below_alloc | apply pw_below_drewN | apply below_drew1) | exact HB.out)) hb); clear HO_8; clear HO_9; clear HB; have HO_8 := n0_; have HO_9 := n1_; have HO210 := n2_; have HB := n3_; clear n0_ n1_ n2_ n3_; (try clear hb); (try clear hb2); (try clear hk); (try clear hi); (try clear ho0); obtain ⟨Ao34, co34, eo34⟩ := Kd.S_slice HO210.out; subst eo34) | ((with_reducible refine gate_callee (f := 20) rfl ?_); refine goesL_ (some 49) rfl rfl Try.func20 (by kernel_rfl) rfl #[.slice Ao22 t200.length co22, .slice Ao34 t208.length co34] rfl (by (try simp only [List.map_toArray, List.map_cons, List.map_nil]); first | done | rfl | (simp only [List.length_drop, List.length_take]; rfl)) ?_; (with_reducible refine (laws_eqStrokeS.calls kj12 _ _ t200 _ _ t208 true _ ?side1 ?side2 ?side3 ?side4 A28.out).mono ?_); (case side1 => repeat (first | exact (Kd.S_reads' HO_8.out).2.2 | (with_reducible refine Kd.C_alloc ?_ _) | (with_reducible refine Kd.C_drewN ?_ _) | (with_reducible refine Kd.C_drew ?_))); (case side2 => exact (Kd.S_reads' HO_8.out).2.1); (case side3 => repeat (first | exact (Kd.S_reads' HO210.out).2.2 | (with_reducible refine Kd.C_alloc ?_ _) | (with_reducible refine Kd.C_drewN ?_ _) | (with_reducible refine Kd.C_drew ?_))); (case side4 => exact (Kd.S_reads' HO210.out).2.1); rintro e w35 ⟨rfl, hb⟩; refine ⟨_, rfl, ?_⟩; have n0_ := Aside0.mk (Kd.S_below (by (with_reducible repeat (first | apply Kd.S_alloc | apply Kd.S_drewN | apply Kd.S_drew)); exact HO_8.out) hb); have n1_ := Aside0.mk (Kd.R_below (by (with_reducible repeat (first | apply Kd.R_alloc | apply Kd.R_drewN | apply Kd.R_drew)); exact HO_9.out) hb); have n2_ := Aside0.mk (Kd.S_below (by (with_reducible repeat (first | apply Kd.S_alloc | apply Kd.S_drewN | apply Kd.S_drew)); exact HO210.out) hb); have n3_ := Aside0.mk (below_step (by repeat (first | (with_reducible first | exact HB.out | apply below_alloc | apply pw_below_drewN | apply below_drew1) | exact HB.out)) hb); clear HO_8; clear HO_9; clear HO210; clear HB; have HO_8 := n0_; have HO_9 := n1_; have HO210 := n2_; have HB := n3_; clear n0_ n1_ n2_ n3_; (try clear hb); (try clear hb2); (try clear hk); (try clear hi)) | ((with_reducible refine gate_callee (f := 18) rfl ?_); refine goesL_ (some 53) rfl rfl Try.func18 (by kernel_rfl) rfl #[.slice A1 l1.length c1] rfl (by (try simp only [List.map_toArray, List.map_cons, List.map_nil]); first | done | rfl | (simp only [List.length_drop, List.length_take]; rfl)) ?_; (with_reducible refine (laws_toInt64S.calls kj12 _ _ l1 t212 _ ?side1 ?side2 A30.out).mono ?_); (case side1 => repeat (first | exact (Kd.C_below HR1.out HB.out) | (with_reducible refine Kd.C_alloc ?_ _) | (with_reducible refine Kd.C_drewN ?_ _) | (with_reducible refine Kd.C_drew ?_))); (case side2 => exact HC1.out); rintro e w36 ⟨v213, rfl, ho0, hb⟩; refine ⟨_, rfl, ?_⟩; have n0_ := Aside0.mk (Kd.S_below (by (with_reducible repeat (first | apply Kd.S_alloc | apply Kd.S_drewN | apply Kd.S_drew)); exact HO_8.out) hb); have n1_ := Aside0.mk (Kd.R_elder' (by (with_reducible repeat (first | apply Kd.R_alloc | apply Kd.R_drewN | apply Kd.R_drew)); exact HO_9.out) (Kd.R_base ho0) hb); have n2_ := Aside0.mk (Kd.S_below (by (with_reducible repeat (first | apply Kd.S_alloc | apply Kd.S_drewN | apply Kd.S_drew)); exact HO210.out) hb); have n3_ := Aside0.mk (Kd.R_lower (Kd.R_new' ho0 (Kd.R_lt (by (with_reducible repeat (first | apply Kd.R_alloc | apply Kd.R_drewN | apply Kd.R_drew)); exact HO_9.out))) (below_size (by repeat (first | (with_reducible first | exact HB.out | apply below_alloc | apply pw_below_drewN | apply below_drew1) | exact HB.out)))); have n4_ := Aside0.mk (below_step (by repeat (first | (with_reducible first | exact HB.out | apply below_alloc | apply pw_below_drewN | apply below_drew1) | exact HB.out)) hb); clear HO_8; clear HO_9; clear HO210; clear HB; have HO_8 := n0_; have HO_9 := n1_; have HO210 := n2_; have HO214 := n3_; have HB := n4_; clear n0_ n1_ n2_ n3_ n4_; (try clear hb); (try clear hb2); (try clear hk); (try clear hi); (try clear ho0); obtain ⟨Ao37, co37, eo37⟩ := Kd.R_slice HO214.out; subst eo37) | ((with_reducible refine gate_callee (f := 21) rfl ?_); refine goesL_ (some 54) rfl rfl Try.func21 (by kernel_rfl) rfl #[.slice Ao23 t203.length co23, .slice Ao37 t212.length co37] rfl (by (try simp only [List.map_toArray, List.map_cons, List.map_nil]); first | done | rfl | (simp only [List.length_drop, List.length_take]; rfl)) ?_; (with_reducible refine (laws_eqInt64S.calls kj12 _ _ t203 _ _ t212 true _ ?side1 ?side2 ?side3 ?side4 A31.out).mono ?_); (case side1 => repeat (first | exact (Kd.R_reads' HO_9.out).2.2 | (with_reducible refine Kd.C_alloc ?_ _) | (with_reducible refine Kd.C_drewN ?_ _) | (with_reducible refine Kd.C_drew ?_))); (case side2 => exact (Kd.R_reads' HO_9.out).2.1); (case side3 => repeat (first | exact (Kd.R_reads' HO214.out).2.2 | (with_reducible refine Kd.C_alloc ?_ _) | (with_reducible refine Kd.C_drewN ?_ _) | (with_reducible refine Kd.C_drew ?_))); (case side4 => exact (Kd.R_reads' HO214.out).2.1); rintro e w' ⟨rfl, ⟨nd, rfl⟩⟩; refine ⟨_, rfl, ?_⟩))
                go_ret
                exact ⟨by first | rfl | (simp [errW_none, errW_some] <;> rfl) | (simp [*, errW_none, errW_some] <;> rfl), by repeat (first | (with_reducible first | exact HB.out | apply below_alloc | apply pw_below_drewN | apply below_drew1) | exact HB.out)⟩
              · replace c32 := Bool.eq_false_iff.mpr c32
                subst c32
                have H1 : (some false) = some r := by rw [if_neg (show ¬ (false = true) by decide)] at H; exact H
                clear H
                have H := H1
                clear H1
                obtain rfl := Option.some.inj H
                go_wp2_with (first | ((with_reducible refine gate_callee (f := 17) rfl ?_); refine goesL_ (some 48) rfl rfl Try.func17 (by kernel_rfl) rfl #[.slice A0 l0.length c0] rfl (by (try simp only [List.map_toArray, List.map_cons, List.map_nil]); first | done | rfl | (simp only [List.length_drop, List.length_take]; rfl)) ?_; (with_reducible refine (laws_toStrokeS.calls kj12 _ _ l0 t208 _ ?side1 ?side2 A27.out).mono ?_); (case side1 => repeat (first | exact (Kd.C_below HR0.out HB.out) | (with_reducible refine Kd.C_alloc ?_ _) | (with_reducible refine Kd.C_drewN ?_ _) | (with_reducible refine Kd.C_drew ?_))); (case side2 => exact HC0.out); rintro e w38 ⟨v209, rfl, ho0, hb⟩; refine ⟨_, rfl, ?_⟩; have n0_ := Aside0.mk (Kd.S_elder' (by (with_reducible repeat (first | apply Kd.S_alloc | apply Kd.S_drewN | apply Kd.S_drew)); exact HO_8.out) (Kd.S_base ho0) hb); have n1_ := Aside0.mk (Kd.R_below (by (with_reducible repeat (first | apply Kd.R_alloc | apply Kd.R_drewN | apply Kd.R_drew)); exact HO_9.out) hb); have n2_ := Aside0.mk (Kd.S_lower (Kd.S_new' ho0 (Kd.S_lt (by (with_reducible repeat (first | apply Kd.S_alloc | apply Kd.S_drewN | apply Kd.S_drew)); exact HO_8.out))) (below_size (by repeat (first | (with_reducible first | exact HB.out | apply below_alloc | apply pw_below_drewN | apply below_drew1) | exact HB.out)))); have n3_ := Aside0.mk (below_step (by repeat (first | (with_reducible first | exact HB.out | apply below_alloc | apply pw_below_drewN | apply below_drew1) | exact HB.out)) hb); clear HO_8; clear HO_9; clear HB; have HO_8 := n0_; have HO_9 := n1_; have HO210 := n2_; have HB := n3_; clear n0_ n1_ n2_ n3_; (try clear hb); (try clear hb2); (try clear hk); (try clear hi); (try clear ho0); obtain ⟨Ao39, co39, eo39⟩ := Kd.S_slice HO210.out; subst eo39) | ((with_reducible refine gate_callee (f := 20) rfl ?_); refine goesL_ (some 49) rfl rfl Try.func20 (by kernel_rfl) rfl #[.slice Ao22 t200.length co22, .slice Ao39 t208.length co39] rfl (by (try simp only [List.map_toArray, List.map_cons, List.map_nil]); first | done | rfl | (simp only [List.length_drop, List.length_take]; rfl)) ?_; (with_reducible refine (laws_eqStrokeS.calls kj12 _ _ t200 _ _ t208 true _ ?side1 ?side2 ?side3 ?side4 A28.out).mono ?_); (case side1 => repeat (first | exact (Kd.S_reads' HO_8.out).2.2 | (with_reducible refine Kd.C_alloc ?_ _) | (with_reducible refine Kd.C_drewN ?_ _) | (with_reducible refine Kd.C_drew ?_))); (case side2 => exact (Kd.S_reads' HO_8.out).2.1); (case side3 => repeat (first | exact (Kd.S_reads' HO210.out).2.2 | (with_reducible refine Kd.C_alloc ?_ _) | (with_reducible refine Kd.C_drewN ?_ _) | (with_reducible refine Kd.C_drew ?_))); (case side4 => exact (Kd.S_reads' HO210.out).2.1); rintro e w40 ⟨rfl, hb⟩; refine ⟨_, rfl, ?_⟩; have n0_ := Aside0.mk (Kd.S_below (by (with_reducible repeat (first | apply Kd.S_alloc | apply Kd.S_drewN | apply Kd.S_drew)); exact HO_8.out) hb); have n1_ := Aside0.mk (Kd.R_below (by (with_reducible repeat (first | apply Kd.R_alloc | apply Kd.R_drewN | apply Kd.R_drew)); exact HO_9.out) hb); have n2_ := Aside0.mk (Kd.S_below (by (with_reducible repeat (first | apply Kd.S_alloc | apply Kd.S_drewN | apply Kd.S_drew)); exact HO210.out) hb); have n3_ := Aside0.mk (below_step (by repeat (first | (with_reducible first | exact HB.out | apply below_alloc | apply pw_below_drewN | apply below_drew1) | exact HB.out)) hb); clear HO_8; clear HO_9; clear HO210; clear HB; have HO_8 := n0_; have HO_9 := n1_; have HO210 := n2_; have HB := n3_; clear n0_ n1_ n2_ n3_; (try clear hb); (try clear hb2); (try clear hk); (try clear hi)) | ((with_reducible refine gate_callee (f := 18) rfl ?_); refine goesL_ (some 53) rfl rfl Try.func18 (by kernel_rfl) rfl #[.slice A1 l1.length c1] rfl (by (try simp only [List.map_toArray, List.map_cons, List.map_nil]); first | done | rfl | (simp only [List.length_drop, List.length_take]; rfl)) ?_; (with_reducible refine (laws_toInt64S.calls kj12 _ _ l1 t212 _ ?side1 ?side2 A30.out).mono ?_); (case side1 => repeat (first | exact (Kd.C_below HR1.out HB.out) | (with_reducible refine Kd.C_alloc ?_ _) | (with_reducible refine Kd.C_drewN ?_ _) | (with_reducible refine Kd.C_drew ?_))); (case side2 => exact HC1.out); rintro e w41 ⟨v213, rfl, ho0, hb⟩; refine ⟨_, rfl, ?_⟩; have n0_ := Aside0.mk (Kd.S_below (by (with_reducible repeat (first | apply Kd.S_alloc | apply Kd.S_drewN | apply Kd.S_drew)); exact HO_8.out) hb); have n1_ := Aside0.mk (Kd.R_elder' (by (with_reducible repeat (first | apply Kd.R_alloc | apply Kd.R_drewN | apply Kd.R_drew)); exact HO_9.out) (Kd.R_base ho0) hb); have n2_ := Aside0.mk (Kd.S_below (by (with_reducible repeat (first | apply Kd.S_alloc | apply Kd.S_drewN | apply Kd.S_drew)); exact HO210.out) hb); have n3_ := Aside0.mk (Kd.R_lower (Kd.R_new' ho0 (Kd.R_lt (by (with_reducible repeat (first | apply Kd.R_alloc | apply Kd.R_drewN | apply Kd.R_drew)); exact HO_9.out))) (below_size (by repeat (first | (with_reducible first | exact HB.out | apply below_alloc | apply pw_below_drewN | apply below_drew1) | exact HB.out)))); have n4_ := Aside0.mk (below_step (by repeat (first | (with_reducible first | exact HB.out | apply below_alloc | apply pw_below_drewN | apply below_drew1) | exact HB.out)) hb); clear HO_8; clear HO_9; clear HO210; clear HB; have HO_8 := n0_; have HO_9 := n1_; have HO210 := n2_; have HO214 := n3_; have HB := n4_; clear n0_ n1_ n2_ n3_ n4_; (try clear hb); (try clear hb2); (try clear hk); (try clear hi); (try clear ho0); obtain ⟨Ao42, co42, eo42⟩ := Kd.R_slice HO214.out; subst eo42) | ((with_reducible refine gate_callee (f := 21) rfl ?_); refine goesL_ (some 54) rfl rfl Try.func21 (by kernel_rfl) rfl #[.slice Ao23 t203.length co23, .slice Ao42 t212.length co42] rfl (by (try simp only [List.map_toArray, List.map_cons, List.map_nil]); first | done | rfl | (simp only [List.length_drop, List.length_take]; rfl)) ?_; (with_reducible refine (laws_eqInt64S.calls kj12 _ _ t203 _ _ t212 false _ ?side1 ?side2 ?side3 ?side4 A31.out).mono ?_); (case side1 => repeat (first | exact (Kd.R_reads' HO_9.out).2.2 | (with_reducible refine Kd.C_alloc ?_ _) | (with_reducible refine Kd.C_drewN ?_ _) | (with_reducible refine Kd.C_drew ?_))); (case side2 => exact (Kd.R_reads' HO_9.out).2.1); (case side3 => repeat (first | exact (Kd.R_reads' HO214.out).2.2 | (with_reducible refine Kd.C_alloc ?_ _) | (with_reducible refine Kd.C_drewN ?_ _) | (with_reducible refine Kd.C_drew ?_))); (case side4 => exact (Kd.R_reads' HO214.out).2.1); rintro e w' ⟨rfl, ⟨nd, rfl⟩⟩; refine ⟨_, rfl, ?_⟩))
                go_ret
                exact ⟨by first | rfl | (simp [errW_none, errW_some] <;> rfl) | (simp [*, errW_none, errW_some] <;> rfl), by repeat (first | (with_reducible first | exact HB.out | apply below_alloc | apply pw_below_drewN | apply below_drew1) | exact HB.out)⟩
            · replace c29 := Bool.eq_false_iff.mpr c29
              subst c29
              have H1 : (some false) = some r := by rw [if_neg (show ¬ (false = true) by decide)] at H; exact H
              clear H
              have H := H1
              clear H1
              obtain rfl := Option.some.inj H
              go_wp2_with (first | ((with_reducible refine gate_callee (f := 17) rfl ?_); refine goesL_ (some 48) rfl rfl Try.func17 (by kernel_rfl) rfl #[.slice A0 l0.length c0] rfl (by (try simp only [List.map_toArray, List.map_cons, List.map_nil]); first | done | rfl | (simp only [List.length_drop, List.length_take]; rfl)) ?_; (with_reducible refine (laws_toStrokeS.calls kj12 _ _ l0 t208 _ ?side1 ?side2 A27.out).mono ?_); (case side1 => repeat (first | exact (Kd.C_below HR0.out HB.out) | (with_reducible refine Kd.C_alloc ?_ _) | (with_reducible refine Kd.C_drewN ?_ _) | (with_reducible refine Kd.C_drew ?_))); (case side2 => exact HC0.out); rintro e w43 ⟨v209, rfl, ho0, hb⟩; refine ⟨_, rfl, ?_⟩; have n0_ := Aside0.mk (Kd.S_elder' (by (with_reducible repeat (first | apply Kd.S_alloc | apply Kd.S_drewN | apply Kd.S_drew)); exact HO_8.out) (Kd.S_base ho0) hb); have n1_ := Aside0.mk (Kd.R_below (by (with_reducible repeat (first | apply Kd.R_alloc | apply Kd.R_drewN | apply Kd.R_drew)); exact HO_9.out) hb); have n2_ := Aside0.mk (Kd.S_lower (Kd.S_new' ho0 (Kd.S_lt (by (with_reducible repeat (first | apply Kd.S_alloc | apply Kd.S_drewN | apply Kd.S_drew)); exact HO_8.out))) (below_size (by repeat (first | (with_reducible first | exact HB.out | apply below_alloc | apply pw_below_drewN | apply below_drew1) | exact HB.out)))); have n3_ := Aside0.mk (below_step (by repeat (first | (with_reducible first | exact HB.out | apply below_alloc | apply pw_below_drewN | apply below_drew1) | exact HB.out)) hb); clear HO_8; clear HO_9; clear HB; have HO_8 := n0_; have HO_9 := n1_; have HO210 := n2_; have HB := n3_; clear n0_ n1_ n2_ n3_; (try clear hb); (try clear hb2); (try clear hk); (try clear hi); (try clear ho0); obtain ⟨Ao44, co44, eo44⟩ := Kd.S_slice HO210.out; subst eo44) | ((with_reducible refine gate_callee (f := 20) rfl ?_); refine goesL_ (some 49) rfl rfl Try.func20 (by kernel_rfl) rfl #[.slice Ao22 t200.length co22, .slice Ao44 t208.length co44] rfl (by (try simp only [List.map_toArray, List.map_cons, List.map_nil]); first | done | rfl | (simp only [List.length_drop, List.length_take]; rfl)) ?_; (with_reducible refine (laws_eqStrokeS.calls kj12 _ _ t200 _ _ t208 false _ ?side1 ?side2 ?side3 ?side4 A28.out).mono ?_); (case side1 => repeat (first | exact (Kd.S_reads' HO_8.out).2.2 | (with_reducible refine Kd.C_alloc ?_ _) | (with_reducible refine Kd.C_drewN ?_ _) | (with_reducible refine Kd.C_drew ?_))); (case side2 => exact (Kd.S_reads' HO_8.out).2.1); (case side3 => repeat (first | exact (Kd.S_reads' HO210.out).2.2 | (with_reducible refine Kd.C_alloc ?_ _) | (with_reducible refine Kd.C_drewN ?_ _) | (with_reducible refine Kd.C_drew ?_))); (case side4 => exact (Kd.S_reads' HO210.out).2.1); rintro e w45 ⟨rfl, hb⟩; refine ⟨_, rfl, ?_⟩; have n0_ := Aside0.mk (Kd.S_below (by (with_reducible repeat (first | apply Kd.S_alloc | apply Kd.S_drewN | apply Kd.S_drew)); exact HO_8.out) hb); have n1_ := Aside0.mk (Kd.R_below (by (with_reducible repeat (first | apply Kd.R_alloc | apply Kd.R_drewN | apply Kd.R_drew)); exact HO_9.out) hb); have n2_ := Aside0.mk (Kd.S_below (by (with_reducible repeat (first | apply Kd.S_alloc | apply Kd.S_drewN | apply Kd.S_drew)); exact HO210.out) hb); have n3_ := Aside0.mk (below_step (by repeat (first | (with_reducible first | exact HB.out | apply below_alloc | apply pw_below_drewN | apply below_drew1) | exact HB.out)) hb); clear HO_8; clear HO_9; clear HO210; clear HB; have HO_8 := n0_; have HO_9 := n1_; have HO210 := n2_; have HB := n3_; clear n0_ n1_ n2_ n3_; (try clear hb); (try clear hb2); (try clear hk); (try clear hi)))
              go_ret
              exact ⟨by first | rfl | (simp [errW_none, errW_some] <;> rfl) | (simp [*, errW_none, errW_some] <;> rfl), by repeat (first | (with_reducible first | exact HB.out | apply below_alloc | apply pw_below_drewN | apply below_drew1) | exact HB.out)⟩

end Go.Proofs.Ytnimjikikfhlpaa.F

namespace Go.Proofs.YtnimjikikfhlpaaO
open Go.RowKit Go.Proofs.YtnimjikikfhlpaaW.PrintWords
set_option linter.unusedVariables false

/-- What reads as data of type t is told by the kind d, and what it tells is G. -/
def Opens {H α : Type} (enc : TypeId × Value → H) (P : Program) (w : World) (d : Kd α) (t : TypeId) (G : α → Prop) : Prop :=
  ∀ (spare : Nat → Bool) (held : Bool) (base fuel : Nat) (cs : List Value) (x : DataW H × List MemPlace),
    DataW.trod enc P w base spare held fuel t cs = some x → ∃ a, d.K w a cs ∧ G a

section
variable {H α β : Type} {enc : TypeId × Value → H} {P : Program} {w : World}

theorem opens_int {t : TypeId} {k : IntKind} (ht : P.underlying t = some (.int k)) : Opens enc P w (Kd.int k) t (fun n => (Lit.int k n).wf = true) := by
  intro spare held base fuel cs x h
  obtain ⟨n, rfl, _, hw⟩ := DataW.trod_int ht h
  exact ⟨n, rfl, hw⟩

theorem opens_bool {t : TypeId} (ht : P.underlying t = some .bool) : Opens enc P w Kd.bool t (fun _ => True) := by
  intro spare held base fuel cs x h
  obtain ⟨n, rfl, _⟩ := DataW.trod_bool ht h
  exact ⟨n, rfl, trivial⟩

theorem opens_string {t : TypeId} (ht : P.underlying t = some .string) : Opens enc P w Kd.string t (fun s => s.size ≤ maxLen) := by
  intro spare held base fuel cs x h
  obtain ⟨n, rfl, _, hw⟩ := DataW.trod_string ht h
  exact ⟨n, rfl, hw⟩

theorem choose_list {p : Nat → α → Prop} : ∀ n, (∀ i, i < n → ∃ x, p i x) → ∃ l : List α, l.length = n ∧ ∀ i x, l[i]? = some x → p i x
  | 0, _ => ⟨[], rfl, fun i x h => by simp at h⟩
  | n + 1, h => by
    obtain ⟨l, hl, hp⟩ := choose_list n (fun i hi => h i (by omega))
    obtain ⟨x, hx⟩ := h n (by omega)
    refine ⟨l ++ [x], by simp [hl], fun i y hy => ?_⟩
    rcases Nat.lt_or_ge i n with hi | hi
    · rw [List.getElem?_append_left (by omega)] at hy
      exact hp i y hy
    · rw [List.getElem?_append_right (by omega), hl] at hy
      have : i - n = 0 := by
        rcases Nat.eq_zero_or_pos (i - n) with h0 | h0
        · exact h0
        · rw [List.getElem?_eq_none (by simp; omega)] at hy
          cases hy
      rw [this] at hy
      have : i = n := by omega
      subst this
      simp at hy
      exact hy ▸ hx

/-- A slice: its elements. -/
theorem opens_row {t e : TypeId} {d : Kd α} {G : α → Prop} (ht : P.underlying t = some (.slice e)) (hs : P.cellsOf e = d.sz) (he : Opens enc P w d e G)
    {spare : Nat → Bool} {held : Bool} {base fuel : Nat} {cs : List Value} {x : DataW H × List MemPlace} (h : DataW.trod enc P w base spare held fuel t cs = some x) :
    ∃ (A : Option Addr) (xs : List α) (c : Nat), cs = [.slice A xs.length c] ∧ xs.length ≤ c ∧ c ≤ maxLen ∧ d.C w A xs.length xs ∧ ∀ a ∈ xs, G a := by
  rcases Go.Deep.open_slice ht h with ⟨rfl, _⟩ | ⟨a, len, cap, m, n, D, Pl, rfl, hb, hl, hm, hmm, _, hx⟩
  · exact ⟨none, [], 0, rfl, Nat.le_refl _, by unfold maxLen; omega, ⟨rfl, by simp, fun h => absurd h (by simp)⟩, fun a ha => by simp at ha⟩
  · have hlm : len ≤ m := by rw [hmm]; split <;> omega
    obtain ⟨xs, hxl, hxs⟩ := choose_list (p := fun i (b : α) => (∃ c, c.length = d.sz ∧ d.K w b c ∧ ∀ j u, c[j]? = some u → w.cell? (a.add (i * d.sz + j)) = some u) ∧ G b) len (fun i hi => by
      obtain ⟨cs', h1, h2⟩ := hx i (by omega)
      obtain ⟨_, hcl, hc⟩ := World.cells?_some h1
      obtain ⟨b, hK, hG⟩ := he _ _ _ _ _ _ h2
      refine ⟨b, ⟨cs', by rw [hcl, hs], hK, fun j u hj => ?_⟩, hG⟩
      have hjl : j < P.cellsOf e := by rw [← hcl]; exact (List.getElem?_eq_some_iff.1 hj).1
      have := hc j hjl
      rw [hs] at this
      rw [hj] at this
      rw [← this, Go.Deep.add_add])
    subst hxl
    refine ⟨some a, xs, cap, rfl, hl, hm, ⟨rfl, by unfold maxLen at hm; omega, fun _ => ⟨a, rfl, fun j p hj => (hxs j p hj).1⟩⟩, fun b hb => ?_⟩
    obtain ⟨i, hi, rfl⟩ := List.getElem_of_mem hb
    exact (hxs i _ (List.getElem?_eq_getElem hi)).2

theorem opens_slice {t e e' : TypeId} {d : Kd α} {G : α → Prop} (ht : P.underlying t = some (.slice e)) (hs : P.cellsOf e = d.sz) (he : Opens enc P w d e G) :
    Opens enc P w (Kd.slice e' d) t (fun xs => xs.length ≤ maxLen ∧ ∀ a ∈ xs, G a) := by
  intro spare held base fuel cs x h
  obtain ⟨A, xs, c, rfl, hl, hm, hC, hG⟩ := opens_row ht hs he h
  exact ⟨xs, ⟨A, c, rfl, hl, hC⟩, by omega, hG⟩

/-- The fields of a struct from offset o on. -/
def OpensF (enc : TypeId × Value → H) (P : Program) (w : World) (d : Kd α) (fs : List Field) (o : Nat) (G : α → Prop) : Prop :=
  ∀ (spare : Nat → Bool) (held : Bool) (base fuel : Nat) (cs : List Value), cs.length = o + d.sz →
    (∀ f ∈ fs, ∃ x, DataW.trod enc P w base spare held fuel f.type ((cs.drop f.offset).take (P.cellsOf f.type)) = some x) → ∃ a, d.K w a (cs.drop o) ∧ G a

theorem opensF_last {d : Kd α} {f : Field} {o : Nat} {G : α → Prop} (ho : f.offset = o) (hs : P.cellsOf f.type = d.sz) (h : Opens enc P w d f.type G) : OpensF enc P w d [f] o G := by
  intro spare held base fuel cs hl hf
  obtain ⟨x, hx⟩ := hf f (List.mem_singleton.2 rfl)
  rw [ho, hs, List.take_of_length_le (by rw [List.length_drop]; omega)] at hx
  exact h _ _ _ _ _ _ hx

theorem opensF_cons {d : Kd α} {d' : Kd β} {f : Field} {fs : List Field} {o : Nat} {G : α → Prop} {G' : β → Prop} (ho : f.offset = o) (hs : P.cellsOf f.type = d.sz) (h : Opens enc P w d f.type G)
    (hr : OpensF enc P w d' fs (o + d.sz) G') : OpensF enc P w (Kd.pair d d') (f :: fs) o (fun x => G x.1 ∧ G' x.2) := by
  intro spare held base fuel cs hl hf
  have hl' : cs.length = o + (d.sz + d'.sz) := hl
  obtain ⟨x, hx⟩ := hf f List.mem_cons_self
  rw [ho, hs] at hx
  obtain ⟨a, hK, hG⟩ := h _ _ _ _ _ _ hx
  obtain ⟨b, hK', hG'⟩ := hr spare held base fuel cs (by omega) (fun g hg => hf g (List.mem_cons_of_mem _ hg))
  refine ⟨(a, b), ⟨_, _, ?_, hK, hK'⟩, hG, hG'⟩
  rw [← List.drop_drop, List.take_append_drop]

/-- A struct by its fields, as a Lean structure: f takes it apart, g puts it together. -/
theorem opens_struct {t : TypeId} {fs : Array Field} {d : Kd α} {G : α → Prop} (ht : P.underlying t = some (.struct fs)) (hs : P.cellsOf t = d.sz) (f : β → α) (g : α → β) (hfg : ∀ a, f (g a) = a) (h : OpensF enc P w d fs.toList 0 G) :
    Opens enc P w (Kd.iso d f) t (fun b => G (f b)) := by
  intro spare held base fuel cs x hx
  obtain ⟨xs, n, rfl, _, hl, hxl, hf⟩ := DataW.trod_struct ht hx
  obtain ⟨a, hK, hG⟩ := h spare held base n cs (by rw [hl, hs]; omega) (fun z hz => by
    obtain ⟨i, hi, rfl⟩ := List.getElem_of_mem hz
    have hi' : i < fs.size := by simpa using hi
    refine ⟨xs[i]'(by omega), ?_⟩
    rw [Array.getElem_toList]
    rw [hf i _ (Array.getElem?_eq_getElem hi'), List.getElem?_eq_getElem (by omega)])
  refine ⟨g a, ?_, by show G (f (g a)); rw [hfg]; exact hG⟩
  show d.K w (f (g a)) cs
  rw [hfg]
  exact hK

theorem Opens.mono {d : Kd α} {t : TypeId} {G G' : α → Prop} (h : Opens enc P w d t G) (hg : ∀ a, G a → G' a) : Opens enc P w d t G' := by
  intro spare held base fuel cs x hx
  obtain ⟨a, hK, hG⟩ := h _ _ _ _ _ _ hx
  exact ⟨a, hK, hg a hG⟩
end
end Go.Proofs.YtnimjikikfhlpaaO

namespace Go.Proofs.Ytnimjikikfhlpaa.F
open Go.RowKit Go.Proofs.YtnimjikikfhlpaaW.PrintWords Go.Proofs.YtnimjikikfhlpaaO
set_option linter.unusedVariables false

def g2 (x : Int) : Prop := (Lit.int .i64 x).wf = true
def g178 (x : S178) : Prop := ((Lit.int .i64 x.f0).wf = true) ∧ ((Lit.int .i64 x.f1).wf = true)
theorem o178 {H : Type} {enc : TypeId × Value → H} {w : World} : Opens enc Try.prog w k178 178 g178 := (opens_struct (β := S178) Try.underlying178 (by kernel_rfl) (fun x => (x.f0, x.f1)) (fun p => ⟨p.1, p.2⟩) (fun _ => rfl) (opensF_cons rfl (by kernel_rfl) (opens_int Try.underlying2) (opensF_last rfl (by kernel_rfl) (opens_int Try.underlying2)))).mono (fun _ h => h)
def g100 (x : (List S178)) : Prop := x.length ≤ maxLen ∧ ∀ y ∈ x, g178 y
def g102 (x : S102) : Prop := ((Lit.int .i64 x.f0).wf = true) ∧ (x.f1.length ≤ maxLen ∧ ∀ y ∈ x.f1, g178 y)
theorem o102 {H : Type} {enc : TypeId × Value → H} {w : World} : Opens enc Try.prog w k102 102 g102 := (opens_struct (β := S102) Try.underlying102 (by kernel_rfl) (fun x => (x.f0, x.f1)) (fun p => ⟨p.1, p.2⟩) (fun _ => rfl) (opensF_cons rfl (by kernel_rfl) (opens_int Try.underlying2) (opensF_last rfl (by kernel_rfl) (opens_slice (e' := 178) Try.underlying100 (by kernel_rfl) o178)))).mono (fun _ h => h)
def g59 (x : S59) : Prop := ((Lit.int .i64 x.f0).wf = true) ∧ ((Lit.int .i64 x.f1).wf = true)
theorem o59 {H : Type} {enc : TypeId × Value → H} {w : World} : Opens enc Try.prog w k59 59 g59 := (opens_struct (β := S59) Try.underlying59 (by kernel_rfl) (fun x => (x.f0, x.f1)) (fun p => ⟨p.1, p.2⟩) (fun _ => rfl) (opensF_cons rfl (by kernel_rfl) (opens_int Try.underlying2) (opensF_last rfl (by kernel_rfl) (opens_int Try.underlying2)))).mono (fun _ h => h)
def g61 (x : S61) : Prop := ((Lit.int .i64 x.f0).wf = true) ∧ (g59 x.f1) ∧ ((Lit.int .i64 x.f2).wf = true)
theorem o61 {H : Type} {enc : TypeId × Value → H} {w : World} : Opens enc Try.prog w k61 61 g61 := (opens_struct (β := S61) Try.underlying61 (by kernel_rfl) (fun x => (x.f0, x.f1, x.f2)) (fun p => ⟨p.1, p.2.1, p.2.2⟩) (fun _ => rfl) (opensF_cons rfl (by kernel_rfl) (opens_int Try.underlying2) (opensF_cons rfl (by kernel_rfl) o59 (opensF_last rfl (by kernel_rfl) (opens_int Try.underlying2))))).mono (fun _ h => h)
def g23 (x : (List Int)) : Prop := x.length ≤ maxLen ∧ ∀ y ∈ x, g2 y
def g63 (x : S63) : Prop := (g61 x.f0) ∧ ((Lit.int .i64 x.f1).wf = true) ∧ (x.f2.length ≤ maxLen ∧ ∀ y ∈ x.f2, g2 y) ∧ (x.f3.length ≤ maxLen ∧ ∀ y ∈ x.f3, g2 y)
theorem o63 {H : Type} {enc : TypeId × Value → H} {w : World} : Opens enc Try.prog w k63 63 g63 := (opens_struct (β := S63) Try.underlying63 (by kernel_rfl) (fun x => (x.f0, x.f1, x.f2, x.f3)) (fun p => ⟨p.1, p.2.1, p.2.2.1, p.2.2.2⟩) (fun _ => rfl) (opensF_cons rfl (by kernel_rfl) o61 (opensF_cons rfl (by kernel_rfl) (opens_int Try.underlying2) (opensF_cons rfl (by kernel_rfl) (opens_slice (e' := 2) Try.underlying23 (by kernel_rfl) (opens_int Try.underlying2)) (opensF_last rfl (by kernel_rfl) (opens_slice (e' := 2) Try.underlying23 (by kernel_rfl) (opens_int Try.underlying2))))))).mono (fun _ h => h)
def g113 (x : S113) : Prop := ((Lit.int .i64 x.f0).wf = true) ∧ (g63 x.f1)
theorem o113 {H : Type} {enc : TypeId × Value → H} {w : World} : Opens enc Try.prog w k113 113 g113 := (opens_struct (β := S113) Try.underlying113 (by kernel_rfl) (fun x => (x.f0, x.f1)) (fun p => ⟨p.1, p.2⟩) (fun _ => rfl) (opensF_cons rfl (by kernel_rfl) (opens_int Try.underlying2) (opensF_last rfl (by kernel_rfl) o63))).mono (fun _ h => h)
def g5 (x : Int) : Prop := (Lit.int .u8 x).wf = true
def g127 (x : S127) : Prop := ((Lit.int .u8 x.f0).wf = true) ∧ ((Lit.int .i64 x.f1).wf = true) ∧ ((Lit.int .i64 x.f2).wf = true)
theorem o127 {H : Type} {enc : TypeId × Value → H} {w : World} : Opens enc Try.prog w k127 127 g127 := (opens_struct (β := S127) Try.underlying127 (by kernel_rfl) (fun x => (x.f0, x.f1, x.f2)) (fun p => ⟨p.1, p.2.1, p.2.2⟩) (fun _ => rfl) (opensF_cons rfl (by kernel_rfl) (opens_int Try.underlying5) (opensF_cons rfl (by kernel_rfl) (opens_int Try.underlying2) (opensF_last rfl (by kernel_rfl) (opens_int Try.underlying2))))).mono (fun _ h => h)
theorem p63 {H : Type} {enc : TypeId × Value → H} {w : World} : Opens enc Try.prog w (Kd.iso (Kd.pair (Kd.iso (Kd.pair (Kd.int .i64) (Kd.pair (Kd.iso (Kd.pair (Kd.int .i64) (Kd.int .i64)) (fun x : (Int × Int) => x)) (Kd.int .i64))) (fun x : (Int × (Int × Int) × Int) => x)) (Kd.pair (Kd.int .i64) (Kd.pair (Kd.slice 2 (Kd.int .i64)) (Kd.slice 2 (Kd.int .i64))))) (fun x : ((Int × (Int × Int) × Int) × Int × (List Int) × (List Int)) => x)) 63 (fun x => (((Lit.int .i64 x.1.1).wf = true) ∧ (((Lit.int .i64 x.1.2.1.1).wf = true) ∧ ((Lit.int .i64 x.1.2.1.2).wf = true)) ∧ ((Lit.int .i64 x.1.2.2).wf = true)) ∧ ((Lit.int .i64 x.2.1).wf = true) ∧ (x.2.2.1.length ≤ maxLen ∧ ∀ y ∈ x.2.2.1, g2 y) ∧ (x.2.2.2.length ≤ maxLen ∧ ∀ y ∈ x.2.2.2, g2 y)) := (opens_struct (β := ((Int × (Int × Int) × Int) × Int × (List Int) × (List Int))) Try.underlying63 (by kernel_rfl) (fun x => x) (fun x => x) (fun _ => rfl) (opensF_cons rfl (by kernel_rfl) (opens_struct (β := (Int × (Int × Int) × Int)) Try.underlying61 (by kernel_rfl) (fun x => x) (fun x => x) (fun _ => rfl) (opensF_cons rfl (by kernel_rfl) (opens_int Try.underlying2) (opensF_cons rfl (by kernel_rfl) (opens_struct (β := (Int × Int)) Try.underlying59 (by kernel_rfl) (fun x => x) (fun x => x) (fun _ => rfl) (opensF_cons rfl (by kernel_rfl) (opens_int Try.underlying2) (opensF_last rfl (by kernel_rfl) (opens_int Try.underlying2)))) (opensF_last rfl (by kernel_rfl) (opens_int Try.underlying2))))) (opensF_cons rfl (by kernel_rfl) (opens_int Try.underlying2) (opensF_cons rfl (by kernel_rfl) (opens_slice (e' := 2) Try.underlying23 (by kernel_rfl) (opens_int Try.underlying2)) (opensF_last rfl (by kernel_rfl) (opens_slice (e' := 2) Try.underlying23 (by kernel_rfl) (opens_int Try.underlying2))))))).mono (fun _ h => h)
theorem p84 {H : Type} {enc : TypeId × Value → H} {w : World} : Opens enc Try.prog w (Kd.iso (Kd.pair (Kd.iso (Kd.pair (Kd.iso (Kd.pair (Kd.int .i64) (Kd.pair (Kd.iso (Kd.pair (Kd.int .i64) (Kd.int .i64)) (fun x : (Int × Int) => x)) (Kd.int .i64))) (fun x : (Int × (Int × Int) × Int) => x)) (Kd.pair (Kd.int .i64) (Kd.pair (Kd.slice 2 (Kd.int .i64)) (Kd.slice 2 (Kd.int .i64))))) (fun x : ((Int × (Int × Int) × Int) × Int × (List Int) × (List Int)) => x)) (Kd.pair (Kd.iso (Kd.pair (Kd.int .i64) (Kd.pair (Kd.int .i64) (Kd.pair (Kd.int .i64) (Kd.pair (Kd.int .i64) (Kd.int .i64))))) (fun x : (Int × Int × Int × Int × Int) => x)) (Kd.pair (Kd.int .i64) (Kd.int .i64)))) (fun x : (((Int × (Int × Int) × Int) × Int × (List Int) × (List Int)) × (Int × Int × Int × Int × Int) × Int × Int) => x)) 84 (fun x => ((((Lit.int .i64 x.1.1.1).wf = true) ∧ (((Lit.int .i64 x.1.1.2.1.1).wf = true) ∧ ((Lit.int .i64 x.1.1.2.1.2).wf = true)) ∧ ((Lit.int .i64 x.1.1.2.2).wf = true)) ∧ ((Lit.int .i64 x.1.2.1).wf = true) ∧ (x.1.2.2.1.length ≤ maxLen ∧ ∀ y ∈ x.1.2.2.1, g2 y) ∧ (x.1.2.2.2.length ≤ maxLen ∧ ∀ y ∈ x.1.2.2.2, g2 y)) ∧ (((Lit.int .i64 x.2.1.1).wf = true) ∧ ((Lit.int .i64 x.2.1.2.1).wf = true) ∧ ((Lit.int .i64 x.2.1.2.2.1).wf = true) ∧ ((Lit.int .i64 x.2.1.2.2.2.1).wf = true) ∧ ((Lit.int .i64 x.2.1.2.2.2.2).wf = true)) ∧ ((Lit.int .i64 x.2.2.1).wf = true) ∧ ((Lit.int .i64 x.2.2.2).wf = true)) := (opens_struct (β := (((Int × (Int × Int) × Int) × Int × (List Int) × (List Int)) × (Int × Int × Int × Int × Int) × Int × Int)) Try.underlying84 (by kernel_rfl) (fun x => x) (fun x => x) (fun _ => rfl) (opensF_cons rfl (by kernel_rfl) (opens_struct (β := ((Int × (Int × Int) × Int) × Int × (List Int) × (List Int))) Try.underlying63 (by kernel_rfl) (fun x => x) (fun x => x) (fun _ => rfl) (opensF_cons rfl (by kernel_rfl) (opens_struct (β := (Int × (Int × Int) × Int)) Try.underlying61 (by kernel_rfl) (fun x => x) (fun x => x) (fun _ => rfl) (opensF_cons rfl (by kernel_rfl) (opens_int Try.underlying2) (opensF_cons rfl (by kernel_rfl) (opens_struct (β := (Int × Int)) Try.underlying59 (by kernel_rfl) (fun x => x) (fun x => x) (fun _ => rfl) (opensF_cons rfl (by kernel_rfl) (opens_int Try.underlying2) (opensF_last rfl (by kernel_rfl) (opens_int Try.underlying2)))) (opensF_last rfl (by kernel_rfl) (opens_int Try.underlying2))))) (opensF_cons rfl (by kernel_rfl) (opens_int Try.underlying2) (opensF_cons rfl (by kernel_rfl) (opens_slice (e' := 2) Try.underlying23 (by kernel_rfl) (opens_int Try.underlying2)) (opensF_last rfl (by kernel_rfl) (opens_slice (e' := 2) Try.underlying23 (by kernel_rfl) (opens_int Try.underlying2))))))) (opensF_cons rfl (by kernel_rfl) (opens_struct (β := (Int × Int × Int × Int × Int)) Try.underlying82 (by kernel_rfl) (fun x => x) (fun x => x) (fun _ => rfl) (opensF_cons rfl (by kernel_rfl) (opens_int Try.underlying2) (opensF_cons rfl (by kernel_rfl) (opens_int Try.underlying2) (opensF_cons rfl (by kernel_rfl) (opens_int Try.underlying2) (opensF_cons rfl (by kernel_rfl) (opens_int Try.underlying2) (opensF_last rfl (by kernel_rfl) (opens_int Try.underlying2))))))) (opensF_cons rfl (by kernel_rfl) (opens_int Try.underlying2) (opensF_last rfl (by kernel_rfl) (opens_int Try.underlying2)))))).mono (fun _ h => h)
end Go.Proofs.Ytnimjikikfhlpaa.F

namespace Go.Proofs.Ytnimjikikfhlpaa.Pure
open Go.RowKit Go.Proofs.Ytnimjikikfhlpaa.F Go.Proofs.YtnimjikikfhlpaaW.PrintWords Go.Proofs.YtnimjikikfhlpaaW.PrintLast Go.Proofs.YtnimjikikfhlpaaW.PrintMore Go.Proofs.YtnimjikikfhlpaaB
set_option linter.unusedVariables false
set_option linter.unusedSimpArgs false
def ptB (p : S142) : Bool := inB p.f0 (-1000000) 1000000 && inB p.f1 (-1000000) 1000000
theorem bdPoint_eq (p : S142) : bdPoint p = !ptB p := rfl
def lineB (l : List S142) : Bool := decide (l.length ≤ 200) && l.all ptB
def strokeB (s : S107) : Bool := inB s.f0 1 8 && lineB s.f1 && decide (2 ≤ s.f1.length)
def codeS (l : List S107) : Int := if l.all strokeB = true then (if 40 < l.length then 3 else 0) else 1
theorem rdP {xs ys : List S142} {y : S142} {m : Nat} (h : xs.drop m = y :: ys) : rd_T142 xs (m : Int) = y := (drop_cons h).2.1 _
theorem rdS {xs ys : List S107} {y : S107} {m : Nat} (h : xs.drop m = y :: ys) : rd_T107 xs (m : Int) = y := (drop_cons h).2.1 _
theorem any_not_all (l : List S142) : (!l.any bdPoint) = l.all ptB := by
  rw [List.not_any_eq_all_not]
  congr 1
  funext p
  simp [bdPoint_eq]

end Go.Proofs.Ytnimjikikfhlpaa.Pure

namespace Go.Proofs.Ytnimjikikfhlpaa.Pure
open Go.RowKit Go.Proofs.Ytnimjikikfhlpaa.F Go.Proofs.YtnimjikikfhlpaaW.PrintWords Go.Proofs.YtnimjikikfhlpaaW.PrintLast Go.Proofs.YtnimjikikfhlpaaW.PrintMore Go.Proofs.YtnimjikikfhlpaaB
set_option linter.unusedVariables false
set_option linter.unusedSimpArgs false
theorem impl_IsLine_f (l : List S142) : impl_IsLine.f l = some (lineB l) := by
  unfold impl_IsLine.f lineB
  rw [any_not_all]

end Go.Proofs.Ytnimjikikfhlpaa.Pure

namespace Go.Proofs.Ytnimjikikfhlpaa.Pure
open Go.RowKit Go.Proofs.Ytnimjikikfhlpaa.F Go.Proofs.YtnimjikikfhlpaaW.PrintWords Go.Proofs.YtnimjikikfhlpaaW.PrintLast Go.Proofs.YtnimjikikfhlpaaW.PrintMore Go.Proofs.YtnimjikikfhlpaaB
set_option linter.unusedVariables false
set_option linter.unusedSimpArgs false
theorem impl_in_f (a b c : Int) : impl_in.f a b c = some (inB a b c) := inB_if a b c

end Go.Proofs.Ytnimjikikfhlpaa.Pure

namespace Go.Proofs.Ytnimjikikfhlpaa.Pure
open Go.RowKit Go.Proofs.Ytnimjikikfhlpaa.F Go.Proofs.YtnimjikikfhlpaaW.PrintWords Go.Proofs.YtnimjikikfhlpaaW.PrintLast Go.Proofs.YtnimjikikfhlpaaW.PrintMore Go.Proofs.YtnimjikikfhlpaaB
set_option linter.unusedVariables false
set_option linter.unusedSimpArgs false
theorem impl_isPen_f (a : Int) : impl_isPen.f a = some (inB a 1 8) := by
  simp only [impl_isPen.f, impl_in_f, Option.bind_some]

end Go.Proofs.Ytnimjikikfhlpaa.Pure

namespace Go.Proofs.Ytnimjikikfhlpaa.Pure
open Go.RowKit Go.Proofs.Ytnimjikikfhlpaa.F Go.Proofs.YtnimjikikfhlpaaW.PrintWords Go.Proofs.YtnimjikikfhlpaaW.PrintLast Go.Proofs.YtnimjikikfhlpaaW.PrintMore Go.Proofs.YtnimjikikfhlpaaB
set_option linter.unusedVariables false
set_option linter.unusedSimpArgs false
theorem impl_drawing_l0 (xs : List S107) (hx : xs.length ≤ 9223372036854775807) : ∀ (ys : List S107) (m : Nat), xs.drop m = ys →
    Ev (fun k => impl_drawing.l0 k xs xs xs.length m) (if ys.all strokeB = true then (if 40 < xs.length then 3 else 0) else 1)
  | [], m, h => by
    have := drop_nil h
    refine ev_step (fun _ => rfl) (ev_neg (by omega) (ev_now ?_))
    simp only [List.all_nil, if_true]
    by_cases h4 : 40 < xs.length
    · rw [if_pos (by omega), if_pos h4]
    · rw [if_neg (by omega), if_neg h4]
  | y :: ys, m, h => by
    obtain ⟨hm, _, hd⟩ := drop_cons h
    refine ev_step (fun _ => rfl) (ev_pos (by omega) (ev_pos (by omega) (ev_pos (by omega) ?_)))
    rw [rdS h, w64 (by omega) (by omega)]
    refine ev_some (impl_isPen_f _) ?_
    have ih := impl_drawing_l0 xs hx ys (m + 1) hd
    rw [List.all_cons, show strokeB y = (inB y.f0 1 8 && lineB y.f1 && decide (2 ≤ y.f1.length)) from rfl]
    cases inB y.f0 1 8
    · exact ev_neg (by simp) (ev_now (by simp))
    refine ev_pos rfl (ev_some (impl_IsLine_f y.f1) ?_)
    cases lineB y.f1
    · exact ev_neg (by simp) (ev_now (by simp))
    refine ev_pos rfl (ev_ite (fun h2 => ev_now ?_) (fun h2 => ev_eq ih ?_))
    · rw [decide_eq_false (show ¬ 2 ≤ y.f1.length by omega)]; simp
    · rw [decide_eq_true (show 2 ≤ y.f1.length by omega)]; simp
theorem impl_drawing_f (xs : List S107) (hx : xs.length ≤ 9223372036854775807) : Ev (fun k => impl_drawing.f k xs) (codeS xs) := impl_drawing_l0 xs hx xs 0 rfl

end Go.Proofs.Ytnimjikikfhlpaa.Pure

namespace Go.Proofs.Ytnimjikikfhlpaa.Pure
open Go.RowKit Go.Proofs.Ytnimjikikfhlpaa.F Go.Proofs.YtnimjikikfhlpaaW.PrintWords Go.Proofs.YtnimjikikfhlpaaW.PrintLast Go.Proofs.YtnimjikikfhlpaaW.PrintMore Go.Proofs.YtnimjikikfhlpaaB
set_option linter.unusedVariables false
set_option linter.unusedSimpArgs false
def ordB (n : Nat) (used : List Bool) : List Int → Bool
  | [] => true
  | y :: ys => inB y 0 (2 * n - 1) && !(used.getD (y / 2).toNat false) && ordB n (used.set (y / 2).toNat true) ys
theorem ordB_cons (n : Nat) (used : List Bool) (y : Int) (ys : List Int) : ordB n used (y :: ys) = (inB y 0 (2 * n - 1) && !(used.getD (y / 2).toNat false) && ordB n (used.set (y / 2).toNat true) ys) := rfl
def isOrd (n : Nat) (l : List Int) : Bool := ordB n (List.replicate n false) l && decide (l.length = n)
theorem half_w {y : Int} (h0 : 0 ≤ y) (h1 : y ≤ 2097152) : wrap64 (Int.tdiv y 2) = y / 2 := by
  rw [Int.tdiv_eq_ediv_of_nonneg h0, w64 (by omega) (by omega)]
theorem inB_iff {x lo hi : Int} (h : inB x lo hi = true) : lo ≤ x ∧ x ≤ hi := of_decide_eq_true h

end Go.Proofs.Ytnimjikikfhlpaa.Pure

namespace Go.Proofs.Ytnimjikikfhlpaa.Pure
open Go.RowKit Go.Proofs.Ytnimjikikfhlpaa.F Go.Proofs.YtnimjikikfhlpaaW.PrintWords Go.Proofs.YtnimjikikfhlpaaW.PrintLast Go.Proofs.YtnimjikikfhlpaaW.PrintMore Go.Proofs.YtnimjikikfhlpaaB
set_option linter.unusedVariables false
set_option linter.unusedSimpArgs false
def risB (most : Int) : Option Int → List Int → Bool
  | _, [] => true
  | p, y :: ys => inB y 0 most && (match p with | none => true | some q => decide (q < y)) && risB most (some y) ys
def prevOf (xs : List Int) (m : Nat) : Option Int := if m = 0 then none else some (xs.getD (m - 1) 0)
theorem prevOf_succ {xs ys : List Int} {y : Int} {m : Nat} (h : xs.drop m = y :: ys) : prevOf xs (m + 1) = some y := by
  unfold prevOf
  rw [if_neg (by omega), Nat.add_sub_cancel, (drop_cons h).2.1]
def risesB (l : List Int) (most : Int) : Bool := risB most none l
theorem rdI {xs ys : List Int} {y : Int} {m : Nat} (h : xs.drop m = y :: ys) : rd xs (m : Int) = y := (drop_cons h).2.1 _

end Go.Proofs.Ytnimjikikfhlpaa.Pure

namespace Go.Proofs.Ytnimjikikfhlpaa.Pure
open Go.RowKit Go.Proofs.Ytnimjikikfhlpaa.F Go.Proofs.YtnimjikikfhlpaaW.PrintWords Go.Proofs.YtnimjikikfhlpaaW.PrintLast Go.Proofs.YtnimjikikfhlpaaW.PrintMore Go.Proofs.YtnimjikikfhlpaaB
set_option linter.unusedVariables false
set_option linter.unusedSimpArgs false
theorem impl_isOrder_l0 (zs : List S107) (xs : List Int) (hn : zs.length ≤ 1048576) (hx : xs.length ≤ 9223372036854775807) : ∀ (ys : List Int) (m : Nat) (used : List Bool), xs.drop m = ys → used.length = zs.length →
    Ev (fun k => impl_isOrder.l0 k zs used xs xs.length m) (ordB zs.length used ys)
  | [], m, used, h, hu => by
    have := drop_nil h
    exact ev_step (fun _ => rfl) (ev_neg (by omega) (ev_now rfl))
  | y :: ys, m, used, h, hu => by
    obtain ⟨hm, _, hd⟩ := drop_cons h
    refine ev_step (fun _ => rfl) (ev_pos (by omega) (ev_pos (by omega) (ev_pos (by omega) ?_)))
    rw [rdI h, w64 (x := (m : Int) + 1) (by omega) (by omega), w64 (x := 2 * (zs.length : Int)) (by omega) (by omega), w64 (x := 2 * (zs.length : Int) - 1) (by omega) (by omega)]
    refine ev_some (impl_in_f _ _ _) ?_
    rw [ordB_cons]
    cases hb : inB y 0 (2 * zs.length - 1)
    · exact ev_neg (by simp) (ev_now (by simp))
    obtain ⟨g0, g1⟩ := inB_iff hb
    refine ev_pos rfl ?_
    rw [half_w g0 (by omega)]
    refine ev_pos (by omega) (ev_pos (by omega) ?_)
    rw [show rdOf false used (y / 2) = used.getD (y / 2).toNat false from rfl]
    cases used.getD (y / 2).toNat false
    · exact ev_neg (by simp) (ev_eq (impl_isOrder_l0 zs xs hn hx ys (m + 1) _ hd (by rw [List.length_set, hu])) (by simp))
    · exact ev_pos rfl (ev_now (by simp))
theorem impl_isOrder_f (zs : List S107) (xs : List Int) (hn : zs.length ≤ 1048576) (hx : xs.length ≤ 9223372036854775807) : Ev (fun k => impl_isOrder.f k zs xs) (isOrd zs.length xs) := by
  unfold isOrd
  by_cases h : xs.length = zs.length
  · rw [decide_eq_true h, Bool.and_true]
    refine ev_pos (by omega) (ev_pos (by omega) (ev_pos (by omega) ?_))
    exact impl_isOrder_l0 zs xs hn hx xs 0 _ rfl (by simp)
  · rw [decide_eq_false h, Bool.and_false]
    exact ev_neg (by omega) (ev_now rfl)

end Go.Proofs.Ytnimjikikfhlpaa.Pure

namespace Go.Proofs.Ytnimjikikfhlpaa.Pure
open Go.RowKit Go.Proofs.Ytnimjikikfhlpaa.F Go.Proofs.YtnimjikikfhlpaaW.PrintWords Go.Proofs.YtnimjikikfhlpaaW.PrintLast Go.Proofs.YtnimjikikfhlpaaW.PrintMore Go.Proofs.YtnimjikikfhlpaaB
set_option linter.unusedVariables false
set_option linter.unusedSimpArgs false
theorem spec_l01In_f (a b c : Int) : spec_l01In.f a b c = some (inB a b c) := inB_if a b c

end Go.Proofs.Ytnimjikikfhlpaa.Pure

namespace Go.Proofs.Ytnimjikikfhlpaa.Pure
open Go.RowKit Go.Proofs.Ytnimjikikfhlpaa.F Go.Proofs.YtnimjikikfhlpaaW.PrintWords Go.Proofs.YtnimjikikfhlpaaW.PrintLast Go.Proofs.YtnimjikikfhlpaaW.PrintMore Go.Proofs.YtnimjikikfhlpaaB
set_option linter.unusedVariables false
set_option linter.unusedSimpArgs false
theorem spec_l14Point_f (a b : Int) : spec_l14Point.f a b = some (inB a (-1000000) 1000000 && inB b (-1000000) 1000000) := by
  simp only [spec_l14Point.f, spec_l01In_f, Option.bind_some]
  cases inB a (-1000000) 1000000 <;> simp

end Go.Proofs.Ytnimjikikfhlpaa.Pure

namespace Go.Proofs.Ytnimjikikfhlpaa.Pure
open Go.RowKit Go.Proofs.Ytnimjikikfhlpaa.F Go.Proofs.YtnimjikikfhlpaaW.PrintWords Go.Proofs.YtnimjikikfhlpaaW.PrintLast Go.Proofs.YtnimjikikfhlpaaW.PrintMore Go.Proofs.YtnimjikikfhlpaaB
set_option linter.unusedVariables false
set_option linter.unusedSimpArgs false
theorem spec_l16Points_l0 (xs : List S142) (hx : xs.length ≤ 9223372036854775807) : ∀ (ys : List S142) (m : Nat), xs.drop m = ys → Ev (fun k => spec_l16Points.l0 k xs m) (ys.all ptB)
  | [], m, h => by
    have := drop_nil h
    exact ev_step (fun _ => rfl) (ev_neg (by omega) (ev_now rfl))
  | y :: ys, m, h => by
    obtain ⟨hm, _, hd⟩ := drop_cons h
    refine ev_step (fun _ => rfl) (ev_pos (by omega) (ev_pos (by omega) ?_))
    rw [rdP h, w64 (by omega) (by omega)]
    refine ev_some (spec_l14Point_f _ _) ?_
    rw [List.all_cons, show (inB y.f0 (-1000000) 1000000 && inB y.f1 (-1000000) 1000000) = ptB y from rfl]
    cases ptB y
    · exact ev_neg (by simp) (ev_now (by simp))
    · exact ev_pos rfl (ev_eq (spec_l16Points_l0 xs hx ys (m + 1) hd) (by simp))
theorem spec_l16Points_f (xs : List S142) (hx : xs.length ≤ 9223372036854775807) : Ev (fun k => spec_l16Points.f k xs) (xs.all ptB) := spec_l16Points_l0 xs hx xs 0 rfl

end Go.Proofs.Ytnimjikikfhlpaa.Pure

namespace Go.Proofs.Ytnimjikikfhlpaa.Pure
open Go.RowKit Go.Proofs.Ytnimjikikfhlpaa.F Go.Proofs.YtnimjikikfhlpaaW.PrintWords Go.Proofs.YtnimjikikfhlpaaW.PrintLast Go.Proofs.YtnimjikikfhlpaaW.PrintMore Go.Proofs.YtnimjikikfhlpaaB
set_option linter.unusedVariables false
set_option linter.unusedSimpArgs false
theorem spec_IsLine_f (l : List S142) : Ev (fun k => spec_IsLine.f k l) (lineB l) := by
  unfold lineB
  by_cases h : l.length ≤ 200
  · rw [decide_eq_true h, Bool.true_and]
    exact ev_pos (by omega) (ev_bind (spec_l16Points_f l (by omega)) (ev_now rfl))
  · rw [decide_eq_false h, Bool.false_and]
    exact ev_neg (by omega) (ev_now rfl)

end Go.Proofs.Ytnimjikikfhlpaa.Pure

namespace Go.Proofs.Ytnimjikikfhlpaa.Pure
open Go.RowKit Go.Proofs.Ytnimjikikfhlpaa.F Go.Proofs.YtnimjikikfhlpaaW.PrintWords Go.Proofs.YtnimjikikfhlpaaW.PrintLast Go.Proofs.YtnimjikikfhlpaaW.PrintMore Go.Proofs.YtnimjikikfhlpaaB
set_option linter.unusedVariables false
set_option linter.unusedSimpArgs false
theorem spec_l28Pen_f (a : Int) : spec_l28Pen.f a = some (inB a 1 8) := by
  simp only [spec_l28Pen.f, spec_l01In_f, Option.bind_some]

end Go.Proofs.Ytnimjikikfhlpaa.Pure

namespace Go.Proofs.Ytnimjikikfhlpaa.Pure
open Go.RowKit Go.Proofs.Ytnimjikikfhlpaa.F Go.Proofs.YtnimjikikfhlpaaW.PrintWords Go.Proofs.YtnimjikikfhlpaaW.PrintLast Go.Proofs.YtnimjikikfhlpaaW.PrintMore Go.Proofs.YtnimjikikfhlpaaB
set_option linter.unusedVariables false
set_option linter.unusedSimpArgs false
theorem spec_l28Code_l0 (xs : List S107) (hx : xs.length ≤ 9223372036854775807) : ∀ (ys : List S107) (m : Nat), xs.drop m = ys →
    Ev (fun k => spec_l28Code.l0 k xs m) (if ys.all strokeB = true then (if 40 < xs.length then 3 else 0) else 1)
  | [], m, h => by
    have := drop_nil h
    refine ev_step (fun _ => rfl) (ev_neg (by omega) (ev_now ?_))
    simp only [List.all_nil, if_true]
    by_cases h4 : 40 < xs.length
    · rw [if_pos (by omega), if_pos h4]
    · rw [if_neg (by omega), if_neg h4]
  | y :: ys, m, h => by
    obtain ⟨hm, _, hd⟩ := drop_cons h
    refine ev_step (fun _ => rfl) (ev_pos (by omega) (ev_pos (by omega) ?_))
    rw [rdS h, w64 (by omega) (by omega)]
    refine ev_some (spec_l28Pen_f _) ?_
    have ih := spec_l28Code_l0 xs hx ys (m + 1) hd
    rw [List.all_cons, show strokeB y = (inB y.f0 1 8 && lineB y.f1 && decide (2 ≤ y.f1.length)) from rfl]
    cases inB y.f0 1 8
    · exact ev_neg (by simp) (ev_now (by simp))
    refine ev_pos rfl (ev_bind (spec_IsLine_f y.f1) ?_)
    cases lineB y.f1
    · exact ev_neg (by simp) (ev_now (by simp))
    refine ev_pos rfl (ev_ite (fun h2 => ev_now ?_) (fun h2 => ev_eq ih ?_))
    · rw [decide_eq_false (show ¬ 2 ≤ y.f1.length by omega)]; simp
    · rw [decide_eq_true (show 2 ≤ y.f1.length by omega)]; simp
theorem spec_l28Code_f (xs : List S107) (hx : xs.length ≤ 9223372036854775807) : Ev (fun k => spec_l28Code.f k xs) (codeS xs) := spec_l28Code_l0 xs hx xs 0 rfl

end Go.Proofs.Ytnimjikikfhlpaa.Pure

namespace Go.Proofs.Ytnimjikikfhlpaa.Pure
open Go.RowKit Go.Proofs.Ytnimjikikfhlpaa.F Go.Proofs.YtnimjikikfhlpaaW.PrintWords Go.Proofs.YtnimjikikfhlpaaW.PrintLast Go.Proofs.YtnimjikikfhlpaaW.PrintMore Go.Proofs.YtnimjikikfhlpaaB
set_option linter.unusedVariables false
set_option linter.unusedSimpArgs false
theorem spec_l31Is_l0 (xs : List Int) (n : Nat) (hn : n ≤ 1048576) (hx : xs.length ≤ 9223372036854775807) : ∀ (ys : List Int) (m : Nat) (used : List Bool), xs.drop m = ys → used.length = n →
    Ev (fun k => spec_l31Is.l0 k xs n used m) (ordB n used ys && decide (xs.length = n))
  | [], m, used, h, hu => by
    have := drop_nil h
    refine ev_step (fun _ => rfl) (ev_neg (by omega) (ev_now ?_))
    by_cases e : xs.length = n <;> simp [ordB, e]
    omega
  | y :: ys, m, used, h, hu => by
    obtain ⟨hm, _, hd⟩ := drop_cons h
    refine ev_step (fun _ => rfl) (ev_pos (by omega) (ev_pos (by omega) ?_))
    rw [rdI h, w64 (x := (m : Int) + 1) (by omega) (by omega), w64 (x := 2 * (n : Int)) (by omega) (by omega), w64 (x := 2 * (n : Int) - 1) (by omega) (by omega)]
    refine ev_some (spec_l01In_f _ _ _) ?_
    rw [ordB_cons]
    cases hb : inB y 0 (2 * n - 1)
    · exact ev_neg (by simp) (ev_now (by simp))
    obtain ⟨g0, g1⟩ := inB_iff hb
    refine ev_pos rfl ?_
    rw [half_w g0 (by omega)]
    refine ev_pos (by omega) (ev_pos (by omega) ?_)
    rw [show rdOf false used (y / 2) = used.getD (y / 2).toNat false from rfl]
    cases used.getD (y / 2).toNat false
    · exact ev_neg (by simp) (ev_eq (spec_l31Is_l0 xs n hn hx ys (m + 1) _ hd (by rw [List.length_set, hu])) (by simp))
    · exact ev_pos rfl (ev_now (by simp))
theorem spec_l31Is_f (xs : List Int) (n : Nat) (hn : n ≤ 1048576) (hx : xs.length ≤ 9223372036854775807) : Ev (fun k => spec_l31Is.f k xs n) (isOrd n xs) := by
  refine ev_pos (by omega) (ev_pos (by omega) ?_)
  exact spec_l31Is_l0 xs n hn hx xs 0 _ rfl (by simp)

end Go.Proofs.Ytnimjikikfhlpaa.Pure

namespace Go.Proofs.Ytnimjikikfhlpaa.Pure
open Go.RowKit Go.Proofs.Ytnimjikikfhlpaa.F Go.Proofs.YtnimjikikfhlpaaW.PrintWords Go.Proofs.YtnimjikikfhlpaaW.PrintLast Go.Proofs.YtnimjikikfhlpaaW.PrintMore Go.Proofs.YtnimjikikfhlpaaB
set_option linter.unusedVariables false
set_option linter.unusedSimpArgs false
def resOrd (zs : List S107) (xs : List Int) : Bool × Int := if codeS zs = 0 then (isOrd zs.length xs, 0) else (false, codeS zs)
theorem spec_IsOrder_f (zs : List S107) (xs : List Int) (hn : zs.length ≤ 1048576) (hx : xs.length ≤ 9223372036854775807) : Ev (fun k => spec_IsOrder.f k zs xs) (resOrd zs xs) := by
  refine ev_bind (spec_l28Code_f zs (by omega)) ?_
  unfold resOrd
  refine ev_ite (fun h => ?_) (fun h => ?_)
  · rw [if_pos h]
    exact ev_bind (spec_l31Is_f xs zs.length hn hx) (ev_now rfl)
  · rw [if_neg h]
    exact ev_now rfl

end Go.Proofs.Ytnimjikikfhlpaa.Pure

namespace Go.Proofs.Ytnimjikikfhlpaa.Pure
open Go.RowKit Go.Proofs.Ytnimjikikfhlpaa.F Go.Proofs.YtnimjikikfhlpaaW.PrintWords Go.Proofs.YtnimjikikfhlpaaW.PrintLast Go.Proofs.YtnimjikikfhlpaaW.PrintMore Go.Proofs.YtnimjikikfhlpaaB
set_option linter.unusedVariables false
set_option linter.unusedSimpArgs false
theorem impl_IsOrder_f (zs : List S107) (xs : List Int) (hn : zs.length ≤ 1048576) (hx : xs.length ≤ 9223372036854775807) : Ev (fun k => impl_IsOrder.f k zs xs) (resOrd zs xs) := by
  refine ev_bind (impl_drawing_f zs (by omega)) ?_
  unfold resOrd
  refine ev_ite (fun h => ?_) (fun h => ?_)
  · rw [if_pos h]
    exact ev_bind (impl_isOrder_f zs xs hn hx) (ev_now rfl)
  · rw [if_neg h]
    exact ev_now rfl

end Go.Proofs.Ytnimjikikfhlpaa.Pure

namespace Go.Proofs.Ytnimjikikfhlpaa.Pure
open Go.RowKit Go.Proofs.Ytnimjikikfhlpaa.F Go.Proofs.YtnimjikikfhlpaaW.PrintWords Go.Proofs.YtnimjikikfhlpaaW.PrintLast Go.Proofs.YtnimjikikfhlpaaW.PrintMore Go.Proofs.YtnimjikikfhlpaaB
set_option linter.unusedVariables false
set_option linter.unusedSimpArgs false
theorem laws_eqInt64S_l0 (xs : List Int) (hx : xs.length ≤ 9223372036854775807) : ∀ (ys : List Int) (m : Nat), xs.drop m = ys →
    Ev (fun k => laws_eqInt64S.l0 k xs xs m) true
  | [], m, h => by
    have := drop_nil h
    exact ev_step (fun _ => rfl) (ev_neg (by omega) (ev_now rfl))
  | y :: ys, m, h => by
    obtain ⟨hm, _, hd⟩ := drop_cons h
    refine ev_step (fun _ => rfl) (ev_pos (by omega) (ev_pos (by omega) (ev_pos (by omega) ?_)))
    rw [w64 (by omega) (by omega)]
    exact ev_pos rfl (laws_eqInt64S_l0 xs hx ys (m + 1) hd)
theorem laws_eqInt64S_f (xs : List Int) (hx : xs.length ≤ 9223372036854775807) : Ev (fun k => laws_eqInt64S.f k xs xs) true := ev_pos rfl (laws_eqInt64S_l0 xs hx xs 0 rfl)

end Go.Proofs.Ytnimjikikfhlpaa.Pure

namespace Go.Proofs.Ytnimjikikfhlpaa.Pure
open Go.RowKit Go.Proofs.Ytnimjikikfhlpaa.F Go.Proofs.YtnimjikikfhlpaaW.PrintWords Go.Proofs.YtnimjikikfhlpaaW.PrintLast Go.Proofs.YtnimjikikfhlpaaW.PrintMore Go.Proofs.YtnimjikikfhlpaaB
set_option linter.unusedVariables false
set_option linter.unusedSimpArgs false
theorem laws_eqPointS_f (xs : List S142) (hx : xs.length ≤ 9223372036854775807) : Ev (fun k => laws_eqPointS.f k xs xs) true :=
  ev_pos rfl (ev_eqs (z := z142) (F := laws_eqPointS.l0) (fun _ x y => laws_eqPoint.f x.f0 x.f1 y.f0 y.f1) (fun _ _ _ _ => rfl) xs hx (fun x _ => ev_now (by simp [laws_eqPoint.f])) xs 0 rfl)

end Go.Proofs.Ytnimjikikfhlpaa.Pure

namespace Go.Proofs.Ytnimjikikfhlpaa.Pure
open Go.RowKit Go.Proofs.Ytnimjikikfhlpaa.F Go.Proofs.YtnimjikikfhlpaaW.PrintWords Go.Proofs.YtnimjikikfhlpaaW.PrintLast Go.Proofs.YtnimjikikfhlpaaW.PrintMore Go.Proofs.YtnimjikikfhlpaaB
set_option linter.unusedVariables false
set_option linter.unusedSimpArgs false
theorem laws_eqStrokeS_f (xs : List S107) (hx : xs.length ≤ 9223372036854775807) (hi : ∀ x ∈ xs, x.f1.length ≤ 9223372036854775807) : Ev (fun k => laws_eqStrokeS.f k xs xs) true :=
  ev_pos rfl (ev_eqs (z := z107) (F := laws_eqStrokeS.l0) (fun k x y => laws_eqStroke.f k x.f0 x.f1 y.f0 y.f1) (fun _ _ _ _ => rfl) xs hx (fun x hm => ev_pos rfl (ev_bind (laws_eqPointS_f x.f1 (hi x hm)) (ev_pos rfl (ev_now rfl)))) xs 0 rfl)

end Go.Proofs.Ytnimjikikfhlpaa.Pure

namespace Go.Proofs.Ytnimjikikfhlpaa.Pure
open Go.RowKit Go.Proofs.Ytnimjikikfhlpaa.F Go.Proofs.YtnimjikikfhlpaaW.PrintWords Go.Proofs.YtnimjikikfhlpaaW.PrintLast Go.Proofs.YtnimjikikfhlpaaW.PrintMore Go.Proofs.YtnimjikikfhlpaaB
set_option linter.unusedVariables false
set_option linter.unusedSimpArgs false
theorem laws_szPointS_f (xs : List S178) (a : Int) (h0 : 0 ≤ a) (h1 : a ≤ 1048576) (hx : xs.length ≤ 9223372036854775807) : laws_szPointS.f xs a = some (if a < xs.length then -1 else a - xs.length) := by
  unfold laws_szPointS.f
  rw [w64 (by omega) (by omega)]
  by_cases h : a < xs.length
  · rw [if_pos (by omega), if_pos h]
  · rw [if_neg (by omega), if_neg h]

end Go.Proofs.Ytnimjikikfhlpaa.Pure

namespace Go.Proofs.Ytnimjikikfhlpaa.Pure
open Go.RowKit Go.Proofs.Ytnimjikikfhlpaa.F Go.Proofs.YtnimjikikfhlpaaW.PrintWords Go.Proofs.YtnimjikikfhlpaaW.PrintLast Go.Proofs.YtnimjikikfhlpaaW.PrintMore Go.Proofs.YtnimjikikfhlpaaB
set_option linter.unusedVariables false
set_option linter.unusedSimpArgs false
theorem laws_szStroke_f (p : Int) (xs : List S178) (a : Int) (h0 : 0 ≤ a) (h1 : a ≤ 1048576) (hx : xs.length ≤ 9223372036854775807) : laws_szStroke.f p xs a = some (if a < xs.length then -1 else a - xs.length) := by
  unfold laws_szStroke.f
  rw [laws_szPointS_f xs a h0 h1 hx, Option.bind_some]
  by_cases h : a < xs.length
  · rw [if_pos h, if_pos (by omega)]
  · rw [if_neg h, if_neg (by omega)]

end Go.Proofs.Ytnimjikikfhlpaa.Pure

namespace Go.Proofs.Ytnimjikikfhlpaa.Pure
open Go.RowKit Go.Proofs.Ytnimjikikfhlpaa.F Go.Proofs.YtnimjikikfhlpaaW.PrintWords Go.Proofs.YtnimjikikfhlpaaW.PrintLast Go.Proofs.YtnimjikikfhlpaaW.PrintMore Go.Proofs.YtnimjikikfhlpaaB
set_option linter.unusedVariables false
set_option linter.unusedSimpArgs false
def szStroke (x : S102) : Nat := x.f1.length
theorem laws_szStrokeS_f (xs : List S102) (a : Int) (h0 : 0 ≤ a) (h1 : a ≤ 1048576) (hx : xs.length ≤ 9223372036854775807) (hi : ∀ x ∈ xs, x.f1.length ≤ 9223372036854775807) :
    Ev (fun k => laws_szStrokeS.f k xs a) (if a < xs.length + total szStroke xs then -1 else a - (xs.length + total szStroke xs)) :=
  ev_sizes (z := z102) (F := laws_szStrokeS.l0) (fun _ x a => laws_szStroke.f x.f0 x.f1 a) (fun _ _ _ _ => rfl) szStroke xs hx (fun x hm a g0 g1 => ev_now (laws_szStroke_f _ _ _ g0 g1 (hi x hm))) a h0 h1
theorem szStroke_small (xs : List S102) (h : ¬ (1048576 : Int) < xs.length + total szStroke xs) : xs.length ≤ 1048576 ∧ ∀ x ∈ xs, x.f1.length ≤ 1048576 := by
  refine ⟨by omega, fun x hx => ?_⟩
  have := total_mem (size := szStroke) hx
  unfold szStroke at this h
  omega

end Go.Proofs.Ytnimjikikfhlpaa.Pure

namespace Go.Proofs.Ytnimjikikfhlpaa.Pure
open Go.RowKit Go.Proofs.Ytnimjikikfhlpaa.F Go.Proofs.YtnimjikikfhlpaaW.PrintWords Go.Proofs.YtnimjikikfhlpaaW.PrintLast Go.Proofs.YtnimjikikfhlpaaW.PrintMore Go.Proofs.YtnimjikikfhlpaaB
set_option linter.unusedVariables false
set_option linter.unusedSimpArgs false
theorem laws_toInt64S_l0 (xs : List Int) (hx : xs.length ≤ 9223372036854775807) : ∀ (ys : List Int) (m : Nat) (out : List Int), xs.drop m = ys → out.length = xs.length → out.take m = xs.take m →
    Ev (fun k => laws_toInt64S.l0 k xs out m) xs
  | [], m, out, h, hl, ht => by
    have := drop_nil h
    refine ev_step (fun _ => rfl) (ev_neg (by omega) (ev_now ?_))
    rw [List.take_of_length_le (by omega), List.take_of_length_le this] at ht
    rw [ht]
  | y :: ys, m, out, h, hl, ht => by
    obtain ⟨hm, _, hd⟩ := drop_cons h
    refine ev_step (fun _ => rfl) (ev_pos (by omega) (ev_pos (by omega) (ev_pos (by omega) ?_)))
    rw [rdI h, w64 (by omega) (by omega)]
    refine laws_toInt64S_l0 xs hx ys (m + 1) _ hd (by rw [List.length_set, hl]) ?_
    rw [take_snoc h, ← ht, Int.toNat_natCast, List.set_eq_take_append_cons_drop, if_pos (by omega), List.take_append, List.take_of_length_le (by rw [List.length_take]; omega), List.length_take, show m + 1 - min m out.length = 1 by omega]
    rfl
theorem laws_toInt64S_f (xs : List Int) (hx : xs.length ≤ 1048576) : Ev (fun k => laws_toInt64S.f k xs) xs := by
  refine ev_pos (by omega) (ev_pos (by omega) ?_)
  exact laws_toInt64S_l0 xs (by omega) xs 0 _ rfl (by simp) rfl

end Go.Proofs.Ytnimjikikfhlpaa.Pure

namespace Go.Proofs.Ytnimjikikfhlpaa.Pure
open Go.RowKit Go.Proofs.Ytnimjikikfhlpaa.F Go.Proofs.YtnimjikikfhlpaaW.PrintWords Go.Proofs.YtnimjikikfhlpaaW.PrintLast Go.Proofs.YtnimjikikfhlpaaW.PrintMore Go.Proofs.YtnimjikikfhlpaaB
set_option linter.unusedVariables false
set_option linter.unusedSimpArgs false
def toP (x : S178) : S142 := ⟨x.f0, x.f1⟩
theorem laws_toPointS_f (xs : List S178) (hx : xs.length ≤ 1048576) : Ev (fun k => laws_toPointS.f k xs) (xs.map toP) := by
  refine ev_pos (by omega) (ev_pos (by omega) ?_)
  exact ev_to (z := z178) (F := laws_toPointS.l0) (fun _ x => laws_toPoint.f x.f0 x.f1) (fun b => (⟨b.1, b.2⟩ : S142)) (fun _ _ _ _ => rfl) toP xs (by omega) (fun x _ => ⟨(x.f0, x.f1), ev_now rfl, rfl⟩) xs 0 _ rfl (by simp) rfl

end Go.Proofs.Ytnimjikikfhlpaa.Pure

namespace Go.Proofs.Ytnimjikikfhlpaa.Pure
open Go.RowKit Go.Proofs.Ytnimjikikfhlpaa.F Go.Proofs.YtnimjikikfhlpaaW.PrintWords Go.Proofs.YtnimjikikfhlpaaW.PrintLast Go.Proofs.YtnimjikikfhlpaaW.PrintMore Go.Proofs.YtnimjikikfhlpaaB
set_option linter.unusedVariables false
set_option linter.unusedSimpArgs false
def toSt (x : S102) : S107 := ⟨x.f0, x.f1.map toP⟩
theorem laws_toStrokeS_f (xs : List S102) (hx : xs.length ≤ 1048576) (hi : ∀ x ∈ xs, x.f1.length ≤ 1048576) : Ev (fun k => laws_toStrokeS.f k xs) (xs.map toSt) := by
  refine ev_pos (by omega) (ev_pos (by omega) ?_)
  exact ev_to (z := z102) (F := laws_toStrokeS.l0) (fun k x => laws_toStroke.f k x.f0 x.f1) (fun b => (⟨b.1, b.2⟩ : S107)) (fun _ _ _ _ => rfl) toSt xs (by omega) (fun x hm => ⟨(x.f0, x.f1.map toP), ev_bind (laws_toPointS_f x.f1 (hi x hm)) (ev_now rfl), rfl⟩) xs 0 _ rfl (by simp) rfl
theorem toSt_small (xs : List S102) (hi : ∀ x ∈ xs, x.f1.length ≤ 1048576) : ∀ x ∈ xs.map toSt, x.f1.length ≤ 1048576 := by
  intro x hx
  obtain ⟨y, hy, rfl⟩ := List.mem_map.1 hx
  simp only [toSt, List.length_map]
  exact hi y hy

end Go.Proofs.Ytnimjikikfhlpaa.Pure

namespace Go.Proofs.Ytnimjikikfhlpaa.Pure
open Go.RowKit Go.Proofs.Ytnimjikikfhlpaa.F Go.Proofs.YtnimjikikfhlpaaW.PrintWords Go.Proofs.YtnimjikikfhlpaaW.PrintLast Go.Proofs.YtnimjikikfhlpaaW.PrintMore Go.Proofs.YtnimjikikfhlpaaB
set_option linter.unusedVariables false
set_option linter.unusedSimpArgs false
theorem pure_FnExactIsOrder (l : List S102) (o : List Int) (hx : l.length ≤ 9223372036854775807) (hi : ∀ x ∈ l, x.f1.length ≤ 9223372036854775807) (ho : o.length ≤ 9223372036854775807) : Ev (fun k => laws_FnExactIsOrder.f k l o) true := by
  refine ev_ite (fun _ => ev_now rfl) (fun h0 => ?_)
  refine ev_bind (laws_szStrokeS_f l 1048576 (by omega) (by omega) hx hi) ?_
  by_cases h : (1048576 : Int) < l.length + total szStroke l
  · rw [if_pos h]
    exact ev_pos (by omega) (ev_now rfl)
  rw [if_neg h]
  refine ev_neg (by omega) ?_
  obtain ⟨s1, s2⟩ := szStroke_small l h
  have t := laws_toStrokeS_f l s1 s2
  have u := laws_toInt64S_f o (by omega)
  have sm := toSt_small l s2
  have sl : (l.map toSt).length ≤ 1048576 := by rw [List.length_map]; exact s1
  generalize l.map toSt = zs at *
  refine ev_bind t (ev_bind u (ev_bind (spec_IsOrder_f zs o sl ho) (ev_bind t (ev_bind u (ev_bind (impl_IsOrder_f zs o sl ho) ?_)))))
  refine ev_neg (by simp) (ev_step (fun _ => rfl) (ev_neg (by simp) ?_))
  exact ev_bind t (ev_bind (laws_eqStrokeS_f zs (by omega) (fun x hx => by have := sm x hx; omega)) (ev_pos rfl (ev_bind u (ev_bind (laws_eqInt64S_f o ho) (ev_pos rfl (ev_now rfl))))))
theorem walkFnExactIsOrder (A0 : Option Addr) (c0 : Nat) (l0 : (List S102)) (A1 : Option Addr) (c1 : Nat) (l1 : (List Int)) (w : World) (hr0 : Kd.C k102 w A0 l0.length l0) (hc0 : l0.length ≤ c0) (hm0 : l0.length ≤ maxLen) (hg0 : ∀ y ∈ l0, g102 y) (hr1 : Kd.C (Kd.int .i64) w A1 l1.length l1) (hc1 : l1.length ≤ c1) (hm1 : l1.length ≤ maxLen) (hg1 : ∀ y ∈ l1, g2 y) :
    Calls Try.prog 3 #[.slice A0 l0.length c0, .slice A1 l1.length c1] w fun e w' => e = .returned (.bool true) ∧ Below w.heap.size w w' := by
  unfold maxLen at hm0 hm1
  have hi : ∀ x ∈ l0, x.f1.length ≤ 9223372036854775807 := fun x hx => (hg0 x hx).2.1
  obtain ⟨k, h⟩ := (pure_FnExactIsOrder l0 l1 hm0 hi hm1).rounds
  exact laws_FnExactIsOrder.calls k A0 c0 l0 A1 c1 l1 true w hr0 hc0 hr1 hc1 h

end Go.Proofs.Ytnimjikikfhlpaa.Pure

namespace Go.Proofs.Ytnimjikikfhlpaa.fnExactIsOrder
open Go.ChangeShapes Go.WideShapes Go.ChangeAt Go.RowKit Go.Proofs.YtnimjikikfhlpaaO Go.Proofs.Ytnimjikikfhlpaa.F Go.Proofs.YtnimjikikfhlpaaW.PrintWords
open Go.ChangeMaps (open_string shut_string)
set_option linter.unusedVariables false
theorem own : ownKnob Try.prog.godebug = none := by kernel_rfl
theorem laidOut : laidOutB Try.prog = true := by kernel_rfl
set_option maxRecDepth 100000 in
theorem lifted (os : Os) (started : os.Started) (H : Type) (enc : TypeId × Value → H) :
    ReturnsInHanded {} Try.checked os 3 .any (Rows.fnExactIsOrderSpec.pre6 enc Try.prog Try.f3 Rows.fnExactIsOrderRow.domain false) (Rows.fnExactIsOrderSpec.post enc Try.prog Try.f3 false true false false) := by
  refine returnsInHanded_of_change (C := Try.checked) own started (by kernel_rfl) Try.func3
    (ChangeSpec.witness6 (enc := enc) (C := Try.checked) false ⟨#[], #[.slice none 0 0, .slice none 0 0], []⟩ 8 (by kernel_rfl) (by kernel_rfl) (by kernel_rfl) (by kernel_rfl)) ?_
  intro W base args ds gs before hval0 hW hcnd _
  have hval : ∀ (j : Nat) t v, Try.f3.params[j]? = some t → args[j]? = some v → Value.okWide Try.prog W .any base t v := hval0
  have hW' := hW
  obtain ⟨p, q, hA0, hV, rfl, hfz, hnd⟩ := hW
  have hA : DataW.TrodAll enc Try.prog W 0 (fun _ => true) true Try.f3.params.toList args.toList ds p := hA0
  rw [Try.params3] at hA hval
  obtain ⟨v0, vs0, d0, ds0, p0, q0, hargs, rfl, rfl, h0, r0⟩ := trodAll_cons hA
  obtain ⟨v1, vs1, d1, ds1, p1, q1, rfl, rfl, rfl, h1, r1⟩ := trodAll_cons r0
  obtain ⟨rfl, rfl, rfl⟩ := trodAll_nil r1
  obtain rfl : args = #[v0, v1] := by cases args; simp_all
  obtain ⟨rfl, rfl⟩ := trodVars_none hV
  obtain ⟨a0, len0, cap0, rfl⟩ := okWide_slice Try.underlying22 (hval 0 22 v0 rfl rfl)
  have k0_ := h0
  have lt0 : ∀ x ∈ p0, x.block < W.heap.size := by obtain ⟨m, hm⟩ := k0_; exact DataW.trod_lt m _ _ _ hm
  obtain ⟨fuel0, hf0⟩ := h0
  obtain ⟨A0, l0, c0, hcs0, hc0, hb0, hr0, hg0⟩ := opens_row (d := k102) (G := g102) Try.underlying22 (by kernel_rfl) o102 hf0
  simp [Value.cells] at hcs0
  obtain ⟨rfl, rfl, rfl⟩ := hcs0
  obtain ⟨a1, len1, cap1, rfl⟩ := okWide_slice Try.underlying23 (hval 1 23 v1 rfl rfl)
  have k1_ := h1
  have lt1 : ∀ x ∈ p1, x.block < W.heap.size := by obtain ⟨m, hm⟩ := k1_; exact DataW.trod_lt m _ _ _ hm
  obtain ⟨fuel1, hf1⟩ := h1
  obtain ⟨A1, l1, c1, hcs1, hc1, hb1, hr1, hg1⟩ := opens_row (d := (Kd.int .i64)) (G := g2) Try.underlying23 (by kernel_rfl) (opens_int Try.underlying2) hf1
  simp [Value.cells] at hcs1
  obtain ⟨rfl, rfl, rfl⟩ := hcs1
  clear hA0 hval0
  refine (Pure.walkFnExactIsOrder _ _ l0 _ _ l1 W hr0 hc0 (Nat.le_trans hc0 hb0) hg0 hr1 hc1 (Nat.le_trans hc1 hb1) hg1).mono fun e W' ⟨he, bel⟩ => ?_
  subst he
  exact ⟨_, rfl, _, _, _, [], _, [], hW', trodAll_mk1 (shut_bool Try.underlying4 _), (trodAll_cons_mk (Below.trod laidOut (by kernel_rfl) (of_decide_eq_true (by kernel_rfl)) k0_ bel lt0) (trodAll_cons_mk (Below.trod laidOut (by kernel_rfl) (of_decide_eq_true (by kernel_rfl)) k1_ bel lt1) trodAll_mk0)), rfl, bel.frame _, fun h => by cases h⟩
theorem over : Rows.fnExactIsOrderRow.holds Try.pinned (OpenSpec.ofChange Rows.fnExactIsOrderSpec) :=
  OpenClaim.holds_of_wide 3 Try.f3 rfl rfl rfl rfl rfl rfl rfl ⟨rfl, rfl, rfl, rfl, rfl⟩ rfl rfl rfl rfl rfl (by kernel_rfl) Try.func3 (by kernel_rfl)
    (of_decide_eq_true (by kernel_rfl)) (by unfold Func.isWrapper; first | (rw [if_pos (by decide +kernel)]; kernel_rfl) | (rw [if_neg (by decide +kernel)]; exact ⟨rfl, rfl⟩))
    (fun os started H enc _ => lifted os started H enc)
theorem proved : Rows.FnExactIsOrderSaid := over
end Go.Proofs.Ytnimjikikfhlpaa.fnExactIsOrder
namespace Go.Proofs.Ytnimjikikfhlpaa
/-- The row, under a short name, for the claim. -/
theorem fnExactIsOrder_holds : Rows.FnExactIsOrderSaid := fnExactIsOrder.proved
end Go.Proofs.Ytnimjikikfhlpaa
#print axioms Go.Proofs.Ytnimjikikfhlpaa.fnExactIsOrder_holds
