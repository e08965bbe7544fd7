/-
  FnExactGroupPens: the law returns true for every input and leaves its arguments as they were (the last theorem here). No condition.
-/
import Derived.Test.YtnimjikikfhlpaaRows
import Derived.ProofKit
import Derived.OpenShut
import Derived.ShutString
import Derived.ChangeOld
import Derived.Test.YtnimjikikfhlpaaKFnExactGroupPens3

namespace Go.Proofs.Ytnimjikikfhlpaa.F
open Go.RowKit Go.Proofs.YtnimjikikfhlpaaW.PrintWords Go.Proofs.YtnimjikikfhlpaaW.PrintLast Go.Proofs.YtnimjikikfhlpaaW.PrintMore
attribute [local go_sem] max2_int min2_int max_two min_two max_three min_three max_four min_four   -- for this text's walks alone
set_option linter.unusedVariables false
set_option linter.unusedSimpArgs false

/-! ### spec_l28Code: function 65 -/
def spec_l28Code.l0 : Nat → List (S107) → Int → Option (Int)
  | 0, _, _ => none
  | k + 1, x0, x3 => if x3 < (x0.length : Int) then (if 0 ≤ x3 then ((spec_l28Pen.f ((rd_T107 x0 x3).f0)).bind fun t113 => (if t113 = true then ((spec_IsLine.f k ((rd_T107 x0 x3).f1)).bind fun t115 => (if t115 = true then (if (((rd_T107 x0 x3).f1).length : Int) < 2 then (some 1) else (spec_l28Code.l0 k x0 (wrap64 (x3 + 1)))) else (some 1))) else (some 1))) else (none)) else (if (x0.length : Int) > 40 then (some 3) else (some 0))
def spec_l28Code.f (k : Nat) (l0 : List (S107)) : Option (Int) := spec_l28Code.l0 k l0 0
theorem spec_l28Code.mono_l : ∀ k, (∀ y0 y1, LeO (spec_l28Code.l0 k y0 y1) (spec_l28Code.l0 (k + 1) y0 y1))
  | 0 => fun _ _ r h => by simp [spec_l28Code.l0] at h
  | k + 1 => by
    have ih0 := spec_l28Code.mono_l k
    · intro y0 y1
      unfold spec_l28Code.l0
      repeat' first
      | (with_reducible exact ih0 _ _)
      | (with_reducible exact spec_IsLine.mono _ _)
      | (with_reducible exact LeO.refl _)
      | (with_reducible exact LeO.none _)
      | (with_reducible refine LeO.ite ?_ ?_)
      | (with_reducible refine LeO.bind ?_ (fun _ => ?_))
      | exact ih0 _ _
      | exact spec_IsLine.mono _ _
      | exact LeO.none _
      | refine LeO.ite ?_ ?_
      | refine LeO.bind ?_ (fun _ => ?_)
theorem spec_l28Code.mono : ∀ a0 k, LeO (spec_l28Code.f k a0) (spec_l28Code.f (k + 1) a0) := by
  intro a0 k
  have ih0 := spec_l28Code.mono_l k
  unfold spec_l28Code.f
  repeat' first
      | (with_reducible exact ih0 _ _)
      | (with_reducible exact spec_IsLine.mono _ _)
      | (with_reducible exact LeO.refl _)
      | (with_reducible exact LeO.none _)
      | (with_reducible refine LeO.ite ?_ ?_)
      | (with_reducible refine LeO.bind ?_ (fun _ => ?_))
      | exact ih0 _ _
      | exact spec_IsLine.mono _ _
      | exact LeO.none _
      | refine LeO.ite ?_ ?_
      | refine LeO.bind ?_ (fun _ => ?_)
set_option maxHeartbeats 8000000 in
set_option maxRecDepth 100000 in
theorem spec_l28Code.calls (k : Nat) (A0 : Option Addr) (c0 : Nat) (l0 : List (S107)) (r : Int) (w : World) (hr0 : Kd.C k107 w A0 l0.length l0) (hc0 : l0.length ≤ c0) (h : spec_l28Code.f k l0 = some r) :
    Calls Try.prog 65 #[.slice A0 l0.length c0] w fun e w' => e = .returned (.int .i64 r) ∧ Drawn0 w w' := by
  have HR0 := Aside0.mk hr0
  have HC0 := Aside0.mk hc0
  clear hr0 hc0
  have H : (spec_l28Code.l0 k l0 0) = some r := h
  clear h
  have H' := Aside0.mk H
  clear H
  go_enter Try.func65, Try.ntmps65
  go_wp2
  go_loopg [3] k (fun kq v3 w' => ∃ (x3_1 : Int), v3 = .int .i64 x3_1 ∧ Aside0 (spec_l28Code.l0 kq l0 x3_1 = some r) ∧ Aside0 (kq ≤ k) ∧ Drawn0 w w')
  case atStart => exact ⟨(0), (by first | rfl | (simp; done) | (simp [*]; done)), H', ⟨Nat.le_refl _⟩, by repeat (first | exact Drawn0.refl _ | apply Drawn0.step)⟩
  case round =>
    clear H'
    obtain ⟨x3_1, rfl, HA, HK1, ⟨m1, rfl⟩⟩ := hrel
    cases gk with
    | zero => exact absurd HA.out (by simp [spec_l28Code.l0])
    | succ k1 =>
      have H := HA.out
      clear HA
      simp only [spec_l28Code.l0] at H
      by_cases c2 : x3_1 < (l0.length : Int)
      · rw [if_pos c2] at H
        have c2b0 : decide (x3_1 < (l0.length : Int)) = true := decide_eq_true c2
        clear c2
        by_cases c3 : 0 ≤ x3_1
        · rw [if_pos c3] at H
          have c3b0 : decide (0 ≤ x3_1) = true := decide_eq_true c3
          clear c3
          replace H := Option.bind_eq_some_iff.mp H
          obtain ⟨t113, A40, H⟩ := H
          replace H : (if t113 = true then ((spec_IsLine.f k1 ((rd_T107 l0 x3_1).f1)).bind fun t115 => (if t115 = true then (if (((rd_T107 l0 x3_1).f1).length : Int) < 2 then (some 1) else (spec_l28Code.l0 k1 l0 (wrap64 (x3_1 + 1)))) else (some 1))) else (some 1)) = some r := H
          have A4 := Aside0.mk A40
          clear A40
          by_cases c5 : t113 = true
          · subst c5
            have H1 : ((spec_IsLine.f k1 ((rd_T107 l0 x3_1).f1)).bind fun t115 => (if t115 = true then (if (((rd_T107 l0 x3_1).f1).length : Int) < 2 then (some 1) else (spec_l28Code.l0 k1 l0 (wrap64 (x3_1 + 1)))) else (some 1))) = some r := by rw [if_pos rfl] at H; exact H
            clear H
            have H := H1
            clear H1
            replace H := Option.bind_eq_some_iff.mp H
            obtain ⟨t115, A60, H⟩ := H
            replace H : (if t115 = true then (if (((rd_T107 l0 x3_1).f1).length : Int) < 2 then (some 1) else (spec_l28Code.l0 k1 l0 (wrap64 (x3_1 + 1)))) else (some 1)) = some r := H
            have A6 := Aside0.mk A60
            clear A60
            by_cases c7 : t115 = true
            · subst c7
              have H1 : (if (((rd_T107 l0 x3_1).f1).length : Int) < 2 then (some 1) else (spec_l28Code.l0 k1 l0 (wrap64 (x3_1 + 1)))) = some r := by rw [if_pos rfl] at H; exact H
              clear H
              have H := H1
              clear H1
              by_cases c8 : (((rd_T107 l0 x3_1).f1).length : Int) < 2
              · rw [if_pos c8] at H
                have c8b0 : decide ((((rd_T107 l0 x3_1).f1).length : Int) < 2) = true := decide_eq_true c8
                have c8b1 : decide (((rd_T107 l0 x3_1).f1).length < 2) = true := decide_eq_true (by omega)
                clear c8
                obtain rfl := Option.some.inj H
                have p112 : 0 ≤ (x3_1 : Int) := of_decide_eq_true (by first | (with_reducible assumption) | assumption)
                have q112 : x3_1 < (l0.length : Int) := of_decide_eq_true (by first | (with_reducible assumption) | assumption)
                obtain ⟨ad112, A112_1, c112_1, e112, hx112_0, hx112_1, hl112_1, hi112_1⟩ := at_T107 HR0.out x3_1 p112 q112
                cases e112
                have HR112_1 := Aside0.mk hi112_1
                have HC112_1 := Aside0.mk hl112_1
                clear hi112_1 hl112_1
                replace p112 := eq_true p112
                replace q112 := eq_true q112
                go_wp2_with (first | ((with_reducible refine gate_callee (f := 117) rfl ?_); refine goesL_ (some 15) rfl rfl Try.func117 (by kernel_rfl) rfl #[.int .i64 ((rd_T107 l0 x3_1).f0)] rfl (by (try simp only [List.map_toArray, List.map_cons, List.map_nil]); first | done | rfl | (simp only [List.length_drop, List.length_take]; rfl)) ?_; (with_reducible refine (spec_l28Pen.calls ((rd_T107 l0 x3_1).f0) true _ A4.out).mono ?_); rintro e w' ⟨rfl, ⟨nd, rfl⟩⟩; refine ⟨_, rfl, ?_⟩; have p114 : 0 ≤ (x3_1 : Int) := of_decide_eq_true (by first | (with_reducible assumption) | assumption); have q114 : x3_1 < (l0.length : Int) := of_decide_eq_true (by first | (with_reducible assumption) | assumption); obtain ⟨ad114, A114_1, c114_1, e114, hx114_0, hx114_1, hl114_1, hi114_1⟩ := at_T107 HR0.out x3_1 p114 q114; obtain rfl : ad112 = ad114 := (by injection e114); have HR114_1 := Aside0.mk hi114_1; have HC114_1 := Aside0.mk hl114_1; clear hi114_1 hl114_1; replace p114 := eq_true p114; replace q114 := eq_true q114; have ea_ := Option.some.inj (hx112_1.symm.trans hx114_1); injection ea_ with ea_ en_ ec_; subst ea_; subst ec_; clear en_) | (go_at_call 118; (with_reducible refine (spec_IsLine.calls k1 _ _ ((rd_T107 l0 x3_1).f1) true _ ?side1 ?side2 A6.out).mono ?_); (case side1 => repeat (first | exact HR114_1.out | (with_reducible refine Kd.C_alloc ?_ _) | (with_reducible refine Kd.C_drewN ?_ _) | (with_reducible refine Kd.C_drew ?_))); (case side2 => exact HC114_1.out); rintro e w' ⟨rfl, ⟨nd, rfl⟩⟩; have p116 : 0 ≤ (x3_1 : Int) := of_decide_eq_true (by first | (with_reducible assumption) | assumption); have q116 : x3_1 < (l0.length : Int) := of_decide_eq_true (by first | (with_reducible assumption) | assumption); obtain ⟨ad116, A116_1, c116_1, e116, hx116_0, hx116_1, hl116_1, hi116_1⟩ := at_T107 HR0.out x3_1 p116 q116; obtain rfl : ad112 = ad116 := (by injection e116); have HR116_1 := Aside0.mk hi116_1; have HC116_1 := Aside0.mk hl116_1; clear hi116_1 hl116_1; replace p116 := eq_true p116; replace q116 := eq_true q116; have ea_ := Option.some.inj (hx112_1.symm.trans hx116_1); injection ea_ with ea_ en_ ec_; subst ea_; subst ec_; clear en_))
                go_ret
                exact ⟨by first | rfl | (simp; done) | (simp [*]; done), by repeat (first | exact Drawn0.refl _ | apply Drawn0.step)⟩
              · rw [if_neg c8] at H
                have c8b0 : decide ((((rd_T107 l0 x3_1).f1).length : Int) < 2) = false := decide_eq_false c8
                have c8b1 : decide (((rd_T107 l0 x3_1).f1).length < 2) = false := decide_eq_false (by omega)
                clear c8
                have H' := Aside0.mk H
                clear H
                have p112 : 0 ≤ (x3_1 : Int) := of_decide_eq_true (by first | (with_reducible assumption) | assumption)
                have q112 : x3_1 < (l0.length : Int) := of_decide_eq_true (by first | (with_reducible assumption) | assumption)
                obtain ⟨ad112, A112_1, c112_1, e112, hx112_0, hx112_1, hl112_1, hi112_1⟩ := at_T107 HR0.out x3_1 p112 q112
                cases e112
                have HR112_1 := Aside0.mk hi112_1
                have HC112_1 := Aside0.mk hl112_1
                clear hi112_1 hl112_1
                replace p112 := eq_true p112
                replace q112 := eq_true q112
                go_wp2_with (first | ((with_reducible refine gate_callee (f := 117) rfl ?_); refine goesL_ (some 15) rfl rfl Try.func117 (by kernel_rfl) rfl #[.int .i64 ((rd_T107 l0 x3_1).f0)] rfl (by (try simp only [List.map_toArray, List.map_cons, List.map_nil]); first | done | rfl | (simp only [List.length_drop, List.length_take]; rfl)) ?_; (with_reducible refine (spec_l28Pen.calls ((rd_T107 l0 x3_1).f0) true _ A4.out).mono ?_); rintro e w' ⟨rfl, ⟨nd, rfl⟩⟩; refine ⟨_, rfl, ?_⟩; have p114 : 0 ≤ (x3_1 : Int) := of_decide_eq_true (by first | (with_reducible assumption) | assumption); have q114 : x3_1 < (l0.length : Int) := of_decide_eq_true (by first | (with_reducible assumption) | assumption); obtain ⟨ad114, A114_1, c114_1, e114, hx114_0, hx114_1, hl114_1, hi114_1⟩ := at_T107 HR0.out x3_1 p114 q114; obtain rfl : ad112 = ad114 := (by injection e114); have HR114_1 := Aside0.mk hi114_1; have HC114_1 := Aside0.mk hl114_1; clear hi114_1 hl114_1; replace p114 := eq_true p114; replace q114 := eq_true q114; have ea_ := Option.some.inj (hx112_1.symm.trans hx114_1); injection ea_ with ea_ en_ ec_; subst ea_; subst ec_; clear en_) | (go_at_call 118; (with_reducible refine (spec_IsLine.calls k1 _ _ ((rd_T107 l0 x3_1).f1) true _ ?side1 ?side2 A6.out).mono ?_); (case side1 => repeat (first | exact HR114_1.out | (with_reducible refine Kd.C_alloc ?_ _) | (with_reducible refine Kd.C_drewN ?_ _) | (with_reducible refine Kd.C_drew ?_))); (case side2 => exact HC114_1.out); rintro e w' ⟨rfl, ⟨nd, rfl⟩⟩; have p116 : 0 ≤ (x3_1 : Int) := of_decide_eq_true (by first | (with_reducible assumption) | assumption); have q116 : x3_1 < (l0.length : Int) := of_decide_eq_true (by first | (with_reducible assumption) | assumption); obtain ⟨ad116, A116_1, c116_1, e116, hx116_0, hx116_1, hl116_1, hi116_1⟩ := at_T107 HR0.out x3_1 p116 q116; obtain rfl : ad112 = ad116 := (by injection e116); have HR116_1 := Aside0.mk hi116_1; have HC116_1 := Aside0.mk hl116_1; clear hi116_1 hl116_1; replace p116 := eq_true p116; replace q116 := eq_true q116; have ea_ := Option.some.inj (hx112_1.symm.trans hx116_1); injection ea_ with ea_ en_ ec_; subst ea_; subst ec_; clear en_))
                go_roundg k1
                case measure => have := HK1.out; omega
                case rel => exact ⟨(wrap64 (x3_1 + 1)), (by first | rfl | (simp; done) | (simp [*]; done)), H', ⟨by have := HK1.out; omega⟩, by repeat (first | exact Drawn0.refl _ | apply Drawn0.step)⟩
            · replace c7 := Bool.eq_false_iff.mpr c7
              subst c7
              have H1 : (some 1) = some r := by rw [if_neg (show ¬ (false = true) by decide)] at H; exact H
              clear H
              have H := H1
              clear H1
              obtain rfl := Option.some.inj H
              have p112 : 0 ≤ (x3_1 : Int) := of_decide_eq_true (by first | (with_reducible assumption) | assumption)
              have q112 : x3_1 < (l0.length : Int) := of_decide_eq_true (by first | (with_reducible assumption) | assumption)
              obtain ⟨ad112, A112_1, c112_1, e112, hx112_0, hx112_1, hl112_1, hi112_1⟩ := at_T107 HR0.out x3_1 p112 q112
              cases e112
              have HR112_1 := Aside0.mk hi112_1
              have HC112_1 := Aside0.mk hl112_1
              clear hi112_1 hl112_1
              replace p112 := eq_true p112
              replace q112 := eq_true q112
              go_wp2_with (first | ((with_reducible refine gate_callee (f := 117) rfl ?_); refine goesL_ (some 15) rfl rfl Try.func117 (by kernel_rfl) rfl #[.int .i64 ((rd_T107 l0 x3_1).f0)] rfl (by (try simp only [List.map_toArray, List.map_cons, List.map_nil]); first | done | rfl | (simp only [List.length_drop, List.length_take]; rfl)) ?_; (with_reducible refine (spec_l28Pen.calls ((rd_T107 l0 x3_1).f0) true _ A4.out).mono ?_); rintro e w' ⟨rfl, ⟨nd, rfl⟩⟩; refine ⟨_, rfl, ?_⟩; have p114 : 0 ≤ (x3_1 : Int) := of_decide_eq_true (by first | (with_reducible assumption) | assumption); have q114 : x3_1 < (l0.length : Int) := of_decide_eq_true (by first | (with_reducible assumption) | assumption); obtain ⟨ad114, A114_1, c114_1, e114, hx114_0, hx114_1, hl114_1, hi114_1⟩ := at_T107 HR0.out x3_1 p114 q114; obtain rfl : ad112 = ad114 := (by injection e114); have HR114_1 := Aside0.mk hi114_1; have HC114_1 := Aside0.mk hl114_1; clear hi114_1 hl114_1; replace p114 := eq_true p114; replace q114 := eq_true q114; have ea_ := Option.some.inj (hx112_1.symm.trans hx114_1); injection ea_ with ea_ en_ ec_; subst ea_; subst ec_; clear en_) | (go_at_call 118; (with_reducible refine (spec_IsLine.calls k1 _ _ ((rd_T107 l0 x3_1).f1) false _ ?side1 ?side2 A6.out).mono ?_); (case side1 => repeat (first | exact HR114_1.out | (with_reducible refine Kd.C_alloc ?_ _) | (with_reducible refine Kd.C_drewN ?_ _) | (with_reducible refine Kd.C_drew ?_))); (case side2 => exact HC114_1.out); rintro e w' ⟨rfl, ⟨nd, rfl⟩⟩))
              go_ret
              exact ⟨by first | rfl | (simp; done) | (simp [*]; done), by repeat (first | exact Drawn0.refl _ | apply Drawn0.step)⟩
          · replace c5 := Bool.eq_false_iff.mpr c5
            subst c5
            have H1 : (some 1) = some r := by rw [if_neg (show ¬ (false = true) by decide)] at H; exact H
            clear H
            have H := H1
            clear H1
            obtain rfl := Option.some.inj H
            have p112 : 0 ≤ (x3_1 : Int) := of_decide_eq_true (by first | (with_reducible assumption) | assumption)
            have q112 : x3_1 < (l0.length : Int) := of_decide_eq_true (by first | (with_reducible assumption) | assumption)
            obtain ⟨ad112, A112_1, c112_1, e112, hx112_0, hx112_1, hl112_1, hi112_1⟩ := at_T107 HR0.out x3_1 p112 q112
            cases e112
            have HR112_1 := Aside0.mk hi112_1
            have HC112_1 := Aside0.mk hl112_1
            clear hi112_1 hl112_1
            replace p112 := eq_true p112
            replace q112 := eq_true q112
            go_wp2_with (first | ((with_reducible refine gate_callee (f := 117) rfl ?_); refine goesL_ (some 15) rfl rfl Try.func117 (by kernel_rfl) rfl #[.int .i64 ((rd_T107 l0 x3_1).f0)] rfl (by (try simp only [List.map_toArray, List.map_cons, List.map_nil]); first | done | rfl | (simp only [List.length_drop, List.length_take]; rfl)) ?_; (with_reducible refine (spec_l28Pen.calls ((rd_T107 l0 x3_1).f0) false _ A4.out).mono ?_); rintro e w' ⟨rfl, ⟨nd, rfl⟩⟩; refine ⟨_, rfl, ?_⟩))
            go_ret
            exact ⟨by first | rfl | (simp; done) | (simp [*]; done), by repeat (first | exact Drawn0.refl _ | apply Drawn0.step)⟩
        · rw [if_neg c3] at H
          exact absurd H (by simp)
      · rw [if_neg c2] at H
        have c2b0 : decide (x3_1 < (l0.length : Int)) = false := decide_eq_false c2
        clear c2
        by_cases c9 : (l0.length : Int) > 40
        · rw [if_pos c9] at H
          have c9b0 : decide (40 < (l0.length : Int)) = true := decide_eq_true c9
          have c9b1 : decide (40 < l0.length) = true := decide_eq_true (by omega)
          clear c9
          obtain rfl := Option.some.inj H
          go_wp2
          go_ret
          exact ⟨by first | rfl | (simp; done) | (simp [*]; done), by repeat (first | exact Drawn0.refl _ | apply Drawn0.step)⟩
        · rw [if_neg c9] at H
          have c9b0 : decide (40 < (l0.length : Int)) = false := decide_eq_false c9
          have c9b1 : decide (40 < l0.length) = false := decide_eq_false (by omega)
          clear c9
          obtain rfl := Option.some.inj H
          go_wp2
          go_ret
          exact ⟨by first | rfl | (simp; done) | (simp [*]; done), by repeat (first | exact Drawn0.refl _ | apply Drawn0.step)⟩

end Go.Proofs.Ytnimjikikfhlpaa.F

namespace Go.Proofs.Ytnimjikikfhlpaa.F
open Go.RowKit Go.Proofs.YtnimjikikfhlpaaW.PrintWords Go.Proofs.YtnimjikikfhlpaaW.PrintLast Go.Proofs.YtnimjikikfhlpaaW.PrintMore
attribute [local go_sem] max2_int min2_int max_two min_two max_three min_three max_four min_four   -- for this text's walks alone
set_option linter.unusedVariables false
set_option linter.unusedSimpArgs false

/-! ### spec_GroupPens: function 33 -/
mutual
def spec_GroupPens.l0 : Nat → List (S107) → List Int → Int → Option (List Int × Int)
  | 0, _, _, _ => none
  | k + 1, x0, x5, x6 => if x6 ≤ 8 then (spec_GroupPens.l1 k x0 x5 x6 0) else (some (x5, 0))
def spec_GroupPens.l1 : Nat → List (S107) → List Int → Int → Int → Option (List Int × Int)
  | 0, _, _, _, _ => none
  | k + 1, x0, x5, x6, x7 => if x7 < (x0.length : Int) then (if 0 ≤ x7 then (if ((rd_T107 x0 x7).f0) = x6 then (if x5.length < 17592186044416 then (spec_GroupPens.l1 k x0 (x5 ++ [wrap64 (2 * x7)]) x6 (wrap64 (x7 + 1))) else (none)) else (spec_GroupPens.l1 k x0 x5 x6 (wrap64 (x7 + 1)))) else (none)) else (spec_GroupPens.l0 k x0 x5 (wrap64 (x6 + 1)))
end
def spec_GroupPens.f (k : Nat) (l0 : List (S107)) : Option (List Int × Int) := (spec_l28Code.f k l0).bind fun t529 => (if t529 = 0 then (spec_GroupPens.l0 k l0 (([] : List Int)) 1) else (some (([] : List Int), t529)))
theorem spec_GroupPens.mono_l : ∀ k, (∀ y0 y1 y2, LeO (spec_GroupPens.l0 k y0 y1 y2) (spec_GroupPens.l0 (k + 1) y0 y1 y2)) ∧ (∀ y0 y1 y2 y3, LeO (spec_GroupPens.l1 k y0 y1 y2 y3) (spec_GroupPens.l1 (k + 1) y0 y1 y2 y3))
  | 0 => ⟨fun _ _ _ r h => by simp [spec_GroupPens.l0] at h, fun _ _ _ _ r h => by simp [spec_GroupPens.l1] at h⟩
  | k + 1 => by
    obtain ⟨ih0, ih1⟩ := spec_GroupPens.mono_l k
    refine ⟨?_, ?_⟩
    · intro y0 y1 y2
      unfold spec_GroupPens.l0
      repeat' first
      | (with_reducible exact ih0 _ _ _)
      | (with_reducible exact ih1 _ _ _ _)
      | (with_reducible exact spec_l28Code.mono _ _)
      | (with_reducible exact LeO.refl _)
      | (with_reducible exact LeO.none _)
      | (with_reducible refine LeO.ite ?_ ?_)
      | (with_reducible refine LeO.bind ?_ (fun _ => ?_))
      | exact ih0 _ _ _
      | exact ih1 _ _ _ _
      | exact spec_l28Code.mono _ _
      | exact LeO.none _
      | refine LeO.ite ?_ ?_
      | refine LeO.bind ?_ (fun _ => ?_)
    · intro y0 y1 y2 y3
      unfold spec_GroupPens.l1
      repeat' first
      | (with_reducible exact ih0 _ _ _)
      | (with_reducible exact ih1 _ _ _ _)
      | (with_reducible exact spec_l28Code.mono _ _)
      | (with_reducible exact LeO.refl _)
      | (with_reducible exact LeO.none _)
      | (with_reducible refine LeO.ite ?_ ?_)
      | (with_reducible refine LeO.bind ?_ (fun _ => ?_))
      | exact ih0 _ _ _
      | exact ih1 _ _ _ _
      | exact spec_l28Code.mono _ _
      | exact LeO.none _
      | refine LeO.ite ?_ ?_
      | refine LeO.bind ?_ (fun _ => ?_)
theorem spec_GroupPens.mono : ∀ a0 k, LeO (spec_GroupPens.f k a0) (spec_GroupPens.f (k + 1) a0) := by
  intro a0 k
  obtain ⟨ih0, ih1⟩ := spec_GroupPens.mono_l k
  unfold spec_GroupPens.f
  repeat' first
      | (with_reducible exact ih0 _ _ _)
      | (with_reducible exact ih1 _ _ _ _)
      | (with_reducible exact spec_l28Code.mono _ _)
      | (with_reducible exact LeO.refl _)
      | (with_reducible exact LeO.none _)
      | (with_reducible refine LeO.ite ?_ ?_)
      | (with_reducible refine LeO.bind ?_ (fun _ => ?_))
      | exact ih0 _ _ _
      | exact ih1 _ _ _ _
      | exact spec_l28Code.mono _ _
      | exact LeO.none _
      | refine LeO.ite ?_ ?_
      | refine LeO.bind ?_ (fun _ => ?_)
set_option maxHeartbeats 8000000 in
set_option maxRecDepth 100000 in
theorem spec_GroupPens.calls (k : Nat) (A0 : Option Addr) (c0 : Nat) (l0 : List (S107)) (r1 : List Int) (r2 : Int) (w : World) (hr0 : Kd.C k107 w A0 l0.length l0) (hc0 : l0.length ≤ c0) (h : spec_GroupPens.f k l0 = some (r1, r2)) :
    Calls Try.prog 33 #[.slice A0 l0.length c0] w fun e w' => ∃ v0_ : Value, e = .returned (.tuple #[v0_, .int .i64 r2]) ∧ Kd.R (Kd.int .i64) 2 w' w.heap.size (fun _ => True) v0_ r1 ∧ Below w.heap.size w w' := by
  have HR0 := Aside0.mk hr0
  have HC0 := Aside0.mk hc0
  clear hr0 hc0
  have HB := Aside0.mk (Below.refl w.heap.size w)
  have H : ((spec_l28Code.f k l0).bind fun t529 => (if t529 = 0 then (spec_GroupPens.l0 k l0 (([] : List Int)) 1) else (some (([] : List Int), t529)))) = some (r1, r2) := h
  clear h
  replace H := Option.bind_eq_some_iff.mp H
  obtain ⟨t529, A20, H⟩ := H
  replace H : (if t529 = 0 then (spec_GroupPens.l0 k l0 (([] : List Int)) 1) else (some (([] : List Int), t529))) = some (r1, r2) := H
  have A2 := Aside0.mk A20
  clear A20
  by_cases c3 : t529 = 0
  · rw [if_pos c3] at H
    have c3b0 : (t529 == 0) = true := beq_iff_eq.mpr c3
    have c3b1 : (t529 != 0) = false := bne_eq_false_iff_eq.mpr c3
    clear c3
    obtain ⟨y530, hy530⟩ : ∃ y_ : List Int, y_ = (([] : List Int)) := ⟨_, rfl⟩
    replace H : (spec_GroupPens.l0 k l0 y530 1) = some (r1, r2) := by first | (rw [hy530]; with_reducible exact H) | (have H2_ := (Option.bind_some _ _).symm.trans H; rw [hy530]; with_reducible exact H2_) | (have H2_ := (Option.bind_some _ _).symm.trans H; with_reducible exact H2_) | with_reducible exact H | (rw [hy530]; exact H) | exact H
    have Ny530 := Aside0.mk hy530
    clear hy530
    have H' := Aside0.mk H
    clear H
    go_enter Try.func33, Try.ntmps33
    go_wp2_with (first | ((with_reducible refine gate_callee (f := 65) rfl ?_); refine goesL_ (some 9) rfl rfl Try.func65 (by kernel_rfl) rfl #[.slice A0 l0.length c0] rfl (by (try simp only [List.map_toArray, List.map_cons, List.map_nil]); first | done | rfl | (simp only [List.length_drop, List.length_take]; rfl)) ?_; (with_reducible refine (spec_l28Code.calls k _ _ l0 t529 _ ?side1 ?side2 A2.out).mono ?_); (case side1 => repeat (first | exact HR0.out | (with_reducible refine Kd.C_alloc ?_ _) | (with_reducible refine Kd.C_drewN ?_ _) | (with_reducible refine Kd.C_drew ?_))); (case side2 => exact HC0.out); rintro e w' ⟨rfl, ⟨nd, rfl⟩⟩; refine ⟨_, rfl, ?_⟩) | ((with_reducible refine gate_dst (N := 13) rfl ?_); refine Kd.R_lit (Kd.int .i64) _ 2 ?hg (N := 13) ?hd (xs := ([] : List Int)) (inner := []) (ok := fun _ => True) (okp := fun _ => True) ?hr ?hp (fun _ hk => hk) trivial (Below.refl _ _) (Nat.le_refl _) (by simp) ?_; (case hd => rfl); (case hg => rfl); (case hr => first | (go_simp; done) | (go_simp; rfl)); (case hp => exact (Reps.none _ _)); intro v531 w4 ho5 hb hg_ hnew_; clear hg_ hnew_; (first | rw [← Ny530.out] at ho5 | (simp only [Int.reduceToNat] at ho5; rw [← Ny530.out] at ho5)); have n0_ := Aside0.mk (Kd.R_lower ho5 (below_size (by repeat (first | (with_reducible first | exact HB.out | apply below_alloc | apply pw_below_drewN | apply below_drew1) | exact HB.out)))); have n1_ := Aside0.mk (below_step (by repeat (first | (with_reducible first | exact HB.out | apply below_alloc | apply pw_below_drewN | apply below_drew1) | exact HB.out)) hb); clear HB; have HO532 := n0_; have HB := n1_; clear n0_ n1_; clear hb ho5))
    go_loopg [5, 6] k (fun kq v5 v6 w' => ∃ (x5_1 : List Int) (x6_1 : Int), v6 = .int .i64 x6_1 ∧ Aside0 (spec_GroupPens.l0 kq l0 x5_1 x6_1 = some (r1, r2)) ∧ Aside0 (kq ≤ k) ∧ Aside0 (Kd.R (Kd.int .i64) 2 w' w.heap.size (fun _ => True) v5 x5_1) ∧ Aside0 (Below w.heap.size w w'))
    case atStart => exact ⟨(y530), (1), (by first | rfl | (simp; done) | (simp [*]; done)), H', ⟨Nat.le_refl _⟩, ⟨by (with_reducible repeat (first | apply Kd.R_alloc | apply Kd.R_drewN | apply Kd.R_drew)); exact HO532.out⟩, ⟨by repeat (first | (with_reducible first | exact HB.out | apply below_alloc | apply pw_below_drewN | apply below_drew1) | exact HB.out)⟩⟩
    case round =>
      clear H'
      try clear p2
      try clear c3
      try clear c3b0
      try clear c3b1
      obtain ⟨x5_1, x6_1, rfl, HA, HK1, HO_5, HB⟩ := hrel
      cases gk with
      | zero => exact absurd HA.out (by simp [spec_GroupPens.l0])
      | succ k1 =>
        have H := HA.out
        clear HA
        simp only [spec_GroupPens.l0] at H
        by_cases c6 : x6_1 ≤ 8
        · rw [if_pos c6] at H
          have c6b0 : decide (x6_1 ≤ 8) = true := decide_eq_true c6
          clear c6
          have H' := Aside0.mk H
          clear H
          go_wp2
          go_loopg [5, 7] k1 (fun kq v5 v7 w' => ∃ (x5_2 : List Int) (x7_2 : Int), v7 = .int .i64 x7_2 ∧ Aside0 (spec_GroupPens.l1 kq l0 x5_2 x6_1 x7_2 = some (r1, r2)) ∧ Aside0 (kq ≤ k1) ∧ Aside0 (Kd.R (Kd.int .i64) 2 w' w.heap.size (fun _ => True) v5 x5_2) ∧ Aside0 (Below w.heap.size w w'))
          case atStart => exact ⟨(x5_1), (0), (by first | rfl | (simp; done) | (simp [*]; done)), H', ⟨Nat.le_refl _⟩, ⟨by (with_reducible repeat (first | apply Kd.R_alloc | apply Kd.R_drewN | apply Kd.R_drew)); exact HO_5.out⟩, ⟨by repeat (first | (with_reducible first | exact HB.out | apply below_alloc | apply pw_below_drewN | apply below_drew1) | exact HB.out)⟩⟩
          case round =>
            clear H'
            try clear p2
            try clear c3
            try clear c3b0
            try clear c3b1
            try clear c6
            try clear c6b0
            try clear p2
            obtain ⟨x5_2, x7_2, rfl, HA, HK2, HO_5, HB⟩ := hrel
            cases gk with
            | zero => exact absurd HA.out (by simp [spec_GroupPens.l1])
            | succ k2 =>
              have H := HA.out
              clear HA
              simp only [spec_GroupPens.l1] at H
              by_cases c7 : x7_2 < (l0.length : Int)
              · rw [if_pos c7] at H
                have c7b0 : decide (x7_2 < (l0.length : Int)) = true := decide_eq_true c7
                clear c7
                by_cases c8 : 0 ≤ x7_2
                · rw [if_pos c8] at H
                  have c8b0 : decide (0 ≤ x7_2) = true := decide_eq_true c8
                  clear c8
                  by_cases c9 : ((rd_T107 l0 x7_2).f0) = x6_1
                  · rw [if_pos c9] at H
                    have c9b0 : (((rd_T107 l0 x7_2).f0) == x6_1) = true := beq_iff_eq.mpr c9
                    have c9b1 : (((rd_T107 l0 x7_2).f0) != x6_1) = false := bne_eq_false_iff_eq.mpr c9
                    clear c9
                    by_cases c10 : x5_2.length < 17592186044416
                    · rw [if_pos c10] at H
                      have LMc10 := Aside0.mk c10
                      clear c10
                      obtain ⟨y534, hy534⟩ : ∃ y_ : List Int, y_ = (x5_2 ++ [wrap64 (2 * x7_2)]) := ⟨_, rfl⟩
                      replace H : (spec_GroupPens.l1 k2 l0 y534 x6_1 (wrap64 (x7_2 + 1))) = some (r1, r2) := by first | (rw [hy534]; with_reducible exact H) | (have H2_ := (Option.bind_some _ _).symm.trans H; rw [hy534]; with_reducible exact H2_) | (have H2_ := (Option.bind_some _ _).symm.trans H; with_reducible exact H2_) | with_reducible exact H | (rw [hy534]; exact H) | exact H
                      have Ny534 := Aside0.mk hy534
                      clear hy534
                      have H' := Aside0.mk H
                      clear H
                      have p533 : 0 ≤ (x7_2 : Int) := of_decide_eq_true (by first | (with_reducible assumption) | assumption)
                      have q533 : x7_2 < (l0.length : Int) := of_decide_eq_true (by first | (with_reducible assumption) | assumption)
                      obtain ⟨ad533, A533_1, c533_1, e533, hx533_0, hx533_1, hl533_1, hi533_1⟩ := at_T107 HR0.out x7_2 p533 q533
                      cases e533
                      replace hx533_0 := (HB.out.cell (World.block_lt_of_cell? w _ hx533_0)).trans hx533_0
                      replace hx533_1 := (HB.out.cell (World.block_lt_of_cell? w _ hx533_1)).trans hx533_1
                      have HR533_1 := Aside0.mk hi533_1
                      have HC533_1 := Aside0.mk hl533_1
                      clear hi533_1 hl533_1
                      replace p533 := eq_true p533
                      replace q533 := eq_true q533
                      go_wp2_with (first | ((with_reducible refine gate_builtin (b := .append) (xs := #[.tmp 31, .tmp 34]) rfl ?_); at_builtin; refine Kd.R_append (Kd.int .i64) (w0 := w) w.heap.size rfl (.tmp 31) (.tmp 34) 23 2 (.int .i64 0) 8 rfl Try.underlying23 info2 rfl (by decide) (by omega) u5 x5_2 (wrap64 (2 * x7_2)) [.int .i64 (wrap64 (2 * x7_2))] (fun _ => True) (fun _ => False) rfl rfl ?aP (fun _ hk => hk.elim) ?aF ?aO ?aB ?aS ?aL ?_; (case aP => exact rfl); (case aB => exact (by repeat (first | (with_reducible first | exact HB.out | apply below_alloc | apply pw_below_drewN | apply below_drew1) | exact HB.out))); (case aF => exact (fun _ _ => trivial)); (case aO => exact (by (with_reducible repeat (first | apply Kd.R_alloc | apply Kd.R_drewN | apply Kd.R_drew)); exact HO_5.out)); (case aS => exact (below_size (by repeat (first | (with_reducible first | exact HB.out | apply below_alloc | apply pw_below_drewN | apply below_drew1) | exact HB.out)))); (case aL => have := LMc10.out; omega); intro v535 w11 ho hb hg hat; rw [← Ny534.out] at ho; have n0_ := Aside0.mk (hb); have n1_ := Aside0.mk (ho); clear HB; clear HO_5; have HB := n0_; have HO536 := n1_; clear n0_ n1_; clear ho hb hg hat))
                      go_roundg k2
                      case measure => have := HK1.out; have := HK2.out; omega
                      case rel => exact ⟨(y534), (wrap64 (x7_2 + 1)), (by first | rfl | (simp; done) | (simp [*]; done)), H', ⟨by have := HK1.out; have := HK2.out; omega⟩, ⟨by (with_reducible repeat (first | apply Kd.R_alloc | apply Kd.R_drewN | apply Kd.R_drew)); exact HO536.out⟩, ⟨by repeat (first | (with_reducible first | exact HB.out | apply below_alloc | apply pw_below_drewN | apply below_drew1) | exact HB.out)⟩⟩
                    · rw [if_neg c10] at H
                      exact absurd H (by simp)
                  · rw [if_neg c9] at H
                    have c9b0 : (((rd_T107 l0 x7_2).f0) == x6_1) = false := beq_eq_false_iff_ne.mpr c9
                    have c9b1 : (((rd_T107 l0 x7_2).f0) != x6_1) = true := bne_iff_ne.mpr c9
                    have H' := Aside0.mk H
                    clear H
                    have p533 : 0 ≤ (x7_2 : Int) := of_decide_eq_true (by first | (with_reducible assumption) | assumption)
                    have q533 : x7_2 < (l0.length : Int) := of_decide_eq_true (by first | (with_reducible assumption) | assumption)
                    obtain ⟨ad533, A533_1, c533_1, e533, hx533_0, hx533_1, hl533_1, hi533_1⟩ := at_T107 HR0.out x7_2 p533 q533
                    cases e533
                    replace hx533_0 := (HB.out.cell (World.block_lt_of_cell? w _ hx533_0)).trans hx533_0
                    replace hx533_1 := (HB.out.cell (World.block_lt_of_cell? w _ hx533_1)).trans hx533_1
                    have HR533_1 := Aside0.mk hi533_1
                    have HC533_1 := Aside0.mk hl533_1
                    clear hi533_1 hl533_1
                    replace p533 := eq_true p533
                    replace q533 := eq_true q533
                    go_wp2
                    go_roundg k2
                    case measure => have := HK1.out; have := HK2.out; omega
                    case rel => exact ⟨(x5_2), (wrap64 (x7_2 + 1)), (by first | rfl | (simp; done) | (simp [*]; done)), H', ⟨by have := HK1.out; have := HK2.out; omega⟩, ⟨by (with_reducible repeat (first | apply Kd.R_alloc | apply Kd.R_drewN | apply Kd.R_drew)); exact HO_5.out⟩, ⟨by repeat (first | (with_reducible first | exact HB.out | apply below_alloc | apply pw_below_drewN | apply below_drew1) | exact HB.out)⟩⟩
                · rw [if_neg c8] at H
                  exact absurd H (by simp)
              · rw [if_neg c7] at H
                have c7b0 : decide (x7_2 < (l0.length : Int)) = false := decide_eq_false c7
                clear c7
                have H' := Aside0.mk H
                clear H
                go_wp2
                go_roundg k2
                case measure => have := HK1.out; have := HK2.out; omega
                case rel => exact ⟨(x5_2), (wrap64 (x6_1 + 1)), (by first | rfl | (simp; done) | (simp [*]; done)), H', ⟨by have := HK1.out; have := HK2.out; omega⟩, ⟨by (with_reducible repeat (first | apply Kd.R_alloc | apply Kd.R_drewN | apply Kd.R_drew)); exact HO_5.out⟩, ⟨by repeat (first | (with_reducible first | exact HB.out | apply below_alloc | apply pw_below_drewN | apply below_drew1) | exact HB.out)⟩⟩
        · rw [if_neg c6] at H
          have c6b0 : decide (x6_1 ≤ 8) = false := decide_eq_false c6
          clear c6
          simp only [Option.some.injEq, Prod.mk.injEq] at H
          obtain ⟨rfl, rfl⟩ := H
          go_wp2
          go_ret2
          exact ⟨_, by first | rfl | (simp [errW_none, errW_some] <;> rfl) | (simp [*, errW_none, errW_some] <;> rfl), by (with_reducible repeat (first | apply Kd.R_alloc | apply Kd.R_drewN | apply Kd.R_drew)); exact HO_5.out, by repeat (first | (with_reducible first | exact HB.out | apply below_alloc | apply pw_below_drewN | apply below_drew1) | exact HB.out)⟩
  · rw [if_neg c3] at H
    have c3b0 : (t529 == 0) = false := beq_eq_false_iff_ne.mpr c3
    have c3b1 : (t529 != 0) = true := bne_iff_ne.mpr c3
    simp only [Option.some.injEq, Prod.mk.injEq] at H
    obtain ⟨rfl, rfl⟩ := H
    go_enter Try.func33, Try.ntmps33
    go_wp2_with (first | ((with_reducible refine gate_callee (f := 65) rfl ?_); refine goesL_ (some 9) rfl rfl Try.func65 (by kernel_rfl) rfl #[.slice A0 l0.length c0] rfl (by (try simp only [List.map_toArray, List.map_cons, List.map_nil]); first | done | rfl | (simp only [List.length_drop, List.length_take]; rfl)) ?_; (with_reducible refine (spec_l28Code.calls k _ _ l0 t529 _ ?side1 ?side2 A2.out).mono ?_); (case side1 => repeat (first | exact HR0.out | (with_reducible refine Kd.C_alloc ?_ _) | (with_reducible refine Kd.C_drewN ?_ _) | (with_reducible refine Kd.C_drew ?_))); (case side2 => exact HC0.out); rintro e w' ⟨rfl, ⟨nd, rfl⟩⟩; refine ⟨_, rfl, ?_⟩))
    go_ret2
    exact ⟨_, by first | rfl | (simp [errW_none, errW_some] <;> rfl) | (simp [*, errW_none, errW_some] <;> rfl), by first | exact Kd.R_nil _ _ _ _ _ | exact Kd.N_nil _ _ _ _ _ | exact Kd.V_nil _ _ _ _ _ | exact Kd.Q_nil _ _ _ _ _ | exact Kd.S_nil _ _ _ _ _, by repeat (first | (with_reducible first | exact HB.out | apply below_alloc | apply pw_below_drewN | apply below_drew1) | exact HB.out)⟩

end Go.Proofs.Ytnimjikikfhlpaa.F

namespace Go.Proofs.Ytnimjikikfhlpaa.Pure
open Go.RowKit Go.Proofs.Ytnimjikikfhlpaa.F Go.Proofs.YtnimjikikfhlpaaW.PrintWords Go.Proofs.YtnimjikikfhlpaaW.PrintLast Go.Proofs.YtnimjikikfhlpaaW.PrintMore Go.Proofs.YtnimjikikfhlpaaB
set_option linter.unusedVariables false
set_option linter.unusedSimpArgs false
theorem spec_l01In_f (a b c : Int) : spec_l01In.f a b c = some (inB a b c) := inB_if a b c

end Go.Proofs.Ytnimjikikfhlpaa.Pure

namespace Go.Proofs.Ytnimjikikfhlpaa.Pure
open Go.RowKit Go.Proofs.Ytnimjikikfhlpaa.F Go.Proofs.YtnimjikikfhlpaaW.PrintWords Go.Proofs.YtnimjikikfhlpaaW.PrintLast Go.Proofs.YtnimjikikfhlpaaW.PrintMore Go.Proofs.YtnimjikikfhlpaaB
set_option linter.unusedVariables false
set_option linter.unusedSimpArgs false
theorem spec_l14Point_f (a b : Int) : spec_l14Point.f a b = some (inB a (-1000000) 1000000 && inB b (-1000000) 1000000) := by
  simp only [spec_l14Point.f, spec_l01In_f, Option.bind_some]
  cases inB a (-1000000) 1000000 <;> simp

end Go.Proofs.Ytnimjikikfhlpaa.Pure

namespace Go.Proofs.Ytnimjikikfhlpaa.Pure
open Go.RowKit Go.Proofs.Ytnimjikikfhlpaa.F Go.Proofs.YtnimjikikfhlpaaW.PrintWords Go.Proofs.YtnimjikikfhlpaaW.PrintLast Go.Proofs.YtnimjikikfhlpaaW.PrintMore Go.Proofs.YtnimjikikfhlpaaB
set_option linter.unusedVariables false
set_option linter.unusedSimpArgs false
theorem spec_l16Points_l0 (xs : List S142) (hx : xs.length ≤ 9223372036854775807) : ∀ (ys : List S142) (m : Nat), xs.drop m = ys → Ev (fun k => spec_l16Points.l0 k xs m) (ys.all ptB)
  | [], m, h => by
    have := drop_nil h
    exact ev_step (fun _ => rfl) (ev_neg (by omega) (ev_now rfl))
  | y :: ys, m, h => by
    obtain ⟨hm, _, hd⟩ := drop_cons h
    refine ev_step (fun _ => rfl) (ev_pos (by omega) (ev_pos (by omega) ?_))
    rw [rdP h, w64 (by omega) (by omega)]
    refine ev_some (spec_l14Point_f _ _) ?_
    rw [List.all_cons, show (inB y.f0 (-1000000) 1000000 && inB y.f1 (-1000000) 1000000) = ptB y from rfl]
    cases ptB y
    · exact ev_neg (by simp) (ev_now (by simp))
    · exact ev_pos rfl (ev_eq (spec_l16Points_l0 xs hx ys (m + 1) hd) (by simp))
theorem spec_l16Points_f (xs : List S142) (hx : xs.length ≤ 9223372036854775807) : Ev (fun k => spec_l16Points.f k xs) (xs.all ptB) := spec_l16Points_l0 xs hx xs 0 rfl

end Go.Proofs.Ytnimjikikfhlpaa.Pure

namespace Go.Proofs.Ytnimjikikfhlpaa.Pure
open Go.RowKit Go.Proofs.Ytnimjikikfhlpaa.F Go.Proofs.YtnimjikikfhlpaaW.PrintWords Go.Proofs.YtnimjikikfhlpaaW.PrintLast Go.Proofs.YtnimjikikfhlpaaW.PrintMore Go.Proofs.YtnimjikikfhlpaaB
set_option linter.unusedVariables false
set_option linter.unusedSimpArgs false
theorem spec_IsLine_f (l : List S142) : Ev (fun k => spec_IsLine.f k l) (lineB l) := by
  unfold lineB
  by_cases h : l.length ≤ 200
  · rw [decide_eq_true h, Bool.true_and]
    exact ev_pos (by omega) (ev_bind (spec_l16Points_f l (by omega)) (ev_now rfl))
  · rw [decide_eq_false h, Bool.false_and]
    exact ev_neg (by omega) (ev_now rfl)

end Go.Proofs.Ytnimjikikfhlpaa.Pure

namespace Go.Proofs.Ytnimjikikfhlpaa.Pure
open Go.RowKit Go.Proofs.Ytnimjikikfhlpaa.F Go.Proofs.YtnimjikikfhlpaaW.PrintWords Go.Proofs.YtnimjikikfhlpaaW.PrintLast Go.Proofs.YtnimjikikfhlpaaW.PrintMore Go.Proofs.YtnimjikikfhlpaaB
set_option linter.unusedVariables false
set_option linter.unusedSimpArgs false
theorem spec_l28Pen_f (a : Int) : spec_l28Pen.f a = some (inB a 1 8) := by
  simp only [spec_l28Pen.f, spec_l01In_f, Option.bind_some]

end Go.Proofs.Ytnimjikikfhlpaa.Pure

namespace Go.Proofs.Ytnimjikikfhlpaa.Pure
open Go.RowKit Go.Proofs.Ytnimjikikfhlpaa.F Go.Proofs.YtnimjikikfhlpaaW.PrintWords Go.Proofs.YtnimjikikfhlpaaW.PrintLast Go.Proofs.YtnimjikikfhlpaaW.PrintMore Go.Proofs.YtnimjikikfhlpaaB
set_option linter.unusedVariables false
set_option linter.unusedSimpArgs false
theorem spec_l28Code_l0 (xs : List S107) (hx : xs.length ≤ 9223372036854775807) : ∀ (ys : List S107) (m : Nat), xs.drop m = ys →
    Ev (fun k => spec_l28Code.l0 k xs m) (if ys.all strokeB = true then (if 40 < xs.length then 3 else 0) else 1)
  | [], m, h => by
    have := drop_nil h
    refine ev_step (fun _ => rfl) (ev_neg (by omega) (ev_now ?_))
    simp only [List.all_nil, if_true]
    by_cases h4 : 40 < xs.length
    · rw [if_pos (by omega), if_pos h4]
    · rw [if_neg (by omega), if_neg h4]
  | y :: ys, m, h => by
    obtain ⟨hm, _, hd⟩ := drop_cons h
    refine ev_step (fun _ => rfl) (ev_pos (by omega) (ev_pos (by omega) ?_))
    rw [rdS h, w64 (by omega) (by omega)]
    refine ev_some (spec_l28Pen_f _) ?_
    have ih := spec_l28Code_l0 xs hx ys (m + 1) hd
    rw [List.all_cons, show strokeB y = (inB y.f0 1 8 && lineB y.f1 && decide (2 ≤ y.f1.length)) from rfl]
    cases inB y.f0 1 8
    · exact ev_neg (by simp) (ev_now (by simp))
    refine ev_pos rfl (ev_bind (spec_IsLine_f y.f1) ?_)
    cases lineB y.f1
    · exact ev_neg (by simp) (ev_now (by simp))
    refine ev_pos rfl (ev_ite (fun h2 => ev_now ?_) (fun h2 => ev_eq ih ?_))
    · rw [decide_eq_false (show ¬ 2 ≤ y.f1.length by omega)]; simp
    · rw [decide_eq_true (show 2 ≤ y.f1.length by omega)]; simp
theorem spec_l28Code_f (xs : List S107) (hx : xs.length ≤ 9223372036854775807) : Ev (fun k => spec_l28Code.f k xs) (codeS xs) := spec_l28Code_l0 xs hx xs 0 rfl

end Go.Proofs.Ytnimjikikfhlpaa.Pure

namespace Go.Proofs.Ytnimjikikfhlpaa.Pure
open Go.RowKit Go.Proofs.Ytnimjikikfhlpaa.F Go.Proofs.YtnimjikikfhlpaaW.PrintWords Go.Proofs.YtnimjikikfhlpaaW.PrintLast Go.Proofs.YtnimjikikfhlpaaW.PrintMore Go.Proofs.YtnimjikikfhlpaaB
set_option linter.unusedVariables false
set_option linter.unusedSimpArgs false
theorem spec_GroupPens_l1 (xs : List S107) (hx : xs.length ≤ 40) (p : Int) (h0 : 0 ≤ p) (h8 : p ≤ 8) (res : List Int × Int) : ∀ (ys : List S107) (m : Nat) (out : List Int), xs.drop m = ys → out.length + ys.length ≤ 1000 →
    Ev (fun k => spec_GroupPens.l0 k xs (out ++ grp p m ys) (p + 1)) res → Ev (fun k => spec_GroupPens.l1 k xs out p m) res
  | [], m, out, h, ho, hc => by
    have := drop_nil h
    refine ev_step (fun _ => rfl) (ev_neg (by omega) ?_)
    rw [w64 (by omega) (by omega)]
    rw [show out ++ grp p m [] = out from List.append_nil _] at hc
    exact hc
  | y :: ys, m, out, h, ho, hc => by
    obtain ⟨hm, _, hd⟩ := drop_cons h
    simp only [List.length_cons] at ho
    refine ev_step (fun _ => rfl) (ev_pos (by omega) (ev_pos (by omega) ?_))
    rw [rdS h, w64 (x := 2 * (m : Int)) (by omega) (by omega), w64 (x := (m : Int) + 1) (by omega) (by omega)]
    rw [grp_cons] at hc
    refine ev_ite (fun hq => ?_) (fun hq => ?_)
    · rw [if_pos hq] at hc
      refine ev_pos (by omega) (spec_GroupPens_l1 xs hx p h0 h8 res ys (m + 1) _ hd (by simp; omega) ?_)
      rw [List.append_assoc, List.singleton_append]
      exact hc
    · rw [if_neg hq] at hc
      exact spec_GroupPens_l1 xs hx p h0 h8 res ys (m + 1) out hd (by omega) hc
theorem spec_GroupPens_l0 (xs : List S107) (hx : xs.length ≤ 40) : ∀ (d : Nat) (out : List Int), d ≤ 8 → out.length + d * xs.length ≤ 1000 →
    Ev (fun k => spec_GroupPens.l0 k xs out (9 - d)) (out ++ grps xs d, 0)
  | 0, out, hd, ho => by
    have e : ∀ q : Int, q = 9 → Ev (fun k => spec_GroupPens.l0 k xs out q) (out ++ grps xs 0, 0) := fun q hq => ev_step (fun _ => rfl) (ev_neg (by omega) (ev_now (by rw [grps, List.append_nil])))
    exact e _ (by simp)
  | d + 1, out, hd, ho => by
    have hl : (d + 1) * xs.length = d * xs.length + xs.length := Nat.succ_mul _ _
    have ih := spec_GroupPens_l0 xs hx d (out ++ grp (8 - d) 0 xs) (by omega) (by have := grp_length (8 - d) 0 xs; rw [List.length_append]; omega)
    refine ev_step (fun _ => rfl) (ev_pos (by omega) ?_)
    rw [show (9 : Int) - ((d + 1 : Nat) : Int) = 8 - d by omega]
    refine spec_GroupPens_l1 xs hx (8 - d) (by omega) (by omega) _ xs 0 out rfl (by omega) ?_
    rw [show (8 : Int) - d + 1 = 9 - d by omega, grps, ← List.append_assoc]
    exact ih
theorem spec_GroupPens_f (xs : List S107) (hx : xs.length ≤ 9223372036854775807) : Ev (fun k => spec_GroupPens.f k xs) (resGroup xs) := by
  refine ev_bind (spec_l28Code_f xs hx) ?_
  unfold resGroup
  refine ev_ite (fun h => ?_) (fun h => ?_)
  · rw [if_pos h]
    have h2 := (codeS_zero h).1
    exact spec_GroupPens_l0 xs h2 8 [] (by omega) (by simp; omega)
  · rw [if_neg h]
    exact ev_now rfl

end Go.Proofs.Ytnimjikikfhlpaa.Pure

namespace Go.Proofs.Ytnimjikikfhlpaa.Pure
open Go.RowKit Go.Proofs.Ytnimjikikfhlpaa.F Go.Proofs.YtnimjikikfhlpaaW.PrintWords Go.Proofs.YtnimjikikfhlpaaW.PrintLast Go.Proofs.YtnimjikikfhlpaaW.PrintMore Go.Proofs.YtnimjikikfhlpaaB
set_option linter.unusedVariables false
set_option linter.unusedSimpArgs false
theorem EQ_Int64S (A A' : Option Addr) (c c' : Nat) (l : List Int) (w : World) (hr : Kd.C (Kd.int .i64) w A l.length l) (hc : l.length ≤ c) (hr' : Kd.C (Kd.int .i64) w A' l.length l) (hc' : l.length ≤ c') (h : Ev (fun k => laws_eqInt64S.f k l l) true) :
    Calls Try.prog 21 #[.slice A l.length c, .slice A' l.length c'] w fun e w' => e = .returned (.bool true) ∧ Below w.heap.size w w' := by
  obtain ⟨k, h⟩ := h.rounds
  exact (laws_eqInt64S.calls k A c l A' c' l true w hr hc hr' hc' h).mono fun e w' ⟨h1, h2⟩ => ⟨h1, h2.below⟩

end Go.Proofs.Ytnimjikikfhlpaa.Pure

namespace Go.Proofs.Ytnimjikikfhlpaa.Pure
open Go.RowKit Go.Proofs.Ytnimjikikfhlpaa.F Go.Proofs.YtnimjikikfhlpaaW.PrintWords Go.Proofs.YtnimjikikfhlpaaW.PrintLast Go.Proofs.YtnimjikikfhlpaaW.PrintMore Go.Proofs.YtnimjikikfhlpaaB
set_option linter.unusedVariables false
set_option linter.unusedSimpArgs false
theorem EQ_StrokeS (A A' : Option Addr) (c c' : Nat) (l : List S107) (w : World) (hr : Kd.C k107 w A l.length l) (hc : l.length ≤ c) (hr' : Kd.C k107 w A' l.length l) (hc' : l.length ≤ c') (h : Ev (fun k => laws_eqStrokeS.f k l l) true) :
    Calls Try.prog 20 #[.slice A l.length c, .slice A' l.length c'] w fun e w' => e = .returned (.bool true) ∧ Below w.heap.size w w' := by
  obtain ⟨k, h⟩ := h.rounds
  exact (laws_eqStrokeS.calls k A c l A' c' l true w hr hc hr' hc' h).mono fun e w' ⟨h1, h2⟩ => ⟨h1, h2⟩

end Go.Proofs.Ytnimjikikfhlpaa.Pure

namespace Go.Proofs.Ytnimjikikfhlpaa.Pure
open Go.RowKit Go.Proofs.Ytnimjikikfhlpaa.F Go.Proofs.YtnimjikikfhlpaaW.PrintWords Go.Proofs.YtnimjikikfhlpaaW.PrintLast Go.Proofs.YtnimjikikfhlpaaW.PrintMore Go.Proofs.YtnimjikikfhlpaaB
set_option linter.unusedVariables false
set_option linter.unusedSimpArgs false
theorem HD_Int64S (A : Option Addr) (c m : Nat) (l : List Int) (a n : Int) (w : World) (hm : l.length = m) (hr : Kd.C (Kd.int .i64) w A l.length l) (hc : l.length ≤ c) (h : Ev (fun k => laws_heldInt64S.f k l a) n) :
    Calls Try.prog 37 #[.slice A m c, .int .i64 a] w fun e w' => e = .returned (.int .i64 n) ∧ Below w.heap.size w w' := by
  obtain ⟨k, h⟩ := h.rounds
  subst hm
  exact (laws_heldInt64S.calls k A c l a n w hr hc h).mono fun e w' ⟨h1, h2⟩ => ⟨h1, h2.below⟩

end Go.Proofs.Ytnimjikikfhlpaa.Pure

namespace Go.Proofs.Ytnimjikikfhlpaa.Pure
open Go.RowKit Go.Proofs.Ytnimjikikfhlpaa.F Go.Proofs.YtnimjikikfhlpaaW.PrintWords Go.Proofs.YtnimjikikfhlpaaW.PrintLast Go.Proofs.YtnimjikikfhlpaaW.PrintMore Go.Proofs.YtnimjikikfhlpaaB
set_option linter.unusedVariables false
set_option linter.unusedSimpArgs false
theorem MK_Int64S (P : Nat → Prop) (A : Option Addr) (c : Nat) (l ys : List Int) (a n : Int) (w0 w : World) (hB : Below w0.heap.size w0 w) (hO : Kd.R (Kd.int .i64) 2 w w0.heap.size P (.slice A l.length c) l) (h : Ev (fun k => laws_markInt64S.f k l a) (n, ys)) :
    Calls Try.prog 36 #[.slice A l.length c, .int .i64 a] w fun e w' => e = .returned (.int .i64 n) ∧ Kd.R (Kd.int .i64) 2 w' w0.heap.size (fun k => P k ∨ w.heap.size ≤ k) (.slice A l.length c) ys ∧ Below w0.heap.size w0 w' ∧ Kept w w' P := by
  obtain ⟨k, h⟩ := h.rounds
  exact laws_markInt64S.calls k P _ l a n ys w0 w hB hO h

end Go.Proofs.Ytnimjikikfhlpaa.Pure

namespace Go.Proofs.Ytnimjikikfhlpaa.Pure
open Go.RowKit Go.Proofs.Ytnimjikikfhlpaa.F Go.Proofs.YtnimjikikfhlpaaW.PrintWords Go.Proofs.YtnimjikikfhlpaaW.PrintLast Go.Proofs.YtnimjikikfhlpaaW.PrintMore Go.Proofs.YtnimjikikfhlpaaB
set_option linter.unusedVariables false
set_option linter.unusedSimpArgs false
section
variable {α : Type} {d : Kd α} {e : Nat} {w : World} {base : Nat} {ok : Nat → Prop} {A : Option Addr} {n c : Nat} {xs : List α}
theorem Kd.R_now (h : d.R e w base ok (.slice A n c) xs) (hl : xs.length = n) : xs.length ≤ c ∧ d.C w A xs.length xs := by
  obtain ⟨h1, h2, h3⟩ := Kd.R_reads' h
  exact ⟨by omega, h3⟩
theorem Kd.S_now (h : Kd.S d e w base ok (.slice A n c) xs) (hl : xs.length = n) : xs.length ≤ c ∧ d.C w A xs.length xs := by
  obtain ⟨h1, h2, h3⟩ := Kd.S_reads' h
  exact ⟨by omega, h3⟩
end

end Go.Proofs.Ytnimjikikfhlpaa.Pure

namespace Go.Proofs.Ytnimjikikfhlpaa.Pure
open Go.RowKit Go.Proofs.Ytnimjikikfhlpaa.F Go.Proofs.YtnimjikikfhlpaaW.PrintWords Go.Proofs.YtnimjikikfhlpaaW.PrintLast Go.Proofs.YtnimjikikfhlpaaW.PrintMore Go.Proofs.YtnimjikikfhlpaaB
set_option linter.unusedVariables false
set_option linter.unusedSimpArgs false
theorem SZ_StrokeS (A : Option Addr) (c : Nat) (l : List S102) (a n : Int) (w : World) (hr : Kd.C k102 w A l.length l) (hc : l.length ≤ c) (h : Ev (fun k => laws_szStrokeS.f k l a) n) :
    Calls Try.prog 15 #[.slice A l.length c, .int .i64 a] w fun e w' => e = .returned (.int .i64 n) ∧ Below w.heap.size w w' := by
  obtain ⟨k, h⟩ := h.rounds
  exact (laws_szStrokeS.calls k A c l a n w hr hc h).mono fun e w' ⟨h1, h2⟩ => ⟨h1, h2⟩

end Go.Proofs.Ytnimjikikfhlpaa.Pure

namespace Go.Proofs.Ytnimjikikfhlpaa.Pure
open Go.RowKit Go.Proofs.Ytnimjikikfhlpaa.F Go.Proofs.YtnimjikikfhlpaaW.PrintWords Go.Proofs.YtnimjikikfhlpaaW.PrintLast Go.Proofs.YtnimjikikfhlpaaW.PrintMore Go.Proofs.YtnimjikikfhlpaaB
set_option linter.unusedVariables false
set_option linter.unusedSimpArgs false
theorem TO_StrokeS (A : Option Addr) (c : Nat) (l : List S102) (xs : List S107) (w : World) (hr : Kd.C k102 w A l.length l) (hc : l.length ≤ c) (h : Ev (fun k => laws_toStrokeS.f k l) xs) :
    Calls Try.prog 17 #[.slice A l.length c] w fun e w' => ∃ A' c', e = .returned (.slice A' xs.length c') ∧ Kd.S k107 107 w' w.heap.size (fun k => w.heap.size ≤ k ∧ k < w'.heap.size) (.slice A' xs.length c') xs ∧ Below w.heap.size w w' := by
  obtain ⟨k, h⟩ := h.rounds
  refine (laws_toStrokeS.calls k A c l xs w hr hc h).mono fun e w' ⟨v, h1, h2, h3⟩ => ?_
  obtain ⟨A', c', rfl⟩ := Kd.S_slice h2
  exact ⟨A', c', h1, Kd.S_mono (Kd.S_bound h2) (fun k hk => ⟨hk.2.1, hk.2.2.1⟩), h3⟩

end Go.Proofs.Ytnimjikikfhlpaa.Pure

namespace Go.Proofs.Ytnimjikikfhlpaa.Pure
open Go.RowKit Go.Proofs.Ytnimjikikfhlpaa.F Go.Proofs.YtnimjikikfhlpaaW.PrintWords Go.Proofs.YtnimjikikfhlpaaW.PrintLast Go.Proofs.YtnimjikikfhlpaaW.PrintMore Go.Proofs.YtnimjikikfhlpaaB
set_option linter.unusedVariables false
set_option linter.unusedSimpArgs false
set_option maxHeartbeats 8000000 in
set_option maxRecDepth 100000 in
theorem early0_FnExactGroupPens (A0 : Option Addr) (c0 : Nat) (l0 : List S102) (n0 : Int) (w : World) (hr0 : Kd.C k102 w A0 l0.length l0) (hc0 : l0.length ≤ c0) (Hsz0 : Ev (fun k => laws_szStrokeS.f k l0 1048576) n0) (Hn0 : n0 < 0) :
    Calls Try.prog 6 #[.slice A0 l0.length c0] w fun e w' => e = .returned (.bool true) ∧ Below w.heap.size w w' := by
  have HB := Aside0.mk (Below.refl w.heap.size w)
  have HR0 := Aside0.mk hr0
  have HC0 := Aside0.mk hc0
  clear hr0 hc0
  have QHsz0 := Aside0.mk Hsz0
  clear Hsz0
  go_enter Try.func6, Try.ntmps6
  go_wp2_with fail
  refine (SZ_StrokeS A0 c0 l0 1048576 n0 _ (Kd.C_below HR0.out HB.out) HC0.out QHsz0.out).mono ?_
  rintro e w1 ⟨rfl, hb⟩
  have n_ := Aside0.mk (HB.out.trans (hb.mono HB.out.size))
  clear HB hb
  have HB := n_
  clear n_
  go_wp2
  go_ret
  exact ⟨rfl, HB.out⟩
set_option maxHeartbeats 8000000 in
set_option maxRecDepth 100000 in
theorem walk_FnExactGroupPens (A0 : Option Addr) (c0 : Nat) (l0 : List S102) (x0 : List S107) (n0 : Int) (r0 : List Int) (r1 : Int) (ya0 : List S107) (ma0 : Int) (yr0 : List Int) (mr0 : Int) (w : World) (hr0 : Kd.C k102 w A0 l0.length l0) (hc0 : l0.length ≤ c0) (Hsz0 : Ev (fun k => laws_szStrokeS.f k l0 1048576) n0) (Hn0 : 0 ≤ n0) (Ht0 : Ev (fun k => laws_toStrokeS.f k l0) x0) (Hx0 : Ev (fun k => laws_eqStrokeS.f k x0 x0) true) (Hs : Ev (fun k => spec_GroupPens.f k x0) (r0, r1)) (Hi : Ev (fun k => impl_GroupPens.f k x0) (r0, r1)) (He0 : Ev (fun k => laws_eqInt64S.f k r0 r0) true) (Hma0 : MarkSt x0 ya0 1 ma0) (Hmn0 : 0 ≤ ma0) (Hmr0 : Ev (fun k => laws_markInt64S.f k r0 1) (mr0, yr0)) (Hrn0 : 0 ≤ mr0) (Hl0 : yr0.length = r0.length) (Hh0 : Ev (fun k => laws_heldInt64S.f k yr0 1) mr0) :
    Calls Try.prog 6 #[.slice A0 l0.length c0] w fun e w' => e = .returned (.bool true) ∧ Below w.heap.size w w' := by
  have HB := Aside0.mk (Below.refl w.heap.size w)
  have HR0 := Aside0.mk hr0
  have HC0 := Aside0.mk hc0
  clear hr0 hc0
  have QHsz0 := Aside0.mk Hsz0
  clear Hsz0
  have QHt0 := Aside0.mk Ht0
  clear Ht0
  have QHx0 := Aside0.mk Hx0
  clear Hx0
  have QHs := Aside0.mk Hs
  clear Hs
  have QHi := Aside0.mk Hi
  clear Hi
  have QHe0 := Aside0.mk He0
  clear He0
  have QHma0 := Aside0.mk Hma0
  clear Hma0
  have QHmr0 := Aside0.mk Hmr0
  clear Hmr0
  have QHl0 := Aside0.mk Hl0
  clear Hl0
  have QHh0 := Aside0.mk Hh0
  clear Hh0
  have hcc : ∀ r : Int, (r != r) = false := fun r => by simp
  go_enter Try.func6, Try.ntmps6
  go_wp2_with fail
  refine (SZ_StrokeS A0 c0 l0 1048576 n0 _ (Kd.C_below HR0.out HB.out) HC0.out QHsz0.out).mono ?_
  rintro e w1 ⟨rfl, hb⟩
  have HZ2 := Aside0.mk hb.size
  have n_ := Aside0.mk (HB.out.trans (hb.mono HB.out.size))
  clear HB hb
  have HB := n_
  clear n_
  go_wp2_with fail
  refine (TO_StrokeS A0 c0 l0 x0 _ (Kd.C_below HR0.out HB.out) HC0.out QHt0.out).mono ?_
  rintro e w3 ⟨B4, d4, rfl, hO, hb⟩
  have HZ5 := Aside0.mk hb.size
  have n_ := Aside0.mk (HB.out.trans (hb.mono HB.out.size))
  clear HB hb
  have HB := n_
  clear n_
  have HO4 := Aside0.mk hO
  clear hO
  go_wp2_with fail
  obtain ⟨kHs7, hHs7⟩ := QHs.out.rounds
  refine (spec_GroupPens.calls kHs7 B4 d4 x0 r0 r1 _ (Kd.S_reads' HO4.out).2.2 (Kd.S_reads' HO4.out).2.1 hHs7).mono ?_
  clear hHs7
  rintro e w6 ⟨v7_0, rfl, ho7_0, hb⟩
  obtain ⟨Bv7_0, dv7_0, rfl⟩ := Kd.R_slice ho7_0
  have HO7 := Aside0.mk (Kd.R_mono (Kd.R_bound ho7_0) (ok' := fun k_ => w3.heap.size ≤ k_ ∧ k_ < w6.heap.size) (fun k_ h_ => ⟨h_.2.1, h_.2.2.1⟩))
  clear ho7_0
  have n_ := Aside0.mk (Kd.S_below HO4.out hb)
  clear HO4
  have HO4 := n_
  clear n_
  have HZ8 := Aside0.mk hb.size
  have n_ := Aside0.mk (HB.out.trans (hb.mono HB.out.size))
  clear HB hb
  have HB := n_
  clear n_
  go_wp2_with fail
  clear HO4
  refine (TO_StrokeS A0 c0 l0 x0 _ (Kd.C_below HR0.out HB.out) HC0.out QHt0.out).mono ?_
  rintro e w9 ⟨B10, d10, rfl, hO, hb⟩
  have n_ := Aside0.mk (Kd.R_below HO7.out hb)
  clear HO7
  have HO7 := n_
  clear n_
  have HZ11 := Aside0.mk hb.size
  have n_ := Aside0.mk (HB.out.trans (hb.mono HB.out.size))
  clear HB hb
  have HB := n_
  clear n_
  have HO10 := Aside0.mk hO
  clear hO
  go_wp2_with fail
  obtain ⟨kHi13, hHi13⟩ := QHi.out.rounds
  refine (impl_GroupPens.calls kHi13 B10 d10 x0 r0 r1 _ (Kd.S_reads' HO10.out).2.2 (Kd.S_reads' HO10.out).2.1 hHi13).mono ?_
  clear hHi13
  rintro e w12 ⟨v13_0, rfl, ho13_0, hb⟩
  obtain ⟨Bv13_0, dv13_0, rfl⟩ := Kd.R_slice ho13_0
  have HO13 := Aside0.mk (Kd.R_mono (Kd.R_bound ho13_0) (ok' := fun k_ => w9.heap.size ≤ k_ ∧ k_ < w12.heap.size) (fun k_ h_ => ⟨h_.2.1, h_.2.2.1⟩))
  clear ho13_0
  have n_ := Aside0.mk (Kd.R_below HO7.out hb)
  clear HO7
  have HO7 := n_
  clear n_
  have n_ := Aside0.mk (Kd.S_below HO10.out hb)
  clear HO10
  have HO10 := n_
  clear n_
  have HZ14 := Aside0.mk hb.size
  have n_ := Aside0.mk (HB.out.trans (hb.mono HB.out.size))
  clear HB hb
  have HB := n_
  clear n_
  go_wp2_with fail
  refine (EQ_Int64S Bv13_0 Bv7_0 dv13_0 dv7_0 r0 _ (Kd.R_reads' HO13.out).2.2 (Kd.R_reads' HO13.out).2.1 (Kd.R_reads' HO7.out).2.2 (Kd.R_reads' HO7.out).2.1 QHe0.out).mono ?_
  rintro e w15 ⟨rfl, hb⟩
  have n_ := Aside0.mk (Kd.R_below HO7.out hb)
  clear HO7
  have HO7 := n_
  clear n_
  have n_ := Aside0.mk (Kd.S_below HO10.out hb)
  clear HO10
  have HO10 := n_
  clear n_
  have n_ := Aside0.mk (Kd.R_below HO13.out hb)
  clear HO13
  have HO13 := n_
  clear n_
  have HZ16 := Aside0.mk hb.size
  have n_ := Aside0.mk (HB.out.trans (hb.mono HB.out.size))
  clear HB hb
  have HB := n_
  clear n_
  go_wp2_with fail
  refine (TO_StrokeS A0 c0 l0 x0 _ (Kd.C_below HR0.out HB.out) HC0.out QHt0.out).mono ?_
  rintro e w17 ⟨B18, d18, rfl, hO, hb⟩
  have n_ := Aside0.mk (Kd.R_below HO7.out hb)
  clear HO7
  have HO7 := n_
  clear n_
  have n_ := Aside0.mk (Kd.S_below HO10.out hb)
  clear HO10
  have HO10 := n_
  clear n_
  have n_ := Aside0.mk (Kd.R_below HO13.out hb)
  clear HO13
  have HO13 := n_
  clear n_
  have HZ19 := Aside0.mk hb.size
  have n_ := Aside0.mk (HB.out.trans (hb.mono HB.out.size))
  clear HB hb
  have HB := n_
  clear n_
  have HO18 := Aside0.mk hO
  clear hO
  go_wp2_with fail
  refine (EQ_StrokeS B10 B18 d10 d18 x0 _ (Kd.S_reads' HO10.out).2.2 (Kd.S_reads' HO10.out).2.1 (Kd.S_reads' HO18.out).2.2 (Kd.S_reads' HO18.out).2.1 QHx0.out).mono ?_
  rintro e w20 ⟨rfl, hb⟩
  have n_ := Aside0.mk (Kd.R_below HO7.out hb)
  clear HO7
  have HO7 := n_
  clear n_
  have n_ := Aside0.mk (Kd.S_below HO10.out hb)
  clear HO10
  have HO10 := n_
  clear n_
  have n_ := Aside0.mk (Kd.R_below HO13.out hb)
  clear HO13
  have HO13 := n_
  clear n_
  have n_ := Aside0.mk (Kd.S_below HO18.out hb)
  clear HO18
  have HO18 := n_
  clear n_
  have HZ21 := Aside0.mk hb.size
  have n_ := Aside0.mk (HB.out.trans (hb.mono HB.out.size))
  clear HB hb
  have HB := n_
  clear n_
  go_wp2_with fail
  clear HO18
  refine (MK_StrokeS (fun k_ => w6.heap.size ≤ k_ ∧ k_ < w9.heap.size) B10 d10 x0 ya0 1 ma0 w _ HB.out (Kd.S_lower HO10.out (by have := HZ2.out; have := HZ5.out; have := HZ8.out; have := HZ11.out; have := HZ14.out; have := HZ16.out; have := HZ19.out; have := HZ21.out; omega)) QHma0.out).mono ?_
  rintro e w22 ⟨rfl, hO, hB2, hK⟩
  have n_ := Aside0.mk (Kd.R_kept HO7.out hK (fun k_ h_ h2_ => by have := HZ2.out; have := HZ5.out; have := HZ8.out; have := HZ11.out; have := HZ14.out; have := HZ16.out; have := HZ19.out; have := HZ21.out; obtain ⟨h3_, h4_⟩ := h2_; rcases h_ with h_ <;> omega))
  clear HO7
  have HO7 := n_
  clear n_
  have n_ := Aside0.mk (Kd.R_kept HO13.out hK (fun k_ h_ h2_ => by have := HZ2.out; have := HZ5.out; have := HZ8.out; have := HZ11.out; have := HZ14.out; have := HZ16.out; have := HZ19.out; have := HZ21.out; obtain ⟨h3_, h4_⟩ := h2_; rcases h_ with h_ <;> omega))
  clear HO13
  have HO13 := n_
  clear n_
  have HZ23 := Aside0.mk hK.1
  clear HB
  have HB := Aside0.mk hB2
  clear HO10
  clear hO hB2 hK
  go_wp2_with fail
  refine (EQ_Int64S Bv13_0 Bv7_0 dv13_0 dv7_0 r0 _ (Kd.R_reads' HO13.out).2.2 (Kd.R_reads' HO13.out).2.1 (Kd.R_reads' HO7.out).2.2 (Kd.R_reads' HO7.out).2.1 QHe0.out).mono ?_
  rintro e w24 ⟨rfl, hb⟩
  have n_ := Aside0.mk (Kd.R_below HO7.out hb)
  clear HO7
  have HO7 := n_
  clear n_
  have n_ := Aside0.mk (Kd.R_below HO13.out hb)
  clear HO13
  have HO13 := n_
  clear n_
  have HZ25 := Aside0.mk hb.size
  have n_ := Aside0.mk (HB.out.trans (hb.mono HB.out.size))
  clear HB hb
  have HB := n_
  clear n_
  go_wp2_with fail
  refine (MK_Int64S (fun k_ => w9.heap.size ≤ k_ ∧ k_ < w12.heap.size) Bv13_0 dv13_0 r0 yr0 1 mr0 w _ HB.out (Kd.R_lower HO13.out (by have := HZ2.out; have := HZ5.out; have := HZ8.out; have := HZ11.out; have := HZ14.out; have := HZ16.out; have := HZ19.out; have := HZ21.out; have := HZ23.out; have := HZ25.out; omega)) QHmr0.out).mono ?_
  rintro e w26 ⟨rfl, hO, hB2, hK⟩
  have n_ := Aside0.mk (Kd.R_kept HO7.out hK (fun k_ h_ h2_ => by have := HZ2.out; have := HZ5.out; have := HZ8.out; have := HZ11.out; have := HZ14.out; have := HZ16.out; have := HZ19.out; have := HZ21.out; have := HZ23.out; have := HZ25.out; obtain ⟨h3_, h4_⟩ := h2_; rcases h_ with h_ <;> omega))
  clear HO7
  have HO7 := n_
  clear n_
  have HZ27 := Aside0.mk hK.1
  clear HB
  have HB := Aside0.mk hB2
  clear HO13
  have HO13 := Aside0.mk hO
  clear hO hB2 hK
  go_wp2_with fail
  refine (HD_Int64S Bv13_0 dv13_0 r0.length yr0 1 mr0 _ QHl0.out (Kd.R_now HO13.out QHl0.out).2 (Kd.R_now HO13.out QHl0.out).1 QHh0.out).mono ?_
  rintro e w28 ⟨rfl, hb⟩
  have n_ := Aside0.mk (Kd.R_below HO7.out hb)
  clear HO7
  have HO7 := n_
  clear n_
  have n_ := Aside0.mk (Kd.R_below HO13.out hb)
  clear HO13
  have HO13 := n_
  clear n_
  have HZ29 := Aside0.mk hb.size
  have n_ := Aside0.mk (HB.out.trans (hb.mono HB.out.size))
  clear HB hb
  have HB := n_
  clear n_
  go_wp2_with fail
  refine (TO_StrokeS A0 c0 l0 x0 _ (Kd.C_below HR0.out HB.out) HC0.out QHt0.out).mono ?_
  rintro e w30 ⟨B31, d31, rfl, hO, hb⟩
  have n_ := Aside0.mk (Kd.R_below HO7.out hb)
  clear HO7
  have HO7 := n_
  clear n_
  have n_ := Aside0.mk (Kd.R_below HO13.out hb)
  clear HO13
  have HO13 := n_
  clear n_
  have HZ32 := Aside0.mk hb.size
  have n_ := Aside0.mk (HB.out.trans (hb.mono HB.out.size))
  clear HB hb
  have HB := n_
  clear n_
  have HO31 := Aside0.mk hO
  clear hO
  go_wp2_with fail
  obtain ⟨kHi34, hHi34⟩ := QHi.out.rounds
  refine (impl_GroupPens.calls kHi34 B31 d31 x0 r0 r1 _ (Kd.S_reads' HO31.out).2.2 (Kd.S_reads' HO31.out).2.1 hHi34).mono ?_
  clear hHi34
  rintro e w33 ⟨v34_0, rfl, ho34_0, hb⟩
  obtain ⟨Bv34_0, dv34_0, rfl⟩ := Kd.R_slice ho34_0
  have HO34 := Aside0.mk (Kd.R_mono (Kd.R_bound ho34_0) (ok' := fun k_ => w30.heap.size ≤ k_ ∧ k_ < w33.heap.size) (fun k_ h_ => ⟨h_.2.1, h_.2.2.1⟩))
  clear ho34_0
  have n_ := Aside0.mk (Kd.R_below HO7.out hb)
  clear HO7
  have HO7 := n_
  clear n_
  have n_ := Aside0.mk (Kd.R_below HO13.out hb)
  clear HO13
  have HO13 := n_
  clear n_
  have n_ := Aside0.mk (Kd.S_below HO31.out hb)
  clear HO31
  have HO31 := n_
  clear n_
  have HZ35 := Aside0.mk hb.size
  have n_ := Aside0.mk (HB.out.trans (hb.mono HB.out.size))
  clear HB hb
  have HB := n_
  clear n_
  go_wp2_with fail
  clear HO31
  refine (EQ_Int64S Bv34_0 Bv7_0 dv34_0 dv7_0 r0 _ (Kd.R_reads' HO34.out).2.2 (Kd.R_reads' HO34.out).2.1 (Kd.R_reads' HO7.out).2.2 (Kd.R_reads' HO7.out).2.1 QHe0.out).mono ?_
  rintro e w36 ⟨rfl, hb⟩
  have n_ := Aside0.mk (Kd.R_below HO7.out hb)
  clear HO7
  have HO7 := n_
  clear n_
  have n_ := Aside0.mk (Kd.R_below HO13.out hb)
  clear HO13
  have HO13 := n_
  clear n_
  have n_ := Aside0.mk (Kd.R_below HO34.out hb)
  clear HO34
  have HO34 := n_
  clear n_
  have HZ37 := Aside0.mk hb.size
  have n_ := Aside0.mk (HB.out.trans (hb.mono HB.out.size))
  clear HB hb
  have HB := n_
  clear n_
  go_wp2_with fail
  clear HO34
  refine (HD_Int64S Bv13_0 dv13_0 r0.length yr0 1 mr0 _ QHl0.out (Kd.R_now HO13.out QHl0.out).2 (Kd.R_now HO13.out QHl0.out).1 QHh0.out).mono ?_
  rintro e w38 ⟨rfl, hb⟩
  have n_ := Aside0.mk (Kd.R_below HO7.out hb)
  clear HO7
  have HO7 := n_
  clear n_
  have n_ := Aside0.mk (Kd.R_below HO13.out hb)
  clear HO13
  have HO13 := n_
  clear n_
  have HZ39 := Aside0.mk hb.size
  have n_ := Aside0.mk (HB.out.trans (hb.mono HB.out.size))
  clear HB hb
  have HB := n_
  clear n_
  try go_wp2
  go_ret
  exact ⟨rfl, HB.out⟩

end Go.Proofs.Ytnimjikikfhlpaa.Pure

namespace Go.Proofs.Ytnimjikikfhlpaa.Pure
open Go.RowKit Go.Proofs.Ytnimjikikfhlpaa.F Go.Proofs.YtnimjikikfhlpaaW.PrintWords Go.Proofs.YtnimjikikfhlpaaW.PrintLast Go.Proofs.YtnimjikikfhlpaaW.PrintMore Go.Proofs.YtnimjikikfhlpaaB
set_option linter.unusedVariables false
set_option linter.unusedSimpArgs false
theorem walkFnExactGroupPens (A0 : Option Addr) (c0 : Nat) (l0 : (List S102)) (w : World) (hr0 : Kd.C k102 w A0 l0.length l0) (hc0 : l0.length ≤ c0) (hm0 : l0.length ≤ maxLen) (hg0 : ∀ y ∈ l0, g102 y) :
    Calls Try.prog 6 #[.slice A0 l0.length c0] w fun e w' => e = .returned (.bool true) ∧ Below w.heap.size w w' := by
  unfold maxLen at hm0
  have hi : ∀ x ∈ l0, x.f1.length ≤ 9223372036854775807 := fun x hx => (hg0 x hx).2.1
  have hs := laws_szStrokeS_f l0 1048576 (by omega) (by omega) hm0 hi
  by_cases h : (1048576 : Int) < l0.length + total szStroke l0
  · rw [if_pos h] at hs
    exact early0_FnExactGroupPens A0 c0 l0 (-1) w hr0 hc0 hs (by omega)
  rw [if_neg h] at hs
  obtain ⟨s1, s2⟩ := szStroke_small l0 h
  have t := laws_toStrokeS_f l0 s1 s2
  have sm := toSt_small l0 s2
  have sl : (l0.map toSt).length ≤ 1048576 := by rw [List.length_map]; exact s1
  obtain ⟨mk, mk0, _⟩ := markSt_arg l0 1 (by omega) (by omega) h
  generalize l0.map toSt = zs at *
  have rl := resGroup_length zs
  have hS := spec_GroupPens_f zs (by omega)
  have hI := impl_GroupPens_f zs (by omega)
  generalize resGroup zs = r at *
  obtain ⟨r0, r1⟩ := r
  simp only at rl
  exact walk_FnExactGroupPens A0 c0 l0 zs _ r0 r1 _ _ _ _ w hr0 hc0 hs (by omega) t (laws_eqStrokeS_f zs (by omega) (fun x hx => by have := sm x hx; omega)) hS hI (laws_eqInt64S_f r0 (by omega)) mk mk0
    (laws_markInt64S_f r0 1 (by omega) (by omega) (by omega)) (by omega) (markI_length _ _) (laws_heldInt64S_f r0 1 (by omega) (by omega) (by omega))

end Go.Proofs.Ytnimjikikfhlpaa.Pure

namespace Go.Proofs.Ytnimjikikfhlpaa.fnExactGroupPens
open Go.ChangeShapes Go.WideShapes Go.ChangeAt Go.RowKit Go.Proofs.YtnimjikikfhlpaaO Go.Proofs.Ytnimjikikfhlpaa.F Go.Proofs.YtnimjikikfhlpaaW.PrintWords
open Go.ChangeMaps (open_string shut_string)
set_option linter.unusedVariables false
theorem own : ownKnob Try.prog.godebug = none := by kernel_rfl
theorem laidOut : laidOutB Try.prog = true := by kernel_rfl
set_option maxRecDepth 100000 in
theorem lifted (os : Os) (started : os.Started) (H : Type) (enc : TypeId × Value → H) :
    ReturnsInHanded {} Try.checked os 6 .any (Rows.fnExactGroupPensSpec.pre6 enc Try.prog Try.f6 Rows.fnExactGroupPensRow.domain false) (Rows.fnExactGroupPensSpec.post enc Try.prog Try.f6 false true false false) := by
  refine returnsInHanded_of_change (C := Try.checked) own started (by kernel_rfl) Try.func6
    (ChangeSpec.witness6 (enc := enc) (C := Try.checked) false ⟨#[], #[.slice none 0 0], []⟩ 8 (by kernel_rfl) (by kernel_rfl) (by kernel_rfl) (by kernel_rfl)) ?_
  intro W base args ds gs before hval0 hW hcnd _
  have hval : ∀ (j : Nat) t v, Try.f6.params[j]? = some t → args[j]? = some v → Value.okWide Try.prog W .any base t v := hval0
  have hW' := hW
  obtain ⟨p, q, hA0, hV, rfl, hfz, hnd⟩ := hW
  have hA : DataW.TrodAll enc Try.prog W 0 (fun _ => true) true Try.f6.params.toList args.toList ds p := hA0
  rw [Try.params6] at hA hval
  obtain ⟨v0, vs0, d0, ds0, p0, q0, hargs, rfl, rfl, h0, r0⟩ := trodAll_cons hA
  obtain ⟨rfl, rfl, rfl⟩ := trodAll_nil r0
  obtain rfl : args = #[v0] := by cases args; simp_all
  obtain ⟨rfl, rfl⟩ := trodVars_none hV
  obtain ⟨a0, len0, cap0, rfl⟩ := okWide_slice Try.underlying22 (hval 0 22 v0 rfl rfl)
  have k0_ := h0
  have lt0 : ∀ x ∈ p0, x.block < W.heap.size := by obtain ⟨m, hm⟩ := k0_; exact DataW.trod_lt m _ _ _ hm
  obtain ⟨fuel0, hf0⟩ := h0
  obtain ⟨A0, l0, c0, hcs0, hc0, hb0, hr0, hg0⟩ := opens_row (d := k102) (G := g102) Try.underlying22 (by kernel_rfl) o102 hf0
  simp [Value.cells] at hcs0
  obtain ⟨rfl, rfl, rfl⟩ := hcs0
  clear hA0 hval0
  refine (Pure.walkFnExactGroupPens _ _ l0 W hr0 hc0 (Nat.le_trans hc0 hb0) hg0).mono fun e W' ⟨he, bel⟩ => ?_
  subst he
  exact ⟨_, rfl, _, _, _, [], _, [], hW', trodAll_mk1 (shut_bool Try.underlying4 _), (trodAll_cons_mk (Below.trod laidOut (by kernel_rfl) (of_decide_eq_true (by kernel_rfl)) k0_ bel lt0) trodAll_mk0), rfl, bel.frame _, fun h => by cases h⟩
theorem over : Rows.fnExactGroupPensRow.holds Try.pinned (OpenSpec.ofChange Rows.fnExactGroupPensSpec) :=
  OpenClaim.holds_of_wide 6 Try.f6 rfl rfl rfl rfl rfl rfl rfl ⟨rfl, rfl, rfl, rfl, rfl⟩ rfl rfl rfl rfl rfl (by kernel_rfl) Try.func6 (by kernel_rfl)
    (of_decide_eq_true (by kernel_rfl)) (by unfold Func.isWrapper; first | (rw [if_pos (by decide +kernel)]; kernel_rfl) | (rw [if_neg (by decide +kernel)]; exact ⟨rfl, rfl⟩))
    (fun os started H enc _ => lifted os started H enc)
theorem proved : Rows.FnExactGroupPensSaid := over
end Go.Proofs.Ytnimjikikfhlpaa.fnExactGroupPens
namespace Go.Proofs.Ytnimjikikfhlpaa
/-- The row, under a short name, for the claim. -/
theorem fnExactGroupPens_holds : Rows.FnExactGroupPensSaid := fnExactGroupPens.proved
end Go.Proofs.Ytnimjikikfhlpaa
#print axioms Go.Proofs.Ytnimjikikfhlpaa.fnExactGroupPens_holds
