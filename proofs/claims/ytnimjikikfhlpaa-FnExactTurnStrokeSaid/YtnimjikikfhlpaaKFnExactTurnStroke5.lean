/-
  FnExactTurnStroke: the law returns true for every input and leaves its arguments as they were (the last theorem here). No condition.
-/
import Derived.Test.YtnimjikikfhlpaaRows
import Derived.ProofKit
import Derived.OpenShut
import Derived.ShutString
import Derived.ChangeOld
import Derived.Test.YtnimjikikfhlpaaKFnExactTurnStroke4

namespace Go.Proofs.Ytnimjikikfhlpaa.F
open Go.RowKit Go.Proofs.YtnimjikikfhlpaaW.PrintWords Go.Proofs.YtnimjikikfhlpaaW.PrintLast Go.Proofs.YtnimjikikfhlpaaW.PrintMore
attribute [local go_sem] max2_int min2_int max_two min_two max_three min_three max_four min_four   -- for this text's walks alone
set_option linter.unusedVariables false
set_option linter.unusedSimpArgs false

/-! ### spec_l28Code: function 65 -/
def spec_l28Code.l0 : Nat → List (S107) → Int → Option (Int)
  | 0, _, _ => none
  | k + 1, x0, x3 => if x3 < (x0.length : Int) then (if 0 ≤ x3 then ((spec_l28Pen.f ((rd_T107 x0 x3).f0)).bind fun t113 => (if t113 = true then ((spec_IsLine.f k ((rd_T107 x0 x3).f1)).bind fun t115 => (if t115 = true then (if (((rd_T107 x0 x3).f1).length : Int) < 2 then (some 1) else (spec_l28Code.l0 k x0 (wrap64 (x3 + 1)))) else (some 1))) else (some 1))) else (none)) else (if (x0.length : Int) > 40 then (some 3) else (some 0))
def spec_l28Code.f (k : Nat) (l0 : List (S107)) : Option (Int) := spec_l28Code.l0 k l0 0
theorem spec_l28Code.mono_l : ∀ k, (∀ y0 y1, LeO (spec_l28Code.l0 k y0 y1) (spec_l28Code.l0 (k + 1) y0 y1))
  | 0 => fun _ _ r h => by simp [spec_l28Code.l0] at h
  | k + 1 => by
    have ih0 := spec_l28Code.mono_l k
    · intro y0 y1
      unfold spec_l28Code.l0
      repeat' first
      | (with_reducible exact ih0 _ _)
      | (with_reducible exact spec_IsLine.mono _ _)
      | (with_reducible exact LeO.refl _)
      | (with_reducible exact LeO.none _)
      | (with_reducible refine LeO.ite ?_ ?_)
      | (with_reducible refine LeO.bind ?_ (fun _ => ?_))
      | exact ih0 _ _
      | exact spec_IsLine.mono _ _
      | exact LeO.none _
      | refine LeO.ite ?_ ?_
      | refine LeO.bind ?_ (fun _ => ?_)
theorem spec_l28Code.mono : ∀ a0 k, LeO (spec_l28Code.f k a0) (spec_l28Code.f (k + 1) a0) := by
  intro a0 k
  have ih0 := spec_l28Code.mono_l k
  unfold spec_l28Code.f
  repeat' first
      | (with_reducible exact ih0 _ _)
      | (with_reducible exact spec_IsLine.mono _ _)
      | (with_reducible exact LeO.refl _)
      | (with_reducible exact LeO.none _)
      | (with_reducible refine LeO.ite ?_ ?_)
      | (with_reducible refine LeO.bind ?_ (fun _ => ?_))
      | exact ih0 _ _
      | exact spec_IsLine.mono _ _
      | exact LeO.none _
      | refine LeO.ite ?_ ?_
      | refine LeO.bind ?_ (fun _ => ?_)
set_option maxHeartbeats 8000000 in
set_option maxRecDepth 100000 in
theorem spec_l28Code.calls (k : Nat) (A0 : Option Addr) (c0 : Nat) (l0 : List (S107)) (r : Int) (w : World) (hr0 : Kd.C k107 w A0 l0.length l0) (hc0 : l0.length ≤ c0) (h : spec_l28Code.f k l0 = some r) :
    Calls Try.prog 65 #[.slice A0 l0.length c0] w fun e w' => e = .returned (.int .i64 r) ∧ Drawn0 w w' := by
  have HR0 := Aside0.mk hr0
  have HC0 := Aside0.mk hc0
  clear hr0 hc0
  have H : (spec_l28Code.l0 k l0 0) = some r := h
  clear h
  have H' := Aside0.mk H
  clear H
  go_enter Try.func65, Try.ntmps65
  go_wp2
  go_loopg [3] k (fun kq v3 w' => ∃ (x3_1 : Int), v3 = .int .i64 x3_1 ∧ Aside0 (spec_l28Code.l0 kq l0 x3_1 = some r) ∧ Aside0 (kq ≤ k) ∧ Drawn0 w w')
  case atStart => exact ⟨(0), (by first | rfl | (simp; done) | (simp [*]; done)), H', ⟨Nat.le_refl _⟩, by repeat (first | exact Drawn0.refl _ | apply Drawn0.step)⟩
  case round =>
    clear H'
    obtain ⟨x3_1, rfl, HA, HK1, ⟨m1, rfl⟩⟩ := hrel
    cases gk with
    | zero => exact absurd HA.out (by simp [spec_l28Code.l0])
    | succ k1 =>
      have H := HA.out
      clear HA
      simp only [spec_l28Code.l0] at H
      by_cases c2 : x3_1 < (l0.length : Int)
      · rw [if_pos c2] at H
        have c2b0 : decide (x3_1 < (l0.length : Int)) = true := decide_eq_true c2
        clear c2
        by_cases c3 : 0 ≤ x3_1
        · rw [if_pos c3] at H
          have c3b0 : decide (0 ≤ x3_1) = true := decide_eq_true c3
          clear c3
          replace H := Option.bind_eq_some_iff.mp H
          obtain ⟨t113, A40, H⟩ := H
          replace H : (if t113 = true then ((spec_IsLine.f k1 ((rd_T107 l0 x3_1).f1)).bind fun t115 => (if t115 = true then (if (((rd_T107 l0 x3_1).f1).length : Int) < 2 then (some 1) else (spec_l28Code.l0 k1 l0 (wrap64 (x3_1 + 1)))) else (some 1))) else (some 1)) = some r := H
          have A4 := Aside0.mk A40
          clear A40
          by_cases c5 : t113 = true
          · subst c5
            have H1 : ((spec_IsLine.f k1 ((rd_T107 l0 x3_1).f1)).bind fun t115 => (if t115 = true then (if (((rd_T107 l0 x3_1).f1).length : Int) < 2 then (some 1) else (spec_l28Code.l0 k1 l0 (wrap64 (x3_1 + 1)))) else (some 1))) = some r := by rw [if_pos rfl] at H; exact H
            clear H
            have H := H1
            clear H1
            replace H := Option.bind_eq_some_iff.mp H
            obtain ⟨t115, A60, H⟩ := H
            replace H : (if t115 = true then (if (((rd_T107 l0 x3_1).f1).length : Int) < 2 then (some 1) else (spec_l28Code.l0 k1 l0 (wrap64 (x3_1 + 1)))) else (some 1)) = some r := H
            have A6 := Aside0.mk A60
            clear A60
            by_cases c7 : t115 = true
            · subst c7
              have H1 : (if (((rd_T107 l0 x3_1).f1).length : Int) < 2 then (some 1) else (spec_l28Code.l0 k1 l0 (wrap64 (x3_1 + 1)))) = some r := by rw [if_pos rfl] at H; exact H
              clear H
              have H := H1
              clear H1
              by_cases c8 : (((rd_T107 l0 x3_1).f1).length : Int) < 2
              · rw [if_pos c8] at H
                have c8b0 : decide ((((rd_T107 l0 x3_1).f1).length : Int) < 2) = true := decide_eq_true c8
                have c8b1 : decide (((rd_T107 l0 x3_1).f1).length < 2) = true := decide_eq_true (by omega)
                clear c8
                obtain rfl := Option.some.inj H
                have p112 : 0 ≤ (x3_1 : Int) := of_decide_eq_true (by first | (with_reducible assumption) | assumption)
                have q112 : x3_1 < (l0.length : Int) := of_decide_eq_true (by first | (with_reducible assumption) | assumption)
                obtain ⟨ad112, A112_1, c112_1, e112, hx112_0, hx112_1, hl112_1, hi112_1⟩ := at_T107 HR0.out x3_1 p112 q112
                cases e112
                have HR112_1 := Aside0.mk hi112_1
                have HC112_1 := Aside0.mk hl112_1
                clear hi112_1 hl112_1
                replace p112 := eq_true p112
                replace q112 := eq_true q112
                go_wp2_with (first | ((with_reducible refine gate_callee (f := 117) rfl ?_); refine goesL_ (some 15) rfl rfl Try.func117 (by kernel_rfl) rfl #[.int .i64 ((rd_T107 l0 x3_1).f0)] rfl (by (try simp only [List.map_toArray, List.map_cons, List.map_nil]); first | done | rfl | (simp only [List.length_drop, List.length_take]; rfl)) ?_; (with_reducible refine (spec_l28Pen.calls ((rd_T107 l0 x3_1).f0) true _ A4.out).mono ?_); rintro e w' ⟨rfl, ⟨nd, rfl⟩⟩; refine ⟨_, rfl, ?_⟩; have p114 : 0 ≤ (x3_1 : Int) := of_decide_eq_true (by first | (with_reducible assumption) | assumption); have q114 : x3_1 < (l0.length : Int) := of_decide_eq_true (by first | (with_reducible assumption) | assumption); obtain ⟨ad114, A114_1, c114_1, e114, hx114_0, hx114_1, hl114_1, hi114_1⟩ := at_T107 HR0.out x3_1 p114 q114; obtain rfl : ad112 = ad114 := (by injection e114); have HR114_1 := Aside0.mk hi114_1; have HC114_1 := Aside0.mk hl114_1; clear hi114_1 hl114_1; replace p114 := eq_true p114; replace q114 := eq_true q114; have ea_ := Option.some.inj (hx112_1.symm.trans hx114_1); injection ea_ with ea_ en_ ec_; subst ea_; subst ec_; clear en_) | (go_at_call 118; (with_reducible refine (spec_IsLine.calls k1 _ _ ((rd_T107 l0 x3_1).f1) true _ ?side1 ?side2 A6.out).mono ?_); (case side1 => repeat (first | exact HR114_1.out | (with_reducible refine Kd.C_alloc ?_ _) | (with_reducible refine Kd.C_drewN ?_ _) | (with_reducible refine Kd.C_drew ?_))); (case side2 => exact HC114_1.out); rintro e w' ⟨rfl, ⟨nd, rfl⟩⟩; have p116 : 0 ≤ (x3_1 : Int) := of_decide_eq_true (by first | (with_reducible assumption) | assumption); have q116 : x3_1 < (l0.length : Int) := of_decide_eq_true (by first | (with_reducible assumption) | assumption); obtain ⟨ad116, A116_1, c116_1, e116, hx116_0, hx116_1, hl116_1, hi116_1⟩ := at_T107 HR0.out x3_1 p116 q116; obtain rfl : ad112 = ad116 := (by injection e116); have HR116_1 := Aside0.mk hi116_1; have HC116_1 := Aside0.mk hl116_1; clear hi116_1 hl116_1; replace p116 := eq_true p116; replace q116 := eq_true q116; have ea_ := Option.some.inj (hx112_1.symm.trans hx116_1); injection ea_ with ea_ en_ ec_; subst ea_; subst ec_; clear en_))
                go_ret
                exact ⟨by first | rfl | (simp; done) | (simp [*]; done), by repeat (first | exact Drawn0.refl _ | apply Drawn0.step)⟩
              · rw [if_neg c8] at H
                have c8b0 : decide ((((rd_T107 l0 x3_1).f1).length : Int) < 2) = false := decide_eq_false c8
                have c8b1 : decide (((rd_T107 l0 x3_1).f1).length < 2) = false := decide_eq_false (by omega)
                clear c8
                have H' := Aside0.mk H
                clear H
                have p112 : 0 ≤ (x3_1 : Int) := of_decide_eq_true (by first | (with_reducible assumption) | assumption)
                have q112 : x3_1 < (l0.length : Int) := of_decide_eq_true (by first | (with_reducible assumption) | assumption)
                obtain ⟨ad112, A112_1, c112_1, e112, hx112_0, hx112_1, hl112_1, hi112_1⟩ := at_T107 HR0.out x3_1 p112 q112
                cases e112
                have HR112_1 := Aside0.mk hi112_1
                have HC112_1 := Aside0.mk hl112_1
                clear hi112_1 hl112_1
                replace p112 := eq_true p112
                replace q112 := eq_true q112
                go_wp2_with (first | ((with_reducible refine gate_callee (f := 117) rfl ?_); refine goesL_ (some 15) rfl rfl Try.func117 (by kernel_rfl) rfl #[.int .i64 ((rd_T107 l0 x3_1).f0)] rfl (by (try simp only [List.map_toArray, List.map_cons, List.map_nil]); first | done | rfl | (simp only [List.length_drop, List.length_take]; rfl)) ?_; (with_reducible refine (spec_l28Pen.calls ((rd_T107 l0 x3_1).f0) true _ A4.out).mono ?_); rintro e w' ⟨rfl, ⟨nd, rfl⟩⟩; refine ⟨_, rfl, ?_⟩; have p114 : 0 ≤ (x3_1 : Int) := of_decide_eq_true (by first | (with_reducible assumption) | assumption); have q114 : x3_1 < (l0.length : Int) := of_decide_eq_true (by first | (with_reducible assumption) | assumption); obtain ⟨ad114, A114_1, c114_1, e114, hx114_0, hx114_1, hl114_1, hi114_1⟩ := at_T107 HR0.out x3_1 p114 q114; obtain rfl : ad112 = ad114 := (by injection e114); have HR114_1 := Aside0.mk hi114_1; have HC114_1 := Aside0.mk hl114_1; clear hi114_1 hl114_1; replace p114 := eq_true p114; replace q114 := eq_true q114; have ea_ := Option.some.inj (hx112_1.symm.trans hx114_1); injection ea_ with ea_ en_ ec_; subst ea_; subst ec_; clear en_) | (go_at_call 118; (with_reducible refine (spec_IsLine.calls k1 _ _ ((rd_T107 l0 x3_1).f1) true _ ?side1 ?side2 A6.out).mono ?_); (case side1 => repeat (first | exact HR114_1.out | (with_reducible refine Kd.C_alloc ?_ _) | (with_reducible refine Kd.C_drewN ?_ _) | (with_reducible refine Kd.C_drew ?_))); (case side2 => exact HC114_1.out); rintro e w' ⟨rfl, ⟨nd, rfl⟩⟩; have p116 : 0 ≤ (x3_1 : Int) := of_decide_eq_true (by first | (with_reducible assumption) | assumption); have q116 : x3_1 < (l0.length : Int) := of_decide_eq_true (by first | (with_reducible assumption) | assumption); obtain ⟨ad116, A116_1, c116_1, e116, hx116_0, hx116_1, hl116_1, hi116_1⟩ := at_T107 HR0.out x3_1 p116 q116; obtain rfl : ad112 = ad116 := (by injection e116); have HR116_1 := Aside0.mk hi116_1; have HC116_1 := Aside0.mk hl116_1; clear hi116_1 hl116_1; replace p116 := eq_true p116; replace q116 := eq_true q116; have ea_ := Option.some.inj (hx112_1.symm.trans hx116_1); injection ea_ with ea_ en_ ec_; subst ea_; subst ec_; clear en_))
                go_roundg k1
                case measure => have := HK1.out; omega
                case rel => exact ⟨(wrap64 (x3_1 + 1)), (by first | rfl | (simp; done) | (simp [*]; done)), H', ⟨by have := HK1.out; omega⟩, by repeat (first | exact Drawn0.refl _ | apply Drawn0.step)⟩
            · replace c7 := Bool.eq_false_iff.mpr c7
              subst c7
              have H1 : (some 1) = some r := by rw [if_neg (show ¬ (false = true) by decide)] at H; exact H
              clear H
              have H := H1
              clear H1
              obtain rfl := Option.some.inj H
              have p112 : 0 ≤ (x3_1 : Int) := of_decide_eq_true (by first | (with_reducible assumption) | assumption)
              have q112 : x3_1 < (l0.length : Int) := of_decide_eq_true (by first | (with_reducible assumption) | assumption)
              obtain ⟨ad112, A112_1, c112_1, e112, hx112_0, hx112_1, hl112_1, hi112_1⟩ := at_T107 HR0.out x3_1 p112 q112
              cases e112
              have HR112_1 := Aside0.mk hi112_1
              have HC112_1 := Aside0.mk hl112_1
              clear hi112_1 hl112_1
              replace p112 := eq_true p112
              replace q112 := eq_true q112
              go_wp2_with (first | ((with_reducible refine gate_callee (f := 117) rfl ?_); refine goesL_ (some 15) rfl rfl Try.func117 (by kernel_rfl) rfl #[.int .i64 ((rd_T107 l0 x3_1).f0)] rfl (by (try simp only [List.map_toArray, List.map_cons, List.map_nil]); first | done | rfl | (simp only [List.length_drop, List.length_take]; rfl)) ?_; (with_reducible refine (spec_l28Pen.calls ((rd_T107 l0 x3_1).f0) true _ A4.out).mono ?_); rintro e w' ⟨rfl, ⟨nd, rfl⟩⟩; refine ⟨_, rfl, ?_⟩; have p114 : 0 ≤ (x3_1 : Int) := of_decide_eq_true (by first | (with_reducible assumption) | assumption); have q114 : x3_1 < (l0.length : Int) := of_decide_eq_true (by first | (with_reducible assumption) | assumption); obtain ⟨ad114, A114_1, c114_1, e114, hx114_0, hx114_1, hl114_1, hi114_1⟩ := at_T107 HR0.out x3_1 p114 q114; obtain rfl : ad112 = ad114 := (by injection e114); have HR114_1 := Aside0.mk hi114_1; have HC114_1 := Aside0.mk hl114_1; clear hi114_1 hl114_1; replace p114 := eq_true p114; replace q114 := eq_true q114; have ea_ := Option.some.inj (hx112_1.symm.trans hx114_1); injection ea_ with ea_ en_ ec_; subst ea_; subst ec_; clear en_) | (go_at_call 118; (with_reducible refine (spec_IsLine.calls k1 _ _ ((rd_T107 l0 x3_1).f1) false _ ?side1 ?side2 A6.out).mono ?_); (case side1 => repeat (first | exact HR114_1.out | (with_reducible refine Kd.C_alloc ?_ _) | (with_reducible refine Kd.C_drewN ?_ _) | (with_reducible refine Kd.C_drew ?_))); (case side2 => exact HC114_1.out); rintro e w' ⟨rfl, ⟨nd, rfl⟩⟩))
              go_ret
              exact ⟨by first | rfl | (simp; done) | (simp [*]; done), by repeat (first | exact Drawn0.refl _ | apply Drawn0.step)⟩
          · replace c5 := Bool.eq_false_iff.mpr c5
            subst c5
            have H1 : (some 1) = some r := by rw [if_neg (show ¬ (false = true) by decide)] at H; exact H
            clear H
            have H := H1
            clear H1
            obtain rfl := Option.some.inj H
            have p112 : 0 ≤ (x3_1 : Int) := of_decide_eq_true (by first | (with_reducible assumption) | assumption)
            have q112 : x3_1 < (l0.length : Int) := of_decide_eq_true (by first | (with_reducible assumption) | assumption)
            obtain ⟨ad112, A112_1, c112_1, e112, hx112_0, hx112_1, hl112_1, hi112_1⟩ := at_T107 HR0.out x3_1 p112 q112
            cases e112
            have HR112_1 := Aside0.mk hi112_1
            have HC112_1 := Aside0.mk hl112_1
            clear hi112_1 hl112_1
            replace p112 := eq_true p112
            replace q112 := eq_true q112
            go_wp2_with (first | ((with_reducible refine gate_callee (f := 117) rfl ?_); refine goesL_ (some 15) rfl rfl Try.func117 (by kernel_rfl) rfl #[.int .i64 ((rd_T107 l0 x3_1).f0)] rfl (by (try simp only [List.map_toArray, List.map_cons, List.map_nil]); first | done | rfl | (simp only [List.length_drop, List.length_take]; rfl)) ?_; (with_reducible refine (spec_l28Pen.calls ((rd_T107 l0 x3_1).f0) false _ A4.out).mono ?_); rintro e w' ⟨rfl, ⟨nd, rfl⟩⟩; refine ⟨_, rfl, ?_⟩))
            go_ret
            exact ⟨by first | rfl | (simp; done) | (simp [*]; done), by repeat (first | exact Drawn0.refl _ | apply Drawn0.step)⟩
        · rw [if_neg c3] at H
          exact absurd H (by simp)
      · rw [if_neg c2] at H
        have c2b0 : decide (x3_1 < (l0.length : Int)) = false := decide_eq_false c2
        clear c2
        by_cases c9 : (l0.length : Int) > 40
        · rw [if_pos c9] at H
          have c9b0 : decide (40 < (l0.length : Int)) = true := decide_eq_true c9
          have c9b1 : decide (40 < l0.length) = true := decide_eq_true (by omega)
          clear c9
          obtain rfl := Option.some.inj H
          go_wp2
          go_ret
          exact ⟨by first | rfl | (simp; done) | (simp [*]; done), by repeat (first | exact Drawn0.refl _ | apply Drawn0.step)⟩
        · rw [if_neg c9] at H
          have c9b0 : decide (40 < (l0.length : Int)) = false := decide_eq_false c9
          have c9b1 : decide (40 < l0.length) = false := decide_eq_false (by omega)
          clear c9
          obtain rfl := Option.some.inj H
          go_wp2
          go_ret
          exact ⟨by first | rfl | (simp; done) | (simp [*]; done), by repeat (first | exact Drawn0.refl _ | apply Drawn0.step)⟩

end Go.Proofs.Ytnimjikikfhlpaa.F

namespace Go.Proofs.Ytnimjikikfhlpaa.F
open Go.RowKit Go.Proofs.YtnimjikikfhlpaaW.PrintWords Go.Proofs.YtnimjikikfhlpaaW.PrintLast Go.Proofs.YtnimjikikfhlpaaW.PrintMore
attribute [local go_sem] max2_int min2_int max_two min_two max_three min_three max_four min_four   -- for this text's walks alone
set_option linter.unusedVariables false
set_option linter.unusedSimpArgs false

/-! ### spec_TurnStroke: function 58 -/
mutual
def spec_TurnStroke.j0 : Nat → List (S107) → Int → Int → Bool → Option ((List (S107)) × Int)
  | 0, _, _, _, _ => none
  | k + 1, x0, x1, x6, x19 => if x19 = true then (spec_TurnStroke.j1 k x0 x1 2) else (spec_TurnStroke.j1 k x0 x1 x6)
def spec_TurnStroke.j1 : Nat → List (S107) → Int → Int → Option ((List (S107)) × Int)
  | 0, _, _, _ => none
  | k + 1, x0, x1, x6 => if x6 = 0 then ((spec_l28Own.f k x0).bind fun t1074 => (if 0 ≤ x1 then (if x1 < (t1074.length : Int) then ((spec_l28Turn.f k ((rd_T107 t1074 x1).f0) ((rd_T107 t1074 x1).f1)).bind fun bt1078 => (some ((t1074.set (x1 : Int).toNat (⟨bt1078.1, bt1078.2⟩ : S107)), 0))) else (none)) else (none))) else (some (([] : List (S107)), x6))
end
def spec_TurnStroke.f (k : Nat) (l0 : List (S107)) (a1 : Int) : Option ((List (S107)) × Int) := (spec_l28Code.f k l0).bind fun t1072 => (if t1072 = 0 then ((spec_l01In.f a1 0 (wrap64 ((l0.length : Int) - 1))).bind fun t1073 => (spec_TurnStroke.j0 k l0 a1 t1072 (!t1073))) else (spec_TurnStroke.j0 k l0 a1 t1072 false))
theorem spec_TurnStroke.mono_l : ∀ k, (∀ y0 y1 y2 y3, LeO (spec_TurnStroke.j0 k y0 y1 y2 y3) (spec_TurnStroke.j0 (k + 1) y0 y1 y2 y3)) ∧ (∀ y0 y1 y2, LeO (spec_TurnStroke.j1 k y0 y1 y2) (spec_TurnStroke.j1 (k + 1) y0 y1 y2))
  | 0 => ⟨fun _ _ _ _ r h => by simp [spec_TurnStroke.j0] at h, fun _ _ _ r h => by simp [spec_TurnStroke.j1] at h⟩
  | k + 1 => by
    obtain ⟨ih0, ih1⟩ := spec_TurnStroke.mono_l k
    refine ⟨?_, ?_⟩
    · intro y0 y1 y2 y3
      unfold spec_TurnStroke.j0
      repeat' first
      | (with_reducible exact ih0 _ _ _ _)
      | (with_reducible exact ih1 _ _ _)
      | (with_reducible exact spec_l28Code.mono _ _)
      | (with_reducible exact spec_l28Own.mono _ _)
      | (with_reducible exact spec_l28Turn.mono _ _ _)
      | (with_reducible exact LeO.refl _)
      | (with_reducible exact LeO.none _)
      | (with_reducible refine LeO.ite ?_ ?_)
      | (with_reducible refine LeO.bind ?_ (fun _ => ?_))
      | exact ih0 _ _ _ _
      | exact ih1 _ _ _
      | exact spec_l28Code.mono _ _
      | exact spec_l28Own.mono _ _
      | exact spec_l28Turn.mono _ _ _
      | exact LeO.none _
      | refine LeO.ite ?_ ?_
      | refine LeO.bind ?_ (fun _ => ?_)
    · intro y0 y1 y2
      unfold spec_TurnStroke.j1
      repeat' first
      | (with_reducible exact ih0 _ _ _ _)
      | (with_reducible exact ih1 _ _ _)
      | (with_reducible exact spec_l28Code.mono _ _)
      | (with_reducible exact spec_l28Own.mono _ _)
      | (with_reducible exact spec_l28Turn.mono _ _ _)
      | (with_reducible exact LeO.refl _)
      | (with_reducible exact LeO.none _)
      | (with_reducible refine LeO.ite ?_ ?_)
      | (with_reducible refine LeO.bind ?_ (fun _ => ?_))
      | exact ih0 _ _ _ _
      | exact ih1 _ _ _
      | exact spec_l28Code.mono _ _
      | exact spec_l28Own.mono _ _
      | exact spec_l28Turn.mono _ _ _
      | exact LeO.none _
      | refine LeO.ite ?_ ?_
      | refine LeO.bind ?_ (fun _ => ?_)
theorem spec_TurnStroke.mono : ∀ a0 a1 k, LeO (spec_TurnStroke.f k a0 a1) (spec_TurnStroke.f (k + 1) a0 a1) := by
  intro a0 a1 k
  obtain ⟨ih0, ih1⟩ := spec_TurnStroke.mono_l k
  unfold spec_TurnStroke.f
  repeat' first
      | (with_reducible exact ih0 _ _ _ _)
      | (with_reducible exact ih1 _ _ _)
      | (with_reducible exact spec_l28Code.mono _ _)
      | (with_reducible exact spec_l28Own.mono _ _)
      | (with_reducible exact spec_l28Turn.mono _ _ _)
      | (with_reducible exact LeO.refl _)
      | (with_reducible exact LeO.none _)
      | (with_reducible refine LeO.ite ?_ ?_)
      | (with_reducible refine LeO.bind ?_ (fun _ => ?_))
      | exact ih0 _ _ _ _
      | exact ih1 _ _ _
      | exact spec_l28Code.mono _ _
      | exact spec_l28Own.mono _ _
      | exact spec_l28Turn.mono _ _ _
      | exact LeO.none _
      | refine LeO.ite ?_ ?_
      | refine LeO.bind ?_ (fun _ => ?_)
set_option maxHeartbeats 8000000 in
set_option maxRecDepth 100000 in
theorem spec_TurnStroke.calls (k : Nat) (A0 : Option Addr) (c0 : Nat) (l0 : List (S107)) (a1 : Int) (r1 : List (S107)) (r2 : Int) (w : World) (hr0 : Kd.C k107 w A0 l0.length l0) (hc0 : l0.length ≤ c0) (h : spec_TurnStroke.f k l0 a1 = some (r1, r2)) :
    Calls Try.prog 58 #[.slice A0 l0.length c0, .int .i64 a1] w fun e w' => ∃ v0_ : Value, e = .returned (.tuple #[v0_, .int .i64 r2]) ∧ Kd.S k107 107 w' w.heap.size (fun _ => True) v0_ r1 ∧ Below w.heap.size w w' := by
  have hu107 := Try.underlying107
  have HR0 := Aside0.mk hr0
  have HC0 := Aside0.mk hc0
  clear hr0 hc0
  have HB := Aside0.mk (Below.refl w.heap.size w)
  have H : ((spec_l28Code.f k l0).bind fun t1072 => (if t1072 = 0 then ((spec_l01In.f a1 0 (wrap64 ((l0.length : Int) - 1))).bind fun t1073 => (spec_TurnStroke.j0 k l0 a1 t1072 (!t1073))) else (spec_TurnStroke.j0 k l0 a1 t1072 false))) = some (r1, r2) := h
  clear h
  replace H := Option.bind_eq_some_iff.mp H
  obtain ⟨t1072, A30, H⟩ := H
  replace H : (if t1072 = 0 then ((spec_l01In.f a1 0 (wrap64 ((l0.length : Int) - 1))).bind fun t1073 => (spec_TurnStroke.j0 k l0 a1 t1072 (!t1073))) else (spec_TurnStroke.j0 k l0 a1 t1072 false)) = some (r1, r2) := H
  have A3 := Aside0.mk A30
  clear A30
  have HC4 := Aside0.mk H
  clear H
  go_enter Try.func58, Try.ntmps58
  go_upto_region 2 with (first | ((with_reducible refine gate_callee (f := 65) rfl ?_); refine goesL_ (some 9) rfl rfl Try.func65 (by kernel_rfl) rfl #[.slice A0 l0.length c0] rfl (by (try simp only [List.map_toArray, List.map_cons, List.map_nil]); first | done | rfl | (simp only [List.length_drop, List.length_take]; rfl)) ?_; (with_reducible refine (spec_l28Code.calls k _ _ l0 t1072 _ ?side1 ?side2 A3.out).mono ?_); (case side1 => repeat (first | exact HR0.out | (with_reducible refine Kd.C_alloc ?_ _) | (with_reducible refine Kd.C_drewN ?_ _) | (with_reducible refine Kd.C_drew ?_))); (case side2 => exact HC0.out); rintro e w' ⟨rfl, ⟨nd, rfl⟩⟩; refine ⟨_, rfl, ?_⟩))
  (try simp only [Act.put, List.setIfInBounds_toArray, List.set_cons_zero, List.set_cons_succ])
  go_cut [19] (fun v19 wc => ∃ (kq : Nat) (x19_3 : Bool), v19 = .bool x19_3 ∧ Aside0 (spec_TurnStroke.j0 kq l0 a1 t1072 x19_3 = some (r1, r2)) ∧ Aside0 (kq ≤ k) ∧ Aside0 (Below w.heap.size w wc))
  case first =>
    have H := HC4.out
    clear HC4
    by_cases c5 : t1072 = 0
    · rw [if_pos c5] at H
      have c5b0 : (t1072 == 0) = true := beq_iff_eq.mpr c5
      have c5b1 : (t1072 != 0) = false := bne_eq_false_iff_eq.mpr c5
      clear c5
      (first | rw [c5b0] | (simp only [i64_w, i32_w]; rw [c5b0]) | skip)
      replace H := Option.bind_eq_some_iff.mp H
      obtain ⟨t1073, A60, H⟩ := H
      replace H : (spec_TurnStroke.j0 k l0 a1 t1072 (!t1073)) = some (r1, r2) := H
      have A6 := Aside0.mk A60
      clear A60
      have H' := Aside0.mk H
      clear H
      go_wp2_with (first | (go_at_call 72; (with_reducible refine (spec_l01In.calls a1 0 (wrap64 ((l0.length : Int) - 1)) t1073 _ A6.out).mono ?_); rintro e w' ⟨rfl, ⟨nd, rfl⟩⟩))
      go_meet
      case rel => exact ⟨_, (!t1073), (by first | rfl | (simp; done) | (simp [*]; done)), H', ⟨by first | omega | exact Nat.le_refl _⟩, ⟨by repeat (first | (with_reducible first | exact HB.out | apply below_alloc | apply pw_below_drewN | apply below_drew1) | exact HB.out)⟩⟩
    · rw [if_neg c5] at H
      have c5b0 : (t1072 == 0) = false := beq_eq_false_iff_ne.mpr c5
      have c5b1 : (t1072 != 0) = true := bne_iff_ne.mpr c5
      (first | rw [c5b0] | (simp only [i64_w, i32_w]; rw [c5b0]) | skip)
      have H' := Aside0.mk H
      clear H
      go_wp2
      go_meet
      case rel => exact ⟨_, (false), (by first | rfl | (simp; done) | (simp [*]; done)), H', ⟨by first | omega | exact Nat.le_refl _⟩, ⟨by repeat (first | (with_reducible first | exact HB.out | apply below_alloc | apply pw_below_drewN | apply below_drew1) | exact HB.out)⟩⟩
  case rest =>
    clear HC4
    try clear p2
    try clear c5
    try clear c5b0
    try clear c5b1
    try clear c6
    try clear p6
    obtain ⟨kq, x19_3, rfl, HA, HJ3, HB⟩ := hcut
    cases kq with
    | zero => exact absurd HA.out (by simp [spec_TurnStroke.j0])
    | succ kj3 =>
      have H := HA.out
      clear HA
      simp only [spec_TurnStroke.j0] at H
      have HC7 := Aside0.mk H
      clear H
      go_upto_if 19 with (fail)
      go_cut [6] (fun v6 wc => ∃ (kq : Nat) (x6_6 : Int), v6 = .int .i64 x6_6 ∧ Aside0 (spec_TurnStroke.j1 kq l0 a1 x6_6 = some (r1, r2)) ∧ Aside0 (kq ≤ kj3) ∧ Aside0 (Below w.heap.size w wc))
      case first =>
        have H := HC7.out
        clear HC7
        by_cases c8 : x19_3 = true
        · subst c8
          have H1 : (spec_TurnStroke.j1 kj3 l0 a1 2) = some (r1, r2) := by rw [if_pos rfl] at H; exact H
          clear H
          have H := H1
          clear H1
          have H' := Aside0.mk H
          clear H
          go_wp2
          go_meet
          case rel => exact ⟨_, (2), (by first | rfl | (simp; done) | (simp [*]; done)), H', ⟨by have := HJ3.out; first | omega | exact Nat.le_refl _⟩, ⟨by repeat (first | (with_reducible first | exact HB.out | apply below_alloc | apply pw_below_drewN | apply below_drew1) | exact HB.out)⟩⟩
        · replace c8 := Bool.eq_false_iff.mpr c8
          subst c8
          have H1 : (spec_TurnStroke.j1 kj3 l0 a1 t1072) = some (r1, r2) := by rw [if_neg (show ¬ (false = true) by decide)] at H; exact H
          clear H
          have H := H1
          clear H1
          have H' := Aside0.mk H
          clear H
          go_wp2
          go_meet
          case rel => exact ⟨_, (t1072), (by first | rfl | (simp; done) | (simp [*]; done)), H', ⟨by have := HJ3.out; first | omega | exact Nat.le_refl _⟩, ⟨by repeat (first | (with_reducible first | exact HB.out | apply below_alloc | apply pw_below_drewN | apply below_drew1) | exact HB.out)⟩⟩
      case rest =>
        clear HC7
        try clear p2
        try clear c5
        try clear c5b0
        try clear c5b1
        try clear c6
        try clear p6
        try clear c8
        try clear p2
        try clear p6
        obtain ⟨kq, x6_6, rfl, HA, HJ6, HB⟩ := hcut
        cases kq with
        | zero => exact absurd HA.out (by simp [spec_TurnStroke.j1])
        | succ kj6 =>
          have H := HA.out
          clear HA
          simp only [spec_TurnStroke.j1] at H
          by_cases c9 : x6_6 = 0
          · rw [if_pos c9] at H
            have c9b0 : (x6_6 == 0) = true := beq_iff_eq.mpr c9
            have c9b1 : (x6_6 != 0) = false := bne_eq_false_iff_eq.mpr c9
            clear c9
            replace H := Option.bind_eq_some_iff.mp H
            obtain ⟨t1074, A100, H⟩ := H
            replace H : (if 0 ≤ a1 then (if a1 < (t1074.length : Int) then ((spec_l28Turn.f kj6 ((rd_T107 t1074 a1).f0) ((rd_T107 t1074 a1).f1)).bind fun bt1078 => (some ((t1074.set (a1 : Int).toNat (⟨bt1078.1, bt1078.2⟩ : S107)), 0))) else (none)) else (none)) = some (r1, r2) := H
            have A10 := Aside0.mk A100
            clear A100
            by_cases c11 : 0 ≤ a1
            · rw [if_pos c11] at H
              have c11b0 : decide (0 ≤ a1) = true := decide_eq_true c11
              clear c11
              by_cases c12 : a1 < (t1074.length : Int)
              · rw [if_pos c12] at H
                have c12b0 : decide (a1 < (t1074.length : Int)) = true := decide_eq_true c12
                clear c12
                replace H := Option.bind_eq_some_iff.mp H
                obtain ⟨⟨t1078, t1079⟩, A130, H⟩ := H
                replace H : (some ((t1074.set (a1 : Int).toNat (⟨t1078, t1079⟩ : S107)), 0)) = some (r1, r2) := H
                have A13 := Aside0.mk A130
                clear A130
                obtain ⟨y1082, hy1082⟩ : ∃ y_ : List (S107), y_ = (t1074.set (a1 : Int).toNat (⟨t1078, t1079⟩ : S107)) := ⟨_, rfl⟩
                replace H : (some (y1082, 0)) = some (r1, r2) := by first | (rw [hy1082]; with_reducible exact H) | (have H2_ := (Option.bind_some _ _).symm.trans H; rw [hy1082]; with_reducible exact H2_) | (have H2_ := (Option.bind_some _ _).symm.trans H; with_reducible exact H2_) | with_reducible exact H | (rw [hy1082]; exact H) | exact H
                have Ny1082 := Aside0.mk hy1082
                clear hy1082
                simp only [Option.some.injEq, Prod.mk.injEq] at H
                obtain ⟨rfl, rfl⟩ := H
                go_wp2_with (first | ((with_reducible refine gate_callee (f := 112) rfl ?_); refine goesL_ (some 24) rfl rfl Try.func112 (by kernel_rfl) rfl #[.slice A0 l0.length c0] rfl (by (try simp only [List.map_toArray, List.map_cons, List.map_nil]); first | done | rfl | (simp only [List.length_drop, List.length_take]; rfl)) ?_; (with_reducible refine (spec_l28Own.calls kj6 _ _ l0 t1074 _ ?side1 ?side2 A10.out).mono ?_); (case side1 => repeat (first | exact (Kd.C_below HR0.out HB.out) | (with_reducible refine Kd.C_alloc ?_ _) | (with_reducible refine Kd.C_drewN ?_ _) | (with_reducible refine Kd.C_drew ?_))); (case side2 => exact HC0.out); rintro e w15 ⟨v1075, rfl, ho0, hb⟩; refine ⟨_, rfl, ?_⟩; have hst_v1075 := fun (a_ : Addr) (w_ : World) (m_ : Mode) => run_store Try.prog w_ a_ v1075 m_ (by obtain ⟨_, _, e_⟩ : ∃ A_ c_, v1075 = Value.slice A_ _ c_ := (by first | exact Kd.R_slice ho0 | exact Kd.S_slice ho0); rw [e_]; rfl); have n0_ := Aside0.mk (Kd.S_lower ho0 (below_size (by repeat (first | (with_reducible first | exact HB.out | apply below_alloc | apply pw_below_drewN | apply below_drew1) | exact HB.out)))); have n1_ := Aside0.mk (below_step (by repeat (first | (with_reducible first | exact HB.out | apply below_alloc | apply pw_below_drewN | apply below_drew1) | exact HB.out)) hb); clear HB; have HO1076 := n0_; have HB := n1_; clear n0_ n1_; (try clear hb); (try clear hb2); (try clear hk); (try clear hi); (try clear ho0); obtain ⟨Ao16, co16, eo16⟩ := Kd.S_slice HO1076.out; subst eo16; have p1077 : 0 ≤ (a1 : Int) := of_decide_eq_true (by first | (with_reducible assumption) | assumption); have q1077 : a1 < (t1074.length : Int) := of_decide_eq_true (by first | (with_reducible assumption) | assumption); obtain ⟨ad1077, A1077_1, c1077_1, e1077, hx1077_0, hx1077_1, hl1077_1, hi1077_1⟩ := at_T107 (Kd.S_reads' HO1076.out).2.2 a1 p1077 q1077; cases e1077; obtain ⟨ce1077, hce1077, hMe1077, hcc1077⟩ := Kd.S_get HO1076.out z107 a1 p1077 (by first | exact q1077 | exact of_decide_eq_true (by first | (with_reducible assumption) | assumption) | (have e_ := (Kd.S_reads' HO1076.out).1; omega)); obtain ⟨ve1077_1, rfl, ge1077_1⟩ := k107_openM hMe1077; have hv1077_1 := hcc1077 1 _ rfl; rw [add_field _ _ 1 (by omega)] at hv1077_1; replace hv1077_1 := Option.some.inj (hv1077_1.symm.trans hx1077_1); rw [hv1077_1] at ge1077_1; have HL1077_1 := Aside0.mk (show Kd.R k142 142 _ _ _ _ ((rd_T107 t1074 a1).f1) from ge1077_1); clear hv1077_1 ge1077_1; clear hcc1077 hce1077; have HR1077_1 := Aside0.mk hi1077_1; have HC1077_1 := Aside0.mk hl1077_1; clear hi1077_1 hl1077_1; replace p1077 := eq_true p1077; replace q1077 := eq_true q1077) | ((with_reducible refine gate_callee (f := 113) rfl ?_); refine goesL_ (some 31) rfl rfl Try.func113 (by kernel_rfl) rfl #[.agg #[.int .i64 ((rd_T107 t1074 a1).f0), .slice A1077_1 ((rd_T107 t1074 a1).f1).length c1077_1]] rfl (by (try simp only [List.map_toArray, List.map_cons, List.map_nil]); first | done | rfl | (simp only [List.length_drop, List.length_take]; rfl)) ?_; (with_reducible refine (spec_l28Turn.calls kj6 ((rd_T107 t1074 a1).f0) _ _ ((rd_T107 t1074 a1).f1) t1078 t1079 _ ?side1 ?side2 A13.out).mono ?_); (case side1 => repeat (first | exact (by repeat (first | (with_reducible exact HR1077_1.out) | (with_reducible refine Kd.C_alloc ?_ _) | (with_reducible refine Kd.C_drewN ?_ _) | (with_reducible refine Kd.C_drew ?_) | exact HR1077_1.out)) | (with_reducible refine Kd.C_alloc ?_ _) | (with_reducible refine Kd.C_drewN ?_ _) | (with_reducible refine Kd.C_drew ?_))); (case side2 => exact HC1077_1.out); rintro e w17 ⟨v1080, rfl, ho0, hb⟩; refine ⟨_, rfl, ?_⟩; have hst_v1080 := fun (a_ : Addr) (w_ : World) (m_ : Mode) => run_store Try.prog w_ a_ v1080 m_ (by obtain ⟨_, _, e_⟩ : ∃ A_ c_, v1080 = Value.slice A_ _ c_ := (by first | exact Kd.R_slice ho0 | exact Kd.S_slice ho0); rw [e_]; rfl); have n0_ := Aside0.mk (Kd.S_elder' (by (with_reducible repeat (first | apply Kd.S_alloc | apply Kd.S_drewN | apply Kd.S_drew)); exact HO1076.out) (Kd.R_base ho0) hb); have n1_ := Aside0.mk (Kd.R_elder' (by (with_reducible repeat (first | apply Kd.R_alloc | apply Kd.R_drewN | apply Kd.R_drew)); exact HL1077_1.out) (Kd.R_base ho0) hb); have n2_ := Aside0.mk (Kd.R_lower (Kd.R_new' ho0 (Kd.R_lt (by (with_reducible repeat (first | apply Kd.R_alloc | apply Kd.R_drewN | apply Kd.R_drew)); exact HL1077_1.out))) (below_size (by repeat (first | (with_reducible first | exact HB.out | apply below_alloc | apply pw_below_drewN | apply below_drew1) | exact HB.out)))); have n3_ := Aside0.mk (Kd.C_below (by repeat (first | (with_reducible exact HR1077_1.out) | (with_reducible refine Kd.C_alloc ?_ _) | (with_reducible refine Kd.C_drewN ?_ _) | (with_reducible refine Kd.C_drew ?_) | exact HR1077_1.out)) hb); have n4_ := Aside0.mk (below_step (by repeat (first | (with_reducible first | exact HB.out | apply below_alloc | apply pw_below_drewN | apply below_drew1) | exact HB.out)) hb); clear HO1076; clear HL1077_1; clear HR1077_1; clear HB; have HO1076 := n0_; have HL1077_1 := n1_; have HO1081 := n2_; have HR1077_1 := n3_; have HB := n4_; clear n0_ n1_ n2_ n3_ n4_; (try clear hb); (try clear hb2); (try clear hk); (try clear hi); (try clear ho0); have p14 : 0 ≤ (a1 : Int) := of_decide_eq_true (by first | (with_reducible assumption) | assumption); have q14 : (a1 : Int) < ((t1074.length : Int) : Int) := of_decide_eq_true (by first | (with_reducible assumption) | assumption); obtain ⟨go14, co14, eo14, gb14, gl14, cl14, HG14⟩ := Kd.S_form HO1076.out (by omega); (first | cases eo14 | (injection eo14 with ea_ en_ ec_; (first | subst ea_ | (injection ea_ with ea_; subst ea_)); subst ec_; clear en_)); have GB14 := Aside0.mk gb14; have GG14 := Aside0.mk HG14; clear gb14 gl14 HG14; (first | simp only [add_plain] at hx1077_0 | skip); (first | simp only [add_plain] at hx1077_1 | skip); obtain ⟨_, ce14, hcl14, hM14, hcc14, hfr14, _, _⟩ := Kd.S_elem HO1076.out z107 (a1 : Int) p14 q14; obtain ⟨ve14_1, rfl, ge14_1⟩ := k107_openM hM14; have hx14_0 : w17.cell? ⟨go14, (a1 : Int).toNat * 2, none⟩ = some (.int .i64 ((rd_T107 t1074 a1).f0)) := hcc14 0 _ rfl; have hx14_1 : w17.cell? ⟨go14, (a1 : Int).toNat * 2 + 1, none⟩ = some (ve14_1) := hcc14 1 _ rfl; have hf14_0 : w17.frozen? ⟨go14, (a1 : Int).toNat * 2, none⟩ = false := hfr14 0; have hf14_1 : w17.frozen? ⟨go14, (a1 : Int).toNat * 2 + 1, none⟩ = false := hfr14 1; clear hcl14 hcc14 hfr14 hM14; replace p14 := eq_true p14; replace q14 := eq_true q14; have n_ := Aside0.mk (Kd.S_mono (ok' := (fun k_ => some k_ ≠ (v1080 : Value).ownBlock)) HO1076.out (fun k_ hk => hk.2)); clear HO1076; have HO1076 := n_; clear n_; have HX18 := Aside0.mk (show Kd.S k107 107 w17 w.heap.size (fun k_ => ((fun _ => True)) k_ ∧ ¬ ((fun k_ => some k_ = (v1080 : Value).ownBlock)) k_) (.slice (some ⟨go14, 0, none⟩) t1074.length co16) t1074 from (by (with_reducible repeat (first | apply Kd.S_alloc | apply Kd.S_drewN | apply Kd.S_drew)); exact Kd.S_mono HO1076.out (fun k_ hk => ⟨trivial, fun e_ => hk e_⟩))); obtain ⟨oki18, ce18, hcl18, hM18, hcc18, hfr18, hoki18, hH18⟩ := Kd.S_elem HX18.out z107 (a1 : Int) (of_decide_eq_true (by first | (with_reducible assumption) | assumption)) (by have h_ : (a1 : Int) < ((t1074.length : Int) : Int) := of_decide_eq_true (by first | (with_reducible assumption) | assumption); first | exact h_ | (have e_ := (Kd.S_reads' HO1076.out).1; omega) | simpa using h_); obtain ⟨ve18_1, rfl, ge18_1⟩ := k107_openM hM18; have HP18 := Kd.S_seg hH18 (of_decide_eq_true (by first | (with_reducible assumption) | assumption)) (by have h_ : (a1 : Int) < ((t1074.length : Int) : Int) := of_decide_eq_true (by first | (with_reducible assumption) | assumption); first | exact h_ | (have e_ := (Kd.S_reads' HO1076.out).1; omega) | simpa using h_) (seg := [.int .i64 t1078, v1080]) (j := 0) (show 2 ≤ 2 from by decide) (x' := (⟨t1078, t1079⟩ : S107)) (k107_mkM _ _ _ (⟨t1078, t1079⟩ : S107) (Kd.R_mono (Kd.R_tight rfl (Kd.R_mono (ok' := fun k_ => ((fun _ => True)) k_ ∧ k_ ≠ go14) (Kd.R_apart' (HO1081.out) (Kd.S_typed HO1076.out) (by decide)) (fun k_ hk => ⟨trivial, fun e_ => (hk.2) (by rw [e_]; rfl)⟩))) (fun _ h_ => Or.inr (h_)))) (fun _ hk => hk) (fun k_ hk_ => ((Kd.R_mono (ok' := fun k_ => ((fun _ => True)) k_ ∧ k_ ≠ go14) (Kd.R_apart' (HO1081.out) (Kd.S_typed HO1076.out) (by decide)) (fun k_ hk => ⟨trivial, fun e_ => (hk.2) (by rw [e_]; rfl)⟩))).1 k_ hk_.symm); have hx18_0 := hcc18 0 _ rfl; (try simp only [show (k107).sz = 2 from rfl, Nat.mul_one, Nat.add_zero] at hx18_0); have hf18_0 := hfr18 0; (try simp only [show (k107).sz = 2 from rfl, Nat.mul_one, Nat.add_zero] at hf18_0); have hx18_1 := hcc18 1 _ rfl; (try simp only [show (k107).sz = 2 from rfl, Nat.mul_one, Nat.add_zero] at hx18_1); have hf18_1 := hfr18 1; (try simp only [show (k107).sz = 2 from rfl, Nat.mul_one, Nat.add_zero] at hf18_1); clear hcl18 hcc18 hfr18 hM18 hoki18 hH18) | ((with_reducible refine gate_store (t := 107) (p := 32) rfl ?_); refine store_event (t := 107) (p := 32) (v := ?vo_w19) (w1 := ((w17.setCell ⟨go14, (a1 : Int).toNat * 2, none⟩ (.int .i64 t1078)).setCell ⟨go14, (a1 : Int).toNat * 2 + 1, none⟩ (v1080))) ?hg ?ho ?hn ?hr ?_; (case ho => rfl); (case hg => rfl); (case hn => rfl); (case hr => first | (go_simp; done) | (go_simp; rfl)); intro w19 hw; have hg : w17.grownBy w19 (some go14) := (by rw [hw]; exact HP18.2); have hp_ : Kd.S k107 107 w19 w.heap.size (fun _ => True) (.slice (some ⟨go14, 0, none⟩) t1074.length co16) y1082 := (by rw [hw, Ny1082.out]; exact HP18.1); clear HP18; have n0_ := Aside0.mk (hp_); have n1_ := Aside0.mk (Kd.R_after (v := (.slice (some ⟨go14, 0, none⟩) t1074.length co16)) (v1 := (.slice (some ⟨go14, 0, none⟩) t1074.length co16)) (ok := (fun k_ => some k_ ≠ (v1080 : Value).ownBlock)) (by (with_reducible repeat (first | apply Kd.R_alloc | apply Kd.R_drewN | apply Kd.R_drew)); exact Kd.R_mono HL1077_1.out (fun _ hk => ⟨hk.2, hk.1.2⟩)) hg (.inl rfl)); have n2_ := Aside0.mk ((by rw [hw]; exact below_set (below_set (HB.out) GB14.out) GB14.out : Below w.heap.size w w19)); clear HO1076; clear HL1077_1; clear HB; clear HO1081; have HO1076 := n0_; have HL1077_1 := n1_; have HB := n2_; clear n0_ n1_ n2_; clear hg hw hp_))
                go_ret2
                exact ⟨_, by first | rfl | (simp [errW_none, errW_some] <;> rfl) | (simp [*, errW_none, errW_some] <;> rfl), by (with_reducible repeat (first | apply Kd.S_alloc | apply Kd.S_drewN | apply Kd.S_drew)); exact HO1076.out, by repeat (first | (with_reducible first | exact HB.out | apply below_alloc | apply pw_below_drewN | apply below_drew1) | exact HB.out)⟩
              · rw [if_neg c12] at H
                exact absurd H (by simp)
            · rw [if_neg c11] at H
              exact absurd H (by simp)
          · rw [if_neg c9] at H
            have c9b0 : (x6_6 == 0) = false := beq_eq_false_iff_ne.mpr c9
            have c9b1 : (x6_6 != 0) = true := bne_iff_ne.mpr c9
            simp only [Option.some.injEq, Prod.mk.injEq] at H
            obtain ⟨rfl, rfl⟩ := H
            go_wp2
            go_ret2
            exact ⟨_, by first | rfl | (simp [errW_none, errW_some] <;> rfl) | (simp [*, errW_none, errW_some] <;> rfl), by first | exact Kd.S_nil _ _ _ _ _ | exact Kd.N_nil _ _ _ _ _ | exact Kd.V_nil _ _ _ _ _ | exact Kd.Q_nil _ _ _ _ _ | exact Kd.R_nil _ _ _ _ _, by repeat (first | (with_reducible first | exact HB.out | apply below_alloc | apply pw_below_drewN | apply below_drew1) | exact HB.out)⟩

end Go.Proofs.Ytnimjikikfhlpaa.F

namespace Go.Proofs.Ytnimjikikfhlpaa.Pure
open Go.RowKit Go.Proofs.Ytnimjikikfhlpaa.F Go.Proofs.YtnimjikikfhlpaaW.PrintWords Go.Proofs.YtnimjikikfhlpaaW.PrintLast Go.Proofs.YtnimjikikfhlpaaW.PrintMore Go.Proofs.YtnimjikikfhlpaaB
set_option linter.unusedVariables false
set_option linter.unusedSimpArgs false
theorem spec_l01In_f (a b c : Int) : spec_l01In.f a b c = some (inB a b c) := inB_if a b c

end Go.Proofs.Ytnimjikikfhlpaa.Pure

namespace Go.Proofs.Ytnimjikikfhlpaa.Pure
open Go.RowKit Go.Proofs.Ytnimjikikfhlpaa.F Go.Proofs.YtnimjikikfhlpaaW.PrintWords Go.Proofs.YtnimjikikfhlpaaW.PrintLast Go.Proofs.YtnimjikikfhlpaaW.PrintMore Go.Proofs.YtnimjikikfhlpaaB
set_option linter.unusedVariables false
set_option linter.unusedSimpArgs false
theorem spec_l14Point_f (a b : Int) : spec_l14Point.f a b = some (inB a (-1000000) 1000000 && inB b (-1000000) 1000000) := by
  simp only [spec_l14Point.f, spec_l01In_f, Option.bind_some]
  cases inB a (-1000000) 1000000 <;> simp

end Go.Proofs.Ytnimjikikfhlpaa.Pure

namespace Go.Proofs.Ytnimjikikfhlpaa.Pure
open Go.RowKit Go.Proofs.Ytnimjikikfhlpaa.F Go.Proofs.YtnimjikikfhlpaaW.PrintWords Go.Proofs.YtnimjikikfhlpaaW.PrintLast Go.Proofs.YtnimjikikfhlpaaW.PrintMore Go.Proofs.YtnimjikikfhlpaaB
set_option linter.unusedVariables false
set_option linter.unusedSimpArgs false
theorem spec_l16Points_l0 (xs : List S142) (hx : xs.length ≤ 9223372036854775807) : ∀ (ys : List S142) (m : Nat), xs.drop m = ys → Ev (fun k => spec_l16Points.l0 k xs m) (ys.all ptB)
  | [], m, h => by
    have := drop_nil h
    exact ev_step (fun _ => rfl) (ev_neg (by omega) (ev_now rfl))
  | y :: ys, m, h => by
    obtain ⟨hm, _, hd⟩ := drop_cons h
    refine ev_step (fun _ => rfl) (ev_pos (by omega) (ev_pos (by omega) ?_))
    rw [rdP h, w64 (by omega) (by omega)]
    refine ev_some (spec_l14Point_f _ _) ?_
    rw [List.all_cons, show (inB y.f0 (-1000000) 1000000 && inB y.f1 (-1000000) 1000000) = ptB y from rfl]
    cases ptB y
    · exact ev_neg (by simp) (ev_now (by simp))
    · exact ev_pos rfl (ev_eq (spec_l16Points_l0 xs hx ys (m + 1) hd) (by simp))
theorem spec_l16Points_f (xs : List S142) (hx : xs.length ≤ 9223372036854775807) : Ev (fun k => spec_l16Points.f k xs) (xs.all ptB) := spec_l16Points_l0 xs hx xs 0 rfl

end Go.Proofs.Ytnimjikikfhlpaa.Pure

namespace Go.Proofs.Ytnimjikikfhlpaa.Pure
open Go.RowKit Go.Proofs.Ytnimjikikfhlpaa.F Go.Proofs.YtnimjikikfhlpaaW.PrintWords Go.Proofs.YtnimjikikfhlpaaW.PrintLast Go.Proofs.YtnimjikikfhlpaaW.PrintMore Go.Proofs.YtnimjikikfhlpaaB
set_option linter.unusedVariables false
set_option linter.unusedSimpArgs false
theorem spec_IsLine_f (l : List S142) : Ev (fun k => spec_IsLine.f k l) (lineB l) := by
  unfold lineB
  by_cases h : l.length ≤ 200
  · rw [decide_eq_true h, Bool.true_and]
    exact ev_pos (by omega) (ev_bind (spec_l16Points_f l (by omega)) (ev_now rfl))
  · rw [decide_eq_false h, Bool.false_and]
    exact ev_neg (by omega) (ev_now rfl)

end Go.Proofs.Ytnimjikikfhlpaa.Pure

namespace Go.Proofs.Ytnimjikikfhlpaa.Pure
open Go.RowKit Go.Proofs.Ytnimjikikfhlpaa.F Go.Proofs.YtnimjikikfhlpaaW.PrintWords Go.Proofs.YtnimjikikfhlpaaW.PrintLast Go.Proofs.YtnimjikikfhlpaaW.PrintMore Go.Proofs.YtnimjikikfhlpaaB
set_option linter.unusedVariables false
set_option linter.unusedSimpArgs false
theorem spec_ReverseLine_l0 (l : List S142) (hl : l.length ≤ 1048576) : ∀ (d : Nat) (out : List S142), d ≤ l.length → out.length + d ≤ l.length →
    Ev (fun k => spec_ReverseLine.l0 k l out ((d : Int) - 1)) (out ++ (l.take d).reverse, 0) := by
  intro d
  induction d with
  | zero =>
    intro out hd ho
    refine ev_step (fun _ => rfl) (ev_neg (by omega) (ev_now ?_))
    simp
  | succ d ih =>
    intro out hd ho
    obtain ⟨y, hy⟩ : ∃ y, l[d]? = some y := ⟨l[d], List.getElem?_eq_getElem (by omega)⟩
    have hdr : l.drop d = y :: l.drop (d + 1) := by
      rw [List.getElem?_eq_getElem (by omega)] at hy
      injection hy with hy
      rw [← hy]
      exact List.drop_eq_getElem_cons (by omega)
    rw [show ((d + 1 : Nat) : Int) - 1 = (d : Int) by omega]
    refine ev_step (fun _ => rfl) (ev_pos (by omega) (ev_pos (by omega) (ev_pos (by omega) (ev_pos (by omega) ?_))))
    rw [rdP hdr, w64 (by omega) (by omega)]
    refine ev_eq (ih _ (by omega) (by simp; omega)) ?_
    rw [take_snoc hdr, List.reverse_append, List.append_assoc]
    rfl
theorem spec_ReverseLine_f (l : List S142) (hl : lineB l = true) : Ev (fun k => spec_ReverseLine.f k l) (l.reverse, 0) := by
  have h2 : l.length ≤ 200 := by
    unfold lineB at hl
    simp only [Bool.and_eq_true, decide_eq_true_eq] at hl
    exact hl.1
  refine ev_bind (spec_IsLine_f l) ?_
  rw [hl]
  refine ev_pos rfl ?_
  rw [w64 (by omega) (by omega)]
  have h := spec_ReverseLine_l0 l (by omega) l.length [] (by omega) (by simp)
  rw [List.take_length] at h
  exact h

end Go.Proofs.Ytnimjikikfhlpaa.Pure

namespace Go.Proofs.Ytnimjikikfhlpaa.Pure
open Go.RowKit Go.Proofs.Ytnimjikikfhlpaa.F Go.Proofs.YtnimjikikfhlpaaW.PrintWords Go.Proofs.YtnimjikikfhlpaaW.PrintLast Go.Proofs.YtnimjikikfhlpaaW.PrintMore Go.Proofs.YtnimjikikfhlpaaB
set_option linter.unusedVariables false
set_option linter.unusedSimpArgs false
theorem spec_l28Pen_f (a : Int) : spec_l28Pen.f a = some (inB a 1 8) := by
  simp only [spec_l28Pen.f, spec_l01In_f, Option.bind_some]

end Go.Proofs.Ytnimjikikfhlpaa.Pure

namespace Go.Proofs.Ytnimjikikfhlpaa.Pure
open Go.RowKit Go.Proofs.Ytnimjikikfhlpaa.F Go.Proofs.YtnimjikikfhlpaaW.PrintWords Go.Proofs.YtnimjikikfhlpaaW.PrintLast Go.Proofs.YtnimjikikfhlpaaW.PrintMore Go.Proofs.YtnimjikikfhlpaaB
set_option linter.unusedVariables false
set_option linter.unusedSimpArgs false
theorem spec_l28Code_l0 (xs : List S107) (hx : xs.length ≤ 9223372036854775807) : ∀ (ys : List S107) (m : Nat), xs.drop m = ys →
    Ev (fun k => spec_l28Code.l0 k xs m) (if ys.all strokeB = true then (if 40 < xs.length then 3 else 0) else 1)
  | [], m, h => by
    have := drop_nil h
    refine ev_step (fun _ => rfl) (ev_neg (by omega) (ev_now ?_))
    simp only [List.all_nil, if_true]
    by_cases h4 : 40 < xs.length
    · rw [if_pos (by omega), if_pos h4]
    · rw [if_neg (by omega), if_neg h4]
  | y :: ys, m, h => by
    obtain ⟨hm, _, hd⟩ := drop_cons h
    refine ev_step (fun _ => rfl) (ev_pos (by omega) (ev_pos (by omega) ?_))
    rw [rdS h, w64 (by omega) (by omega)]
    refine ev_some (spec_l28Pen_f _) ?_
    have ih := spec_l28Code_l0 xs hx ys (m + 1) hd
    rw [List.all_cons, show strokeB y = (inB y.f0 1 8 && lineB y.f1 && decide (2 ≤ y.f1.length)) from rfl]
    cases inB y.f0 1 8
    · exact ev_neg (by simp) (ev_now (by simp))
    refine ev_pos rfl (ev_bind (spec_IsLine_f y.f1) ?_)
    cases lineB y.f1
    · exact ev_neg (by simp) (ev_now (by simp))
    refine ev_pos rfl (ev_ite (fun h2 => ev_now ?_) (fun h2 => ev_eq ih ?_))
    · rw [decide_eq_false (show ¬ 2 ≤ y.f1.length by omega)]; simp
    · rw [decide_eq_true (show 2 ≤ y.f1.length by omega)]; simp
theorem spec_l28Code_f (xs : List S107) (hx : xs.length ≤ 9223372036854775807) : Ev (fun k => spec_l28Code.f k xs) (codeS xs) := spec_l28Code_l0 xs hx xs 0 rfl

end Go.Proofs.Ytnimjikikfhlpaa.Pure

namespace Go.Proofs.Ytnimjikikfhlpaa.Pure
open Go.RowKit Go.Proofs.Ytnimjikikfhlpaa.F Go.Proofs.YtnimjikikfhlpaaW.PrintWords Go.Proofs.YtnimjikikfhlpaaW.PrintLast Go.Proofs.YtnimjikikfhlpaaW.PrintMore Go.Proofs.YtnimjikikfhlpaaB
set_option linter.unusedVariables false
set_option linter.unusedSimpArgs false
theorem spec_l28Own_l0 (xs : List S107) (hx : smallS xs) : ∀ (ys : List S107) (m : Nat) (out : List S107), xs.drop m = ys → out.length + ys.length ≤ 1048576 →
    Ev (fun k => spec_l28Own.l0 k xs out m) (out ++ ys)
  | [], m, out, h, ho => by
    have := drop_nil h
    exact ev_step (fun _ => rfl) (ev_neg (by omega) (ev_now (by rw [List.append_nil])))
  | y :: ys, m, out, h, ho => by
    obtain ⟨hm, _, hd⟩ := drop_cons h
    have hx1 := hx.1
    have hmem : y ∈ xs := List.mem_of_mem_drop (by rw [h]; exact List.mem_cons_self)
    have hy := hx.2 y hmem
    simp only [List.length_cons] at ho
    refine ev_step (fun _ => rfl) (ev_pos (by omega) (ev_pos (by omega) (ev_some rfl ?_)))
    rw [rdS h, w64 (by omega) (by omega)]
    refine ev_pos (by simp; omega) (ev_pos (by omega) (ev_eq (spec_l28Own_l0 xs hx ys (m + 1) _ hd (by simp; omega)) ?_))
    rw [List.append_assoc]
    rfl
theorem spec_l28Own_f (xs : List S107) (hx : smallS xs) : Ev (fun k => spec_l28Own.f k xs) xs := spec_l28Own_l0 xs hx xs 0 [] rfl (by have := hx.1; simp; omega)

end Go.Proofs.Ytnimjikikfhlpaa.Pure

namespace Go.Proofs.Ytnimjikikfhlpaa.Pure
open Go.RowKit Go.Proofs.Ytnimjikikfhlpaa.F Go.Proofs.YtnimjikikfhlpaaW.PrintWords Go.Proofs.YtnimjikikfhlpaaW.PrintLast Go.Proofs.YtnimjikikfhlpaaW.PrintMore Go.Proofs.YtnimjikikfhlpaaB
set_option linter.unusedVariables false
set_option linter.unusedSimpArgs false
theorem spec_TurnStroke_no (xs : List S107) (a c : Int) (b : Bool) (res : List S107 × Int) (hb : b = false) (h : Ev (fun k => spec_TurnStroke.j1 k xs a c) res) : Ev (fun k => spec_TurnStroke.j0 k xs a c b) res :=
  ev_step (fun _ => rfl) (ev_neg (by rw [hb]; simp) h)
theorem spec_TurnStroke_yes (xs : List S107) (a c : Int) (b : Bool) (res : List S107 × Int) (hb : b = true) (h : Ev (fun k => spec_TurnStroke.j1 k xs a 2) res) : Ev (fun k => spec_TurnStroke.j0 k xs a c b) res :=
  ev_step (fun _ => rfl) (ev_pos hb h)
theorem spec_TurnStroke_go (xs : List S107) (a c : Int) (res : List S107 × Int) (hc : c = 0) (h : Ev (fun k => ((spec_l28Own.f k xs).bind fun t1074 => (if 0 ≤ a then (if a < (t1074.length : Int) then ((spec_l28Turn.f k ((rd_T107 t1074 a).f0) ((rd_T107 t1074 a).f1)).bind fun bt1078 => (some ((t1074.set (a : Int).toNat (⟨bt1078.1, bt1078.2⟩ : S107)), 0))) else (none)) else (none)))) res) : Ev (fun k => spec_TurnStroke.j1 k xs a c) res :=
  ev_step (fun _ => rfl) (ev_pos hc h)
theorem spec_TurnStroke_end (xs : List S107) (a c : Int) (hc : c ≠ 0) : Ev (fun k => spec_TurnStroke.j1 k xs a c) ([], c) :=
  ev_step (fun _ => rfl) (ev_neg hc (ev_now rfl))
theorem spec_TurnStroke_f (xs : List S107) (a : Int) (hx : xs.length ≤ 9223372036854775807) : Ev (fun k => spec_TurnStroke.f k xs a) (resTurn xs a) := by
  refine ev_bind (spec_l28Code_f xs hx) ?_
  unfold resTurn
  refine ev_ite (fun h => ?_) (fun h => ?_)
  · rw [if_pos h, h]
    have hz := codeS_zero h
    have hs := smallS_zero h
    rw [w64 (by omega) (by omega)]
    refine ev_some (spec_l01In_f _ _ _) ?_
    by_cases hb : inB a 0 ((xs.length : Int) - 1) = true
    · rw [if_pos hb, hb]
      have hb := inB_true hb
      have hm := rdS_mem (xs := xs) (a := a) hb.1 (by omega)
      refine spec_TurnStroke_no xs a _ _ _ rfl (spec_TurnStroke_go xs a _ _ rfl (ev_bind (spec_l28Own_f xs hs) (ev_pos hb.1 (ev_pos (by omega) ?_))))
      have hl : lineB (rd_T107 xs a).f1 = true := by
        have := hz.2 _ hm
        unfold strokeB at this
        simp only [Bool.and_eq_true] at this
        exact this.1.2
      exact ev_bind (a := ((rd_T107 xs a).f0, (rd_T107 xs a).f1.reverse)) (ev_bind (spec_ReverseLine_f _ hl) (ev_now rfl)) (ev_now rfl)
    · rw [if_neg hb]
      rw [Bool.not_eq_true] at hb
      rw [hb]
      exact spec_TurnStroke_yes xs a _ _ _ rfl (spec_TurnStroke_end xs a _ (by omega))
  · rw [if_neg h]
    exact spec_TurnStroke_no xs a _ _ _ rfl (spec_TurnStroke_end xs a _ h)

end Go.Proofs.Ytnimjikikfhlpaa.Pure

namespace Go.Proofs.Ytnimjikikfhlpaa.Pure
open Go.RowKit Go.Proofs.Ytnimjikikfhlpaa.F Go.Proofs.YtnimjikikfhlpaaW.PrintWords Go.Proofs.YtnimjikikfhlpaaW.PrintLast Go.Proofs.YtnimjikikfhlpaaW.PrintMore Go.Proofs.YtnimjikikfhlpaaB
set_option linter.unusedVariables false
set_option linter.unusedSimpArgs false
theorem EQ_StrokeS (A A' : Option Addr) (c c' : Nat) (l : List S107) (w : World) (hr : Kd.C k107 w A l.length l) (hc : l.length ≤ c) (hr' : Kd.C k107 w A' l.length l) (hc' : l.length ≤ c') (h : Ev (fun k => laws_eqStrokeS.f k l l) true) :
    Calls Try.prog 20 #[.slice A l.length c, .slice A' l.length c'] w fun e w' => e = .returned (.bool true) ∧ Below w.heap.size w w' := by
  obtain ⟨k, h⟩ := h.rounds
  exact (laws_eqStrokeS.calls k A c l A' c' l true w hr hc hr' hc' h).mono fun e w' ⟨h1, h2⟩ => ⟨h1, h2⟩

end Go.Proofs.Ytnimjikikfhlpaa.Pure

namespace Go.Proofs.Ytnimjikikfhlpaa.Pure
open Go.RowKit Go.Proofs.Ytnimjikikfhlpaa.F Go.Proofs.YtnimjikikfhlpaaW.PrintWords Go.Proofs.YtnimjikikfhlpaaW.PrintLast Go.Proofs.YtnimjikikfhlpaaW.PrintMore Go.Proofs.YtnimjikikfhlpaaB
set_option linter.unusedVariables false
set_option linter.unusedSimpArgs false
theorem HD_StrokeS (A : Option Addr) (c m : Nat) (l : List S107) (a n : Int) (w : World) (hm : l.length = m) (hr : Kd.C k107 w A l.length l) (hc : l.length ≤ c) (h : Ev (fun k => laws_heldStrokeS.f k l a) n) :
    Calls Try.prog 50 #[.slice A m c, .int .i64 a] w fun e w' => e = .returned (.int .i64 n) ∧ Below w.heap.size w w' := by
  obtain ⟨k, h⟩ := h.rounds
  subst hm
  exact (laws_heldStrokeS.calls k A c l a n w hr hc h).mono fun e w' ⟨h1, h2⟩ => ⟨h1, h2.below⟩

end Go.Proofs.Ytnimjikikfhlpaa.Pure

namespace Go.Proofs.Ytnimjikikfhlpaa.Pure
open Go.RowKit Go.Proofs.Ytnimjikikfhlpaa.F Go.Proofs.YtnimjikikfhlpaaW.PrintWords Go.Proofs.YtnimjikikfhlpaaW.PrintLast Go.Proofs.YtnimjikikfhlpaaW.PrintMore Go.Proofs.YtnimjikikfhlpaaB
set_option linter.unusedVariables false
set_option linter.unusedSimpArgs false
section
variable {α : Type} {d : Kd α} {e : Nat} {w : World} {base : Nat} {ok : Nat → Prop} {A : Option Addr} {n c : Nat} {xs : List α}
theorem Kd.R_now (h : d.R e w base ok (.slice A n c) xs) (hl : xs.length = n) : xs.length ≤ c ∧ d.C w A xs.length xs := by
  obtain ⟨h1, h2, h3⟩ := Kd.R_reads' h
  exact ⟨by omega, h3⟩
theorem Kd.S_now (h : Kd.S d e w base ok (.slice A n c) xs) (hl : xs.length = n) : xs.length ≤ c ∧ d.C w A xs.length xs := by
  obtain ⟨h1, h2, h3⟩ := Kd.S_reads' h
  exact ⟨by omega, h3⟩
end

end Go.Proofs.Ytnimjikikfhlpaa.Pure

namespace Go.Proofs.Ytnimjikikfhlpaa.Pure
open Go.RowKit Go.Proofs.Ytnimjikikfhlpaa.F Go.Proofs.YtnimjikikfhlpaaW.PrintWords Go.Proofs.YtnimjikikfhlpaaW.PrintLast Go.Proofs.YtnimjikikfhlpaaW.PrintMore Go.Proofs.YtnimjikikfhlpaaB
set_option linter.unusedVariables false
set_option linter.unusedSimpArgs false
theorem SZ_StrokeS (A : Option Addr) (c : Nat) (l : List S102) (a n : Int) (w : World) (hr : Kd.C k102 w A l.length l) (hc : l.length ≤ c) (h : Ev (fun k => laws_szStrokeS.f k l a) n) :
    Calls Try.prog 15 #[.slice A l.length c, .int .i64 a] w fun e w' => e = .returned (.int .i64 n) ∧ Below w.heap.size w w' := by
  obtain ⟨k, h⟩ := h.rounds
  exact (laws_szStrokeS.calls k A c l a n w hr hc h).mono fun e w' ⟨h1, h2⟩ => ⟨h1, h2⟩

end Go.Proofs.Ytnimjikikfhlpaa.Pure

namespace Go.Proofs.Ytnimjikikfhlpaa.Pure
open Go.RowKit Go.Proofs.Ytnimjikikfhlpaa.F Go.Proofs.YtnimjikikfhlpaaW.PrintWords Go.Proofs.YtnimjikikfhlpaaW.PrintLast Go.Proofs.YtnimjikikfhlpaaW.PrintMore Go.Proofs.YtnimjikikfhlpaaB
set_option linter.unusedVariables false
set_option linter.unusedSimpArgs false
theorem TO_StrokeS (A : Option Addr) (c : Nat) (l : List S102) (xs : List S107) (w : World) (hr : Kd.C k102 w A l.length l) (hc : l.length ≤ c) (h : Ev (fun k => laws_toStrokeS.f k l) xs) :
    Calls Try.prog 17 #[.slice A l.length c] w fun e w' => ∃ A' c', e = .returned (.slice A' xs.length c') ∧ Kd.S k107 107 w' w.heap.size (fun k => w.heap.size ≤ k ∧ k < w'.heap.size) (.slice A' xs.length c') xs ∧ Below w.heap.size w w' := by
  obtain ⟨k, h⟩ := h.rounds
  refine (laws_toStrokeS.calls k A c l xs w hr hc h).mono fun e w' ⟨v, h1, h2, h3⟩ => ?_
  obtain ⟨A', c', rfl⟩ := Kd.S_slice h2
  exact ⟨A', c', h1, Kd.S_mono (Kd.S_bound h2) (fun k hk => ⟨hk.2.1, hk.2.2.1⟩), h3⟩

end Go.Proofs.Ytnimjikikfhlpaa.Pure

namespace Go.Proofs.Ytnimjikikfhlpaa.Pure
open Go.RowKit Go.Proofs.Ytnimjikikfhlpaa.F Go.Proofs.YtnimjikikfhlpaaW.PrintWords Go.Proofs.YtnimjikikfhlpaaW.PrintLast Go.Proofs.YtnimjikikfhlpaaW.PrintMore Go.Proofs.YtnimjikikfhlpaaB
set_option linter.unusedVariables false
set_option linter.unusedSimpArgs false
set_option maxHeartbeats 8000000 in
set_option maxRecDepth 100000 in
theorem early0_FnExactTurnStroke (A0 : Option Addr) (c0 : Nat) (l0 : List S102) (a1 : Int) (n0 : Int) (w : World) (hr0 : Kd.C k102 w A0 l0.length l0) (hc0 : l0.length ≤ c0) (Hsz0 : Ev (fun k => laws_szStrokeS.f k l0 1048576) n0) (Hn0 : n0 < 0) :
    Calls Try.prog 13 #[.slice A0 l0.length c0, .int .i64 a1] w fun e w' => e = .returned (.bool true) ∧ Below w.heap.size w w' := by
  have HB := Aside0.mk (Below.refl w.heap.size w)
  have HR0 := Aside0.mk hr0
  have HC0 := Aside0.mk hc0
  clear hr0 hc0
  have QHsz0 := Aside0.mk Hsz0
  clear Hsz0
  go_enter Try.func13, Try.ntmps13
  go_wp2_with fail
  refine (SZ_StrokeS A0 c0 l0 1048576 n0 _ (Kd.C_below HR0.out HB.out) HC0.out QHsz0.out).mono ?_
  rintro e w1 ⟨rfl, hb⟩
  have n_ := Aside0.mk (HB.out.trans (hb.mono HB.out.size))
  clear HB hb
  have HB := n_
  clear n_
  go_wp2
  go_ret
  exact ⟨rfl, HB.out⟩
set_option maxHeartbeats 8000000 in
set_option maxRecDepth 100000 in
theorem walk_FnExactTurnStroke (A0 : Option Addr) (c0 : Nat) (l0 : List S102) (x0 : List S107) (n0 : Int) (a1 : Int) (r0 : List S107) (r1 : Int) (ya0 : List S107) (ma0 : Int) (yr0 : List S107) (mr0 : Int) (w : World) (hr0 : Kd.C k102 w A0 l0.length l0) (hc0 : l0.length ≤ c0) (Hsz0 : Ev (fun k => laws_szStrokeS.f k l0 1048576) n0) (Hn0 : 0 ≤ n0) (Ht0 : Ev (fun k => laws_toStrokeS.f k l0) x0) (Hx0 : Ev (fun k => laws_eqStrokeS.f k x0 x0) true) (Hs : Ev (fun k => spec_TurnStroke.f k x0 a1) (r0, r1)) (Hi : Ev (fun k => impl_TurnStroke.f k x0 a1) (r0, r1)) (He0 : Ev (fun k => laws_eqStrokeS.f k r0 r0) true) (Hma0 : MarkSt x0 ya0 1 ma0) (Hmn0 : 0 ≤ ma0) (Hmr0 : MarkSt r0 yr0 1 mr0) (Hrn0 : 0 ≤ mr0) (Hl0 : yr0.length = r0.length) (Hh0 : Ev (fun k => laws_heldStrokeS.f k yr0 1) mr0) :
    Calls Try.prog 13 #[.slice A0 l0.length c0, .int .i64 a1] w fun e w' => e = .returned (.bool true) ∧ Below w.heap.size w w' := by
  have HB := Aside0.mk (Below.refl w.heap.size w)
  have HR0 := Aside0.mk hr0
  have HC0 := Aside0.mk hc0
  clear hr0 hc0
  have QHsz0 := Aside0.mk Hsz0
  clear Hsz0
  have QHt0 := Aside0.mk Ht0
  clear Ht0
  have QHx0 := Aside0.mk Hx0
  clear Hx0
  have QHs := Aside0.mk Hs
  clear Hs
  have QHi := Aside0.mk Hi
  clear Hi
  have QHe0 := Aside0.mk He0
  clear He0
  have QHma0 := Aside0.mk Hma0
  clear Hma0
  have QHmr0 := Aside0.mk Hmr0
  clear Hmr0
  have QHl0 := Aside0.mk Hl0
  clear Hl0
  have QHh0 := Aside0.mk Hh0
  clear Hh0
  have hcc : ∀ r : Int, (r != r) = false := fun r => by simp
  go_enter Try.func13, Try.ntmps13
  go_wp2_with fail
  refine (SZ_StrokeS A0 c0 l0 1048576 n0 _ (Kd.C_below HR0.out HB.out) HC0.out QHsz0.out).mono ?_
  rintro e w1 ⟨rfl, hb⟩
  have HZ2 := Aside0.mk hb.size
  have n_ := Aside0.mk (HB.out.trans (hb.mono HB.out.size))
  clear HB hb
  have HB := n_
  clear n_
  go_wp2_with fail
  refine (TO_StrokeS A0 c0 l0 x0 _ (Kd.C_below HR0.out HB.out) HC0.out QHt0.out).mono ?_
  rintro e w3 ⟨B4, d4, rfl, hO, hb⟩
  have HZ5 := Aside0.mk hb.size
  have n_ := Aside0.mk (HB.out.trans (hb.mono HB.out.size))
  clear HB hb
  have HB := n_
  clear n_
  have HO4 := Aside0.mk hO
  clear hO
  go_wp2_with fail
  obtain ⟨kHs7, hHs7⟩ := QHs.out.rounds
  refine (spec_TurnStroke.calls kHs7 B4 d4 x0 a1 r0 r1 _ (Kd.S_reads' HO4.out).2.2 (Kd.S_reads' HO4.out).2.1 hHs7).mono ?_
  clear hHs7
  rintro e w6 ⟨v7_0, rfl, ho7_0, hb⟩
  obtain ⟨Bv7_0, dv7_0, rfl⟩ := Kd.S_slice ho7_0
  have HO7 := Aside0.mk (Kd.S_mono (Kd.S_bound ho7_0) (ok' := fun k_ => w3.heap.size ≤ k_ ∧ k_ < w6.heap.size) (fun k_ h_ => ⟨h_.2.1, h_.2.2.1⟩))
  clear ho7_0
  have n_ := Aside0.mk (Kd.S_below HO4.out hb)
  clear HO4
  have HO4 := n_
  clear n_
  have HZ8 := Aside0.mk hb.size
  have n_ := Aside0.mk (HB.out.trans (hb.mono HB.out.size))
  clear HB hb
  have HB := n_
  clear n_
  go_wp2_with fail
  clear HO4
  refine (TO_StrokeS A0 c0 l0 x0 _ (Kd.C_below HR0.out HB.out) HC0.out QHt0.out).mono ?_
  rintro e w9 ⟨B10, d10, rfl, hO, hb⟩
  have n_ := Aside0.mk (Kd.S_below HO7.out hb)
  clear HO7
  have HO7 := n_
  clear n_
  have HZ11 := Aside0.mk hb.size
  have n_ := Aside0.mk (HB.out.trans (hb.mono HB.out.size))
  clear HB hb
  have HB := n_
  clear n_
  have HO10 := Aside0.mk hO
  clear hO
  go_wp2_with fail
  obtain ⟨kHi13, hHi13⟩ := QHi.out.rounds
  refine (impl_TurnStroke.calls kHi13 B10 d10 x0 a1 r0 r1 _ (Kd.S_reads' HO10.out).2.2 (Kd.S_reads' HO10.out).2.1 hHi13).mono ?_
  clear hHi13
  rintro e w12 ⟨v13_0, rfl, ho13_0, hb⟩
  obtain ⟨Bv13_0, dv13_0, rfl⟩ := Kd.S_slice ho13_0
  have HO13 := Aside0.mk (Kd.S_mono (Kd.S_bound ho13_0) (ok' := fun k_ => w9.heap.size ≤ k_ ∧ k_ < w12.heap.size) (fun k_ h_ => ⟨h_.2.1, h_.2.2.1⟩))
  clear ho13_0
  have n_ := Aside0.mk (Kd.S_below HO7.out hb)
  clear HO7
  have HO7 := n_
  clear n_
  have n_ := Aside0.mk (Kd.S_below HO10.out hb)
  clear HO10
  have HO10 := n_
  clear n_
  have HZ14 := Aside0.mk hb.size
  have n_ := Aside0.mk (HB.out.trans (hb.mono HB.out.size))
  clear HB hb
  have HB := n_
  clear n_
  go_wp2_with fail
  refine (EQ_StrokeS Bv13_0 Bv7_0 dv13_0 dv7_0 r0 _ (Kd.S_reads' HO13.out).2.2 (Kd.S_reads' HO13.out).2.1 (Kd.S_reads' HO7.out).2.2 (Kd.S_reads' HO7.out).2.1 QHe0.out).mono ?_
  rintro e w15 ⟨rfl, hb⟩
  have n_ := Aside0.mk (Kd.S_below HO7.out hb)
  clear HO7
  have HO7 := n_
  clear n_
  have n_ := Aside0.mk (Kd.S_below HO10.out hb)
  clear HO10
  have HO10 := n_
  clear n_
  have n_ := Aside0.mk (Kd.S_below HO13.out hb)
  clear HO13
  have HO13 := n_
  clear n_
  have HZ16 := Aside0.mk hb.size
  have n_ := Aside0.mk (HB.out.trans (hb.mono HB.out.size))
  clear HB hb
  have HB := n_
  clear n_
  go_wp2_with fail
  refine (TO_StrokeS A0 c0 l0 x0 _ (Kd.C_below HR0.out HB.out) HC0.out QHt0.out).mono ?_
  rintro e w17 ⟨B18, d18, rfl, hO, hb⟩
  have n_ := Aside0.mk (Kd.S_below HO7.out hb)
  clear HO7
  have HO7 := n_
  clear n_
  have n_ := Aside0.mk (Kd.S_below HO10.out hb)
  clear HO10
  have HO10 := n_
  clear n_
  have n_ := Aside0.mk (Kd.S_below HO13.out hb)
  clear HO13
  have HO13 := n_
  clear n_
  have HZ19 := Aside0.mk hb.size
  have n_ := Aside0.mk (HB.out.trans (hb.mono HB.out.size))
  clear HB hb
  have HB := n_
  clear n_
  have HO18 := Aside0.mk hO
  clear hO
  go_wp2_with fail
  refine (EQ_StrokeS B10 B18 d10 d18 x0 _ (Kd.S_reads' HO10.out).2.2 (Kd.S_reads' HO10.out).2.1 (Kd.S_reads' HO18.out).2.2 (Kd.S_reads' HO18.out).2.1 QHx0.out).mono ?_
  rintro e w20 ⟨rfl, hb⟩
  have n_ := Aside0.mk (Kd.S_below HO7.out hb)
  clear HO7
  have HO7 := n_
  clear n_
  have n_ := Aside0.mk (Kd.S_below HO10.out hb)
  clear HO10
  have HO10 := n_
  clear n_
  have n_ := Aside0.mk (Kd.S_below HO13.out hb)
  clear HO13
  have HO13 := n_
  clear n_
  have n_ := Aside0.mk (Kd.S_below HO18.out hb)
  clear HO18
  have HO18 := n_
  clear n_
  have HZ21 := Aside0.mk hb.size
  have n_ := Aside0.mk (HB.out.trans (hb.mono HB.out.size))
  clear HB hb
  have HB := n_
  clear n_
  go_wp2_with fail
  clear HO18
  refine (MK_StrokeS (fun k_ => w6.heap.size ≤ k_ ∧ k_ < w9.heap.size) B10 d10 x0 ya0 1 ma0 w _ HB.out (Kd.S_lower HO10.out (by have := HZ2.out; have := HZ5.out; have := HZ8.out; have := HZ11.out; have := HZ14.out; have := HZ16.out; have := HZ19.out; have := HZ21.out; omega)) QHma0.out).mono ?_
  rintro e w22 ⟨rfl, hO, hB2, hK⟩
  have n_ := Aside0.mk (Kd.S_kept HO7.out hK (fun k_ h_ h2_ => by have := HZ2.out; have := HZ5.out; have := HZ8.out; have := HZ11.out; have := HZ14.out; have := HZ16.out; have := HZ19.out; have := HZ21.out; obtain ⟨h3_, h4_⟩ := h2_; rcases h_ with h_ <;> omega))
  clear HO7
  have HO7 := n_
  clear n_
  have n_ := Aside0.mk (Kd.S_kept HO13.out hK (fun k_ h_ h2_ => by have := HZ2.out; have := HZ5.out; have := HZ8.out; have := HZ11.out; have := HZ14.out; have := HZ16.out; have := HZ19.out; have := HZ21.out; obtain ⟨h3_, h4_⟩ := h2_; rcases h_ with h_ <;> omega))
  clear HO13
  have HO13 := n_
  clear n_
  have HZ23 := Aside0.mk hK.1
  clear HB
  have HB := Aside0.mk hB2
  clear HO10
  clear hO hB2 hK
  go_wp2_with fail
  refine (EQ_StrokeS Bv13_0 Bv7_0 dv13_0 dv7_0 r0 _ (Kd.S_reads' HO13.out).2.2 (Kd.S_reads' HO13.out).2.1 (Kd.S_reads' HO7.out).2.2 (Kd.S_reads' HO7.out).2.1 QHe0.out).mono ?_
  rintro e w24 ⟨rfl, hb⟩
  have n_ := Aside0.mk (Kd.S_below HO7.out hb)
  clear HO7
  have HO7 := n_
  clear n_
  have n_ := Aside0.mk (Kd.S_below HO13.out hb)
  clear HO13
  have HO13 := n_
  clear n_
  have HZ25 := Aside0.mk hb.size
  have n_ := Aside0.mk (HB.out.trans (hb.mono HB.out.size))
  clear HB hb
  have HB := n_
  clear n_
  go_wp2_with fail
  refine (MK_StrokeS (fun k_ => w9.heap.size ≤ k_ ∧ k_ < w12.heap.size) Bv13_0 dv13_0 r0 yr0 1 mr0 w _ HB.out (Kd.S_lower HO13.out (by have := HZ2.out; have := HZ5.out; have := HZ8.out; have := HZ11.out; have := HZ14.out; have := HZ16.out; have := HZ19.out; have := HZ21.out; have := HZ23.out; have := HZ25.out; omega)) QHmr0.out).mono ?_
  rintro e w26 ⟨rfl, hO, hB2, hK⟩
  have n_ := Aside0.mk (Kd.S_kept HO7.out hK (fun k_ h_ h2_ => by have := HZ2.out; have := HZ5.out; have := HZ8.out; have := HZ11.out; have := HZ14.out; have := HZ16.out; have := HZ19.out; have := HZ21.out; have := HZ23.out; have := HZ25.out; obtain ⟨h3_, h4_⟩ := h2_; rcases h_ with h_ <;> omega))
  clear HO7
  have HO7 := n_
  clear n_
  have HZ27 := Aside0.mk hK.1
  clear HB
  have HB := Aside0.mk hB2
  clear HO13
  have HO13 := Aside0.mk hO
  clear hO hB2 hK
  go_wp2_with fail
  refine (HD_StrokeS Bv13_0 dv13_0 r0.length yr0 1 mr0 _ QHl0.out (Kd.S_now HO13.out QHl0.out).2 (Kd.S_now HO13.out QHl0.out).1 QHh0.out).mono ?_
  rintro e w28 ⟨rfl, hb⟩
  have n_ := Aside0.mk (Kd.S_below HO7.out hb)
  clear HO7
  have HO7 := n_
  clear n_
  have n_ := Aside0.mk (Kd.S_below HO13.out hb)
  clear HO13
  have HO13 := n_
  clear n_
  have HZ29 := Aside0.mk hb.size
  have n_ := Aside0.mk (HB.out.trans (hb.mono HB.out.size))
  clear HB hb
  have HB := n_
  clear n_
  go_wp2_with fail
  refine (TO_StrokeS A0 c0 l0 x0 _ (Kd.C_below HR0.out HB.out) HC0.out QHt0.out).mono ?_
  rintro e w30 ⟨B31, d31, rfl, hO, hb⟩
  have n_ := Aside0.mk (Kd.S_below HO7.out hb)
  clear HO7
  have HO7 := n_
  clear n_
  have n_ := Aside0.mk (Kd.S_below HO13.out hb)
  clear HO13
  have HO13 := n_
  clear n_
  have HZ32 := Aside0.mk hb.size
  have n_ := Aside0.mk (HB.out.trans (hb.mono HB.out.size))
  clear HB hb
  have HB := n_
  clear n_
  have HO31 := Aside0.mk hO
  clear hO
  go_wp2_with fail
  obtain ⟨kHi34, hHi34⟩ := QHi.out.rounds
  refine (impl_TurnStroke.calls kHi34 B31 d31 x0 a1 r0 r1 _ (Kd.S_reads' HO31.out).2.2 (Kd.S_reads' HO31.out).2.1 hHi34).mono ?_
  clear hHi34
  rintro e w33 ⟨v34_0, rfl, ho34_0, hb⟩
  obtain ⟨Bv34_0, dv34_0, rfl⟩ := Kd.S_slice ho34_0
  have HO34 := Aside0.mk (Kd.S_mono (Kd.S_bound ho34_0) (ok' := fun k_ => w30.heap.size ≤ k_ ∧ k_ < w33.heap.size) (fun k_ h_ => ⟨h_.2.1, h_.2.2.1⟩))
  clear ho34_0
  have n_ := Aside0.mk (Kd.S_below HO7.out hb)
  clear HO7
  have HO7 := n_
  clear n_
  have n_ := Aside0.mk (Kd.S_below HO13.out hb)
  clear HO13
  have HO13 := n_
  clear n_
  have n_ := Aside0.mk (Kd.S_below HO31.out hb)
  clear HO31
  have HO31 := n_
  clear n_
  have HZ35 := Aside0.mk hb.size
  have n_ := Aside0.mk (HB.out.trans (hb.mono HB.out.size))
  clear HB hb
  have HB := n_
  clear n_
  go_wp2_with fail
  clear HO31
  refine (EQ_StrokeS Bv34_0 Bv7_0 dv34_0 dv7_0 r0 _ (Kd.S_reads' HO34.out).2.2 (Kd.S_reads' HO34.out).2.1 (Kd.S_reads' HO7.out).2.2 (Kd.S_reads' HO7.out).2.1 QHe0.out).mono ?_
  rintro e w36 ⟨rfl, hb⟩
  have n_ := Aside0.mk (Kd.S_below HO7.out hb)
  clear HO7
  have HO7 := n_
  clear n_
  have n_ := Aside0.mk (Kd.S_below HO13.out hb)
  clear HO13
  have HO13 := n_
  clear n_
  have n_ := Aside0.mk (Kd.S_below HO34.out hb)
  clear HO34
  have HO34 := n_
  clear n_
  have HZ37 := Aside0.mk hb.size
  have n_ := Aside0.mk (HB.out.trans (hb.mono HB.out.size))
  clear HB hb
  have HB := n_
  clear n_
  go_wp2_with fail
  clear HO34
  refine (HD_StrokeS Bv13_0 dv13_0 r0.length yr0 1 mr0 _ QHl0.out (Kd.S_now HO13.out QHl0.out).2 (Kd.S_now HO13.out QHl0.out).1 QHh0.out).mono ?_
  rintro e w38 ⟨rfl, hb⟩
  have n_ := Aside0.mk (Kd.S_below HO7.out hb)
  clear HO7
  have HO7 := n_
  clear n_
  have n_ := Aside0.mk (Kd.S_below HO13.out hb)
  clear HO13
  have HO13 := n_
  clear n_
  have HZ39 := Aside0.mk hb.size
  have n_ := Aside0.mk (HB.out.trans (hb.mono HB.out.size))
  clear HB hb
  have HB := n_
  clear n_
  try go_wp2
  go_ret
  exact ⟨rfl, HB.out⟩

end Go.Proofs.Ytnimjikikfhlpaa.Pure

namespace Go.Proofs.Ytnimjikikfhlpaa.Pure
open Go.RowKit Go.Proofs.Ytnimjikikfhlpaa.F Go.Proofs.YtnimjikikfhlpaaW.PrintWords Go.Proofs.YtnimjikikfhlpaaW.PrintLast Go.Proofs.YtnimjikikfhlpaaW.PrintMore Go.Proofs.YtnimjikikfhlpaaB
set_option linter.unusedVariables false
set_option linter.unusedSimpArgs false
theorem walkFnExactTurnStroke (A0 : Option Addr) (c0 : Nat) (l0 : (List S102)) (a1 : Int) (w : World) (hr0 : Kd.C k102 w A0 l0.length l0) (hc0 : l0.length ≤ c0) (hm0 : l0.length ≤ maxLen) (hg0 : ∀ y ∈ l0, g102 y) (hg1 : (Lit.int .i64 a1).wf = true) :
    Calls Try.prog 13 #[.slice A0 l0.length c0, .int .i64 a1] w fun e w' => e = .returned (.bool true) ∧ Below w.heap.size w w' := by
  unfold maxLen at hm0
  have hi : ∀ x ∈ l0, x.f1.length ≤ 9223372036854775807 := fun x hx => (hg0 x hx).2.1
  have hs := laws_szStrokeS_f l0 1048576 (by omega) (by omega) hm0 hi
  by_cases h : (1048576 : Int) < l0.length + total szStroke l0
  · rw [if_pos h] at hs
    exact early0_FnExactTurnStroke A0 c0 l0 a1 (-1) w hr0 hc0 hs (by omega)
  rw [if_neg h] at hs
  obtain ⟨s1, s2⟩ := szStroke_small l0 h
  have t := laws_toStrokeS_f l0 s1 s2
  have sm := toSt_small l0 s2
  have sl : (l0.map toSt).length ≤ 1048576 := by rw [List.length_map]; exact s1
  obtain ⟨mk, mk0, _⟩ := markSt_arg l0 1 (by omega) (by omega) h
  generalize l0.map toSt = zs at *
  have rs := smallS_turn zs a1
  have hS := spec_TurnStroke_f zs a1 (by omega)
  have hI := impl_TurnStroke_f zs a1 (by omega)
  generalize resTurn zs a1 = r at *
  obtain ⟨r0, r1⟩ := r
  have rs1 := rs.1
  have rs2 := rs.2
  simp only at rs1 rs2
  obtain ⟨mr, mr0, mr1⟩ := markSt_res r0 rs1 rs2
  exact walk_FnExactTurnStroke A0 c0 l0 zs _ a1 r0 r1 _ _ _ _ w hr0 hc0 hs (by omega) t (laws_eqStrokeS_f zs (by omega) (fun x hx => by have := sm x hx; omega)) hS hI (laws_eqStrokeS_f r0 (by omega) (fun x hx => by have := rs2 x hx; omega)) mk mk0
    mr mr0 (markSt_length _ _) (laws_heldStrokeS_f r0 1 (by omega) (fun x hx => by have := rs2 x hx; omega) (by omega) mr1)

end Go.Proofs.Ytnimjikikfhlpaa.Pure

namespace Go.Proofs.Ytnimjikikfhlpaa.fnExactTurnStroke
open Go.ChangeShapes Go.WideShapes Go.ChangeAt Go.RowKit Go.Proofs.YtnimjikikfhlpaaO Go.Proofs.Ytnimjikikfhlpaa.F Go.Proofs.YtnimjikikfhlpaaW.PrintWords
open Go.ChangeMaps (open_string shut_string)
set_option linter.unusedVariables false
theorem own : ownKnob Try.prog.godebug = none := by kernel_rfl
theorem laidOut : laidOutB Try.prog = true := by kernel_rfl
set_option maxRecDepth 100000 in
theorem lifted (os : Os) (started : os.Started) (H : Type) (enc : TypeId × Value → H) :
    ReturnsInHanded {} Try.checked os 13 .any (Rows.fnExactTurnStrokeSpec.pre6 enc Try.prog Try.f13 Rows.fnExactTurnStrokeRow.domain false) (Rows.fnExactTurnStrokeSpec.post enc Try.prog Try.f13 false true false false) := by
  refine returnsInHanded_of_change (C := Try.checked) own started (by kernel_rfl) Try.func13
    (ChangeSpec.witness6 (enc := enc) (C := Try.checked) false ⟨#[], #[.slice none 0 0, .int .i64 0], []⟩ 8 (by kernel_rfl) (by kernel_rfl) (by kernel_rfl) (by kernel_rfl)) ?_
  intro W base args ds gs before hval0 hW hcnd _
  have hval : ∀ (j : Nat) t v, Try.f13.params[j]? = some t → args[j]? = some v → Value.okWide Try.prog W .any base t v := hval0
  have hW' := hW
  obtain ⟨p, q, hA0, hV, rfl, hfz, hnd⟩ := hW
  have hA : DataW.TrodAll enc Try.prog W 0 (fun _ => true) true Try.f13.params.toList args.toList ds p := hA0
  rw [Try.params13] at hA hval
  obtain ⟨v0, vs0, d0, ds0, p0, q0, hargs, rfl, rfl, h0, r0⟩ := trodAll_cons hA
  obtain ⟨v1, vs1, d1, ds1, p1, q1, rfl, rfl, rfl, h1, r1⟩ := trodAll_cons r0
  obtain ⟨rfl, rfl, rfl⟩ := trodAll_nil r1
  obtain rfl : args = #[v0, v1] := by cases args; simp_all
  obtain ⟨rfl, rfl⟩ := trodVars_none hV
  obtain ⟨a0, len0, cap0, rfl⟩ := okWide_slice Try.underlying22 (hval 0 22 v0 rfl rfl)
  have k0_ := h0
  have lt0 : ∀ x ∈ p0, x.block < W.heap.size := by obtain ⟨m, hm⟩ := k0_; exact DataW.trod_lt m _ _ _ hm
  obtain ⟨fuel0, hf0⟩ := h0
  obtain ⟨A0, l0, c0, hcs0, hc0, hb0, hr0, hg0⟩ := opens_row (d := k102) (G := g102) Try.underlying22 (by kernel_rfl) o102 hf0
  simp [Value.cells] at hcs0
  obtain ⟨rfl, rfl, rfl⟩ := hcs0
  obtain ⟨a1, rfl, rfl, rfl, hg1⟩ := open_int Try.underlying2 (hval 1 2 v1 rfl rfl) h1
  clear hA0 hval0
  refine (Pure.walkFnExactTurnStroke _ _ l0 a1 W hr0 hc0 (Nat.le_trans hc0 hb0) hg0 hg1).mono fun e W' ⟨he, bel⟩ => ?_
  subst he
  exact ⟨_, rfl, _, _, _, [], _, [], hW', trodAll_mk1 (shut_bool Try.underlying4 _), (trodAll_cons_mk (Below.trod laidOut (by kernel_rfl) (of_decide_eq_true (by kernel_rfl)) k0_ bel lt0) (trodAll_cons_mk (shut_int Try.underlying2 hg1) trodAll_mk0)), rfl, bel.frame _, fun h => by cases h⟩
theorem over : Rows.fnExactTurnStrokeRow.holds Try.pinned (OpenSpec.ofChange Rows.fnExactTurnStrokeSpec) :=
  OpenClaim.holds_of_wide 13 Try.f13 rfl rfl rfl rfl rfl rfl rfl ⟨rfl, rfl, rfl, rfl, rfl⟩ rfl rfl rfl rfl rfl (by kernel_rfl) Try.func13 (by kernel_rfl)
    (of_decide_eq_true (by kernel_rfl)) (by unfold Func.isWrapper; first | (rw [if_pos (by decide +kernel)]; kernel_rfl) | (rw [if_neg (by decide +kernel)]; exact ⟨rfl, rfl⟩))
    (fun os started H enc _ => lifted os started H enc)
theorem proved : Rows.FnExactTurnStrokeSaid := over
end Go.Proofs.Ytnimjikikfhlpaa.fnExactTurnStroke
namespace Go.Proofs.Ytnimjikikfhlpaa
/-- The row, under a short name, for the claim. -/
theorem fnExactTurnStroke_holds : Rows.FnExactTurnStrokeSaid := fnExactTurnStroke.proved
end Go.Proofs.Ytnimjikikfhlpaa
#print axioms Go.Proofs.Ytnimjikikfhlpaa.fnExactTurnStroke_holds
