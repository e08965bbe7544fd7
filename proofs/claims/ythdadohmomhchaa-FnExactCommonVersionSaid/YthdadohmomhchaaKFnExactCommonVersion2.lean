/-
  A part of the proof of FnExactCommonVersion: contracts of the Go functions that it reaches, and plain statements on what they come to; each says its own conditions.
-/
import Derived.Test.YthdadohmomhchaaKFnExactCommonVersion1

namespace Go.Proofs.Ythdadohmomhchaa.F
open Go.RowKit Go.Proofs.YthdadohmomhchaaW.PrintWords Go.Proofs.YthdadohmomhchaaW.PrintLast Go.Proofs.YthdadohmomhchaaW.PrintMore
attribute [local go_sem] max2_int min2_int max_two min_two max_three min_three max_four min_four   -- for this text's walks alone
set_option linter.unusedVariables false
set_option linter.unusedSimpArgs false

/-! ### spec_l01Rises: function 207 -/
def spec_l01Rises.l0 : Nat → List Int → Int → Int → Option (Bool)
  | 0, _, _, _ => none
  | k + 1, x0, x1, x5 => if x5 < (x0.length : Int) then (if 0 ≤ x5 then ((spec_l01In.f (rd x0 x5) 0 (wrap64 (x1 - 1))).bind fun t364 => (if t364 = true then (if x5 > 0 then (if 0 ≤ (wrap64 (x5 - 1)) then (if (wrap64 (x5 - 1)) < (x0.length : Int) then (if (rd x0 x5) ≤ (rd x0 (wrap64 (x5 - 1))) then (some false) else (spec_l01Rises.l0 k x0 x1 (wrap64 (x5 + 1)))) else (none)) else (none)) else (spec_l01Rises.l0 k x0 x1 (wrap64 (x5 + 1)))) else (some false))) else (none)) else (some true)
def spec_l01Rises.f (k : Nat) (l0 : List Int) (a1 : Int) : Option (Bool) := spec_l01Rises.l0 k l0 a1 0
theorem spec_l01Rises.mono_l : ∀ k, (∀ y0 y1 y2, LeO (spec_l01Rises.l0 k y0 y1 y2) (spec_l01Rises.l0 (k + 1) y0 y1 y2))
  | 0 => fun _ _ _ r h => by simp [spec_l01Rises.l0] at h
  | k + 1 => by
    have ih0 := spec_l01Rises.mono_l k
    · intro y0 y1 y2
      unfold spec_l01Rises.l0
      repeat' first
      | (with_reducible exact ih0 _ _ _)
      | (with_reducible exact LeO.refl _)
      | (with_reducible exact LeO.none _)
      | (with_reducible refine LeO.ite ?_ ?_)
      | (with_reducible refine LeO.bind ?_ (fun _ => ?_))
      | exact ih0 _ _ _
      | exact LeO.none _
      | refine LeO.ite ?_ ?_
      | refine LeO.bind ?_ (fun _ => ?_)
theorem spec_l01Rises.mono : ∀ a0 a1 k, LeO (spec_l01Rises.f k a0 a1) (spec_l01Rises.f (k + 1) a0 a1) := by
  intro a0 a1 k
  have ih0 := spec_l01Rises.mono_l k
  unfold spec_l01Rises.f
  repeat' first
      | (with_reducible exact ih0 _ _ _)
      | (with_reducible exact LeO.refl _)
      | (with_reducible exact LeO.none _)
      | (with_reducible refine LeO.ite ?_ ?_)
      | (with_reducible refine LeO.bind ?_ (fun _ => ?_))
      | exact ih0 _ _ _
      | exact LeO.none _
      | refine LeO.ite ?_ ?_
      | refine LeO.bind ?_ (fun _ => ?_)
set_option maxHeartbeats 8000000 in
set_option maxRecDepth 100000 in
theorem spec_l01Rises.calls (k : Nat) (A0 : Option Addr) (c0 : Nat) (l0 : List Int) (a1 : Int) (r : Bool) (w : World) (hr0 : Kd.C (Kd.int .i64) w A0 l0.length l0) (hc0 : l0.length ≤ c0) (h : spec_l01Rises.f k l0 a1 = some r) :
    Calls Try.prog 207 #[.slice A0 l0.length c0, .int .i64 a1] w fun e w' => e = .returned (.bool r) ∧ Drawn0 w w' := by
  have HR0 := Aside0.mk hr0
  have HC0 := Aside0.mk hc0
  clear hr0 hc0
  have H : (spec_l01Rises.l0 k l0 a1 0) = some r := h
  clear h
  have H' := Aside0.mk H
  clear H
  have hqz : IntKind.i64.wrap (a1 - 1) = wrap64 (a1 - 1) := i64_w _
  go_enter Try.func207, Try.ntmps207
  go_wp2
  repeat (go_quiet (fail); try go_wp2)
  go_loopg [5] k (fun kq v5 w' => ∃ (x5_1 : Int), v5 = .int .i64 x5_1 ∧ Aside0 (spec_l01Rises.l0 kq l0 a1 x5_1 = some r) ∧ Aside0 (kq ≤ k) ∧ Drawn0 w w')
  case atStart => exact ⟨(0), (by first | rfl | (simp; done) | (simp [*]; done)), H', ⟨Nat.le_refl _⟩, by repeat (first | exact Drawn0.refl _ | apply Drawn0.step)⟩
  case round =>
    clear H'
    try clear c2
    try clear p2
    obtain ⟨x5_1, rfl, HA, HK1, ⟨m1, rfl⟩⟩ := hrel
    cases gk with
    | zero => exact absurd HA.out (by simp [spec_l01Rises.l0])
    | succ k1 =>
      have H := HA.out
      clear HA
      simp only [spec_l01Rises.l0] at H
      by_cases c3 : x5_1 < (l0.length : Int)
      · rw [if_pos c3] at H
        have c3b0 : decide (x5_1 < (l0.length : Int)) = true := decide_eq_true c3
        clear c3
        by_cases c4 : 0 ≤ x5_1
        · rw [if_pos c4] at H
          have c4b0 : decide (0 ≤ x5_1) = true := decide_eq_true c4
          clear c4
          replace H := Option.bind_eq_some_iff.mp H
          obtain ⟨t364, A50, H⟩ := H
          replace H : (if t364 = true then (if x5_1 > 0 then (if 0 ≤ (wrap64 (x5_1 - 1)) then (if (wrap64 (x5_1 - 1)) < (l0.length : Int) then (if (rd l0 x5_1) ≤ (rd l0 (wrap64 (x5_1 - 1))) then (some false) else (spec_l01Rises.l0 k1 l0 a1 (wrap64 (x5_1 + 1)))) else (none)) else (none)) else (spec_l01Rises.l0 k1 l0 a1 (wrap64 (x5_1 + 1)))) else (some false)) = some r := H
          have A5 := Aside0.mk A50
          clear A50
          by_cases c6 : t364 = true
          · subst c6
            have H1 : (if x5_1 > 0 then (if 0 ≤ (wrap64 (x5_1 - 1)) then (if (wrap64 (x5_1 - 1)) < (l0.length : Int) then (if (rd l0 x5_1) ≤ (rd l0 (wrap64 (x5_1 - 1))) then (some false) else (spec_l01Rises.l0 k1 l0 a1 (wrap64 (x5_1 + 1)))) else (none)) else (none)) else (spec_l01Rises.l0 k1 l0 a1 (wrap64 (x5_1 + 1)))) = some r := by rw [if_pos rfl] at H; exact H
            clear H
            have H := H1
            clear H1
            by_cases c7 : x5_1 > 0
            · rw [if_pos c7] at H
              have c7b0 : decide (0 < x5_1) = true := decide_eq_true c7
              clear c7
              obtain ⟨ji8, hji8⟩ : ∃ j_ : Int, (wrap64 (x5_1 - 1)) = j_ := ⟨_, rfl⟩
              replace H : (if 0 ≤ (ji8) then (if (ji8) < (l0.length : Int) then (if (rd l0 x5_1) ≤ (rd l0 (ji8)) then (some false) else (spec_l01Rises.l0 k1 l0 a1 (wrap64 (x5_1 + 1)))) else (none)) else (none)) = some r := by first | (rw [hji8] at H; exact H) | (simp only [hji8] at H ⊢; exact H)
              (try rw [hji8] at A5)
              have hji8w : (IntKind.i64.wrap (x5_1 - 1)) = ji8 := (i64_w _).trans hji8
              by_cases c9 : 0 ≤ (ji8)
              · rw [if_pos c9] at H
                have c9b0 : decide (0 ≤ (ji8)) = true := decide_eq_true c9
                clear c9
                by_cases c10 : (ji8) < (l0.length : Int)
                · rw [if_pos c10] at H
                  have c10b0 : decide ((ji8) < (l0.length : Int)) = true := decide_eq_true c10
                  clear c10
                  by_cases c11 : (rd l0 x5_1) ≤ (rd l0 (ji8))
                  · rw [if_pos c11] at H
                    have c11b0 : decide ((rd l0 x5_1) ≤ (rd l0 (ji8))) = true := decide_eq_true c11
                    clear c11
                    obtain rfl := Option.some.inj H
                    have p363 : 0 ≤ (x5_1 : Int) := of_decide_eq_true (by first | (with_reducible assumption) | assumption)
                    have q363 : x5_1 < (l0.length : Int) := of_decide_eq_true (by first | (with_reducible assumption) | assumption)
                    obtain ⟨ad363, e363, hx363_0⟩ := Kd.at_int HR0.out x5_1 p363 q363
                    cases e363
                    replace p363 := eq_true p363
                    replace q363 := eq_true q363
                    go_wp2_with (first | (go_at_call 152; (with_reducible refine (spec_l01In.calls (rd l0 x5_1) 0 (wrap64 (a1 - 1)) true _ A5.out).mono ?_); rintro e w' ⟨rfl, ⟨nd, rfl⟩⟩; (try first | exact ⟨rfl, _, World.drewN_drewN _ _ _⟩ | exact ⟨rfl, _, Eq.trans (World.drewN_drewN _ _ _) (congrArg (World.drewN _) (Nat.add_assoc _ _ _))⟩); have p365 : 0 ≤ (x5_1 : Int) := of_decide_eq_true (by first | (with_reducible assumption) | assumption); have q365 : x5_1 < (l0.length : Int) := of_decide_eq_true (by first | (with_reducible assumption) | assumption); obtain ⟨ad365, e365, hx365_0⟩ := Kd.at_int HR0.out x5_1 p365 q365; obtain rfl : ad363 = ad365 := (by injection e365); replace p365 := eq_true p365; replace q365 := eq_true q365; have p366 : 0 ≤ ((ji8) : Int) := of_decide_eq_true (by first | (with_reducible assumption) | assumption); have q366 : (ji8) < (l0.length : Int) := of_decide_eq_true (by first | (with_reducible assumption) | assumption); obtain ⟨ad366, e366, hx366_0⟩ := Kd.at_int HR0.out (ji8) p366 q366; obtain rfl : ad363 = ad366 := (by injection e366); replace p366 := eq_true p366; replace q366 := eq_true q366))
                    repeat (go_quiet (first | (go_at_call 152; (with_reducible refine (spec_l01In.calls (rd l0 x5_1) 0 (wrap64 (a1 - 1)) true _ A5.out).mono ?_); rintro e w' ⟨rfl, ⟨nd, rfl⟩⟩; (try first | exact ⟨rfl, _, World.drewN_drewN _ _ _⟩ | exact ⟨rfl, _, Eq.trans (World.drewN_drewN _ _ _) (congrArg (World.drewN _) (Nat.add_assoc _ _ _))⟩); have p365 : 0 ≤ (x5_1 : Int) := of_decide_eq_true (by first | (with_reducible assumption) | assumption); have q365 : x5_1 < (l0.length : Int) := of_decide_eq_true (by first | (with_reducible assumption) | assumption); obtain ⟨ad365, e365, hx365_0⟩ := Kd.at_int HR0.out x5_1 p365 q365; obtain rfl : ad363 = ad365 := (by injection e365); replace p365 := eq_true p365; replace q365 := eq_true q365; have p366 : 0 ≤ ((ji8) : Int) := of_decide_eq_true (by first | (with_reducible assumption) | assumption); have q366 : (ji8) < (l0.length : Int) := of_decide_eq_true (by first | (with_reducible assumption) | assumption); obtain ⟨ad366, e366, hx366_0⟩ := Kd.at_int HR0.out (ji8) p366 q366; obtain rfl : ad363 = ad366 := (by injection e366); replace p366 := eq_true p366; replace q366 := eq_true q366)); try go_wp2_with (first | (go_at_call 152; (with_reducible refine (spec_l01In.calls (rd l0 x5_1) 0 (wrap64 (a1 - 1)) true _ A5.out).mono ?_); rintro e w' ⟨rfl, ⟨nd, rfl⟩⟩; (try first | exact ⟨rfl, _, World.drewN_drewN _ _ _⟩ | exact ⟨rfl, _, Eq.trans (World.drewN_drewN _ _ _) (congrArg (World.drewN _) (Nat.add_assoc _ _ _))⟩); have p365 : 0 ≤ (x5_1 : Int) := of_decide_eq_true (by first | (with_reducible assumption) | assumption); have q365 : x5_1 < (l0.length : Int) := of_decide_eq_true (by first | (with_reducible assumption) | assumption); obtain ⟨ad365, e365, hx365_0⟩ := Kd.at_int HR0.out x5_1 p365 q365; obtain rfl : ad363 = ad365 := (by injection e365); replace p365 := eq_true p365; replace q365 := eq_true q365; have p366 : 0 ≤ ((ji8) : Int) := of_decide_eq_true (by first | (with_reducible assumption) | assumption); have q366 : (ji8) < (l0.length : Int) := of_decide_eq_true (by first | (with_reducible assumption) | assumption); obtain ⟨ad366, e366, hx366_0⟩ := Kd.at_int HR0.out (ji8) p366 q366; obtain rfl : ad363 = ad366 := (by injection e366); replace p366 := eq_true p366; replace q366 := eq_true q366)))
                    go_ret
                    exact ⟨by first | rfl | (simp; done) | (simp only [← hji8] <;> (first | rfl | simp)) | (simp [*]; done), by repeat (first | exact Drawn0.refl _ | apply Drawn0.step)⟩
                  · rw [if_neg c11] at H
                    have c11b0 : decide ((rd l0 x5_1) ≤ (rd l0 (ji8))) = false := decide_eq_false c11
                    clear c11
                    have H' := Aside0.mk H
                    clear H
                    have p363 : 0 ≤ (x5_1 : Int) := of_decide_eq_true (by first | (with_reducible assumption) | assumption)
                    have q363 : x5_1 < (l0.length : Int) := of_decide_eq_true (by first | (with_reducible assumption) | assumption)
                    obtain ⟨ad363, e363, hx363_0⟩ := Kd.at_int HR0.out x5_1 p363 q363
                    cases e363
                    replace p363 := eq_true p363
                    replace q363 := eq_true q363
                    go_wp2_with (first | (go_at_call 152; (with_reducible refine (spec_l01In.calls (rd l0 x5_1) 0 (wrap64 (a1 - 1)) true _ A5.out).mono ?_); rintro e w' ⟨rfl, ⟨nd, rfl⟩⟩; (try first | exact ⟨rfl, _, World.drewN_drewN _ _ _⟩ | exact ⟨rfl, _, Eq.trans (World.drewN_drewN _ _ _) (congrArg (World.drewN _) (Nat.add_assoc _ _ _))⟩); have p365 : 0 ≤ (x5_1 : Int) := of_decide_eq_true (by first | (with_reducible assumption) | assumption); have q365 : x5_1 < (l0.length : Int) := of_decide_eq_true (by first | (with_reducible assumption) | assumption); obtain ⟨ad365, e365, hx365_0⟩ := Kd.at_int HR0.out x5_1 p365 q365; obtain rfl : ad363 = ad365 := (by injection e365); replace p365 := eq_true p365; replace q365 := eq_true q365; have p366 : 0 ≤ ((ji8) : Int) := of_decide_eq_true (by first | (with_reducible assumption) | assumption); have q366 : (ji8) < (l0.length : Int) := of_decide_eq_true (by first | (with_reducible assumption) | assumption); obtain ⟨ad366, e366, hx366_0⟩ := Kd.at_int HR0.out (ji8) p366 q366; obtain rfl : ad363 = ad366 := (by injection e366); replace p366 := eq_true p366; replace q366 := eq_true q366))
                    repeat (go_quiet (first | (go_at_call 152; (with_reducible refine (spec_l01In.calls (rd l0 x5_1) 0 (wrap64 (a1 - 1)) true _ A5.out).mono ?_); rintro e w' ⟨rfl, ⟨nd, rfl⟩⟩; (try first | exact ⟨rfl, _, World.drewN_drewN _ _ _⟩ | exact ⟨rfl, _, Eq.trans (World.drewN_drewN _ _ _) (congrArg (World.drewN _) (Nat.add_assoc _ _ _))⟩); have p365 : 0 ≤ (x5_1 : Int) := of_decide_eq_true (by first | (with_reducible assumption) | assumption); have q365 : x5_1 < (l0.length : Int) := of_decide_eq_true (by first | (with_reducible assumption) | assumption); obtain ⟨ad365, e365, hx365_0⟩ := Kd.at_int HR0.out x5_1 p365 q365; obtain rfl : ad363 = ad365 := (by injection e365); replace p365 := eq_true p365; replace q365 := eq_true q365; have p366 : 0 ≤ ((ji8) : Int) := of_decide_eq_true (by first | (with_reducible assumption) | assumption); have q366 : (ji8) < (l0.length : Int) := of_decide_eq_true (by first | (with_reducible assumption) | assumption); obtain ⟨ad366, e366, hx366_0⟩ := Kd.at_int HR0.out (ji8) p366 q366; obtain rfl : ad363 = ad366 := (by injection e366); replace p366 := eq_true p366; replace q366 := eq_true q366)); try go_wp2_with (first | (go_at_call 152; (with_reducible refine (spec_l01In.calls (rd l0 x5_1) 0 (wrap64 (a1 - 1)) true _ A5.out).mono ?_); rintro e w' ⟨rfl, ⟨nd, rfl⟩⟩; (try first | exact ⟨rfl, _, World.drewN_drewN _ _ _⟩ | exact ⟨rfl, _, Eq.trans (World.drewN_drewN _ _ _) (congrArg (World.drewN _) (Nat.add_assoc _ _ _))⟩); have p365 : 0 ≤ (x5_1 : Int) := of_decide_eq_true (by first | (with_reducible assumption) | assumption); have q365 : x5_1 < (l0.length : Int) := of_decide_eq_true (by first | (with_reducible assumption) | assumption); obtain ⟨ad365, e365, hx365_0⟩ := Kd.at_int HR0.out x5_1 p365 q365; obtain rfl : ad363 = ad365 := (by injection e365); replace p365 := eq_true p365; replace q365 := eq_true q365; have p366 : 0 ≤ ((ji8) : Int) := of_decide_eq_true (by first | (with_reducible assumption) | assumption); have q366 : (ji8) < (l0.length : Int) := of_decide_eq_true (by first | (with_reducible assumption) | assumption); obtain ⟨ad366, e366, hx366_0⟩ := Kd.at_int HR0.out (ji8) p366 q366; obtain rfl : ad363 = ad366 := (by injection e366); replace p366 := eq_true p366; replace q366 := eq_true q366)))
                    go_roundg k1
                    case measure => have := HK1.out; omega
                    case rel => exact ⟨(wrap64 (x5_1 + 1)), (by first | rfl | (simp; done) | (simp [*]; done)), H', ⟨by have := HK1.out; omega⟩, by repeat (first | exact Drawn0.refl _ | apply Drawn0.step)⟩
                · rw [if_neg c10] at H
                  exact absurd H (by simp)
              · rw [if_neg c9] at H
                exact absurd H (by simp)
            · rw [if_neg c7] at H
              have c7b0 : decide (0 < x5_1) = false := decide_eq_false c7
              clear c7
              have H' := Aside0.mk H
              clear H
              have p363 : 0 ≤ (x5_1 : Int) := of_decide_eq_true (by first | (with_reducible assumption) | assumption)
              have q363 : x5_1 < (l0.length : Int) := of_decide_eq_true (by first | (with_reducible assumption) | assumption)
              obtain ⟨ad363, e363, hx363_0⟩ := Kd.at_int HR0.out x5_1 p363 q363
              cases e363
              replace p363 := eq_true p363
              replace q363 := eq_true q363
              go_wp2_with (first | (go_at_call 152; (with_reducible refine (spec_l01In.calls (rd l0 x5_1) 0 (wrap64 (a1 - 1)) true _ A5.out).mono ?_); rintro e w' ⟨rfl, ⟨nd, rfl⟩⟩; (try first | exact ⟨rfl, _, World.drewN_drewN _ _ _⟩ | exact ⟨rfl, _, Eq.trans (World.drewN_drewN _ _ _) (congrArg (World.drewN _) (Nat.add_assoc _ _ _))⟩)))
              repeat (go_quiet (first | (go_at_call 152; (with_reducible refine (spec_l01In.calls (rd l0 x5_1) 0 (wrap64 (a1 - 1)) true _ A5.out).mono ?_); rintro e w' ⟨rfl, ⟨nd, rfl⟩⟩; (try first | exact ⟨rfl, _, World.drewN_drewN _ _ _⟩ | exact ⟨rfl, _, Eq.trans (World.drewN_drewN _ _ _) (congrArg (World.drewN _) (Nat.add_assoc _ _ _))⟩))); try go_wp2_with (first | (go_at_call 152; (with_reducible refine (spec_l01In.calls (rd l0 x5_1) 0 (wrap64 (a1 - 1)) true _ A5.out).mono ?_); rintro e w' ⟨rfl, ⟨nd, rfl⟩⟩; (try first | exact ⟨rfl, _, World.drewN_drewN _ _ _⟩ | exact ⟨rfl, _, Eq.trans (World.drewN_drewN _ _ _) (congrArg (World.drewN _) (Nat.add_assoc _ _ _))⟩))))
              go_roundg k1
              case measure => have := HK1.out; omega
              case rel => exact ⟨(wrap64 (x5_1 + 1)), (by first | rfl | (simp; done) | (simp [*]; done)), H', ⟨by have := HK1.out; omega⟩, by repeat (first | exact Drawn0.refl _ | apply Drawn0.step)⟩
          · replace c6 := Bool.eq_false_iff.mpr c6
            subst c6
            have H1 : (some false) = some r := by rw [if_neg (show ¬ (false = true) by decide)] at H; exact H
            clear H
            have H := H1
            clear H1
            obtain rfl := Option.some.inj H
            have p363 : 0 ≤ (x5_1 : Int) := of_decide_eq_true (by first | (with_reducible assumption) | assumption)
            have q363 : x5_1 < (l0.length : Int) := of_decide_eq_true (by first | (with_reducible assumption) | assumption)
            obtain ⟨ad363, e363, hx363_0⟩ := Kd.at_int HR0.out x5_1 p363 q363
            cases e363
            replace p363 := eq_true p363
            replace q363 := eq_true q363
            go_wp2_with (first | (go_at_call 152; (with_reducible refine (spec_l01In.calls (rd l0 x5_1) 0 (wrap64 (a1 - 1)) false _ A5.out).mono ?_); rintro e w' ⟨rfl, ⟨nd, rfl⟩⟩; (try first | exact ⟨rfl, _, World.drewN_drewN _ _ _⟩ | exact ⟨rfl, _, Eq.trans (World.drewN_drewN _ _ _) (congrArg (World.drewN _) (Nat.add_assoc _ _ _))⟩)))
            repeat (go_quiet (first | (go_at_call 152; (with_reducible refine (spec_l01In.calls (rd l0 x5_1) 0 (wrap64 (a1 - 1)) false _ A5.out).mono ?_); rintro e w' ⟨rfl, ⟨nd, rfl⟩⟩; (try first | exact ⟨rfl, _, World.drewN_drewN _ _ _⟩ | exact ⟨rfl, _, Eq.trans (World.drewN_drewN _ _ _) (congrArg (World.drewN _) (Nat.add_assoc _ _ _))⟩))); try go_wp2_with (first | (go_at_call 152; (with_reducible refine (spec_l01In.calls (rd l0 x5_1) 0 (wrap64 (a1 - 1)) false _ A5.out).mono ?_); rintro e w' ⟨rfl, ⟨nd, rfl⟩⟩; (try first | exact ⟨rfl, _, World.drewN_drewN _ _ _⟩ | exact ⟨rfl, _, Eq.trans (World.drewN_drewN _ _ _) (congrArg (World.drewN _) (Nat.add_assoc _ _ _))⟩))))
            go_ret
            exact ⟨by first | rfl | (simp; done) | (simp [*]; done), by repeat (first | exact Drawn0.refl _ | apply Drawn0.step)⟩
        · rw [if_neg c4] at H
          exact absurd H (by simp)
      · rw [if_neg c3] at H
        have c3b0 : decide (x5_1 < (l0.length : Int)) = false := decide_eq_false c3
        clear c3
        obtain rfl := Option.some.inj H
        go_wp2
        repeat (go_quiet (fail); try go_wp2)
        go_ret
        exact ⟨by first | rfl | (simp; done) | (simp [*]; done), by repeat (first | exact Drawn0.refl _ | apply Drawn0.step)⟩

end Go.Proofs.Ythdadohmomhchaa.F

namespace Go.Proofs.Ythdadohmomhchaa.F
open Go.RowKit Go.Proofs.YthdadohmomhchaaW.PrintWords Go.Proofs.YthdadohmomhchaaW.PrintLast Go.Proofs.YthdadohmomhchaaW.PrintMore
attribute [local go_sem] max2_int min2_int max_two min_two max_three min_three max_four min_four   -- for this text's walks alone
set_option linter.unusedVariables false
set_option linter.unusedSimpArgs false

/-! ### spec_l33Lists: function 173 -/
def spec_l33Lists.f (k : Nat) (l0 : List Int) (l1 : List Int) : Option (Bool) := (spec_l01Rises.f k l0 1440).bind fun t367 => (if t367 = true then ((spec_l01Rises.f k l1 12).bind fun t368 => (some t368)) else (some false))
theorem spec_l33Lists.mono : ∀ a0 a1 k, LeO (spec_l33Lists.f k a0 a1) (spec_l33Lists.f (k + 1) a0 a1) := by
  intro a0 a1 k
  unfold spec_l33Lists.f
  repeat' first
      | (with_reducible exact spec_l01Rises.mono _ _ _)
      | (with_reducible exact LeO.refl _)
      | (with_reducible exact LeO.none _)
      | (with_reducible refine LeO.ite ?_ ?_)
      | (with_reducible refine LeO.bind ?_ (fun _ => ?_))
      | exact spec_l01Rises.mono _ _ _
      | exact LeO.none _
      | refine LeO.ite ?_ ?_
      | refine LeO.bind ?_ (fun _ => ?_)
set_option maxHeartbeats 8000000 in
set_option maxRecDepth 100000 in
theorem spec_l33Lists.calls (k : Nat) (A0 : Option Addr) (c0 : Nat) (l0 : List Int) (A1 : Option Addr) (c1 : Nat) (l1 : List Int) (r : Bool) (w : World) (hr0 : Kd.C (Kd.int .i64) w A0 l0.length l0) (hc0 : l0.length ≤ c0) (hr1 : Kd.C (Kd.int .i64) w A1 l1.length l1) (hc1 : l1.length ≤ c1) (h : spec_l33Lists.f k l0 l1 = some r) :
    Calls Try.prog 173 #[.slice A0 l0.length c0, .slice A1 l1.length c1] w fun e w' => e = .returned (.bool r) ∧ Drawn0 w w' := by
  have HR0 := Aside0.mk hr0
  have HC0 := Aside0.mk hc0
  clear hr0 hc0
  have HR1 := Aside0.mk hr1
  have HC1 := Aside0.mk hc1
  clear hr1 hc1
  have H : ((spec_l01Rises.f k l0 1440).bind fun t367 => (if t367 = true then ((spec_l01Rises.f k l1 12).bind fun t368 => (some t368)) else (some false))) = some r := h
  clear h
  replace H := Option.bind_eq_some_iff.mp H
  obtain ⟨t367, A30, H⟩ := H
  replace H : (if t367 = true then ((spec_l01Rises.f k l1 12).bind fun t368 => (some t368)) else (some false)) = some r := H
  have A3 := Aside0.mk A30
  clear A30
  by_cases c4 : t367 = true
  · subst c4
    have H1 : ((spec_l01Rises.f k l1 12).bind fun t368 => (some t368)) = some r := by rw [if_pos rfl] at H; exact H
    clear H
    have H := H1
    clear H1
    replace H := Option.bind_eq_some_iff.mp H
    obtain ⟨t368, A50, H⟩ := H
    replace H : (some t368) = some r := H
    have A5 := Aside0.mk A50
    clear A50
    obtain rfl := Option.some.inj H
    go_enter Try.func173, Try.ntmps173
    go_wp2_with (first | ((with_reducible refine gate_callee (f := 207) rfl ?_); refine goesL_ (some 6) rfl rfl Try.func207 (by kernel_rfl) rfl #[.slice A0 l0.length c0, .int .i64 1440] rfl (by (try simp only [List.map_toArray, List.map_cons, List.map_nil]); first | done | rfl | (simp only [List.length_drop, List.length_take]; rfl)) ?_; (with_reducible refine (spec_l01Rises.calls k _ _ l0 1440 true _ ?side1 ?side2 A3.out).mono ?_); (case side1 => repeat (first | exact HR0.out | (with_reducible refine Kd.C_alloc ?_ _) | (with_reducible refine Kd.C_drewN ?_ _) | (with_reducible refine Kd.C_drew ?_))); (case side2 => exact HC0.out); rintro e w' ⟨rfl, ⟨nd, rfl⟩⟩; refine ⟨_, rfl, ?_⟩) | (go_at_call 207; (with_reducible refine (spec_l01Rises.calls k _ _ l1 12 t368 _ ?side1 ?side2 A5.out).mono ?_); (case side1 => repeat (first | exact HR1.out | (with_reducible refine Kd.C_alloc ?_ _) | (with_reducible refine Kd.C_drewN ?_ _) | (with_reducible refine Kd.C_drew ?_))); (case side2 => exact HC1.out); rintro e w' ⟨rfl, ⟨nd, rfl⟩⟩))
    go_ret
    exact ⟨by first | rfl | (simp; done) | (simp [*]; done), by repeat (first | exact Drawn0.refl _ | apply Drawn0.step)⟩
  · replace c4 := Bool.eq_false_iff.mpr c4
    subst c4
    have H1 : (some false) = some r := by rw [if_neg (show ¬ (false = true) by decide)] at H; exact H
    clear H
    have H := H1
    clear H1
    obtain rfl := Option.some.inj H
    go_enter Try.func173, Try.ntmps173
    go_wp2_with (first | ((with_reducible refine gate_callee (f := 207) rfl ?_); refine goesL_ (some 6) rfl rfl Try.func207 (by kernel_rfl) rfl #[.slice A0 l0.length c0, .int .i64 1440] rfl (by (try simp only [List.map_toArray, List.map_cons, List.map_nil]); first | done | rfl | (simp only [List.length_drop, List.length_take]; rfl)) ?_; (with_reducible refine (spec_l01Rises.calls k _ _ l0 1440 false _ ?side1 ?side2 A3.out).mono ?_); (case side1 => repeat (first | exact HR0.out | (with_reducible refine Kd.C_alloc ?_ _) | (with_reducible refine Kd.C_drewN ?_ _) | (with_reducible refine Kd.C_drew ?_))); (case side2 => exact HC0.out); rintro e w' ⟨rfl, ⟨nd, rfl⟩⟩; refine ⟨_, rfl, ?_⟩))
    go_ret
    exact ⟨by first | rfl | (simp; done) | (simp [*]; done), by repeat (first | exact Drawn0.refl _ | apply Drawn0.step)⟩

end Go.Proofs.Ythdadohmomhchaa.F

namespace Go.Proofs.Ythdadohmomhchaa.F
open Go.RowKit Go.Proofs.YthdadohmomhchaaW.PrintWords Go.Proofs.YthdadohmomhchaaW.PrintLast Go.Proofs.YthdadohmomhchaaW.PrintMore
attribute [local go_sem] max2_int min2_int max_two min_two max_three min_three max_four min_four   -- for this text's walks alone
set_option linter.unusedVariables false
set_option linter.unusedSimpArgs false

/-! ### spec_IsProject: function 107 -/
def spec_IsProject.f (k : Nat) (a0_0 : Int) (a0_1 : Int) (a0_2 : Int) (a0_3 : Int) (a0_4 : Int) (l0_5 : List Int) (l0_6 : List Int) : Option (Bool) := (spec_IsDial.f a0_0 a0_1 a0_2 a0_3).bind fun t370 => (if t370 = true then ((spec_l01In.f a0_4 1901 2099).bind fun t371 => (if t371 = true then ((spec_l33Lists.f k l0_5 l0_6).bind fun t372 => (if t372 = true then (some (decide ((wrap64 ((l0_5.length : Int) + (l0_6.length : Int))) ≤ 40))) else (some false))) else (some false))) else (some false))
theorem spec_IsProject.mono : ∀ a0 a1 a2 a3 a4 a5 a6 k, LeO (spec_IsProject.f k a0 a1 a2 a3 a4 a5 a6) (spec_IsProject.f (k + 1) a0 a1 a2 a3 a4 a5 a6) := by
  intro a0 a1 a2 a3 a4 a5 a6 k
  unfold spec_IsProject.f
  repeat' first
      | (with_reducible exact spec_l33Lists.mono _ _ _)
      | (with_reducible exact LeO.refl _)
      | (with_reducible exact LeO.none _)
      | (with_reducible refine LeO.ite ?_ ?_)
      | (with_reducible refine LeO.bind ?_ (fun _ => ?_))
      | exact spec_l33Lists.mono _ _ _
      | exact LeO.none _
      | refine LeO.ite ?_ ?_
      | refine LeO.bind ?_ (fun _ => ?_)
set_option maxHeartbeats 8000000 in
set_option maxRecDepth 100000 in
theorem spec_IsProject.calls (k : Nat) (a0_0 : Int) (a0_1 : Int) (a0_2 : Int) (a0_3 : Int) (a0_4 : Int) (A0_5 : Option Addr) (c0_5 : Nat) (l0_5 : List Int) (A0_6 : Option Addr) (c0_6 : Nat) (l0_6 : List Int) (r : Bool) (w : World) (hr0_5 : Kd.C (Kd.int .i64) w A0_5 l0_5.length l0_5) (hc0_5 : l0_5.length ≤ c0_5) (hr0_6 : Kd.C (Kd.int .i64) w A0_6 l0_6.length l0_6) (hc0_6 : l0_6.length ≤ c0_6) (h : spec_IsProject.f k a0_0 a0_1 a0_2 a0_3 a0_4 l0_5 l0_6 = some r) :
    Calls Try.prog 107 #[.agg #[.int .i64 a0_0, .int .i64 a0_1, .int .i64 a0_2, .int .i64 a0_3, .int .i64 a0_4, .slice A0_5 l0_5.length c0_5, .slice A0_6 l0_6.length c0_6]] w fun e w' => e = .returned (.bool r) ∧ Below w.heap.size w w' := by
  have hu63 := Try.underlying63
  have hu61 := Try.underlying61
  have HR0_5 := Aside0.mk hr0_5
  have HC0_5 := Aside0.mk hc0_5
  clear hr0_5 hc0_5
  have HR0_6 := Aside0.mk hr0_6
  have HC0_6 := Aside0.mk hc0_6
  clear hr0_6 hc0_6
  have HB := Aside0.mk (Below.refl w.heap.size w)
  have H : ((spec_IsDial.f a0_0 a0_1 a0_2 a0_3).bind fun t370 => (if t370 = true then ((spec_l01In.f a0_4 1901 2099).bind fun t371 => (if t371 = true then ((spec_l33Lists.f k l0_5 l0_6).bind fun t372 => (if t372 = true then (some (decide ((wrap64 ((l0_5.length : Int) + (l0_6.length : Int))) ≤ 40))) else (some false))) else (some false))) else (some false))) = some r := h
  clear h
  replace H := Option.bind_eq_some_iff.mp H
  obtain ⟨t370, A20, H⟩ := H
  replace H : (if t370 = true then ((spec_l01In.f a0_4 1901 2099).bind fun t371 => (if t371 = true then ((spec_l33Lists.f k l0_5 l0_6).bind fun t372 => (if t372 = true then (some (decide ((wrap64 ((l0_5.length : Int) + (l0_6.length : Int))) ≤ 40))) else (some false))) else (some false))) else (some false)) = some r := H
  have A2 := Aside0.mk A20
  clear A20
  by_cases c3 : t370 = true
  · subst c3
    have H1 : ((spec_l01In.f a0_4 1901 2099).bind fun t371 => (if t371 = true then ((spec_l33Lists.f k l0_5 l0_6).bind fun t372 => (if t372 = true then (some (decide ((wrap64 ((l0_5.length : Int) + (l0_6.length : Int))) ≤ 40))) else (some false))) else (some false))) = some r := by rw [if_pos rfl] at H; exact H
    clear H
    have H := H1
    clear H1
    replace H := Option.bind_eq_some_iff.mp H
    obtain ⟨t371, A40, H⟩ := H
    replace H : (if t371 = true then ((spec_l33Lists.f k l0_5 l0_6).bind fun t372 => (if t372 = true then (some (decide ((wrap64 ((l0_5.length : Int) + (l0_6.length : Int))) ≤ 40))) else (some false))) else (some false)) = some r := H
    have A4 := Aside0.mk A40
    clear A40
    by_cases c5 : t371 = true
    · subst c5
      have H1 : ((spec_l33Lists.f k l0_5 l0_6).bind fun t372 => (if t372 = true then (some (decide ((wrap64 ((l0_5.length : Int) + (l0_6.length : Int))) ≤ 40))) else (some false))) = some r := by rw [if_pos rfl] at H; exact H
      clear H
      have H := H1
      clear H1
      replace H := Option.bind_eq_some_iff.mp H
      obtain ⟨t372, A60, H⟩ := H
      replace H : (if t372 = true then (some (decide ((wrap64 ((l0_5.length : Int) + (l0_6.length : Int))) ≤ 40))) else (some false)) = some r := H
      have A6 := Aside0.mk A60
      clear A60
      by_cases c7 : t372 = true
      · subst c7
        have H1 : (some (decide ((wrap64 ((l0_5.length : Int) + (l0_6.length : Int))) ≤ 40))) = some r := by rw [if_pos rfl] at H; exact H
        clear H
        have H := H1
        clear H1
        obtain rfl := Option.some.inj H
        go_enter Try.func107, Try.ntmps107
        go_wp2_with (first | ((with_reducible refine gate_dst (N := 1) rfl ?_); (try (refine gate_guard (by rfl) ?_; dsimp only)); refine box_event ?hg (N := 1) ?hd (cs := #[.int .i64 a0_0, .int .i64 a0_1, .int .i64 a0_2, .int .i64 a0_3, .int .i64 a0_4, .slice A0_5 l0_5.length c0_5, .slice A0_6 l0_6.length c0_6]) (t := 63) ?hr ?_; (case hd => rfl); (case hg => rfl); (case hr => first | (go_simp; done) | (go_simp; rfl)); intro gb369 hg w8 hbox hb; have n0_ := Aside0.mk (below_step (by repeat (first | (with_reducible first | exact HB.out | apply below_alloc | apply pw_below_drewN | apply below_drew1) | exact HB.out)) hb); have n1_ := Aside0.mk (hbox); have n2_ := Aside0.mk ((by rw [hg]; exact (below_size (by repeat (first | (with_reducible first | exact HB.out | apply below_alloc | apply pw_below_drewN | apply below_drew1) | exact HB.out))) : w.heap.size ≤ gb369)); have n3_ := Aside0.mk ((by rw [hg]; exact (below_size (by repeat (first | (with_reducible first | exact HB.out | apply below_alloc | apply pw_below_drewN | apply below_drew1) | exact HB.out))) : w.heap.size ≤ gb369)); clear HB; have HB := n0_; have BK369 := n1_; have GW369 := n2_; have GE369 := n3_; clear n0_ n1_ n2_ n3_; clear hb hbox hg; have hcz9_0 : w8.cell? ⟨gb369, 0, none⟩ = some (.int .i64 a0_0) := (blk_cell BK369.out 0).trans rfl; have hcz9_1 : w8.cell? ⟨gb369, 1, none⟩ = some (.int .i64 a0_1) := (blk_cell BK369.out 1).trans rfl; have hcz9_2 : w8.cell? ⟨gb369, 2, none⟩ = some (.int .i64 a0_2) := (blk_cell BK369.out 2).trans rfl; have hcz9_3 : w8.cell? ⟨gb369, 3, none⟩ = some (.int .i64 a0_3) := (blk_cell BK369.out 3).trans rfl; have hcz9_4 : w8.cell? ⟨gb369, 4, none⟩ = some (.int .i64 a0_4) := (blk_cell BK369.out 4).trans rfl; have hcz9_5 : w8.cell? ⟨gb369, 5, none⟩ = some (.slice A0_5 l0_5.length c0_5) := (blk_cell BK369.out 5).trans rfl; have hcz9_6 : w8.cell? ⟨gb369, 6, none⟩ = some (.slice A0_6 l0_6.length c0_6) := (blk_cell BK369.out 6).trans rfl; have hfz9_0 := blk_frozen BK369.out 0; have hfz9_1 := blk_frozen BK369.out 1; have hfz9_2 := blk_frozen BK369.out 2; have hfz9_3 := blk_frozen BK369.out 3; have hfz9_4 := blk_frozen BK369.out 4; have hfz9_5 := blk_frozen BK369.out 5; have hfz9_6 := blk_frozen BK369.out 6) | ((with_reducible refine gate_callee (f := 172) rfl ?_); refine goesL_ (some 5) rfl rfl Try.func172 (by kernel_rfl) rfl #[.agg #[.int .i64 a0_0, .int .i64 a0_1, .int .i64 a0_2, .int .i64 a0_3]] rfl (by (try simp only [List.map_toArray, List.map_cons, List.map_nil]); first | done | rfl | (simp only [List.length_drop, List.length_take]; rfl)) ?_; (with_reducible refine (spec_IsDial.calls a0_0 a0_1 a0_2 a0_3 true _ A2.out).mono ?_); rintro e w10 ⟨rfl, hb⟩; refine ⟨_, rfl, ?_⟩; have n0_ := Aside0.mk (blk_below (g := gb369) (o := .cells #[.int .i64 a0_0, .int .i64 a0_1, .int .i64 a0_2, .int .i64 a0_3, .int .i64 a0_4, .slice A0_5 l0_5.length c0_5, .slice A0_6 l0_6.length c0_6] 63 (0, 0)) (by (with_reducible repeat (first | refine blk_drewN ?_ _ | refine blk_drew ?_ | refine blk_alloc ?_ _)); exact BK369.out) hb); have n1_ := Aside0.mk (below_step (by repeat (first | (with_reducible first | exact HB.out | apply below_alloc | apply pw_below_drewN | apply below_drew1 | refine below_set ?_ GE369.out) | exact HB.out)) hb); clear BK369; clear HB; have BK369 := n0_; have HB := n1_; clear n0_ n1_; (try clear hb); (try clear hb2); (try clear hk); (try clear hi); have hcz11_0 : w10.cell? ⟨gb369, 0, none⟩ = some (.int .i64 a0_0) := (blk_cell BK369.out 0).trans rfl; have hcz11_1 : w10.cell? ⟨gb369, 1, none⟩ = some (.int .i64 a0_1) := (blk_cell BK369.out 1).trans rfl; have hcz11_2 : w10.cell? ⟨gb369, 2, none⟩ = some (.int .i64 a0_2) := (blk_cell BK369.out 2).trans rfl; have hcz11_3 : w10.cell? ⟨gb369, 3, none⟩ = some (.int .i64 a0_3) := (blk_cell BK369.out 3).trans rfl; have hcz11_4 : w10.cell? ⟨gb369, 4, none⟩ = some (.int .i64 a0_4) := (blk_cell BK369.out 4).trans rfl; have hcz11_5 : w10.cell? ⟨gb369, 5, none⟩ = some (.slice A0_5 l0_5.length c0_5) := (blk_cell BK369.out 5).trans rfl; have hcz11_6 : w10.cell? ⟨gb369, 6, none⟩ = some (.slice A0_6 l0_6.length c0_6) := (blk_cell BK369.out 6).trans rfl; have hfz11_0 := blk_frozen BK369.out 0; have hfz11_1 := blk_frozen BK369.out 1; have hfz11_2 := blk_frozen BK369.out 2; have hfz11_3 := blk_frozen BK369.out 3; have hfz11_4 := blk_frozen BK369.out 4; have hfz11_5 := blk_frozen BK369.out 5; have hfz11_6 := blk_frozen BK369.out 6) | (go_at_call 152; (with_reducible refine (spec_l01In.calls a0_4 1901 2099 true _ A4.out).mono ?_); rintro e w' ⟨rfl, ⟨nd, rfl⟩⟩) | (go_at_call 173; (with_reducible refine (spec_l33Lists.calls k _ _ l0_5 _ _ l0_6 true _ ?side1 ?side2 ?side3 ?side4 A6.out).mono ?_); (case side1 => repeat (first | exact (Kd.C_below HR0_5.out (by repeat (first | (with_reducible first | exact HB.out | apply below_alloc | apply pw_below_drewN | apply below_drew1 | refine below_set ?_ GE369.out) | exact HB.out))) | (with_reducible refine Kd.C_alloc ?_ _) | (with_reducible refine Kd.C_drewN ?_ _) | (with_reducible refine Kd.C_drew ?_))); (case side2 => exact HC0_5.out); (case side3 => repeat (first | exact (Kd.C_below HR0_6.out (by repeat (first | (with_reducible first | exact HB.out | apply below_alloc | apply pw_below_drewN | apply below_drew1 | refine below_set ?_ GE369.out) | exact HB.out))) | (with_reducible refine Kd.C_alloc ?_ _) | (with_reducible refine Kd.C_drewN ?_ _) | (with_reducible refine Kd.C_drew ?_))); (case side4 => exact HC0_6.out); rintro e w' ⟨rfl, ⟨nd, rfl⟩⟩))
        go_ret
        exact ⟨by first | rfl | (simp [errW_none, errW_some] <;> rfl) | (simp [*, errW_none, errW_some] <;> rfl), by repeat (first | (with_reducible first | exact HB.out | apply below_alloc | apply pw_below_drewN | apply below_drew1 | refine below_set ?_ GE369.out) | exact HB.out)⟩
      · replace c7 := Bool.eq_false_iff.mpr c7
        subst c7
        have H1 : (some false) = some r := by rw [if_neg (show ¬ (false = true) by decide)] at H; exact H
        clear H
        have H := H1
        clear H1
        obtain rfl := Option.some.inj H
        go_enter Try.func107, Try.ntmps107
        go_wp2_with (first | ((with_reducible refine gate_dst (N := 1) rfl ?_); (try (refine gate_guard (by rfl) ?_; dsimp only)); refine box_event ?hg (N := 1) ?hd (cs := #[.int .i64 a0_0, .int .i64 a0_1, .int .i64 a0_2, .int .i64 a0_3, .int .i64 a0_4, .slice A0_5 l0_5.length c0_5, .slice A0_6 l0_6.length c0_6]) (t := 63) ?hr ?_; (case hd => rfl); (case hg => rfl); (case hr => first | (go_simp; done) | (go_simp; rfl)); intro gb369 hg w12 hbox hb; have n0_ := Aside0.mk (below_step (by repeat (first | (with_reducible first | exact HB.out | apply below_alloc | apply pw_below_drewN | apply below_drew1) | exact HB.out)) hb); have n1_ := Aside0.mk (hbox); have n2_ := Aside0.mk ((by rw [hg]; exact (below_size (by repeat (first | (with_reducible first | exact HB.out | apply below_alloc | apply pw_below_drewN | apply below_drew1) | exact HB.out))) : w.heap.size ≤ gb369)); have n3_ := Aside0.mk ((by rw [hg]; exact (below_size (by repeat (first | (with_reducible first | exact HB.out | apply below_alloc | apply pw_below_drewN | apply below_drew1) | exact HB.out))) : w.heap.size ≤ gb369)); clear HB; have HB := n0_; have BK369 := n1_; have GW369 := n2_; have GE369 := n3_; clear n0_ n1_ n2_ n3_; clear hb hbox hg; have hcz13_0 : w12.cell? ⟨gb369, 0, none⟩ = some (.int .i64 a0_0) := (blk_cell BK369.out 0).trans rfl; have hcz13_1 : w12.cell? ⟨gb369, 1, none⟩ = some (.int .i64 a0_1) := (blk_cell BK369.out 1).trans rfl; have hcz13_2 : w12.cell? ⟨gb369, 2, none⟩ = some (.int .i64 a0_2) := (blk_cell BK369.out 2).trans rfl; have hcz13_3 : w12.cell? ⟨gb369, 3, none⟩ = some (.int .i64 a0_3) := (blk_cell BK369.out 3).trans rfl; have hcz13_4 : w12.cell? ⟨gb369, 4, none⟩ = some (.int .i64 a0_4) := (blk_cell BK369.out 4).trans rfl; have hcz13_5 : w12.cell? ⟨gb369, 5, none⟩ = some (.slice A0_5 l0_5.length c0_5) := (blk_cell BK369.out 5).trans rfl; have hcz13_6 : w12.cell? ⟨gb369, 6, none⟩ = some (.slice A0_6 l0_6.length c0_6) := (blk_cell BK369.out 6).trans rfl; have hfz13_0 := blk_frozen BK369.out 0; have hfz13_1 := blk_frozen BK369.out 1; have hfz13_2 := blk_frozen BK369.out 2; have hfz13_3 := blk_frozen BK369.out 3; have hfz13_4 := blk_frozen BK369.out 4; have hfz13_5 := blk_frozen BK369.out 5; have hfz13_6 := blk_frozen BK369.out 6) | ((with_reducible refine gate_callee (f := 172) rfl ?_); refine goesL_ (some 5) rfl rfl Try.func172 (by kernel_rfl) rfl #[.agg #[.int .i64 a0_0, .int .i64 a0_1, .int .i64 a0_2, .int .i64 a0_3]] rfl (by (try simp only [List.map_toArray, List.map_cons, List.map_nil]); first | done | rfl | (simp only [List.length_drop, List.length_take]; rfl)) ?_; (with_reducible refine (spec_IsDial.calls a0_0 a0_1 a0_2 a0_3 true _ A2.out).mono ?_); rintro e w14 ⟨rfl, hb⟩; refine ⟨_, rfl, ?_⟩; have n0_ := Aside0.mk (blk_below (g := gb369) (o := .cells #[.int .i64 a0_0, .int .i64 a0_1, .int .i64 a0_2, .int .i64 a0_3, .int .i64 a0_4, .slice A0_5 l0_5.length c0_5, .slice A0_6 l0_6.length c0_6] 63 (0, 0)) (by (with_reducible repeat (first | refine blk_drewN ?_ _ | refine blk_drew ?_ | refine blk_alloc ?_ _)); exact BK369.out) hb); have n1_ := Aside0.mk (below_step (by repeat (first | (with_reducible first | exact HB.out | apply below_alloc | apply pw_below_drewN | apply below_drew1 | refine below_set ?_ GE369.out) | exact HB.out)) hb); clear BK369; clear HB; have BK369 := n0_; have HB := n1_; clear n0_ n1_; (try clear hb); (try clear hb2); (try clear hk); (try clear hi); have hcz15_0 : w14.cell? ⟨gb369, 0, none⟩ = some (.int .i64 a0_0) := (blk_cell BK369.out 0).trans rfl; have hcz15_1 : w14.cell? ⟨gb369, 1, none⟩ = some (.int .i64 a0_1) := (blk_cell BK369.out 1).trans rfl; have hcz15_2 : w14.cell? ⟨gb369, 2, none⟩ = some (.int .i64 a0_2) := (blk_cell BK369.out 2).trans rfl; have hcz15_3 : w14.cell? ⟨gb369, 3, none⟩ = some (.int .i64 a0_3) := (blk_cell BK369.out 3).trans rfl; have hcz15_4 : w14.cell? ⟨gb369, 4, none⟩ = some (.int .i64 a0_4) := (blk_cell BK369.out 4).trans rfl; have hcz15_5 : w14.cell? ⟨gb369, 5, none⟩ = some (.slice A0_5 l0_5.length c0_5) := (blk_cell BK369.out 5).trans rfl; have hcz15_6 : w14.cell? ⟨gb369, 6, none⟩ = some (.slice A0_6 l0_6.length c0_6) := (blk_cell BK369.out 6).trans rfl; have hfz15_0 := blk_frozen BK369.out 0; have hfz15_1 := blk_frozen BK369.out 1; have hfz15_2 := blk_frozen BK369.out 2; have hfz15_3 := blk_frozen BK369.out 3; have hfz15_4 := blk_frozen BK369.out 4; have hfz15_5 := blk_frozen BK369.out 5; have hfz15_6 := blk_frozen BK369.out 6) | (go_at_call 152; (with_reducible refine (spec_l01In.calls a0_4 1901 2099 true _ A4.out).mono ?_); rintro e w' ⟨rfl, ⟨nd, rfl⟩⟩) | (go_at_call 173; (with_reducible refine (spec_l33Lists.calls k _ _ l0_5 _ _ l0_6 false _ ?side1 ?side2 ?side3 ?side4 A6.out).mono ?_); (case side1 => repeat (first | exact (Kd.C_below HR0_5.out (by repeat (first | (with_reducible first | exact HB.out | apply below_alloc | apply pw_below_drewN | apply below_drew1 | refine below_set ?_ GE369.out) | exact HB.out))) | (with_reducible refine Kd.C_alloc ?_ _) | (with_reducible refine Kd.C_drewN ?_ _) | (with_reducible refine Kd.C_drew ?_))); (case side2 => exact HC0_5.out); (case side3 => repeat (first | exact (Kd.C_below HR0_6.out (by repeat (first | (with_reducible first | exact HB.out | apply below_alloc | apply pw_below_drewN | apply below_drew1 | refine below_set ?_ GE369.out) | exact HB.out))) | (with_reducible refine Kd.C_alloc ?_ _) | (with_reducible refine Kd.C_drewN ?_ _) | (with_reducible refine Kd.C_drew ?_))); (case side4 => exact HC0_6.out); rintro e w' ⟨rfl, ⟨nd, rfl⟩⟩))
        go_ret
        exact ⟨by first | rfl | (simp [errW_none, errW_some] <;> rfl) | (simp [*, errW_none, errW_some] <;> rfl), by repeat (first | (with_reducible first | exact HB.out | apply below_alloc | apply pw_below_drewN | apply below_drew1 | refine below_set ?_ GE369.out) | exact HB.out)⟩
    · replace c5 := Bool.eq_false_iff.mpr c5
      subst c5
      have H1 : (some false) = some r := by rw [if_neg (show ¬ (false = true) by decide)] at H; exact H
      clear H
      have H := H1
      clear H1
      obtain rfl := Option.some.inj H
      go_enter Try.func107, Try.ntmps107
      go_wp2_with (first | ((with_reducible refine gate_dst (N := 1) rfl ?_); (try (refine gate_guard (by rfl) ?_; dsimp only)); refine box_event ?hg (N := 1) ?hd (cs := #[.int .i64 a0_0, .int .i64 a0_1, .int .i64 a0_2, .int .i64 a0_3, .int .i64 a0_4, .slice A0_5 l0_5.length c0_5, .slice A0_6 l0_6.length c0_6]) (t := 63) ?hr ?_; (case hd => rfl); (case hg => rfl); (case hr => first | (go_simp; done) | (go_simp; rfl)); intro gb369 hg w16 hbox hb; have n0_ := Aside0.mk (below_step (by repeat (first | (with_reducible first | exact HB.out | apply below_alloc | apply pw_below_drewN | apply below_drew1) | exact HB.out)) hb); have n1_ := Aside0.mk (hbox); have n2_ := Aside0.mk ((by rw [hg]; exact (below_size (by repeat (first | (with_reducible first | exact HB.out | apply below_alloc | apply pw_below_drewN | apply below_drew1) | exact HB.out))) : w.heap.size ≤ gb369)); have n3_ := Aside0.mk ((by rw [hg]; exact (below_size (by repeat (first | (with_reducible first | exact HB.out | apply below_alloc | apply pw_below_drewN | apply below_drew1) | exact HB.out))) : w.heap.size ≤ gb369)); clear HB; have HB := n0_; have BK369 := n1_; have GW369 := n2_; have GE369 := n3_; clear n0_ n1_ n2_ n3_; clear hb hbox hg; have hcz17_0 : w16.cell? ⟨gb369, 0, none⟩ = some (.int .i64 a0_0) := (blk_cell BK369.out 0).trans rfl; have hcz17_1 : w16.cell? ⟨gb369, 1, none⟩ = some (.int .i64 a0_1) := (blk_cell BK369.out 1).trans rfl; have hcz17_2 : w16.cell? ⟨gb369, 2, none⟩ = some (.int .i64 a0_2) := (blk_cell BK369.out 2).trans rfl; have hcz17_3 : w16.cell? ⟨gb369, 3, none⟩ = some (.int .i64 a0_3) := (blk_cell BK369.out 3).trans rfl; have hcz17_4 : w16.cell? ⟨gb369, 4, none⟩ = some (.int .i64 a0_4) := (blk_cell BK369.out 4).trans rfl; have hcz17_5 : w16.cell? ⟨gb369, 5, none⟩ = some (.slice A0_5 l0_5.length c0_5) := (blk_cell BK369.out 5).trans rfl; have hcz17_6 : w16.cell? ⟨gb369, 6, none⟩ = some (.slice A0_6 l0_6.length c0_6) := (blk_cell BK369.out 6).trans rfl; have hfz17_0 := blk_frozen BK369.out 0; have hfz17_1 := blk_frozen BK369.out 1; have hfz17_2 := blk_frozen BK369.out 2; have hfz17_3 := blk_frozen BK369.out 3; have hfz17_4 := blk_frozen BK369.out 4; have hfz17_5 := blk_frozen BK369.out 5; have hfz17_6 := blk_frozen BK369.out 6) | ((with_reducible refine gate_callee (f := 172) rfl ?_); refine goesL_ (some 5) rfl rfl Try.func172 (by kernel_rfl) rfl #[.agg #[.int .i64 a0_0, .int .i64 a0_1, .int .i64 a0_2, .int .i64 a0_3]] rfl (by (try simp only [List.map_toArray, List.map_cons, List.map_nil]); first | done | rfl | (simp only [List.length_drop, List.length_take]; rfl)) ?_; (with_reducible refine (spec_IsDial.calls a0_0 a0_1 a0_2 a0_3 true _ A2.out).mono ?_); rintro e w18 ⟨rfl, hb⟩; refine ⟨_, rfl, ?_⟩; have n0_ := Aside0.mk (blk_below (g := gb369) (o := .cells #[.int .i64 a0_0, .int .i64 a0_1, .int .i64 a0_2, .int .i64 a0_3, .int .i64 a0_4, .slice A0_5 l0_5.length c0_5, .slice A0_6 l0_6.length c0_6] 63 (0, 0)) (by (with_reducible repeat (first | refine blk_drewN ?_ _ | refine blk_drew ?_ | refine blk_alloc ?_ _)); exact BK369.out) hb); have n1_ := Aside0.mk (below_step (by repeat (first | (with_reducible first | exact HB.out | apply below_alloc | apply pw_below_drewN | apply below_drew1 | refine below_set ?_ GE369.out) | exact HB.out)) hb); clear BK369; clear HB; have BK369 := n0_; have HB := n1_; clear n0_ n1_; (try clear hb); (try clear hb2); (try clear hk); (try clear hi); have hcz19_0 : w18.cell? ⟨gb369, 0, none⟩ = some (.int .i64 a0_0) := (blk_cell BK369.out 0).trans rfl; have hcz19_1 : w18.cell? ⟨gb369, 1, none⟩ = some (.int .i64 a0_1) := (blk_cell BK369.out 1).trans rfl; have hcz19_2 : w18.cell? ⟨gb369, 2, none⟩ = some (.int .i64 a0_2) := (blk_cell BK369.out 2).trans rfl; have hcz19_3 : w18.cell? ⟨gb369, 3, none⟩ = some (.int .i64 a0_3) := (blk_cell BK369.out 3).trans rfl; have hcz19_4 : w18.cell? ⟨gb369, 4, none⟩ = some (.int .i64 a0_4) := (blk_cell BK369.out 4).trans rfl; have hcz19_5 : w18.cell? ⟨gb369, 5, none⟩ = some (.slice A0_5 l0_5.length c0_5) := (blk_cell BK369.out 5).trans rfl; have hcz19_6 : w18.cell? ⟨gb369, 6, none⟩ = some (.slice A0_6 l0_6.length c0_6) := (blk_cell BK369.out 6).trans rfl; have hfz19_0 := blk_frozen BK369.out 0; have hfz19_1 := blk_frozen BK369.out 1; have hfz19_2 := blk_frozen BK369.out 2; have hfz19_3 := blk_frozen BK369.out 3; have hfz19_4 := blk_frozen BK369.out 4; have hfz19_5 := blk_frozen BK369.out 5; have hfz19_6 := blk_frozen BK369.out 6) | (go_at_call 152; (with_reducible refine (spec_l01In.calls a0_4 1901 2099 false _ A4.out).mono ?_); rintro e w' ⟨rfl, ⟨nd, rfl⟩⟩))
      go_ret
      exact ⟨by first | rfl | (simp [errW_none, errW_some] <;> rfl) | (simp [*, errW_none, errW_some] <;> rfl), by repeat (first | (with_reducible first | exact HB.out | apply below_alloc | apply pw_below_drewN | apply below_drew1 | refine below_set ?_ GE369.out) | exact HB.out)⟩
  · replace c3 := Bool.eq_false_iff.mpr c3
    subst c3
    have H1 : (some false) = some r := by rw [if_neg (show ¬ (false = true) by decide)] at H; exact H
    clear H
    have H := H1
    clear H1
    obtain rfl := Option.some.inj H
    go_enter Try.func107, Try.ntmps107
    go_wp2_with (first | ((with_reducible refine gate_dst (N := 1) rfl ?_); (try (refine gate_guard (by rfl) ?_; dsimp only)); refine box_event ?hg (N := 1) ?hd (cs := #[.int .i64 a0_0, .int .i64 a0_1, .int .i64 a0_2, .int .i64 a0_3, .int .i64 a0_4, .slice A0_5 l0_5.length c0_5, .slice A0_6 l0_6.length c0_6]) (t := 63) ?hr ?_; (case hd => rfl); (case hg => rfl); (case hr => first | (go_simp; done) | (go_simp; rfl)); intro gb369 hg w20 hbox hb; have n0_ := Aside0.mk (below_step (by repeat (first | (with_reducible first | exact HB.out | apply below_alloc | apply pw_below_drewN | apply below_drew1) | exact HB.out)) hb); have n1_ := Aside0.mk (hbox); have n2_ := Aside0.mk ((by rw [hg]; exact (below_size (by repeat (first | (with_reducible first | exact HB.out | apply below_alloc | apply pw_below_drewN | apply below_drew1) | exact HB.out))) : w.heap.size ≤ gb369)); have n3_ := Aside0.mk ((by rw [hg]; exact (below_size (by repeat (first | (with_reducible first | exact HB.out | apply below_alloc | apply pw_below_drewN | apply below_drew1) | exact HB.out))) : w.heap.size ≤ gb369)); clear HB; have HB := n0_; have BK369 := n1_; have GW369 := n2_; have GE369 := n3_; clear n0_ n1_ n2_ n3_; clear hb hbox hg; have hcz21_0 : w20.cell? ⟨gb369, 0, none⟩ = some (.int .i64 a0_0) := (blk_cell BK369.out 0).trans rfl; have hcz21_1 : w20.cell? ⟨gb369, 1, none⟩ = some (.int .i64 a0_1) := (blk_cell BK369.out 1).trans rfl; have hcz21_2 : w20.cell? ⟨gb369, 2, none⟩ = some (.int .i64 a0_2) := (blk_cell BK369.out 2).trans rfl; have hcz21_3 : w20.cell? ⟨gb369, 3, none⟩ = some (.int .i64 a0_3) := (blk_cell BK369.out 3).trans rfl; have hcz21_4 : w20.cell? ⟨gb369, 4, none⟩ = some (.int .i64 a0_4) := (blk_cell BK369.out 4).trans rfl; have hcz21_5 : w20.cell? ⟨gb369, 5, none⟩ = some (.slice A0_5 l0_5.length c0_5) := (blk_cell BK369.out 5).trans rfl; have hcz21_6 : w20.cell? ⟨gb369, 6, none⟩ = some (.slice A0_6 l0_6.length c0_6) := (blk_cell BK369.out 6).trans rfl; have hfz21_0 := blk_frozen BK369.out 0; have hfz21_1 := blk_frozen BK369.out 1; have hfz21_2 := blk_frozen BK369.out 2; have hfz21_3 := blk_frozen BK369.out 3; have hfz21_4 := blk_frozen BK369.out 4; have hfz21_5 := blk_frozen BK369.out 5; have hfz21_6 := blk_frozen BK369.out 6) | ((with_reducible refine gate_callee (f := 172) rfl ?_); refine goesL_ (some 5) rfl rfl Try.func172 (by kernel_rfl) rfl #[.agg #[.int .i64 a0_0, .int .i64 a0_1, .int .i64 a0_2, .int .i64 a0_3]] rfl (by (try simp only [List.map_toArray, List.map_cons, List.map_nil]); first | done | rfl | (simp only [List.length_drop, List.length_take]; rfl)) ?_; (with_reducible refine (spec_IsDial.calls a0_0 a0_1 a0_2 a0_3 false _ A2.out).mono ?_); rintro e w22 ⟨rfl, hb⟩; refine ⟨_, rfl, ?_⟩; have n0_ := Aside0.mk (blk_below (g := gb369) (o := .cells #[.int .i64 a0_0, .int .i64 a0_1, .int .i64 a0_2, .int .i64 a0_3, .int .i64 a0_4, .slice A0_5 l0_5.length c0_5, .slice A0_6 l0_6.length c0_6] 63 (0, 0)) (by (with_reducible repeat (first | refine blk_drewN ?_ _ | refine blk_drew ?_ | refine blk_alloc ?_ _)); exact BK369.out) hb); have n1_ := Aside0.mk (below_step (by repeat (first | (with_reducible first | exact HB.out | apply below_alloc | apply pw_below_drewN | apply below_drew1 | refine below_set ?_ GE369.out) | exact HB.out)) hb); clear BK369; clear HB; have BK369 := n0_; have HB := n1_; clear n0_ n1_; (try clear hb); (try clear hb2); (try clear hk); (try clear hi)))
    go_ret
    exact ⟨by first | rfl | (simp [errW_none, errW_some] <;> rfl) | (simp [*, errW_none, errW_some] <;> rfl), by repeat (first | (with_reducible first | exact HB.out | apply below_alloc | apply pw_below_drewN | apply below_drew1 | refine below_set ?_ GE369.out) | exact HB.out)⟩

end Go.Proofs.Ythdadohmomhchaa.F

namespace Go.Proofs.Ythdadohmomhchaa.F
open Go.RowKit Go.Proofs.YthdadohmomhchaaW.PrintWords Go.Proofs.YthdadohmomhchaaW.PrintLast Go.Proofs.YthdadohmomhchaaW.PrintMore
attribute [local go_sem] max2_int min2_int max_two min_two max_three min_three max_four min_four   -- for this text's walks alone
set_option linter.unusedVariables false
set_option linter.unusedSimpArgs false

/-! ### spec_IsHistory: function 171 -/
def spec_IsHistory.l0 : Nat → List (S131) → Int → Option (Bool)
  | 0, _, _ => none
  | k + 1, x0, x3 => if x3 < (x0.length : Int) then (if 0 ≤ x3 then (if x3 = 0 then (if ((rd_T131 x0 x3).f0) = (-1) then (if x3 > 0 then ((spec_l01In.f ((rd_T131 x0 x3).f0) 0 (wrap64 (x3 - 1))).bind fun t374 => (if t374 = true then ((spec_IsProject.f k ((rd_T131 x0 x3).f1.f0.f0) ((rd_T131 x0 x3).f1.f0.f1.f0) ((rd_T131 x0 x3).f1.f0.f1.f1) ((rd_T131 x0 x3).f1.f0.f2) ((rd_T131 x0 x3).f1.f1) ((rd_T131 x0 x3).f1.f2) ((rd_T131 x0 x3).f1.f3)).bind fun t376 => (if t376 = true then (spec_IsHistory.l0 k x0 (wrap64 (x3 + 1))) else (some false))) else (some false))) else ((spec_IsProject.f k ((rd_T131 x0 x3).f1.f0.f0) ((rd_T131 x0 x3).f1.f0.f1.f0) ((rd_T131 x0 x3).f1.f0.f1.f1) ((rd_T131 x0 x3).f1.f0.f2) ((rd_T131 x0 x3).f1.f1) ((rd_T131 x0 x3).f1.f2) ((rd_T131 x0 x3).f1.f3)).bind fun t378 => (if t378 = true then (spec_IsHistory.l0 k x0 (wrap64 (x3 + 1))) else (some false)))) else (some false)) else (if x3 > 0 then ((spec_l01In.f ((rd_T131 x0 x3).f0) 0 (wrap64 (x3 - 1))).bind fun t379 => (if t379 = true then ((spec_IsProject.f k ((rd_T131 x0 x3).f1.f0.f0) ((rd_T131 x0 x3).f1.f0.f1.f0) ((rd_T131 x0 x3).f1.f0.f1.f1) ((rd_T131 x0 x3).f1.f0.f2) ((rd_T131 x0 x3).f1.f1) ((rd_T131 x0 x3).f1.f2) ((rd_T131 x0 x3).f1.f3)).bind fun t381 => (if t381 = true then (spec_IsHistory.l0 k x0 (wrap64 (x3 + 1))) else (some false))) else (some false))) else ((spec_IsProject.f k ((rd_T131 x0 x3).f1.f0.f0) ((rd_T131 x0 x3).f1.f0.f1.f0) ((rd_T131 x0 x3).f1.f0.f1.f1) ((rd_T131 x0 x3).f1.f0.f2) ((rd_T131 x0 x3).f1.f1) ((rd_T131 x0 x3).f1.f2) ((rd_T131 x0 x3).f1.f3)).bind fun t383 => (if t383 = true then (spec_IsHistory.l0 k x0 (wrap64 (x3 + 1))) else (some false))))) else (none)) else (some (decide ((x0.length : Int) ≤ 12)))
def spec_IsHistory.f (k : Nat) (l0 : List (S131)) : Option (Bool) := spec_IsHistory.l0 k l0 0
theorem spec_IsHistory.mono_l : ∀ k, (∀ y0 y1, LeO (spec_IsHistory.l0 k y0 y1) (spec_IsHistory.l0 (k + 1) y0 y1))
  | 0 => fun _ _ r h => by simp [spec_IsHistory.l0] at h
  | k + 1 => by
    have ih0 := spec_IsHistory.mono_l k
    · intro y0 y1
      unfold spec_IsHistory.l0
      repeat' first
      | (with_reducible exact ih0 _ _)
      | (with_reducible exact spec_IsProject.mono _ _ _ _ _ _ _ _)
      | (with_reducible exact LeO.refl _)
      | (with_reducible exact LeO.none _)
      | (with_reducible refine LeO.ite ?_ ?_)
      | (with_reducible refine LeO.bind ?_ (fun _ => ?_))
      | exact ih0 _ _
      | exact spec_IsProject.mono _ _ _ _ _ _ _ _
      | exact LeO.none _
      | refine LeO.ite ?_ ?_
      | refine LeO.bind ?_ (fun _ => ?_)
theorem spec_IsHistory.mono : ∀ a0 k, LeO (spec_IsHistory.f k a0) (spec_IsHistory.f (k + 1) a0) := by
  intro a0 k
  have ih0 := spec_IsHistory.mono_l k
  unfold spec_IsHistory.f
  repeat' first
      | (with_reducible exact ih0 _ _)
      | (with_reducible exact spec_IsProject.mono _ _ _ _ _ _ _ _)
      | (with_reducible exact LeO.refl _)
      | (with_reducible exact LeO.none _)
      | (with_reducible refine LeO.ite ?_ ?_)
      | (with_reducible refine LeO.bind ?_ (fun _ => ?_))
      | exact ih0 _ _
      | exact spec_IsProject.mono _ _ _ _ _ _ _ _
      | exact LeO.none _
      | refine LeO.ite ?_ ?_
      | refine LeO.bind ?_ (fun _ => ?_)
set_option maxHeartbeats 8000000 in
set_option maxRecDepth 100000 in
theorem spec_IsHistory.calls (k : Nat) (A0 : Option Addr) (c0 : Nat) (l0 : List (S131)) (r : Bool) (w : World) (hr0 : Kd.C k131 w A0 l0.length l0) (hc0 : l0.length ≤ c0) (h : spec_IsHistory.f k l0 = some r) :
    Calls Try.prog 171 #[.slice A0 l0.length c0] w fun e w' => e = .returned (.bool r) ∧ Below w.heap.size w w' := by
  have hu63 := Try.underlying63
  have HR0 := Aside0.mk hr0
  have HC0 := Aside0.mk hc0
  clear hr0 hc0
  have HB := Aside0.mk (Below.refl w.heap.size w)
  have H : (spec_IsHistory.l0 k l0 0) = some r := h
  clear h
  have H' := Aside0.mk H
  clear H
  go_enter Try.func171, Try.ntmps171
  go_wp2
  go_loopg [3] k (fun kq v3 w' => ∃ (x3_1 : Int), v3 = .int .i64 x3_1 ∧ Aside0 (spec_IsHistory.l0 kq l0 x3_1 = some r) ∧ Aside0 (kq ≤ k) ∧ Aside0 (Below w.heap.size w w'))
  case atStart => exact ⟨(0), (by first | rfl | (simp; done) | (simp [*]; done)), H', ⟨Nat.le_refl _⟩, ⟨by repeat (first | (with_reducible first | exact HB.out | apply below_alloc | apply pw_below_drewN | apply below_drew1) | exact HB.out)⟩⟩
  case round =>
    clear H'
    try clear c1
    obtain ⟨x3_1, rfl, HA, HK1, HB⟩ := hrel
    cases gk with
    | zero => exact absurd HA.out (by simp [spec_IsHistory.l0])
    | succ k1 =>
      have H := HA.out
      clear HA
      simp only [spec_IsHistory.l0] at H
      by_cases c2 : x3_1 < (l0.length : Int)
      · rw [if_pos c2] at H
        have c2b0 : decide (x3_1 < (l0.length : Int)) = true := decide_eq_true c2
        clear c2
        by_cases c3 : 0 ≤ x3_1
        · rw [if_pos c3] at H
          have c3b0 : decide (0 ≤ x3_1) = true := decide_eq_true c3
          clear c3
          by_cases c4 : x3_1 = 0
          · rw [if_pos c4] at H
            have c4b0 : (x3_1 == 0) = true := beq_iff_eq.mpr c4
            have c4b1 : (x3_1 != 0) = false := bne_eq_false_iff_eq.mpr c4
            clear c4
            by_cases c5 : ((rd_T131 l0 x3_1).f0) = (-1)
            · rw [if_pos c5] at H
              have c5b0 : (((rd_T131 l0 x3_1).f0) == (-1)) = true := beq_iff_eq.mpr c5
              have c5b1 : (((rd_T131 l0 x3_1).f0) != (-1)) = false := bne_eq_false_iff_eq.mpr c5
              clear c5
              by_cases c6 : x3_1 > 0
              · rw [if_pos c6] at H
                have c6b0 : decide (0 < x3_1) = true := decide_eq_true c6
                clear c6
                replace H := Option.bind_eq_some_iff.mp H
                obtain ⟨t374, A70, H⟩ := H
                replace H : (if t374 = true then ((spec_IsProject.f k1 ((rd_T131 l0 x3_1).f1.f0.f0) ((rd_T131 l0 x3_1).f1.f0.f1.f0) ((rd_T131 l0 x3_1).f1.f0.f1.f1) ((rd_T131 l0 x3_1).f1.f0.f2) ((rd_T131 l0 x3_1).f1.f1) ((rd_T131 l0 x3_1).f1.f2) ((rd_T131 l0 x3_1).f1.f3)).bind fun t376 => (if t376 = true then (spec_IsHistory.l0 k1 l0 (wrap64 (x3_1 + 1))) else (some false))) else (some false)) = some r := H
                have A7 := Aside0.mk A70
                clear A70
                by_cases c8 : t374 = true
                · subst c8
                  have H1 : ((spec_IsProject.f k1 ((rd_T131 l0 x3_1).f1.f0.f0) ((rd_T131 l0 x3_1).f1.f0.f1.f0) ((rd_T131 l0 x3_1).f1.f0.f1.f1) ((rd_T131 l0 x3_1).f1.f0.f2) ((rd_T131 l0 x3_1).f1.f1) ((rd_T131 l0 x3_1).f1.f2) ((rd_T131 l0 x3_1).f1.f3)).bind fun t376 => (if t376 = true then (spec_IsHistory.l0 k1 l0 (wrap64 (x3_1 + 1))) else (some false))) = some r := by rw [if_pos rfl] at H; exact H
                  clear H
                  have H := H1
                  clear H1
                  replace H := Option.bind_eq_some_iff.mp H
                  obtain ⟨t376, A90, H⟩ := H
                  replace H : (if t376 = true then (spec_IsHistory.l0 k1 l0 (wrap64 (x3_1 + 1))) else (some false)) = some r := H
                  have A9 := Aside0.mk A90
                  clear A90
                  by_cases c10 : t376 = true
                  · subst c10
                    have H1 : (spec_IsHistory.l0 k1 l0 (wrap64 (x3_1 + 1))) = some r := by rw [if_pos rfl] at H; exact H
                    clear H
                    have H := H1
                    clear H1
                    have H' := Aside0.mk H
                    clear H
                    have p373 : 0 ≤ (x3_1 : Int) := of_decide_eq_true (by first | (with_reducible assumption) | assumption)
                    have q373 : x3_1 < (l0.length : Int) := of_decide_eq_true (by first | (with_reducible assumption) | assumption)
                    obtain ⟨ad373, A373_6, c373_6, A373_7, c373_7, e373, hx373_0, hx373_1, hx373_2, hx373_3, hx373_4, hx373_5, hx373_6, hx373_7, hl373_6, hi373_6, hl373_7, hi373_7⟩ := at_T131 HR0.out x3_1 p373 q373
                    cases e373
                    replace hx373_0 := (HB.out.cell (World.block_lt_of_cell? w _ hx373_0)).trans hx373_0
                    replace hx373_1 := (HB.out.cell (World.block_lt_of_cell? w _ hx373_1)).trans hx373_1
                    replace hx373_2 := (HB.out.cell (World.block_lt_of_cell? w _ hx373_2)).trans hx373_2
                    replace hx373_3 := (HB.out.cell (World.block_lt_of_cell? w _ hx373_3)).trans hx373_3
                    replace hx373_4 := (HB.out.cell (World.block_lt_of_cell? w _ hx373_4)).trans hx373_4
                    replace hx373_5 := (HB.out.cell (World.block_lt_of_cell? w _ hx373_5)).trans hx373_5
                    replace hx373_6 := (HB.out.cell (World.block_lt_of_cell? w _ hx373_6)).trans hx373_6
                    replace hx373_7 := (HB.out.cell (World.block_lt_of_cell? w _ hx373_7)).trans hx373_7
                    have HR373_6 := Aside0.mk hi373_6
                    have HC373_6 := Aside0.mk hl373_6
                    clear hi373_6 hl373_6
                    have HR373_7 := Aside0.mk hi373_7
                    have HC373_7 := Aside0.mk hl373_7
                    clear hi373_7 hl373_7
                    replace p373 := eq_true p373
                    replace q373 := eq_true q373
                    go_wp2_with (first | (go_at_call 152; (with_reducible refine (spec_l01In.calls ((rd_T131 l0 x3_1).f0) 0 (wrap64 (x3_1 - 1)) true _ A7.out).mono ?_); rintro e w' ⟨rfl, ⟨nd, rfl⟩⟩; have p375 : 0 ≤ (x3_1 : Int) := of_decide_eq_true (by first | (with_reducible assumption) | assumption); have q375 : x3_1 < (l0.length : Int) := of_decide_eq_true (by first | (with_reducible assumption) | assumption); obtain ⟨ad375, A375_6, c375_6, A375_7, c375_7, e375, hx375_0, hx375_1, hx375_2, hx375_3, hx375_4, hx375_5, hx375_6, hx375_7, hl375_6, hi375_6, hl375_7, hi375_7⟩ := at_T131 HR0.out x3_1 p375 q375; obtain rfl : ad373 = ad375 := (by injection e375); replace hx375_0 := (HB.out.cell (World.block_lt_of_cell? w _ hx375_0)).trans hx375_0; replace hx375_1 := (HB.out.cell (World.block_lt_of_cell? w _ hx375_1)).trans hx375_1; replace hx375_2 := (HB.out.cell (World.block_lt_of_cell? w _ hx375_2)).trans hx375_2; replace hx375_3 := (HB.out.cell (World.block_lt_of_cell? w _ hx375_3)).trans hx375_3; replace hx375_4 := (HB.out.cell (World.block_lt_of_cell? w _ hx375_4)).trans hx375_4; replace hx375_5 := (HB.out.cell (World.block_lt_of_cell? w _ hx375_5)).trans hx375_5; replace hx375_6 := (HB.out.cell (World.block_lt_of_cell? w _ hx375_6)).trans hx375_6; replace hx375_7 := (HB.out.cell (World.block_lt_of_cell? w _ hx375_7)).trans hx375_7; have HR375_6 := Aside0.mk hi375_6; have HC375_6 := Aside0.mk hl375_6; clear hi375_6 hl375_6; have HR375_7 := Aside0.mk hi375_7; have HC375_7 := Aside0.mk hl375_7; clear hi375_7 hl375_7; replace p375 := eq_true p375; replace q375 := eq_true q375; have ea_ := Option.some.inj (hx373_6.symm.trans hx375_6); injection ea_ with ea_ en_ ec_; subst ea_; subst ec_; clear en_; have ea_ := Option.some.inj (hx373_7.symm.trans hx375_7); injection ea_ with ea_ en_ ec_; subst ea_; subst ec_; clear en_) | (go_at_call 107; (with_reducible refine (spec_IsProject.calls k1 ((rd_T131 l0 x3_1).f1.f0.f0) ((rd_T131 l0 x3_1).f1.f0.f1.f0) ((rd_T131 l0 x3_1).f1.f0.f1.f1) ((rd_T131 l0 x3_1).f1.f0.f2) ((rd_T131 l0 x3_1).f1.f1) _ _ ((rd_T131 l0 x3_1).f1.f2) _ _ ((rd_T131 l0 x3_1).f1.f3) true _ ?side1 ?side2 ?side3 ?side4 A9.out).mono ?_); (case side1 => repeat (first | exact (Kd.C_below HR375_6.out (by repeat (first | (with_reducible first | exact HB.out | apply below_alloc | apply pw_below_drewN | apply below_drew1) | exact HB.out))) | (with_reducible refine Kd.C_alloc ?_ _) | (with_reducible refine Kd.C_drewN ?_ _) | (with_reducible refine Kd.C_drew ?_))); (case side2 => exact HC375_6.out); (case side3 => repeat (first | exact (Kd.C_below HR375_7.out (by repeat (first | (with_reducible first | exact HB.out | apply below_alloc | apply pw_below_drewN | apply below_drew1) | exact HB.out))) | (with_reducible refine Kd.C_alloc ?_ _) | (with_reducible refine Kd.C_drewN ?_ _) | (with_reducible refine Kd.C_drew ?_))); (case side4 => exact HC375_7.out); rintro e w11 ⟨rfl, hb⟩; have n0_ := Aside0.mk (below_step (by repeat (first | (with_reducible first | exact HB.out | apply below_alloc | apply pw_below_drewN | apply below_drew1) | exact HB.out)) hb); clear HB; have HB := n0_; clear n0_; (try clear hb); (try clear hb2); (try clear hk); (try clear hi)))
                    go_roundg k1
                    case measure => have := HK1.out; omega
                    case rel => exact ⟨(wrap64 (x3_1 + 1)), (by first | rfl | (simp; done) | (simp [*]; done)), H', ⟨by have := HK1.out; omega⟩, ⟨by repeat (first | (with_reducible first | exact HB.out | apply below_alloc | apply pw_below_drewN | apply below_drew1) | exact HB.out)⟩⟩
                  · replace c10 := Bool.eq_false_iff.mpr c10
                    subst c10
                    have H1 : (some false) = some r := by rw [if_neg (show ¬ (false = true) by decide)] at H; exact H
                    clear H
                    have H := H1
                    clear H1
                    obtain rfl := Option.some.inj H
                    have p373 : 0 ≤ (x3_1 : Int) := of_decide_eq_true (by first | (with_reducible assumption) | assumption)
                    have q373 : x3_1 < (l0.length : Int) := of_decide_eq_true (by first | (with_reducible assumption) | assumption)
                    obtain ⟨ad373, A373_6, c373_6, A373_7, c373_7, e373, hx373_0, hx373_1, hx373_2, hx373_3, hx373_4, hx373_5, hx373_6, hx373_7, hl373_6, hi373_6, hl373_7, hi373_7⟩ := at_T131 HR0.out x3_1 p373 q373
                    cases e373
                    replace hx373_0 := (HB.out.cell (World.block_lt_of_cell? w _ hx373_0)).trans hx373_0
                    replace hx373_1 := (HB.out.cell (World.block_lt_of_cell? w _ hx373_1)).trans hx373_1
                    replace hx373_2 := (HB.out.cell (World.block_lt_of_cell? w _ hx373_2)).trans hx373_2
                    replace hx373_3 := (HB.out.cell (World.block_lt_of_cell? w _ hx373_3)).trans hx373_3
                    replace hx373_4 := (HB.out.cell (World.block_lt_of_cell? w _ hx373_4)).trans hx373_4
                    replace hx373_5 := (HB.out.cell (World.block_lt_of_cell? w _ hx373_5)).trans hx373_5
                    replace hx373_6 := (HB.out.cell (World.block_lt_of_cell? w _ hx373_6)).trans hx373_6
                    replace hx373_7 := (HB.out.cell (World.block_lt_of_cell? w _ hx373_7)).trans hx373_7
                    have HR373_6 := Aside0.mk hi373_6
                    have HC373_6 := Aside0.mk hl373_6
                    clear hi373_6 hl373_6
                    have HR373_7 := Aside0.mk hi373_7
                    have HC373_7 := Aside0.mk hl373_7
                    clear hi373_7 hl373_7
                    replace p373 := eq_true p373
                    replace q373 := eq_true q373
                    go_wp2_with (first | (go_at_call 152; (with_reducible refine (spec_l01In.calls ((rd_T131 l0 x3_1).f0) 0 (wrap64 (x3_1 - 1)) true _ A7.out).mono ?_); rintro e w' ⟨rfl, ⟨nd, rfl⟩⟩; have p375 : 0 ≤ (x3_1 : Int) := of_decide_eq_true (by first | (with_reducible assumption) | assumption); have q375 : x3_1 < (l0.length : Int) := of_decide_eq_true (by first | (with_reducible assumption) | assumption); obtain ⟨ad375, A375_6, c375_6, A375_7, c375_7, e375, hx375_0, hx375_1, hx375_2, hx375_3, hx375_4, hx375_5, hx375_6, hx375_7, hl375_6, hi375_6, hl375_7, hi375_7⟩ := at_T131 HR0.out x3_1 p375 q375; obtain rfl : ad373 = ad375 := (by injection e375); replace hx375_0 := (HB.out.cell (World.block_lt_of_cell? w _ hx375_0)).trans hx375_0; replace hx375_1 := (HB.out.cell (World.block_lt_of_cell? w _ hx375_1)).trans hx375_1; replace hx375_2 := (HB.out.cell (World.block_lt_of_cell? w _ hx375_2)).trans hx375_2; replace hx375_3 := (HB.out.cell (World.block_lt_of_cell? w _ hx375_3)).trans hx375_3; replace hx375_4 := (HB.out.cell (World.block_lt_of_cell? w _ hx375_4)).trans hx375_4; replace hx375_5 := (HB.out.cell (World.block_lt_of_cell? w _ hx375_5)).trans hx375_5; replace hx375_6 := (HB.out.cell (World.block_lt_of_cell? w _ hx375_6)).trans hx375_6; replace hx375_7 := (HB.out.cell (World.block_lt_of_cell? w _ hx375_7)).trans hx375_7; have HR375_6 := Aside0.mk hi375_6; have HC375_6 := Aside0.mk hl375_6; clear hi375_6 hl375_6; have HR375_7 := Aside0.mk hi375_7; have HC375_7 := Aside0.mk hl375_7; clear hi375_7 hl375_7; replace p375 := eq_true p375; replace q375 := eq_true q375; have ea_ := Option.some.inj (hx373_6.symm.trans hx375_6); injection ea_ with ea_ en_ ec_; subst ea_; subst ec_; clear en_; have ea_ := Option.some.inj (hx373_7.symm.trans hx375_7); injection ea_ with ea_ en_ ec_; subst ea_; subst ec_; clear en_) | (go_at_call 107; (with_reducible refine (spec_IsProject.calls k1 ((rd_T131 l0 x3_1).f1.f0.f0) ((rd_T131 l0 x3_1).f1.f0.f1.f0) ((rd_T131 l0 x3_1).f1.f0.f1.f1) ((rd_T131 l0 x3_1).f1.f0.f2) ((rd_T131 l0 x3_1).f1.f1) _ _ ((rd_T131 l0 x3_1).f1.f2) _ _ ((rd_T131 l0 x3_1).f1.f3) false _ ?side1 ?side2 ?side3 ?side4 A9.out).mono ?_); (case side1 => repeat (first | exact (Kd.C_below HR375_6.out (by repeat (first | (with_reducible first | exact HB.out | apply below_alloc | apply pw_below_drewN | apply below_drew1) | exact HB.out))) | (with_reducible refine Kd.C_alloc ?_ _) | (with_reducible refine Kd.C_drewN ?_ _) | (with_reducible refine Kd.C_drew ?_))); (case side2 => exact HC375_6.out); (case side3 => repeat (first | exact (Kd.C_below HR375_7.out (by repeat (first | (with_reducible first | exact HB.out | apply below_alloc | apply pw_below_drewN | apply below_drew1) | exact HB.out))) | (with_reducible refine Kd.C_alloc ?_ _) | (with_reducible refine Kd.C_drewN ?_ _) | (with_reducible refine Kd.C_drew ?_))); (case side4 => exact HC375_7.out); rintro e w12 ⟨rfl, hb⟩; have n0_ := Aside0.mk (below_step (by repeat (first | (with_reducible first | exact HB.out | apply below_alloc | apply pw_below_drewN | apply below_drew1) | exact HB.out)) hb); clear HB; have HB := n0_; clear n0_; (try clear hb); (try clear hb2); (try clear hk); (try clear hi)))
                    go_ret
                    exact ⟨by first | rfl | (simp [errW_none, errW_some] <;> rfl) | (simp [*, errW_none, errW_some] <;> rfl), by repeat (first | (with_reducible first | exact HB.out | apply below_alloc | apply pw_below_drewN | apply below_drew1) | exact HB.out)⟩
                · replace c8 := Bool.eq_false_iff.mpr c8
                  subst c8
                  have H1 : (some false) = some r := by rw [if_neg (show ¬ (false = true) by decide)] at H; exact H
                  clear H
                  have H := H1
                  clear H1
                  obtain rfl := Option.some.inj H
                  have p373 : 0 ≤ (x3_1 : Int) := of_decide_eq_true (by first | (with_reducible assumption) | assumption)
                  have q373 : x3_1 < (l0.length : Int) := of_decide_eq_true (by first | (with_reducible assumption) | assumption)
                  obtain ⟨ad373, A373_6, c373_6, A373_7, c373_7, e373, hx373_0, hx373_1, hx373_2, hx373_3, hx373_4, hx373_5, hx373_6, hx373_7, hl373_6, hi373_6, hl373_7, hi373_7⟩ := at_T131 HR0.out x3_1 p373 q373
                  cases e373
                  replace hx373_0 := (HB.out.cell (World.block_lt_of_cell? w _ hx373_0)).trans hx373_0
                  replace hx373_1 := (HB.out.cell (World.block_lt_of_cell? w _ hx373_1)).trans hx373_1
                  replace hx373_2 := (HB.out.cell (World.block_lt_of_cell? w _ hx373_2)).trans hx373_2
                  replace hx373_3 := (HB.out.cell (World.block_lt_of_cell? w _ hx373_3)).trans hx373_3
                  replace hx373_4 := (HB.out.cell (World.block_lt_of_cell? w _ hx373_4)).trans hx373_4
                  replace hx373_5 := (HB.out.cell (World.block_lt_of_cell? w _ hx373_5)).trans hx373_5
                  replace hx373_6 := (HB.out.cell (World.block_lt_of_cell? w _ hx373_6)).trans hx373_6
                  replace hx373_7 := (HB.out.cell (World.block_lt_of_cell? w _ hx373_7)).trans hx373_7
                  have HR373_6 := Aside0.mk hi373_6
                  have HC373_6 := Aside0.mk hl373_6
                  clear hi373_6 hl373_6
                  have HR373_7 := Aside0.mk hi373_7
                  have HC373_7 := Aside0.mk hl373_7
                  clear hi373_7 hl373_7
                  replace p373 := eq_true p373
                  replace q373 := eq_true q373
                  go_wp2_with (first | (go_at_call 152; (with_reducible refine (spec_l01In.calls ((rd_T131 l0 x3_1).f0) 0 (wrap64 (x3_1 - 1)) false _ A7.out).mono ?_); rintro e w' ⟨rfl, ⟨nd, rfl⟩⟩))
                  go_ret
                  exact ⟨by first | rfl | (simp [errW_none, errW_some] <;> rfl) | (simp [*, errW_none, errW_some] <;> rfl), by repeat (first | (with_reducible first | exact HB.out | apply below_alloc | apply pw_below_drewN | apply below_drew1) | exact HB.out)⟩
              · rw [if_neg c6] at H
                have c6b0 : decide (0 < x3_1) = false := decide_eq_false c6
                clear c6
                replace H := Option.bind_eq_some_iff.mp H
                obtain ⟨t378, A130, H⟩ := H
                replace H : (if t378 = true then (spec_IsHistory.l0 k1 l0 (wrap64 (x3_1 + 1))) else (some false)) = some r := H
                have A13 := Aside0.mk A130
                clear A130
                by_cases c14 : t378 = true
                · subst c14
                  have H1 : (spec_IsHistory.l0 k1 l0 (wrap64 (x3_1 + 1))) = some r := by rw [if_pos rfl] at H; exact H
                  clear H
                  have H := H1
                  clear H1
                  have H' := Aside0.mk H
                  clear H
                  have p373 : 0 ≤ (x3_1 : Int) := of_decide_eq_true (by first | (with_reducible assumption) | assumption)
                  have q373 : x3_1 < (l0.length : Int) := of_decide_eq_true (by first | (with_reducible assumption) | assumption)
                  obtain ⟨ad373, A373_6, c373_6, A373_7, c373_7, e373, hx373_0, hx373_1, hx373_2, hx373_3, hx373_4, hx373_5, hx373_6, hx373_7, hl373_6, hi373_6, hl373_7, hi373_7⟩ := at_T131 HR0.out x3_1 p373 q373
                  cases e373
                  replace hx373_0 := (HB.out.cell (World.block_lt_of_cell? w _ hx373_0)).trans hx373_0
                  replace hx373_1 := (HB.out.cell (World.block_lt_of_cell? w _ hx373_1)).trans hx373_1
                  replace hx373_2 := (HB.out.cell (World.block_lt_of_cell? w _ hx373_2)).trans hx373_2
                  replace hx373_3 := (HB.out.cell (World.block_lt_of_cell? w _ hx373_3)).trans hx373_3
                  replace hx373_4 := (HB.out.cell (World.block_lt_of_cell? w _ hx373_4)).trans hx373_4
                  replace hx373_5 := (HB.out.cell (World.block_lt_of_cell? w _ hx373_5)).trans hx373_5
                  replace hx373_6 := (HB.out.cell (World.block_lt_of_cell? w _ hx373_6)).trans hx373_6
                  replace hx373_7 := (HB.out.cell (World.block_lt_of_cell? w _ hx373_7)).trans hx373_7
                  have HR373_6 := Aside0.mk hi373_6
                  have HC373_6 := Aside0.mk hl373_6
                  clear hi373_6 hl373_6
                  have HR373_7 := Aside0.mk hi373_7
                  have HC373_7 := Aside0.mk hl373_7
                  clear hi373_7 hl373_7
                  replace p373 := eq_true p373
                  replace q373 := eq_true q373
                  have p377 : 0 ≤ (x3_1 : Int) := of_decide_eq_true (by first | (with_reducible assumption) | assumption)
                  have q377 : x3_1 < (l0.length : Int) := of_decide_eq_true (by first | (with_reducible assumption) | assumption)
                  obtain ⟨ad377, A377_6, c377_6, A377_7, c377_7, e377, hx377_0, hx377_1, hx377_2, hx377_3, hx377_4, hx377_5, hx377_6, hx377_7, hl377_6, hi377_6, hl377_7, hi377_7⟩ := at_T131 HR0.out x3_1 p377 q377
                  obtain rfl : ad373 = ad377 := (by injection e377)
                  replace hx377_0 := (HB.out.cell (World.block_lt_of_cell? w _ hx377_0)).trans hx377_0
                  replace hx377_1 := (HB.out.cell (World.block_lt_of_cell? w _ hx377_1)).trans hx377_1
                  replace hx377_2 := (HB.out.cell (World.block_lt_of_cell? w _ hx377_2)).trans hx377_2
                  replace hx377_3 := (HB.out.cell (World.block_lt_of_cell? w _ hx377_3)).trans hx377_3
                  replace hx377_4 := (HB.out.cell (World.block_lt_of_cell? w _ hx377_4)).trans hx377_4
                  replace hx377_5 := (HB.out.cell (World.block_lt_of_cell? w _ hx377_5)).trans hx377_5
                  replace hx377_6 := (HB.out.cell (World.block_lt_of_cell? w _ hx377_6)).trans hx377_6
                  replace hx377_7 := (HB.out.cell (World.block_lt_of_cell? w _ hx377_7)).trans hx377_7
                  have HR377_6 := Aside0.mk hi377_6
                  have HC377_6 := Aside0.mk hl377_6
                  clear hi377_6 hl377_6
                  have HR377_7 := Aside0.mk hi377_7
                  have HC377_7 := Aside0.mk hl377_7
                  clear hi377_7 hl377_7
                  replace p377 := eq_true p377
                  replace q377 := eq_true q377
                  have ea_ := Option.some.inj (hx373_6.symm.trans hx377_6)
                  injection ea_ with ea_ en_ ec_
                  subst ea_
                  subst ec_
                  clear en_
                  have ea_ := Option.some.inj (hx373_7.symm.trans hx377_7)
                  injection ea_ with ea_ en_ ec_
                  subst ea_
                  subst ec_
                  clear en_
                  go_wp2_with (first | (go_at_call 107; (with_reducible refine (spec_IsProject.calls k1 ((rd_T131 l0 x3_1).f1.f0.f0) ((rd_T131 l0 x3_1).f1.f0.f1.f0) ((rd_T131 l0 x3_1).f1.f0.f1.f1) ((rd_T131 l0 x3_1).f1.f0.f2) ((rd_T131 l0 x3_1).f1.f1) _ _ ((rd_T131 l0 x3_1).f1.f2) _ _ ((rd_T131 l0 x3_1).f1.f3) true _ ?side1 ?side2 ?side3 ?side4 A13.out).mono ?_); (case side1 => repeat (first | exact (Kd.C_below HR377_6.out HB.out) | (with_reducible refine Kd.C_alloc ?_ _) | (with_reducible refine Kd.C_drewN ?_ _) | (with_reducible refine Kd.C_drew ?_))); (case side2 => exact HC377_6.out); (case side3 => repeat (first | exact (Kd.C_below HR377_7.out HB.out) | (with_reducible refine Kd.C_alloc ?_ _) | (with_reducible refine Kd.C_drewN ?_ _) | (with_reducible refine Kd.C_drew ?_))); (case side4 => exact HC377_7.out); rintro e w15 ⟨rfl, hb⟩; have n0_ := Aside0.mk (below_step (by repeat (first | (with_reducible first | exact HB.out | apply below_alloc | apply pw_below_drewN | apply below_drew1) | exact HB.out)) hb); clear HB; have HB := n0_; clear n0_; (try clear hb); (try clear hb2); (try clear hk); (try clear hi)))
                  go_roundg k1
                  case measure => have := HK1.out; omega
                  case rel => exact ⟨(wrap64 (x3_1 + 1)), (by first | rfl | (simp; done) | (simp [*]; done)), H', ⟨by have := HK1.out; omega⟩, ⟨by repeat (first | (with_reducible first | exact HB.out | apply below_alloc | apply pw_below_drewN | apply below_drew1) | exact HB.out)⟩⟩
                · replace c14 := Bool.eq_false_iff.mpr c14
                  subst c14
                  have H1 : (some false) = some r := by rw [if_neg (show ¬ (false = true) by decide)] at H; exact H
                  clear H
                  have H := H1
                  clear H1
                  obtain rfl := Option.some.inj H
                  have p373 : 0 ≤ (x3_1 : Int) := of_decide_eq_true (by first | (with_reducible assumption) | assumption)
                  have q373 : x3_1 < (l0.length : Int) := of_decide_eq_true (by first | (with_reducible assumption) | assumption)
                  obtain ⟨ad373, A373_6, c373_6, A373_7, c373_7, e373, hx373_0, hx373_1, hx373_2, hx373_3, hx373_4, hx373_5, hx373_6, hx373_7, hl373_6, hi373_6, hl373_7, hi373_7⟩ := at_T131 HR0.out x3_1 p373 q373
                  cases e373
                  replace hx373_0 := (HB.out.cell (World.block_lt_of_cell? w _ hx373_0)).trans hx373_0
                  replace hx373_1 := (HB.out.cell (World.block_lt_of_cell? w _ hx373_1)).trans hx373_1
                  replace hx373_2 := (HB.out.cell (World.block_lt_of_cell? w _ hx373_2)).trans hx373_2
                  replace hx373_3 := (HB.out.cell (World.block_lt_of_cell? w _ hx373_3)).trans hx373_3
                  replace hx373_4 := (HB.out.cell (World.block_lt_of_cell? w _ hx373_4)).trans hx373_4
                  replace hx373_5 := (HB.out.cell (World.block_lt_of_cell? w _ hx373_5)).trans hx373_5
                  replace hx373_6 := (HB.out.cell (World.block_lt_of_cell? w _ hx373_6)).trans hx373_6
                  replace hx373_7 := (HB.out.cell (World.block_lt_of_cell? w _ hx373_7)).trans hx373_7
                  have HR373_6 := Aside0.mk hi373_6
                  have HC373_6 := Aside0.mk hl373_6
                  clear hi373_6 hl373_6
                  have HR373_7 := Aside0.mk hi373_7
                  have HC373_7 := Aside0.mk hl373_7
                  clear hi373_7 hl373_7
                  replace p373 := eq_true p373
                  replace q373 := eq_true q373
                  have p377 : 0 ≤ (x3_1 : Int) := of_decide_eq_true (by first | (with_reducible assumption) | assumption)
                  have q377 : x3_1 < (l0.length : Int) := of_decide_eq_true (by first | (with_reducible assumption) | assumption)
                  obtain ⟨ad377, A377_6, c377_6, A377_7, c377_7, e377, hx377_0, hx377_1, hx377_2, hx377_3, hx377_4, hx377_5, hx377_6, hx377_7, hl377_6, hi377_6, hl377_7, hi377_7⟩ := at_T131 HR0.out x3_1 p377 q377
                  obtain rfl : ad373 = ad377 := (by injection e377)
                  replace hx377_0 := (HB.out.cell (World.block_lt_of_cell? w _ hx377_0)).trans hx377_0
                  replace hx377_1 := (HB.out.cell (World.block_lt_of_cell? w _ hx377_1)).trans hx377_1
                  replace hx377_2 := (HB.out.cell (World.block_lt_of_cell? w _ hx377_2)).trans hx377_2
                  replace hx377_3 := (HB.out.cell (World.block_lt_of_cell? w _ hx377_3)).trans hx377_3
                  replace hx377_4 := (HB.out.cell (World.block_lt_of_cell? w _ hx377_4)).trans hx377_4
                  replace hx377_5 := (HB.out.cell (World.block_lt_of_cell? w _ hx377_5)).trans hx377_5
                  replace hx377_6 := (HB.out.cell (World.block_lt_of_cell? w _ hx377_6)).trans hx377_6
                  replace hx377_7 := (HB.out.cell (World.block_lt_of_cell? w _ hx377_7)).trans hx377_7
                  have HR377_6 := Aside0.mk hi377_6
                  have HC377_6 := Aside0.mk hl377_6
                  clear hi377_6 hl377_6
                  have HR377_7 := Aside0.mk hi377_7
                  have HC377_7 := Aside0.mk hl377_7
                  clear hi377_7 hl377_7
                  replace p377 := eq_true p377
                  replace q377 := eq_true q377
                  have ea_ := Option.some.inj (hx373_6.symm.trans hx377_6)
                  injection ea_ with ea_ en_ ec_
                  subst ea_
                  subst ec_
                  clear en_
                  have ea_ := Option.some.inj (hx373_7.symm.trans hx377_7)
                  injection ea_ with ea_ en_ ec_
                  subst ea_
                  subst ec_
                  clear en_
                  go_wp2_with (first | (go_at_call 107; (with_reducible refine (spec_IsProject.calls k1 ((rd_T131 l0 x3_1).f1.f0.f0) ((rd_T131 l0 x3_1).f1.f0.f1.f0) ((rd_T131 l0 x3_1).f1.f0.f1.f1) ((rd_T131 l0 x3_1).f1.f0.f2) ((rd_T131 l0 x3_1).f1.f1) _ _ ((rd_T131 l0 x3_1).f1.f2) _ _ ((rd_T131 l0 x3_1).f1.f3) false _ ?side1 ?side2 ?side3 ?side4 A13.out).mono ?_); (case side1 => repeat (first | exact (Kd.C_below HR377_6.out HB.out) | (with_reducible refine Kd.C_alloc ?_ _) | (with_reducible refine Kd.C_drewN ?_ _) | (with_reducible refine Kd.C_drew ?_))); (case side2 => exact HC377_6.out); (case side3 => repeat (first | exact (Kd.C_below HR377_7.out HB.out) | (with_reducible refine Kd.C_alloc ?_ _) | (with_reducible refine Kd.C_drewN ?_ _) | (with_reducible refine Kd.C_drew ?_))); (case side4 => exact HC377_7.out); rintro e w16 ⟨rfl, hb⟩; have n0_ := Aside0.mk (below_step (by repeat (first | (with_reducible first | exact HB.out | apply below_alloc | apply pw_below_drewN | apply below_drew1) | exact HB.out)) hb); clear HB; have HB := n0_; clear n0_; (try clear hb); (try clear hb2); (try clear hk); (try clear hi)))
                  go_ret
                  exact ⟨by first | rfl | (simp [errW_none, errW_some] <;> rfl) | (simp [*, errW_none, errW_some] <;> rfl), by repeat (first | (with_reducible first | exact HB.out | apply below_alloc | apply pw_below_drewN | apply below_drew1) | exact HB.out)⟩
            · rw [if_neg c5] at H
              have c5b0 : (((rd_T131 l0 x3_1).f0) == (-1)) = false := beq_eq_false_iff_ne.mpr c5
              have c5b1 : (((rd_T131 l0 x3_1).f0) != (-1)) = true := bne_iff_ne.mpr c5
              obtain rfl := Option.some.inj H
              have p373 : 0 ≤ (x3_1 : Int) := of_decide_eq_true (by first | (with_reducible assumption) | assumption)
              have q373 : x3_1 < (l0.length : Int) := of_decide_eq_true (by first | (with_reducible assumption) | assumption)
              obtain ⟨ad373, A373_6, c373_6, A373_7, c373_7, e373, hx373_0, hx373_1, hx373_2, hx373_3, hx373_4, hx373_5, hx373_6, hx373_7, hl373_6, hi373_6, hl373_7, hi373_7⟩ := at_T131 HR0.out x3_1 p373 q373
              cases e373
              replace hx373_0 := (HB.out.cell (World.block_lt_of_cell? w _ hx373_0)).trans hx373_0
              replace hx373_1 := (HB.out.cell (World.block_lt_of_cell? w _ hx373_1)).trans hx373_1
              replace hx373_2 := (HB.out.cell (World.block_lt_of_cell? w _ hx373_2)).trans hx373_2
              replace hx373_3 := (HB.out.cell (World.block_lt_of_cell? w _ hx373_3)).trans hx373_3
              replace hx373_4 := (HB.out.cell (World.block_lt_of_cell? w _ hx373_4)).trans hx373_4
              replace hx373_5 := (HB.out.cell (World.block_lt_of_cell? w _ hx373_5)).trans hx373_5
              replace hx373_6 := (HB.out.cell (World.block_lt_of_cell? w _ hx373_6)).trans hx373_6
              replace hx373_7 := (HB.out.cell (World.block_lt_of_cell? w _ hx373_7)).trans hx373_7
              have HR373_6 := Aside0.mk hi373_6
              have HC373_6 := Aside0.mk hl373_6
              clear hi373_6 hl373_6
              have HR373_7 := Aside0.mk hi373_7
              have HC373_7 := Aside0.mk hl373_7
              clear hi373_7 hl373_7
              replace p373 := eq_true p373
              replace q373 := eq_true q373
              go_wp2
              go_ret
              exact ⟨by first | rfl | (simp [errW_none, errW_some] <;> rfl) | (simp [*, errW_none, errW_some] <;> rfl), by repeat (first | (with_reducible first | exact HB.out | apply below_alloc | apply pw_below_drewN | apply below_drew1) | exact HB.out)⟩
          · rw [if_neg c4] at H
            have c4b0 : (x3_1 == 0) = false := beq_eq_false_iff_ne.mpr c4
            have c4b1 : (x3_1 != 0) = true := bne_iff_ne.mpr c4
            by_cases c17 : x3_1 > 0
            · rw [if_pos c17] at H
              have c17b0 : decide (0 < x3_1) = true := decide_eq_true c17
              clear c17
              replace H := Option.bind_eq_some_iff.mp H
              obtain ⟨t379, A180, H⟩ := H
              replace H : (if t379 = true then ((spec_IsProject.f k1 ((rd_T131 l0 x3_1).f1.f0.f0) ((rd_T131 l0 x3_1).f1.f0.f1.f0) ((rd_T131 l0 x3_1).f1.f0.f1.f1) ((rd_T131 l0 x3_1).f1.f0.f2) ((rd_T131 l0 x3_1).f1.f1) ((rd_T131 l0 x3_1).f1.f2) ((rd_T131 l0 x3_1).f1.f3)).bind fun t381 => (if t381 = true then (spec_IsHistory.l0 k1 l0 (wrap64 (x3_1 + 1))) else (some false))) else (some false)) = some r := H
              have A18 := Aside0.mk A180
              clear A180
              by_cases c19 : t379 = true
              · subst c19
                have H1 : ((spec_IsProject.f k1 ((rd_T131 l0 x3_1).f1.f0.f0) ((rd_T131 l0 x3_1).f1.f0.f1.f0) ((rd_T131 l0 x3_1).f1.f0.f1.f1) ((rd_T131 l0 x3_1).f1.f0.f2) ((rd_T131 l0 x3_1).f1.f1) ((rd_T131 l0 x3_1).f1.f2) ((rd_T131 l0 x3_1).f1.f3)).bind fun t381 => (if t381 = true then (spec_IsHistory.l0 k1 l0 (wrap64 (x3_1 + 1))) else (some false))) = some r := by rw [if_pos rfl] at H; exact H
                clear H
                have H := H1
                clear H1
                replace H := Option.bind_eq_some_iff.mp H
                obtain ⟨t381, A200, H⟩ := H
                replace H : (if t381 = true then (spec_IsHistory.l0 k1 l0 (wrap64 (x3_1 + 1))) else (some false)) = some r := H
                have A20 := Aside0.mk A200
                clear A200
                by_cases c21 : t381 = true
                · subst c21
                  have H1 : (spec_IsHistory.l0 k1 l0 (wrap64 (x3_1 + 1))) = some r := by rw [if_pos rfl] at H; exact H
                  clear H
                  have H := H1
                  clear H1
                  have H' := Aside0.mk H
                  clear H
                  have p373 : 0 ≤ (x3_1 : Int) := of_decide_eq_true (by first | (with_reducible assumption) | assumption)
                  have q373 : x3_1 < (l0.length : Int) := of_decide_eq_true (by first | (with_reducible assumption) | assumption)
                  obtain ⟨ad373, A373_6, c373_6, A373_7, c373_7, e373, hx373_0, hx373_1, hx373_2, hx373_3, hx373_4, hx373_5, hx373_6, hx373_7, hl373_6, hi373_6, hl373_7, hi373_7⟩ := at_T131 HR0.out x3_1 p373 q373
                  cases e373
                  replace hx373_0 := (HB.out.cell (World.block_lt_of_cell? w _ hx373_0)).trans hx373_0
                  replace hx373_1 := (HB.out.cell (World.block_lt_of_cell? w _ hx373_1)).trans hx373_1
                  replace hx373_2 := (HB.out.cell (World.block_lt_of_cell? w _ hx373_2)).trans hx373_2
                  replace hx373_3 := (HB.out.cell (World.block_lt_of_cell? w _ hx373_3)).trans hx373_3
                  replace hx373_4 := (HB.out.cell (World.block_lt_of_cell? w _ hx373_4)).trans hx373_4
                  replace hx373_5 := (HB.out.cell (World.block_lt_of_cell? w _ hx373_5)).trans hx373_5
                  replace hx373_6 := (HB.out.cell (World.block_lt_of_cell? w _ hx373_6)).trans hx373_6
                  replace hx373_7 := (HB.out.cell (World.block_lt_of_cell? w _ hx373_7)).trans hx373_7
                  have HR373_6 := Aside0.mk hi373_6
                  have HC373_6 := Aside0.mk hl373_6
                  clear hi373_6 hl373_6
                  have HR373_7 := Aside0.mk hi373_7
                  have HC373_7 := Aside0.mk hl373_7
                  clear hi373_7 hl373_7
                  replace p373 := eq_true p373
                  replace q373 := eq_true q373
                  go_wp2_with (first | (go_at_call 152; (with_reducible refine (spec_l01In.calls ((rd_T131 l0 x3_1).f0) 0 (wrap64 (x3_1 - 1)) true _ A18.out).mono ?_); rintro e w' ⟨rfl, ⟨nd, rfl⟩⟩; have p380 : 0 ≤ (x3_1 : Int) := of_decide_eq_true (by first | (with_reducible assumption) | assumption); have q380 : x3_1 < (l0.length : Int) := of_decide_eq_true (by first | (with_reducible assumption) | assumption); obtain ⟨ad380, A380_6, c380_6, A380_7, c380_7, e380, hx380_0, hx380_1, hx380_2, hx380_3, hx380_4, hx380_5, hx380_6, hx380_7, hl380_6, hi380_6, hl380_7, hi380_7⟩ := at_T131 HR0.out x3_1 p380 q380; obtain rfl : ad373 = ad380 := (by injection e380); replace hx380_0 := (HB.out.cell (World.block_lt_of_cell? w _ hx380_0)).trans hx380_0; replace hx380_1 := (HB.out.cell (World.block_lt_of_cell? w _ hx380_1)).trans hx380_1; replace hx380_2 := (HB.out.cell (World.block_lt_of_cell? w _ hx380_2)).trans hx380_2; replace hx380_3 := (HB.out.cell (World.block_lt_of_cell? w _ hx380_3)).trans hx380_3; replace hx380_4 := (HB.out.cell (World.block_lt_of_cell? w _ hx380_4)).trans hx380_4; replace hx380_5 := (HB.out.cell (World.block_lt_of_cell? w _ hx380_5)).trans hx380_5; replace hx380_6 := (HB.out.cell (World.block_lt_of_cell? w _ hx380_6)).trans hx380_6; replace hx380_7 := (HB.out.cell (World.block_lt_of_cell? w _ hx380_7)).trans hx380_7; have HR380_6 := Aside0.mk hi380_6; have HC380_6 := Aside0.mk hl380_6; clear hi380_6 hl380_6; have HR380_7 := Aside0.mk hi380_7; have HC380_7 := Aside0.mk hl380_7; clear hi380_7 hl380_7; replace p380 := eq_true p380; replace q380 := eq_true q380; have ea_ := Option.some.inj (hx373_6.symm.trans hx380_6); injection ea_ with ea_ en_ ec_; subst ea_; subst ec_; clear en_; have ea_ := Option.some.inj (hx373_7.symm.trans hx380_7); injection ea_ with ea_ en_ ec_; subst ea_; subst ec_; clear en_) | (go_at_call 107; (with_reducible refine (spec_IsProject.calls k1 ((rd_T131 l0 x3_1).f1.f0.f0) ((rd_T131 l0 x3_1).f1.f0.f1.f0) ((rd_T131 l0 x3_1).f1.f0.f1.f1) ((rd_T131 l0 x3_1).f1.f0.f2) ((rd_T131 l0 x3_1).f1.f1) _ _ ((rd_T131 l0 x3_1).f1.f2) _ _ ((rd_T131 l0 x3_1).f1.f3) true _ ?side1 ?side2 ?side3 ?side4 A20.out).mono ?_); (case side1 => repeat (first | exact (Kd.C_below HR380_6.out (by repeat (first | (with_reducible first | exact HB.out | apply below_alloc | apply pw_below_drewN | apply below_drew1) | exact HB.out))) | (with_reducible refine Kd.C_alloc ?_ _) | (with_reducible refine Kd.C_drewN ?_ _) | (with_reducible refine Kd.C_drew ?_))); (case side2 => exact HC380_6.out); (case side3 => repeat (first | exact (Kd.C_below HR380_7.out (by repeat (first | (with_reducible first | exact HB.out | apply below_alloc | apply pw_below_drewN | apply below_drew1) | exact HB.out))) | (with_reducible refine Kd.C_alloc ?_ _) | (with_reducible refine Kd.C_drewN ?_ _) | (with_reducible refine Kd.C_drew ?_))); (case side4 => exact HC380_7.out); rintro e w22 ⟨rfl, hb⟩; have n0_ := Aside0.mk (below_step (by repeat (first | (with_reducible first | exact HB.out | apply below_alloc | apply pw_below_drewN | apply below_drew1) | exact HB.out)) hb); clear HB; have HB := n0_; clear n0_; (try clear hb); (try clear hb2); (try clear hk); (try clear hi)))
                  go_roundg k1
                  case measure => have := HK1.out; omega
                  case rel => exact ⟨(wrap64 (x3_1 + 1)), (by first | rfl | (simp; done) | (simp [*]; done)), H', ⟨by have := HK1.out; omega⟩, ⟨by repeat (first | (with_reducible first | exact HB.out | apply below_alloc | apply pw_below_drewN | apply below_drew1) | exact HB.out)⟩⟩
                · replace c21 := Bool.eq_false_iff.mpr c21
                  subst c21
                  have H1 : (some false) = some r := by rw [if_neg (show ¬ (false = true) by decide)] at H; exact H
                  clear H
                  have H := H1
                  clear H1
                  obtain rfl := Option.some.inj H
                  have p373 : 0 ≤ (x3_1 : Int) := of_decide_eq_true (by first | (with_reducible assumption) | assumption)
                  have q373 : x3_1 < (l0.length : Int) := of_decide_eq_true (by first | (with_reducible assumption) | assumption)
                  obtain ⟨ad373, A373_6, c373_6, A373_7, c373_7, e373, hx373_0, hx373_1, hx373_2, hx373_3, hx373_4, hx373_5, hx373_6, hx373_7, hl373_6, hi373_6, hl373_7, hi373_7⟩ := at_T131 HR0.out x3_1 p373 q373
                  cases e373
                  replace hx373_0 := (HB.out.cell (World.block_lt_of_cell? w _ hx373_0)).trans hx373_0
                  replace hx373_1 := (HB.out.cell (World.block_lt_of_cell? w _ hx373_1)).trans hx373_1
                  replace hx373_2 := (HB.out.cell (World.block_lt_of_cell? w _ hx373_2)).trans hx373_2
                  replace hx373_3 := (HB.out.cell (World.block_lt_of_cell? w _ hx373_3)).trans hx373_3
                  replace hx373_4 := (HB.out.cell (World.block_lt_of_cell? w _ hx373_4)).trans hx373_4
                  replace hx373_5 := (HB.out.cell (World.block_lt_of_cell? w _ hx373_5)).trans hx373_5
                  replace hx373_6 := (HB.out.cell (World.block_lt_of_cell? w _ hx373_6)).trans hx373_6
                  replace hx373_7 := (HB.out.cell (World.block_lt_of_cell? w _ hx373_7)).trans hx373_7
                  have HR373_6 := Aside0.mk hi373_6
                  have HC373_6 := Aside0.mk hl373_6
                  clear hi373_6 hl373_6
                  have HR373_7 := Aside0.mk hi373_7
                  have HC373_7 := Aside0.mk hl373_7
                  clear hi373_7 hl373_7
                  replace p373 := eq_true p373
                  replace q373 := eq_true q373
                  go_wp2_with (first | (go_at_call 152; (with_reducible refine (spec_l01In.calls ((rd_T131 l0 x3_1).f0) 0 (wrap64 (x3_1 - 1)) true _ A18.out).mono ?_); rintro e w' ⟨rfl, ⟨nd, rfl⟩⟩; have p380 : 0 ≤ (x3_1 : Int) := of_decide_eq_true (by first | (with_reducible assumption) | assumption); have q380 : x3_1 < (l0.length : Int) := of_decide_eq_true (by first | (with_reducible assumption) | assumption); obtain ⟨ad380, A380_6, c380_6, A380_7, c380_7, e380, hx380_0, hx380_1, hx380_2, hx380_3, hx380_4, hx380_5, hx380_6, hx380_7, hl380_6, hi380_6, hl380_7, hi380_7⟩ := at_T131 HR0.out x3_1 p380 q380; obtain rfl : ad373 = ad380 := (by injection e380); replace hx380_0 := (HB.out.cell (World.block_lt_of_cell? w _ hx380_0)).trans hx380_0; replace hx380_1 := (HB.out.cell (World.block_lt_of_cell? w _ hx380_1)).trans hx380_1; replace hx380_2 := (HB.out.cell (World.block_lt_of_cell? w _ hx380_2)).trans hx380_2; replace hx380_3 := (HB.out.cell (World.block_lt_of_cell? w _ hx380_3)).trans hx380_3; replace hx380_4 := (HB.out.cell (World.block_lt_of_cell? w _ hx380_4)).trans hx380_4; replace hx380_5 := (HB.out.cell (World.block_lt_of_cell? w _ hx380_5)).trans hx380_5; replace hx380_6 := (HB.out.cell (World.block_lt_of_cell? w _ hx380_6)).trans hx380_6; replace hx380_7 := (HB.out.cell (World.block_lt_of_cell? w _ hx380_7)).trans hx380_7; have HR380_6 := Aside0.mk hi380_6; have HC380_6 := Aside0.mk hl380_6; clear hi380_6 hl380_6; have HR380_7 := Aside0.mk hi380_7; have HC380_7 := Aside0.mk hl380_7; clear hi380_7 hl380_7; replace p380 := eq_true p380; replace q380 := eq_true q380; have ea_ := Option.some.inj (hx373_6.symm.trans hx380_6); injection ea_ with ea_ en_ ec_; subst ea_; subst ec_; clear en_; have ea_ := Option.some.inj (hx373_7.symm.trans hx380_7); injection ea_ with ea_ en_ ec_; subst ea_; subst ec_; clear en_) | (go_at_call 107; (with_reducible refine (spec_IsProject.calls k1 ((rd_T131 l0 x3_1).f1.f0.f0) ((rd_T131 l0 x3_1).f1.f0.f1.f0) ((rd_T131 l0 x3_1).f1.f0.f1.f1) ((rd_T131 l0 x3_1).f1.f0.f2) ((rd_T131 l0 x3_1).f1.f1) _ _ ((rd_T131 l0 x3_1).f1.f2) _ _ ((rd_T131 l0 x3_1).f1.f3) false _ ?side1 ?side2 ?side3 ?side4 A20.out).mono ?_); (case side1 => repeat (first | exact (Kd.C_below HR380_6.out (by repeat (first | (with_reducible first | exact HB.out | apply below_alloc | apply pw_below_drewN | apply below_drew1) | exact HB.out))) | (with_reducible refine Kd.C_alloc ?_ _) | (with_reducible refine Kd.C_drewN ?_ _) | (with_reducible refine Kd.C_drew ?_))); (case side2 => exact HC380_6.out); (case side3 => repeat (first | exact (Kd.C_below HR380_7.out (by repeat (first | (with_reducible first | exact HB.out | apply below_alloc | apply pw_below_drewN | apply below_drew1) | exact HB.out))) | (with_reducible refine Kd.C_alloc ?_ _) | (with_reducible refine Kd.C_drewN ?_ _) | (with_reducible refine Kd.C_drew ?_))); (case side4 => exact HC380_7.out); rintro e w23 ⟨rfl, hb⟩; have n0_ := Aside0.mk (below_step (by repeat (first | (with_reducible first | exact HB.out | apply below_alloc | apply pw_below_drewN | apply below_drew1) | exact HB.out)) hb); clear HB; have HB := n0_; clear n0_; (try clear hb); (try clear hb2); (try clear hk); (try clear hi)))
                  go_ret
                  exact ⟨by first | rfl | (simp [errW_none, errW_some] <;> rfl) | (simp [*, errW_none, errW_some] <;> rfl), by repeat (first | (with_reducible first | exact HB.out | apply below_alloc | apply pw_below_drewN | apply below_drew1) | exact HB.out)⟩
              · replace c19 := Bool.eq_false_iff.mpr c19
                subst c19
                have H1 : (some false) = some r := by rw [if_neg (show ¬ (false = true) by decide)] at H; exact H
                clear H
                have H := H1
                clear H1
                obtain rfl := Option.some.inj H
                have p373 : 0 ≤ (x3_1 : Int) := of_decide_eq_true (by first | (with_reducible assumption) | assumption)
                have q373 : x3_1 < (l0.length : Int) := of_decide_eq_true (by first | (with_reducible assumption) | assumption)
                obtain ⟨ad373, A373_6, c373_6, A373_7, c373_7, e373, hx373_0, hx373_1, hx373_2, hx373_3, hx373_4, hx373_5, hx373_6, hx373_7, hl373_6, hi373_6, hl373_7, hi373_7⟩ := at_T131 HR0.out x3_1 p373 q373
                cases e373
                replace hx373_0 := (HB.out.cell (World.block_lt_of_cell? w _ hx373_0)).trans hx373_0
                replace hx373_1 := (HB.out.cell (World.block_lt_of_cell? w _ hx373_1)).trans hx373_1
                replace hx373_2 := (HB.out.cell (World.block_lt_of_cell? w _ hx373_2)).trans hx373_2
                replace hx373_3 := (HB.out.cell (World.block_lt_of_cell? w _ hx373_3)).trans hx373_3
                replace hx373_4 := (HB.out.cell (World.block_lt_of_cell? w _ hx373_4)).trans hx373_4
                replace hx373_5 := (HB.out.cell (World.block_lt_of_cell? w _ hx373_5)).trans hx373_5
                replace hx373_6 := (HB.out.cell (World.block_lt_of_cell? w _ hx373_6)).trans hx373_6
                replace hx373_7 := (HB.out.cell (World.block_lt_of_cell? w _ hx373_7)).trans hx373_7
                have HR373_6 := Aside0.mk hi373_6
                have HC373_6 := Aside0.mk hl373_6
                clear hi373_6 hl373_6
                have HR373_7 := Aside0.mk hi373_7
                have HC373_7 := Aside0.mk hl373_7
                clear hi373_7 hl373_7
                replace p373 := eq_true p373
                replace q373 := eq_true q373
                go_wp2_with (first | (go_at_call 152; (with_reducible refine (spec_l01In.calls ((rd_T131 l0 x3_1).f0) 0 (wrap64 (x3_1 - 1)) false _ A18.out).mono ?_); rintro e w' ⟨rfl, ⟨nd, rfl⟩⟩))
                go_ret
                exact ⟨by first | rfl | (simp [errW_none, errW_some] <;> rfl) | (simp [*, errW_none, errW_some] <;> rfl), by repeat (first | (with_reducible first | exact HB.out | apply below_alloc | apply pw_below_drewN | apply below_drew1) | exact HB.out)⟩
            · rw [if_neg c17] at H
              have c17b0 : decide (0 < x3_1) = false := decide_eq_false c17
              clear c17
              replace H := Option.bind_eq_some_iff.mp H
              obtain ⟨t383, A240, H⟩ := H
              replace H : (if t383 = true then (spec_IsHistory.l0 k1 l0 (wrap64 (x3_1 + 1))) else (some false)) = some r := H
              have A24 := Aside0.mk A240
              clear A240
              by_cases c25 : t383 = true
              · subst c25
                have H1 : (spec_IsHistory.l0 k1 l0 (wrap64 (x3_1 + 1))) = some r := by rw [if_pos rfl] at H; exact H
                clear H
                have H := H1
                clear H1
                have H' := Aside0.mk H
                clear H
                have p373 : 0 ≤ (x3_1 : Int) := of_decide_eq_true (by first | (with_reducible assumption) | assumption)
                have q373 : x3_1 < (l0.length : Int) := of_decide_eq_true (by first | (with_reducible assumption) | assumption)
                obtain ⟨ad373, A373_6, c373_6, A373_7, c373_7, e373, hx373_0, hx373_1, hx373_2, hx373_3, hx373_4, hx373_5, hx373_6, hx373_7, hl373_6, hi373_6, hl373_7, hi373_7⟩ := at_T131 HR0.out x3_1 p373 q373
                cases e373
                replace hx373_0 := (HB.out.cell (World.block_lt_of_cell? w _ hx373_0)).trans hx373_0
                replace hx373_1 := (HB.out.cell (World.block_lt_of_cell? w _ hx373_1)).trans hx373_1
                replace hx373_2 := (HB.out.cell (World.block_lt_of_cell? w _ hx373_2)).trans hx373_2
                replace hx373_3 := (HB.out.cell (World.block_lt_of_cell? w _ hx373_3)).trans hx373_3
                replace hx373_4 := (HB.out.cell (World.block_lt_of_cell? w _ hx373_4)).trans hx373_4
                replace hx373_5 := (HB.out.cell (World.block_lt_of_cell? w _ hx373_5)).trans hx373_5
                replace hx373_6 := (HB.out.cell (World.block_lt_of_cell? w _ hx373_6)).trans hx373_6
                replace hx373_7 := (HB.out.cell (World.block_lt_of_cell? w _ hx373_7)).trans hx373_7
                have HR373_6 := Aside0.mk hi373_6
                have HC373_6 := Aside0.mk hl373_6
                clear hi373_6 hl373_6
                have HR373_7 := Aside0.mk hi373_7
                have HC373_7 := Aside0.mk hl373_7
                clear hi373_7 hl373_7
                replace p373 := eq_true p373
                replace q373 := eq_true q373
                have p382 : 0 ≤ (x3_1 : Int) := of_decide_eq_true (by first | (with_reducible assumption) | assumption)
                have q382 : x3_1 < (l0.length : Int) := of_decide_eq_true (by first | (with_reducible assumption) | assumption)
                obtain ⟨ad382, A382_6, c382_6, A382_7, c382_7, e382, hx382_0, hx382_1, hx382_2, hx382_3, hx382_4, hx382_5, hx382_6, hx382_7, hl382_6, hi382_6, hl382_7, hi382_7⟩ := at_T131 HR0.out x3_1 p382 q382
                obtain rfl : ad373 = ad382 := (by injection e382)
                replace hx382_0 := (HB.out.cell (World.block_lt_of_cell? w _ hx382_0)).trans hx382_0
                replace hx382_1 := (HB.out.cell (World.block_lt_of_cell? w _ hx382_1)).trans hx382_1
                replace hx382_2 := (HB.out.cell (World.block_lt_of_cell? w _ hx382_2)).trans hx382_2
                replace hx382_3 := (HB.out.cell (World.block_lt_of_cell? w _ hx382_3)).trans hx382_3
                replace hx382_4 := (HB.out.cell (World.block_lt_of_cell? w _ hx382_4)).trans hx382_4
                replace hx382_5 := (HB.out.cell (World.block_lt_of_cell? w _ hx382_5)).trans hx382_5
                replace hx382_6 := (HB.out.cell (World.block_lt_of_cell? w _ hx382_6)).trans hx382_6
                replace hx382_7 := (HB.out.cell (World.block_lt_of_cell? w _ hx382_7)).trans hx382_7
                have HR382_6 := Aside0.mk hi382_6
                have HC382_6 := Aside0.mk hl382_6
                clear hi382_6 hl382_6
                have HR382_7 := Aside0.mk hi382_7
                have HC382_7 := Aside0.mk hl382_7
                clear hi382_7 hl382_7
                replace p382 := eq_true p382
                replace q382 := eq_true q382
                have ea_ := Option.some.inj (hx373_6.symm.trans hx382_6)
                injection ea_ with ea_ en_ ec_
                subst ea_
                subst ec_
                clear en_
                have ea_ := Option.some.inj (hx373_7.symm.trans hx382_7)
                injection ea_ with ea_ en_ ec_
                subst ea_
                subst ec_
                clear en_
                go_wp2_with (first | (go_at_call 107; (with_reducible refine (spec_IsProject.calls k1 ((rd_T131 l0 x3_1).f1.f0.f0) ((rd_T131 l0 x3_1).f1.f0.f1.f0) ((rd_T131 l0 x3_1).f1.f0.f1.f1) ((rd_T131 l0 x3_1).f1.f0.f2) ((rd_T131 l0 x3_1).f1.f1) _ _ ((rd_T131 l0 x3_1).f1.f2) _ _ ((rd_T131 l0 x3_1).f1.f3) true _ ?side1 ?side2 ?side3 ?side4 A24.out).mono ?_); (case side1 => repeat (first | exact (Kd.C_below HR382_6.out HB.out) | (with_reducible refine Kd.C_alloc ?_ _) | (with_reducible refine Kd.C_drewN ?_ _) | (with_reducible refine Kd.C_drew ?_))); (case side2 => exact HC382_6.out); (case side3 => repeat (first | exact (Kd.C_below HR382_7.out HB.out) | (with_reducible refine Kd.C_alloc ?_ _) | (with_reducible refine Kd.C_drewN ?_ _) | (with_reducible refine Kd.C_drew ?_))); (case side4 => exact HC382_7.out); rintro e w26 ⟨rfl, hb⟩; have n0_ := Aside0.mk (below_step (by repeat (first | (with_reducible first | exact HB.out | apply below_alloc | apply pw_below_drewN | apply below_drew1) | exact HB.out)) hb); clear HB; have HB := n0_; clear n0_; (try clear hb); (try clear hb2); (try clear hk); (try clear hi)))
                go_roundg k1
                case measure => have := HK1.out; omega
                case rel => exact ⟨(wrap64 (x3_1 + 1)), (by first | rfl | (simp; done) | (simp [*]; done)), H', ⟨by have := HK1.out; omega⟩, ⟨by repeat (first | (with_reducible first | exact HB.out | apply below_alloc | apply pw_below_drewN | apply below_drew1) | exact HB.out)⟩⟩
              · replace c25 := Bool.eq_false_iff.mpr c25
                subst c25
                have H1 : (some false) = some r := by rw [if_neg (show ¬ (false = true) by decide)] at H; exact H
                clear H
                have H := H1
                clear H1
                obtain rfl := Option.some.inj H
                have p373 : 0 ≤ (x3_1 : Int) := of_decide_eq_true (by first | (with_reducible assumption) | assumption)
                have q373 : x3_1 < (l0.length : Int) := of_decide_eq_true (by first | (with_reducible assumption) | assumption)
                obtain ⟨ad373, A373_6, c373_6, A373_7, c373_7, e373, hx373_0, hx373_1, hx373_2, hx373_3, hx373_4, hx373_5, hx373_6, hx373_7, hl373_6, hi373_6, hl373_7, hi373_7⟩ := at_T131 HR0.out x3_1 p373 q373
                cases e373
                replace hx373_0 := (HB.out.cell (World.block_lt_of_cell? w _ hx373_0)).trans hx373_0
                replace hx373_1 := (HB.out.cell (World.block_lt_of_cell? w _ hx373_1)).trans hx373_1
                replace hx373_2 := (HB.out.cell (World.block_lt_of_cell? w _ hx373_2)).trans hx373_2
                replace hx373_3 := (HB.out.cell (World.block_lt_of_cell? w _ hx373_3)).trans hx373_3
                replace hx373_4 := (HB.out.cell (World.block_lt_of_cell? w _ hx373_4)).trans hx373_4
                replace hx373_5 := (HB.out.cell (World.block_lt_of_cell? w _ hx373_5)).trans hx373_5
                replace hx373_6 := (HB.out.cell (World.block_lt_of_cell? w _ hx373_6)).trans hx373_6
                replace hx373_7 := (HB.out.cell (World.block_lt_of_cell? w _ hx373_7)).trans hx373_7
                have HR373_6 := Aside0.mk hi373_6
                have HC373_6 := Aside0.mk hl373_6
                clear hi373_6 hl373_6
                have HR373_7 := Aside0.mk hi373_7
                have HC373_7 := Aside0.mk hl373_7
                clear hi373_7 hl373_7
                replace p373 := eq_true p373
                replace q373 := eq_true q373
                have p382 : 0 ≤ (x3_1 : Int) := of_decide_eq_true (by first | (with_reducible assumption) | assumption)
                have q382 : x3_1 < (l0.length : Int) := of_decide_eq_true (by first | (with_reducible assumption) | assumption)
                obtain ⟨ad382, A382_6, c382_6, A382_7, c382_7, e382, hx382_0, hx382_1, hx382_2, hx382_3, hx382_4, hx382_5, hx382_6, hx382_7, hl382_6, hi382_6, hl382_7, hi382_7⟩ := at_T131 HR0.out x3_1 p382 q382
                obtain rfl : ad373 = ad382 := (by injection e382)
                replace hx382_0 := (HB.out.cell (World.block_lt_of_cell? w _ hx382_0)).trans hx382_0
                replace hx382_1 := (HB.out.cell (World.block_lt_of_cell? w _ hx382_1)).trans hx382_1
                replace hx382_2 := (HB.out.cell (World.block_lt_of_cell? w _ hx382_2)).trans hx382_2
                replace hx382_3 := (HB.out.cell (World.block_lt_of_cell? w _ hx382_3)).trans hx382_3
                replace hx382_4 := (HB.out.cell (World.block_lt_of_cell? w _ hx382_4)).trans hx382_4
                replace hx382_5 := (HB.out.cell (World.block_lt_of_cell? w _ hx382_5)).trans hx382_5
                replace hx382_6 := (HB.out.cell (World.block_lt_of_cell? w _ hx382_6)).trans hx382_6
                replace hx382_7 := (HB.out.cell (World.block_lt_of_cell? w _ hx382_7)).trans hx382_7
                have HR382_6 := Aside0.mk hi382_6
                have HC382_6 := Aside0.mk hl382_6
                clear hi382_6 hl382_6
                have HR382_7 := Aside0.mk hi382_7
                have HC382_7 := Aside0.mk hl382_7
                clear hi382_7 hl382_7
                replace p382 := eq_true p382
                replace q382 := eq_true q382
                have ea_ := Option.some.inj (hx373_6.symm.trans hx382_6)
                injection ea_ with ea_ en_ ec_
                subst ea_
                subst ec_
                clear en_
                have ea_ := Option.some.inj (hx373_7.symm.trans hx382_7)
                injection ea_ with ea_ en_ ec_
                subst ea_
                subst ec_
                clear en_
                go_wp2_with (first | (go_at_call 107; (with_reducible refine (spec_IsProject.calls k1 ((rd_T131 l0 x3_1).f1.f0.f0) ((rd_T131 l0 x3_1).f1.f0.f1.f0) ((rd_T131 l0 x3_1).f1.f0.f1.f1) ((rd_T131 l0 x3_1).f1.f0.f2) ((rd_T131 l0 x3_1).f1.f1) _ _ ((rd_T131 l0 x3_1).f1.f2) _ _ ((rd_T131 l0 x3_1).f1.f3) false _ ?side1 ?side2 ?side3 ?side4 A24.out).mono ?_); (case side1 => repeat (first | exact (Kd.C_below HR382_6.out HB.out) | (with_reducible refine Kd.C_alloc ?_ _) | (with_reducible refine Kd.C_drewN ?_ _) | (with_reducible refine Kd.C_drew ?_))); (case side2 => exact HC382_6.out); (case side3 => repeat (first | exact (Kd.C_below HR382_7.out HB.out) | (with_reducible refine Kd.C_alloc ?_ _) | (with_reducible refine Kd.C_drewN ?_ _) | (with_reducible refine Kd.C_drew ?_))); (case side4 => exact HC382_7.out); rintro e w27 ⟨rfl, hb⟩; have n0_ := Aside0.mk (below_step (by repeat (first | (with_reducible first | exact HB.out | apply below_alloc | apply pw_below_drewN | apply below_drew1) | exact HB.out)) hb); clear HB; have HB := n0_; clear n0_; (try clear hb); (try clear hb2); (try clear hk); (try clear hi)))
                go_ret
                exact ⟨by first | rfl | (simp [errW_none, errW_some] <;> rfl) | (simp [*, errW_none, errW_some] <;> rfl), by repeat (first | (with_reducible first | exact HB.out | apply below_alloc | apply pw_below_drewN | apply below_drew1) | exact HB.out)⟩
        · rw [if_neg c3] at H
          exact absurd H (by simp)
      · rw [if_neg c2] at H
        have c2b0 : decide (x3_1 < (l0.length : Int)) = false := decide_eq_false c2
        clear c2
        obtain rfl := Option.some.inj H
        go_wp2
        go_ret
        exact ⟨by first | rfl | (simp [errW_none, errW_some] <;> rfl) | (simp [*, errW_none, errW_some] <;> rfl), by repeat (first | (with_reducible first | exact HB.out | apply below_alloc | apply pw_below_drewN | apply below_drew1) | exact HB.out)⟩

end Go.Proofs.Ythdadohmomhchaa.F

namespace Go.Proofs.Ythdadohmomhchaa.F
open Go.RowKit Go.Proofs.YthdadohmomhchaaW.PrintWords Go.Proofs.YthdadohmomhchaaW.PrintLast Go.Proofs.YthdadohmomhchaaW.PrintMore
attribute [local go_sem] max2_int min2_int max_two min_two max_three min_three max_four min_four   -- for this text's walks alone
set_option linter.unusedVariables false
set_option linter.unusedSimpArgs false

/-! ### spec_l33Code: function 103 -/
def spec_l33Code.f (k : Nat) (l0 : List (S131)) (a1 : Int) : Option (Int) := (spec_IsHistory.f k l0).bind fun t384 => (if t384 = true then ((spec_l01In.f a1 0 (wrap64 ((l0.length : Int) - 1))).bind fun t385 => (if t385 = true then (some 0) else (some 2))) else (some 1))
theorem spec_l33Code.mono : ∀ a0 a1 k, LeO (spec_l33Code.f k a0 a1) (spec_l33Code.f (k + 1) a0 a1) := by
  intro a0 a1 k
  unfold spec_l33Code.f
  repeat' first
      | (with_reducible exact spec_IsHistory.mono _ _)
      | (with_reducible exact LeO.refl _)
      | (with_reducible exact LeO.none _)
      | (with_reducible refine LeO.ite ?_ ?_)
      | (with_reducible refine LeO.bind ?_ (fun _ => ?_))
      | exact spec_IsHistory.mono _ _
      | exact LeO.none _
      | refine LeO.ite ?_ ?_
      | refine LeO.bind ?_ (fun _ => ?_)
set_option maxHeartbeats 8000000 in
set_option maxRecDepth 100000 in
theorem spec_l33Code.calls (k : Nat) (A0 : Option Addr) (c0 : Nat) (l0 : List (S131)) (a1 : Int) (r : Int) (w : World) (hr0 : Kd.C k131 w A0 l0.length l0) (hc0 : l0.length ≤ c0) (h : spec_l33Code.f k l0 a1 = some r) :
    Calls Try.prog 103 #[.slice A0 l0.length c0, .int .i64 a1] w fun e w' => e = .returned (.int .i64 r) ∧ Below w.heap.size w w' := by
  have HR0 := Aside0.mk hr0
  have HC0 := Aside0.mk hc0
  clear hr0 hc0
  have HB := Aside0.mk (Below.refl w.heap.size w)
  have H : ((spec_IsHistory.f k l0).bind fun t384 => (if t384 = true then ((spec_l01In.f a1 0 (wrap64 ((l0.length : Int) - 1))).bind fun t385 => (if t385 = true then (some 0) else (some 2))) else (some 1))) = some r := h
  clear h
  replace H := Option.bind_eq_some_iff.mp H
  obtain ⟨t384, A30, H⟩ := H
  replace H : (if t384 = true then ((spec_l01In.f a1 0 (wrap64 ((l0.length : Int) - 1))).bind fun t385 => (if t385 = true then (some 0) else (some 2))) else (some 1)) = some r := H
  have A3 := Aside0.mk A30
  clear A30
  by_cases c4 : t384 = true
  · subst c4
    have H1 : ((spec_l01In.f a1 0 (wrap64 ((l0.length : Int) - 1))).bind fun t385 => (if t385 = true then (some 0) else (some 2))) = some r := by rw [if_pos rfl] at H; exact H
    clear H
    have H := H1
    clear H1
    replace H := Option.bind_eq_some_iff.mp H
    obtain ⟨t385, A50, H⟩ := H
    replace H : (if t385 = true then (some 0) else (some 2)) = some r := H
    have A5 := Aside0.mk A50
    clear A50
    by_cases c6 : t385 = true
    · subst c6
      have H1 : (some 0) = some r := by rw [if_pos rfl] at H; exact H
      clear H
      have H := H1
      clear H1
      obtain rfl := Option.some.inj H
      go_enter Try.func103, Try.ntmps103
      go_wp2_with (first | ((with_reducible refine gate_callee (f := 171) rfl ?_); refine goesL_ (some 6) rfl rfl Try.func171 (by kernel_rfl) rfl #[.slice A0 l0.length c0] rfl (by (try simp only [List.map_toArray, List.map_cons, List.map_nil]); first | done | rfl | (simp only [List.length_drop, List.length_take]; rfl)) ?_; (with_reducible refine (spec_IsHistory.calls k _ _ l0 true _ ?side1 ?side2 A3.out).mono ?_); (case side1 => repeat (first | exact HR0.out | (with_reducible refine Kd.C_alloc ?_ _) | (with_reducible refine Kd.C_drewN ?_ _) | (with_reducible refine Kd.C_drew ?_))); (case side2 => exact HC0.out); rintro e w7 ⟨rfl, hb⟩; refine ⟨_, rfl, ?_⟩; have n0_ := Aside0.mk (below_step (by repeat (first | (with_reducible first | exact HB.out | apply below_alloc | apply pw_below_drewN | apply below_drew1) | exact HB.out)) hb); clear HB; have HB := n0_; clear n0_; (try clear hb); (try clear hb2); (try clear hk); (try clear hi)) | ((with_reducible refine gate_callee (f := 152) rfl ?_); refine goesL_ (some 12) rfl rfl Try.func152 (by kernel_rfl) rfl #[.int .i64 a1, .int .i64 0, .int .i64 (wrap64 ((l0.length : Int) - 1))] rfl (by (try simp only [List.map_toArray, List.map_cons, List.map_nil]); first | done | rfl | (simp only [List.length_drop, List.length_take]; rfl)) ?_; (with_reducible refine (spec_l01In.calls a1 0 (wrap64 ((l0.length : Int) - 1)) true _ A5.out).mono ?_); rintro e w' ⟨rfl, ⟨nd, rfl⟩⟩; refine ⟨_, rfl, ?_⟩))
      go_ret
      exact ⟨by first | rfl | (simp [errW_none, errW_some] <;> rfl) | (simp [*, errW_none, errW_some] <;> rfl), by repeat (first | (with_reducible first | exact HB.out | apply below_alloc | apply pw_below_drewN | apply below_drew1) | exact HB.out)⟩
    · replace c6 := Bool.eq_false_iff.mpr c6
      subst c6
      have H1 : (some 2) = some r := by rw [if_neg (show ¬ (false = true) by decide)] at H; exact H
      clear H
      have H := H1
      clear H1
      obtain rfl := Option.some.inj H
      go_enter Try.func103, Try.ntmps103
      go_wp2_with (first | ((with_reducible refine gate_callee (f := 171) rfl ?_); refine goesL_ (some 6) rfl rfl Try.func171 (by kernel_rfl) rfl #[.slice A0 l0.length c0] rfl (by (try simp only [List.map_toArray, List.map_cons, List.map_nil]); first | done | rfl | (simp only [List.length_drop, List.length_take]; rfl)) ?_; (with_reducible refine (spec_IsHistory.calls k _ _ l0 true _ ?side1 ?side2 A3.out).mono ?_); (case side1 => repeat (first | exact HR0.out | (with_reducible refine Kd.C_alloc ?_ _) | (with_reducible refine Kd.C_drewN ?_ _) | (with_reducible refine Kd.C_drew ?_))); (case side2 => exact HC0.out); rintro e w8 ⟨rfl, hb⟩; refine ⟨_, rfl, ?_⟩; have n0_ := Aside0.mk (below_step (by repeat (first | (with_reducible first | exact HB.out | apply below_alloc | apply pw_below_drewN | apply below_drew1) | exact HB.out)) hb); clear HB; have HB := n0_; clear n0_; (try clear hb); (try clear hb2); (try clear hk); (try clear hi)) | ((with_reducible refine gate_callee (f := 152) rfl ?_); refine goesL_ (some 12) rfl rfl Try.func152 (by kernel_rfl) rfl #[.int .i64 a1, .int .i64 0, .int .i64 (wrap64 ((l0.length : Int) - 1))] rfl (by (try simp only [List.map_toArray, List.map_cons, List.map_nil]); first | done | rfl | (simp only [List.length_drop, List.length_take]; rfl)) ?_; (with_reducible refine (spec_l01In.calls a1 0 (wrap64 ((l0.length : Int) - 1)) false _ A5.out).mono ?_); rintro e w' ⟨rfl, ⟨nd, rfl⟩⟩; refine ⟨_, rfl, ?_⟩))
      go_ret
      exact ⟨by first | rfl | (simp [errW_none, errW_some] <;> rfl) | (simp [*, errW_none, errW_some] <;> rfl), by repeat (first | (with_reducible first | exact HB.out | apply below_alloc | apply pw_below_drewN | apply below_drew1) | exact HB.out)⟩
  · replace c4 := Bool.eq_false_iff.mpr c4
    subst c4
    have H1 : (some 1) = some r := by rw [if_neg (show ¬ (false = true) by decide)] at H; exact H
    clear H
    have H := H1
    clear H1
    obtain rfl := Option.some.inj H
    go_enter Try.func103, Try.ntmps103
    go_wp2_with (first | ((with_reducible refine gate_callee (f := 171) rfl ?_); refine goesL_ (some 6) rfl rfl Try.func171 (by kernel_rfl) rfl #[.slice A0 l0.length c0] rfl (by (try simp only [List.map_toArray, List.map_cons, List.map_nil]); first | done | rfl | (simp only [List.length_drop, List.length_take]; rfl)) ?_; (with_reducible refine (spec_IsHistory.calls k _ _ l0 false _ ?side1 ?side2 A3.out).mono ?_); (case side1 => repeat (first | exact HR0.out | (with_reducible refine Kd.C_alloc ?_ _) | (with_reducible refine Kd.C_drewN ?_ _) | (with_reducible refine Kd.C_drew ?_))); (case side2 => exact HC0.out); rintro e w9 ⟨rfl, hb⟩; refine ⟨_, rfl, ?_⟩; have n0_ := Aside0.mk (below_step (by repeat (first | (with_reducible first | exact HB.out | apply below_alloc | apply pw_below_drewN | apply below_drew1) | exact HB.out)) hb); clear HB; have HB := n0_; clear n0_; (try clear hb); (try clear hb2); (try clear hk); (try clear hi)))
    go_ret
    exact ⟨by first | rfl | (simp [errW_none, errW_some] <;> rfl) | (simp [*, errW_none, errW_some] <;> rfl), by repeat (first | (with_reducible first | exact HB.out | apply below_alloc | apply pw_below_drewN | apply below_drew1) | exact HB.out)⟩

end Go.Proofs.Ythdadohmomhchaa.F

namespace Go.Proofs.Ythdadohmomhchaa.F
open Go.RowKit Go.Proofs.YthdadohmomhchaaW.PrintWords Go.Proofs.YthdadohmomhchaaW.PrintLast Go.Proofs.YthdadohmomhchaaW.PrintMore
attribute [local go_sem] max2_int min2_int max_two min_two max_three min_three max_four min_four   -- for this text's walks alone
set_option linter.unusedVariables false
set_option linter.unusedSimpArgs false

/-! ### spec_l33Two: function 98 -/
def spec_l33Two.f (k : Nat) (l0 : List (S131)) (a1 : Int) (a2 : Int) : Option (Int) := (spec_l33Code.f k l0 a1).bind fun t386 => (if t386 = 0 then ((spec_l33Code.f k l0 a2).bind fun t387 => (some t387)) else (some t386))
theorem spec_l33Two.mono : ∀ a0 a1 a2 k, LeO (spec_l33Two.f k a0 a1 a2) (spec_l33Two.f (k + 1) a0 a1 a2) := by
  intro a0 a1 a2 k
  unfold spec_l33Two.f
  repeat' first
      | (with_reducible exact spec_l33Code.mono _ _ _)
      | (with_reducible exact LeO.refl _)
      | (with_reducible exact LeO.none _)
      | (with_reducible refine LeO.ite ?_ ?_)
      | (with_reducible refine LeO.bind ?_ (fun _ => ?_))
      | exact spec_l33Code.mono _ _ _
      | exact LeO.none _
      | refine LeO.ite ?_ ?_
      | refine LeO.bind ?_ (fun _ => ?_)
set_option maxHeartbeats 8000000 in
set_option maxRecDepth 100000 in
theorem spec_l33Two.calls (k : Nat) (A0 : Option Addr) (c0 : Nat) (l0 : List (S131)) (a1 : Int) (a2 : Int) (r : Int) (w : World) (hr0 : Kd.C k131 w A0 l0.length l0) (hc0 : l0.length ≤ c0) (h : spec_l33Two.f k l0 a1 a2 = some r) :
    Calls Try.prog 98 #[.slice A0 l0.length c0, .int .i64 a1, .int .i64 a2] w fun e w' => e = .returned (.int .i64 r) ∧ Below w.heap.size w w' := by
  have HR0 := Aside0.mk hr0
  have HC0 := Aside0.mk hc0
  clear hr0 hc0
  have HB := Aside0.mk (Below.refl w.heap.size w)
  have H : ((spec_l33Code.f k l0 a1).bind fun t386 => (if t386 = 0 then ((spec_l33Code.f k l0 a2).bind fun t387 => (some t387)) else (some t386))) = some r := h
  clear h
  replace H := Option.bind_eq_some_iff.mp H
  obtain ⟨t386, A40, H⟩ := H
  replace H : (if t386 = 0 then ((spec_l33Code.f k l0 a2).bind fun t387 => (some t387)) else (some t386)) = some r := H
  have A4 := Aside0.mk A40
  clear A40
  by_cases c5 : t386 = 0
  · rw [if_pos c5] at H
    have c5b0 : (t386 == 0) = true := beq_iff_eq.mpr c5
    have c5b1 : (t386 != 0) = false := bne_eq_false_iff_eq.mpr c5
    clear c5
    replace H := Option.bind_eq_some_iff.mp H
    obtain ⟨t387, A60, H⟩ := H
    replace H : (some t387) = some r := H
    have A6 := Aside0.mk A60
    clear A60
    obtain rfl := Option.some.inj H
    go_enter Try.func98, Try.ntmps98
    go_wp2_with (first | ((with_reducible refine gate_callee (f := 103) rfl ?_); refine goesL_ (some 10) rfl rfl Try.func103 (by kernel_rfl) rfl #[.slice A0 l0.length c0, .int .i64 a1] rfl (by (try simp only [List.map_toArray, List.map_cons, List.map_nil]); first | done | rfl | (simp only [List.length_drop, List.length_take]; rfl)) ?_; (with_reducible refine (spec_l33Code.calls k _ _ l0 a1 t386 _ ?side1 ?side2 A4.out).mono ?_); (case side1 => repeat (first | exact HR0.out | (with_reducible refine Kd.C_alloc ?_ _) | (with_reducible refine Kd.C_drewN ?_ _) | (with_reducible refine Kd.C_drew ?_))); (case side2 => exact HC0.out); rintro e w7 ⟨rfl, hb⟩; refine ⟨_, rfl, ?_⟩; have n0_ := Aside0.mk (below_step (by repeat (first | (with_reducible first | exact HB.out | apply below_alloc | apply pw_below_drewN | apply below_drew1) | exact HB.out)) hb); clear HB; have HB := n0_; clear n0_; (try clear hb); (try clear hb2); (try clear hk); (try clear hi)) | ((with_reducible refine gate_callee (f := 103) rfl ?_); refine goesL_ (some 15) rfl rfl Try.func103 (by kernel_rfl) rfl #[.slice A0 l0.length c0, .int .i64 a2] rfl (by (try simp only [List.map_toArray, List.map_cons, List.map_nil]); first | done | rfl | (simp only [List.length_drop, List.length_take]; rfl)) ?_; (with_reducible refine (spec_l33Code.calls k _ _ l0 a2 t387 _ ?side1 ?side2 A6.out).mono ?_); (case side1 => repeat (first | exact (Kd.C_below HR0.out HB.out) | (with_reducible refine Kd.C_alloc ?_ _) | (with_reducible refine Kd.C_drewN ?_ _) | (with_reducible refine Kd.C_drew ?_))); (case side2 => exact HC0.out); rintro e w8 ⟨rfl, hb⟩; refine ⟨_, rfl, ?_⟩; have n0_ := Aside0.mk (below_step (by repeat (first | (with_reducible first | exact HB.out | apply below_alloc | apply pw_below_drewN | apply below_drew1) | exact HB.out)) hb); clear HB; have HB := n0_; clear n0_; (try clear hb); (try clear hb2); (try clear hk); (try clear hi)))
    go_ret
    exact ⟨by first | rfl | (simp [errW_none, errW_some] <;> rfl) | (simp [*, errW_none, errW_some] <;> rfl), by repeat (first | (with_reducible first | exact HB.out | apply below_alloc | apply pw_below_drewN | apply below_drew1) | exact HB.out)⟩
  · rw [if_neg c5] at H
    have c5b0 : (t386 == 0) = false := beq_eq_false_iff_ne.mpr c5
    have c5b1 : (t386 != 0) = true := bne_iff_ne.mpr c5
    obtain rfl := Option.some.inj H
    go_enter Try.func98, Try.ntmps98
    go_wp2_with (first | ((with_reducible refine gate_callee (f := 103) rfl ?_); refine goesL_ (some 10) rfl rfl Try.func103 (by kernel_rfl) rfl #[.slice A0 l0.length c0, .int .i64 a1] rfl (by (try simp only [List.map_toArray, List.map_cons, List.map_nil]); first | done | rfl | (simp only [List.length_drop, List.length_take]; rfl)) ?_; (with_reducible refine (spec_l33Code.calls k _ _ l0 a1 t386 _ ?side1 ?side2 A4.out).mono ?_); (case side1 => repeat (first | exact HR0.out | (with_reducible refine Kd.C_alloc ?_ _) | (with_reducible refine Kd.C_drewN ?_ _) | (with_reducible refine Kd.C_drew ?_))); (case side2 => exact HC0.out); rintro e w9 ⟨rfl, hb⟩; refine ⟨_, rfl, ?_⟩; have n0_ := Aside0.mk (below_step (by repeat (first | (with_reducible first | exact HB.out | apply below_alloc | apply pw_below_drewN | apply below_drew1) | exact HB.out)) hb); clear HB; have HB := n0_; clear n0_; (try clear hb); (try clear hb2); (try clear hk); (try clear hi)))
    go_ret
    exact ⟨by first | rfl | (simp [errW_none, errW_some] <;> rfl) | (simp [*, errW_none, errW_some] <;> rfl), by repeat (first | (with_reducible first | exact HB.out | apply below_alloc | apply pw_below_drewN | apply below_drew1) | exact HB.out)⟩

end Go.Proofs.Ythdadohmomhchaa.F

namespace Go.Proofs.Ythdadohmomhchaa.F
open Go.RowKit Go.Proofs.YthdadohmomhchaaW.PrintWords Go.Proofs.YthdadohmomhchaaW.PrintLast Go.Proofs.YthdadohmomhchaaW.PrintMore
attribute [local go_sem] max2_int min2_int max_two min_two max_three min_three max_four min_four   -- for this text's walks alone
set_option linter.unusedVariables false
set_option linter.unusedSimpArgs false

/-! ### spec_l33Ancestors: function 104 -/
def spec_l33Ancestors.l0 : Nat → List (S131) → Int → List Int → Option (List Int)
  | 0, _, _, _ => none
  | k + 1, x0, x1, x5 => if x1 ≥ 0 then (if x5.length < 17592186044416 then (if 0 ≤ x1 then (if x1 < (x0.length : Int) then (spec_l33Ancestors.l0 k x0 ((rd_T131 x0 x1).f0) (x5 ++ [x1])) else (none)) else (none)) else (none)) else (some x5)
def spec_l33Ancestors.f (k : Nat) (l0 : List (S131)) (a1 : Int) : Option (List Int) := spec_l33Ancestors.l0 k l0 a1 (([] : List Int))
theorem spec_l33Ancestors.mono_l : ∀ k, (∀ y0 y1 y2, LeO (spec_l33Ancestors.l0 k y0 y1 y2) (spec_l33Ancestors.l0 (k + 1) y0 y1 y2))
  | 0 => fun _ _ _ r h => by simp [spec_l33Ancestors.l0] at h
  | k + 1 => by
    have ih0 := spec_l33Ancestors.mono_l k
    · intro y0 y1 y2
      unfold spec_l33Ancestors.l0
      repeat' first
      | (with_reducible exact ih0 _ _ _)
      | (with_reducible exact LeO.refl _)
      | (with_reducible exact LeO.none _)
      | (with_reducible refine LeO.ite ?_ ?_)
      | (with_reducible refine LeO.bind ?_ (fun _ => ?_))
      | exact ih0 _ _ _
      | exact LeO.none _
      | refine LeO.ite ?_ ?_
      | refine LeO.bind ?_ (fun _ => ?_)
theorem spec_l33Ancestors.mono : ∀ a0 a1 k, LeO (spec_l33Ancestors.f k a0 a1) (spec_l33Ancestors.f (k + 1) a0 a1) := by
  intro a0 a1 k
  have ih0 := spec_l33Ancestors.mono_l k
  unfold spec_l33Ancestors.f
  repeat' first
      | (with_reducible exact ih0 _ _ _)
      | (with_reducible exact LeO.refl _)
      | (with_reducible exact LeO.none _)
      | (with_reducible refine LeO.ite ?_ ?_)
      | (with_reducible refine LeO.bind ?_ (fun _ => ?_))
      | exact ih0 _ _ _
      | exact LeO.none _
      | refine LeO.ite ?_ ?_
      | refine LeO.bind ?_ (fun _ => ?_)
set_option maxHeartbeats 8000000 in
set_option maxRecDepth 100000 in
theorem spec_l33Ancestors.calls (k : Nat) (A0 : Option Addr) (c0 : Nat) (l0 : List (S131)) (a1 : Int) (r : List Int) (w : World) (hr0 : Kd.C k131 w A0 l0.length l0) (hc0 : l0.length ≤ c0) (h : spec_l33Ancestors.f k l0 a1 = some r) :
    Calls Try.prog 104 #[.slice A0 l0.length c0, .int .i64 a1] w fun e w' => ∃ v0_ : Value, e = .returned (v0_) ∧ Kd.R (Kd.int .i64) 2 w' w.heap.size (fun _ => True) v0_ r ∧ Below w.heap.size w w' := by
  have HR0 := Aside0.mk hr0
  have HC0 := Aside0.mk hc0
  clear hr0 hc0
  have HB := Aside0.mk (Below.refl w.heap.size w)
  have H : (spec_l33Ancestors.l0 k l0 a1 (([] : List Int))) = some r := h
  clear h
  obtain ⟨y388, hy388⟩ : ∃ y_ : List Int, y_ = (([] : List Int)) := ⟨_, rfl⟩
  replace H : (spec_l33Ancestors.l0 k l0 a1 y388) = some r := by first | (rw [hy388]; with_reducible exact H) | (have H2_ := (Option.bind_some _ _).symm.trans H; rw [hy388]; with_reducible exact H2_) | (have H2_ := (Option.bind_some _ _).symm.trans H; with_reducible exact H2_) | with_reducible exact H | (rw [hy388]; exact H) | exact H
  have Ny388 := Aside0.mk hy388
  clear hy388
  have H' := Aside0.mk H
  clear H
  go_enter Try.func104, Try.ntmps104
  go_wp2_with (first | ((with_reducible refine gate_dst (N := 6) rfl ?_); refine Kd.R_lit (Kd.int .i64) _ 2 ?hg (N := 6) ?hd (xs := ([] : List Int)) (inner := []) (ok := fun _ => True) (okp := fun _ => True) ?hr ?hp (fun _ hk => hk) trivial (Below.refl _ _) (Nat.le_refl _) (by simp) ?_; (case hd => rfl); (case hg => rfl); (case hr => first | (go_simp; done) | (go_simp; rfl)); (case hp => exact (Reps.none _ _)); intro v389 w3 ho4 hb hg_ hnew_; clear hg_ hnew_; (first | rw [← Ny388.out] at ho4 | (simp only [Int.reduceToNat] at ho4; rw [← Ny388.out] at ho4)); have n0_ := Aside0.mk (Kd.R_lower ho4 (below_size (by repeat (first | (with_reducible first | exact HB.out | apply below_alloc | apply pw_below_drewN | apply below_drew1) | exact HB.out)))); have n1_ := Aside0.mk (below_step (by repeat (first | (with_reducible first | exact HB.out | apply below_alloc | apply pw_below_drewN | apply below_drew1) | exact HB.out)) hb); clear HB; have HO390 := n0_; have HB := n1_; clear n0_ n1_; clear hb ho4))
  go_loopg [1, 5] k (fun kq v1 v5 w' => ∃ (x1_1 : Int) (x5_1 : List Int), v1 = .int .i64 x1_1 ∧ Aside0 (spec_l33Ancestors.l0 kq l0 x1_1 x5_1 = some r) ∧ Aside0 (kq ≤ k) ∧ Aside0 (Kd.R (Kd.int .i64) 2 w' w.heap.size (fun _ => True) v5 x5_1) ∧ Aside0 (Below w.heap.size w w'))
  case atStart => exact ⟨(a1), (y388), (by first | rfl | (simp; done) | (simp [*]; done)), H', ⟨Nat.le_refl _⟩, ⟨by (with_reducible repeat (first | apply Kd.R_alloc | apply Kd.R_drewN | apply Kd.R_drew)); exact HO390.out⟩, ⟨by repeat (first | (with_reducible first | exact HB.out | apply below_alloc | apply pw_below_drewN | apply below_drew1) | exact HB.out)⟩⟩
  case round =>
    clear H'
    try clear c1
    try clear p2
    obtain ⟨x1_1, x5_1, rfl, HA, HK1, HO_5, HB⟩ := hrel
    cases gk with
    | zero => exact absurd HA.out (by simp [spec_l33Ancestors.l0])
    | succ k1 =>
      have H := HA.out
      clear HA
      simp only [spec_l33Ancestors.l0] at H
      by_cases c5 : x1_1 ≥ 0
      · rw [if_pos c5] at H
        have c5b0 : decide (0 ≤ x1_1) = true := decide_eq_true c5
        clear c5
        by_cases c6 : x5_1.length < 17592186044416
        · rw [if_pos c6] at H
          have LMc6 := Aside0.mk c6
          clear c6
          obtain ⟨y391, hy391⟩ : ∃ y_ : List Int, y_ = (x5_1 ++ [x1_1]) := ⟨_, rfl⟩
          replace H : (if 0 ≤ x1_1 then (if x1_1 < (l0.length : Int) then (spec_l33Ancestors.l0 k1 l0 ((rd_T131 l0 x1_1).f0) y391) else (none)) else (none)) = some r := by first | (rw [hy391]; with_reducible exact H) | (have H2_ := (Option.bind_some _ _).symm.trans H; rw [hy391]; with_reducible exact H2_) | (have H2_ := (Option.bind_some _ _).symm.trans H; with_reducible exact H2_) | with_reducible exact H | (rw [hy391]; exact H) | exact H
          have Ny391 := Aside0.mk hy391
          clear hy391
          by_cases c7 : 0 ≤ x1_1
          · rw [if_pos c7] at H
            have c7b0 : decide (0 ≤ x1_1) = true := decide_eq_true c7
            clear c7
            by_cases c8 : x1_1 < (l0.length : Int)
            · rw [if_pos c8] at H
              have c8b0 : decide (x1_1 < (l0.length : Int)) = true := decide_eq_true c8
              clear c8
              have H' := Aside0.mk H
              clear H
              go_wp2_with (first | ((with_reducible refine gate_builtin (b := .append) (xs := #[.tmp 9, .tmp 11]) rfl ?_); at_builtin; refine Kd.R_append (Kd.int .i64) (w0 := w) w.heap.size rfl (.tmp 9) (.tmp 11) 34 2 (.int .i64 0) 8 rfl Try.underlying34 info2 rfl (by decide) (by omega) u5 x5_1 x1_1 [.int .i64 x1_1] (fun _ => True) (fun _ => False) rfl rfl ?aP (fun _ hk => hk.elim) ?aF ?aO ?aB ?aS ?aL ?_; (case aP => exact rfl); (case aB => exact (by repeat (first | (with_reducible first | exact HB.out | apply below_alloc | apply pw_below_drewN | apply below_drew1) | exact HB.out))); (case aF => exact (fun _ _ => trivial)); (case aO => exact (by (with_reducible repeat (first | apply Kd.R_alloc | apply Kd.R_drewN | apply Kd.R_drew)); exact HO_5.out)); (case aS => exact (below_size (by repeat (first | (with_reducible first | exact HB.out | apply below_alloc | apply pw_below_drewN | apply below_drew1) | exact HB.out)))); (case aL => have := LMc6.out; omega); intro v392 w9 ho hb hg hat; rw [← Ny391.out] at ho; have n0_ := Aside0.mk (hb); have n1_ := Aside0.mk (ho); clear HB; clear HO_5; have HB := n0_; have HO393 := n1_; clear n0_ n1_; clear ho hb hg hat; have p394 : 0 ≤ (x1_1 : Int) := of_decide_eq_true (by first | (with_reducible assumption) | assumption); have q394 : x1_1 < (l0.length : Int) := of_decide_eq_true (by first | (with_reducible assumption) | assumption); obtain ⟨ad394, A394_6, c394_6, A394_7, c394_7, e394, hx394_0, hx394_1, hx394_2, hx394_3, hx394_4, hx394_5, hx394_6, hx394_7, hl394_6, hi394_6, hl394_7, hi394_7⟩ := at_T131 HR0.out x1_1 p394 q394; cases e394; replace hx394_0 := (HB.out.cell (World.block_lt_of_cell? w _ hx394_0)).trans hx394_0; replace hx394_1 := (HB.out.cell (World.block_lt_of_cell? w _ hx394_1)).trans hx394_1; replace hx394_2 := (HB.out.cell (World.block_lt_of_cell? w _ hx394_2)).trans hx394_2; replace hx394_3 := (HB.out.cell (World.block_lt_of_cell? w _ hx394_3)).trans hx394_3; replace hx394_4 := (HB.out.cell (World.block_lt_of_cell? w _ hx394_4)).trans hx394_4; replace hx394_5 := (HB.out.cell (World.block_lt_of_cell? w _ hx394_5)).trans hx394_5; replace hx394_6 := (HB.out.cell (World.block_lt_of_cell? w _ hx394_6)).trans hx394_6; replace hx394_7 := (HB.out.cell (World.block_lt_of_cell? w _ hx394_7)).trans hx394_7; have HR394_6 := Aside0.mk hi394_6; have HC394_6 := Aside0.mk hl394_6; clear hi394_6 hl394_6; have HR394_7 := Aside0.mk hi394_7; have HC394_7 := Aside0.mk hl394_7; clear hi394_7 hl394_7; replace p394 := eq_true p394; replace q394 := eq_true q394))
              go_roundg k1
              case measure => have := HK1.out; omega
              case rel => exact ⟨((rd_T131 l0 x1_1).f0), (y391), (by first | rfl | (simp; done) | (simp [*]; done)), H', ⟨by have := HK1.out; omega⟩, ⟨by (with_reducible repeat (first | apply Kd.R_alloc | apply Kd.R_drewN | apply Kd.R_drew)); exact HO393.out⟩, ⟨by repeat (first | (with_reducible first | exact HB.out | apply below_alloc | apply pw_below_drewN | apply below_drew1) | exact HB.out)⟩⟩
            · rw [if_neg c8] at H
              exact absurd H (by simp)
          · rw [if_neg c7] at H
            exact absurd H (by simp)
        · rw [if_neg c6] at H
          exact absurd H (by simp)
      · rw [if_neg c5] at H
        have c5b0 : decide (0 ≤ x1_1) = false := decide_eq_false c5
        clear c5
        obtain rfl := Option.some.inj H
        go_wp2
        go_ret
        exact ⟨_, by first | rfl | (simp [errW_none, errW_some] <;> rfl) | (simp [*, errW_none, errW_some] <;> rfl), by (with_reducible repeat (first | apply Kd.R_alloc | apply Kd.R_drewN | apply Kd.R_drew)); exact HO_5.out, by repeat (first | (with_reducible first | exact HB.out | apply below_alloc | apply pw_below_drewN | apply below_drew1) | exact HB.out)⟩

end Go.Proofs.Ythdadohmomhchaa.F

namespace Go.Proofs.Ythdadohmomhchaa.F
open Go.RowKit Go.Proofs.YthdadohmomhchaaW.PrintWords Go.Proofs.YthdadohmomhchaaW.PrintLast Go.Proofs.YthdadohmomhchaaW.PrintMore
attribute [local go_sem] max2_int min2_int max_two min_two max_three min_three max_four min_four   -- for this text's walks alone
set_option linter.unusedVariables false
set_option linter.unusedSimpArgs false

/-! ### spec_l01Has: function 124 -/
def spec_l01Has.l0 : Nat → List Int → Int → Int → Option (Bool)
  | 0, _, _, _ => none
  | k + 1, x0, x1, x5 => if x5 < (x0.length : Int) then (if 0 ≤ x5 then (if (rd x0 x5) = x1 then (some true) else (spec_l01Has.l0 k x0 x1 (wrap64 (x5 + 1)))) else (none)) else (some false)
def spec_l01Has.f (k : Nat) (l0 : List Int) (a1 : Int) : Option (Bool) := spec_l01Has.l0 k l0 a1 0
theorem spec_l01Has.mono_l : ∀ k, (∀ y0 y1 y2, LeO (spec_l01Has.l0 k y0 y1 y2) (spec_l01Has.l0 (k + 1) y0 y1 y2))
  | 0 => fun _ _ _ r h => by simp [spec_l01Has.l0] at h
  | k + 1 => by
    have ih0 := spec_l01Has.mono_l k
    · intro y0 y1 y2
      unfold spec_l01Has.l0
      repeat' first
      | (with_reducible exact ih0 _ _ _)
      | (with_reducible exact LeO.refl _)
      | (with_reducible exact LeO.none _)
      | (with_reducible refine LeO.ite ?_ ?_)
      | (with_reducible refine LeO.bind ?_ (fun _ => ?_))
      | exact ih0 _ _ _
      | exact LeO.none _
      | refine LeO.ite ?_ ?_
      | refine LeO.bind ?_ (fun _ => ?_)
theorem spec_l01Has.mono : ∀ a0 a1 k, LeO (spec_l01Has.f k a0 a1) (spec_l01Has.f (k + 1) a0 a1) := by
  intro a0 a1 k
  have ih0 := spec_l01Has.mono_l k
  unfold spec_l01Has.f
  repeat' first
      | (with_reducible exact ih0 _ _ _)
      | (with_reducible exact LeO.refl _)
      | (with_reducible exact LeO.none _)
      | (with_reducible refine LeO.ite ?_ ?_)
      | (with_reducible refine LeO.bind ?_ (fun _ => ?_))
      | exact ih0 _ _ _
      | exact LeO.none _
      | refine LeO.ite ?_ ?_
      | refine LeO.bind ?_ (fun _ => ?_)
set_option maxHeartbeats 8000000 in
set_option maxRecDepth 100000 in
theorem spec_l01Has.calls (k : Nat) (A0 : Option Addr) (c0 : Nat) (l0 : List Int) (a1 : Int) (r : Bool) (w : World) (hr0 : Kd.C (Kd.int .i64) w A0 l0.length l0) (hc0 : l0.length ≤ c0) (h : spec_l01Has.f k l0 a1 = some r) :
    Calls Try.prog 124 #[.slice A0 l0.length c0, .int .i64 a1] w fun e w' => e = .returned (.bool r) ∧ Drawn0 w w' := by
  have HR0 := Aside0.mk hr0
  have HC0 := Aside0.mk hc0
  clear hr0 hc0
  have H : (spec_l01Has.l0 k l0 a1 0) = some r := h
  clear h
  have H' := Aside0.mk H
  clear H
  go_enter Try.func124, Try.ntmps124
  go_wp2
  go_loopg [5] k (fun kq v5 w' => ∃ (x5_1 : Int), v5 = .int .i64 x5_1 ∧ Aside0 (spec_l01Has.l0 kq l0 a1 x5_1 = some r) ∧ Aside0 (kq ≤ k) ∧ Drawn0 w w')
  case atStart => exact ⟨(0), (by first | rfl | (simp; done) | (simp [*]; done)), H', ⟨Nat.le_refl _⟩, by repeat (first | exact Drawn0.refl _ | apply Drawn0.step)⟩
  case round =>
    clear H'
    try clear c1
    try clear p2
    obtain ⟨x5_1, rfl, HA, HK1, ⟨m1, rfl⟩⟩ := hrel
    cases gk with
    | zero => exact absurd HA.out (by simp [spec_l01Has.l0])
    | succ k1 =>
      have H := HA.out
      clear HA
      simp only [spec_l01Has.l0] at H
      by_cases c3 : x5_1 < (l0.length : Int)
      · rw [if_pos c3] at H
        have c3b0 : decide (x5_1 < (l0.length : Int)) = true := decide_eq_true c3
        clear c3
        by_cases c4 : 0 ≤ x5_1
        · rw [if_pos c4] at H
          have c4b0 : decide (0 ≤ x5_1) = true := decide_eq_true c4
          clear c4
          by_cases c5 : (rd l0 x5_1) = a1
          · rw [if_pos c5] at H
            have c5b0 : ((rd l0 x5_1) == a1) = true := beq_iff_eq.mpr c5
            have c5b1 : ((rd l0 x5_1) != a1) = false := bne_eq_false_iff_eq.mpr c5
            clear c5
            obtain rfl := Option.some.inj H
            have p395 : 0 ≤ (x5_1 : Int) := of_decide_eq_true (by first | (with_reducible assumption) | assumption)
            have q395 : x5_1 < (l0.length : Int) := of_decide_eq_true (by first | (with_reducible assumption) | assumption)
            obtain ⟨ad395, e395, hx395_0⟩ := Kd.at_int HR0.out x5_1 p395 q395
            cases e395
            replace p395 := eq_true p395
            replace q395 := eq_true q395
            go_wp2
            go_ret
            exact ⟨by first | rfl | (simp; done) | (simp [*]; done), by repeat (first | exact Drawn0.refl _ | apply Drawn0.step)⟩
          · rw [if_neg c5] at H
            have c5b0 : ((rd l0 x5_1) == a1) = false := beq_eq_false_iff_ne.mpr c5
            have c5b1 : ((rd l0 x5_1) != a1) = true := bne_iff_ne.mpr c5
            have H' := Aside0.mk H
            clear H
            have p395 : 0 ≤ (x5_1 : Int) := of_decide_eq_true (by first | (with_reducible assumption) | assumption)
            have q395 : x5_1 < (l0.length : Int) := of_decide_eq_true (by first | (with_reducible assumption) | assumption)
            obtain ⟨ad395, e395, hx395_0⟩ := Kd.at_int HR0.out x5_1 p395 q395
            cases e395
            replace p395 := eq_true p395
            replace q395 := eq_true q395
            go_wp2
            go_roundg k1
            case measure => have := HK1.out; omega
            case rel => exact ⟨(wrap64 (x5_1 + 1)), (by first | rfl | (simp; done) | (simp [*]; done)), H', ⟨by have := HK1.out; omega⟩, by repeat (first | exact Drawn0.refl _ | apply Drawn0.step)⟩
        · rw [if_neg c4] at H
          exact absurd H (by simp)
      · rw [if_neg c3] at H
        have c3b0 : decide (x5_1 < (l0.length : Int)) = false := decide_eq_false c3
        clear c3
        obtain rfl := Option.some.inj H
        go_wp2
        go_ret
        exact ⟨by first | rfl | (simp; done) | (simp [*]; done), by repeat (first | exact Drawn0.refl _ | apply Drawn0.step)⟩

end Go.Proofs.Ythdadohmomhchaa.F
