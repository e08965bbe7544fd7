/-
  FnExactIsProject: the law returns true for every input and leaves its arguments as they were (the last theorem here). No condition.
-/
import Derived.Test.YtklnajigonjcmaaRows
import Derived.ProofKit
import Derived.OpenShut
import Derived.ShutString
import Derived.ChangeOld
import Derived.Test.YtklnajigonjcmaaKFnExactIsProject4

namespace Go.Proofs.Ytklnajigonjcmaa.Pure
open Go.RowKit Go.Proofs.Ytklnajigonjcmaa.F Go.Proofs.YtklnajigonjcmaaW.PrintWords Go.Proofs.YtklnajigonjcmaaW.PrintLast Go.Proofs.YtklnajigonjcmaaW.PrintMore Go.Proofs.YtklnajigonjcmaaB
set_option linter.unusedVariables false
set_option linter.unusedSimpArgs false
theorem impl_isYear_f (a : Int) : impl_isYear.f a = some (inB a 1901 2099) := by
  simp only [impl_isYear.f, impl_in_f, Option.bind_some]

end Go.Proofs.Ytklnajigonjcmaa.Pure

namespace Go.Proofs.Ytklnajigonjcmaa.Pure
open Go.RowKit Go.Proofs.Ytklnajigonjcmaa.F Go.Proofs.YtklnajigonjcmaaW.PrintWords Go.Proofs.YtklnajigonjcmaaW.PrintLast Go.Proofs.YtklnajigonjcmaaW.PrintMore Go.Proofs.YtklnajigonjcmaaB
set_option linter.unusedVariables false
set_option linter.unusedSimpArgs false
def risB (most : Int) : Option Int → List Int → Bool
  | _, [] => true
  | p, y :: ys => inB y 0 most && (match p with | none => true | some q => decide (q < y)) && risB most (some y) ys
def prevOf (xs : List Int) (m : Nat) : Option Int := if m = 0 then none else some (xs.getD (m - 1) 0)
theorem prevOf_succ {xs ys : List Int} {y : Int} {m : Nat} (h : xs.drop m = y :: ys) : prevOf xs (m + 1) = some y := by
  unfold prevOf
  rw [if_neg (by omega), Nat.add_sub_cancel, (drop_cons h).2.1]
def risesB (l : List Int) (most : Int) : Bool := risB most none l
theorem rdI {xs ys : List Int} {y : Int} {m : Nat} (h : xs.drop m = y :: ys) : rd xs (m : Int) = y := (drop_cons h).2.1 _

end Go.Proofs.Ytklnajigonjcmaa.Pure

namespace Go.Proofs.Ytklnajigonjcmaa.Pure
open Go.RowKit Go.Proofs.Ytklnajigonjcmaa.F Go.Proofs.YtklnajigonjcmaaW.PrintWords Go.Proofs.YtklnajigonjcmaaW.PrintLast Go.Proofs.YtklnajigonjcmaaW.PrintMore Go.Proofs.YtklnajigonjcmaaB
set_option linter.unusedVariables false
set_option linter.unusedSimpArgs false
theorem impl_rising_l0 (xs : List Int) (a : Int) (hx : xs.length ≤ 9223372036854775807) : ∀ (ys : List Int) (m : Nat), xs.drop m = ys →
    Ev (fun k => impl_rising.l0 k xs a xs xs.length m) (risB a (prevOf xs m) ys)
  | [], m, h => by
    have := drop_nil h
    exact ev_step (fun _ => rfl) (ev_neg (by omega) (ev_now rfl))
  | y :: ys, m, h => by
    obtain ⟨hm, _, hd⟩ := drop_cons h
    refine ev_step (fun _ => rfl) (ev_pos (by omega) (ev_pos (by omega) (ev_pos (by omega) ?_)))
    rw [rdI h, w64 (x := (m : Int) + 1) (by omega) (by omega), w64 (x := (m : Int) - 1) (by omega) (by omega)]
    refine ev_some (impl_in_f _ _ _) ?_
    have ih := impl_rising_l0 xs a hx ys (m + 1) hd
    rw [prevOf_succ h] at ih
    unfold risB
    cases inB y 0 a
    · exact ev_neg (by simp) (ev_now (by simp))
    refine ev_pos rfl ?_
    by_cases h0 : m = 0
    · subst h0
      exact ev_neg (by omega) (ev_eq ih (by simp [prevOf]))
    · refine ev_pos (by omega) (ev_pos (by omega) (ev_pos (by omega) ?_))
      have e : rd xs ((m : Int) - 1) = xs.getD (m - 1) 0 := by unfold rd; congr 1; omega
      rw [e]
      unfold prevOf
      rw [if_neg h0]
      refine ev_ite (fun hc => ev_now ?_) (fun hc => ev_eq ih ?_)
      · have : ¬ (xs.getD (m - 1) 0 < y) := by omega
        simp [-List.getD_eq_getElem?_getD, this]
      · have : xs.getD (m - 1) 0 < y := by omega
        simp [-List.getD_eq_getElem?_getD, this]
theorem impl_rising_f (xs : List Int) (a : Int) (hx : xs.length ≤ 9223372036854775807) : Ev (fun k => impl_rising.f k xs a) (risesB xs a) := impl_rising_l0 xs a hx xs 0 rfl

end Go.Proofs.Ytklnajigonjcmaa.Pure

namespace Go.Proofs.Ytklnajigonjcmaa.Pure
open Go.RowKit Go.Proofs.Ytklnajigonjcmaa.F Go.Proofs.YtklnajigonjcmaaW.PrintWords Go.Proofs.YtklnajigonjcmaaW.PrintLast Go.Proofs.YtklnajigonjcmaaW.PrintMore Go.Proofs.YtklnajigonjcmaaB
set_option linter.unusedVariables false
set_option linter.unusedSimpArgs false
def projB (a b c d e : Int) (xs ys : List Int) : Bool := dialB a b c d && inB e 1901 2099 && (risesB xs 1439 && risesB ys 11) && decide (xs.length + ys.length ≤ 40)

end Go.Proofs.Ytklnajigonjcmaa.Pure

namespace Go.Proofs.Ytklnajigonjcmaa.Pure
open Go.RowKit Go.Proofs.Ytklnajigonjcmaa.F Go.Proofs.YtklnajigonjcmaaW.PrintWords Go.Proofs.YtklnajigonjcmaaW.PrintLast Go.Proofs.YtklnajigonjcmaaW.PrintMore Go.Proofs.YtklnajigonjcmaaB
set_option linter.unusedVariables false
set_option linter.unusedSimpArgs false
theorem impl_IsProject_f (a b c d e : Int) (xs ys : List Int) (hx : xs.length ≤ 4611686018427387903) (hy : ys.length ≤ 4611686018427387903) : Ev (fun k => impl_IsProject.f k a b c d e xs ys) (projB a b c d e xs ys) := by
  unfold projB
  refine ev_some (impl_IsDial_f a b c d) ?_
  cases dialB a b c d
  · exact ev_neg (by simp) (ev_now (by simp))
  refine ev_pos rfl (ev_some (impl_isYear_f _) ?_)
  cases inB e 1901 2099
  · exact ev_neg (by simp) (ev_now (by simp))
  refine ev_pos rfl (ev_bind (impl_rising_f xs 1439 (by omega)) ?_)
  cases risesB xs 1439
  · exact ev_neg (by simp) (ev_now (by simp))
  refine ev_pos rfl (ev_bind (impl_rising_f ys 11 (by omega)) ?_)
  cases risesB ys 11
  · exact ev_neg (by simp) (ev_now (by simp))
  refine ev_pos rfl (ev_some (impl_Project_few_f _ _ _ _ _ _ _ hx hy) (ev_now (by simp)))

end Go.Proofs.Ytklnajigonjcmaa.Pure

namespace Go.Proofs.Ytklnajigonjcmaa.Pure
open Go.RowKit Go.Proofs.Ytklnajigonjcmaa.F Go.Proofs.YtklnajigonjcmaaW.PrintWords Go.Proofs.YtklnajigonjcmaaW.PrintLast Go.Proofs.YtklnajigonjcmaaW.PrintMore Go.Proofs.YtklnajigonjcmaaB
set_option linter.unusedVariables false
set_option linter.unusedSimpArgs false
theorem laws_eqInt64S_l0 (xs : List Int) (hx : xs.length ≤ 9223372036854775807) : ∀ (ys : List Int) (m : Nat), xs.drop m = ys →
    Ev (fun k => laws_eqInt64S.l0 k xs xs m) true
  | [], m, h => by
    have := drop_nil h
    exact ev_step (fun _ => rfl) (ev_neg (by omega) (ev_now rfl))
  | y :: ys, m, h => by
    obtain ⟨hm, _, hd⟩ := drop_cons h
    refine ev_step (fun _ => rfl) (ev_pos (by omega) (ev_pos (by omega) (ev_pos (by omega) ?_)))
    rw [w64 (by omega) (by omega)]
    exact ev_pos rfl (laws_eqInt64S_l0 xs hx ys (m + 1) hd)
theorem laws_eqInt64S_f (xs : List Int) (hx : xs.length ≤ 9223372036854775807) : Ev (fun k => laws_eqInt64S.f k xs xs) true := ev_pos rfl (laws_eqInt64S_l0 xs hx xs 0 rfl)

end Go.Proofs.Ytklnajigonjcmaa.Pure

namespace Go.Proofs.Ytklnajigonjcmaa.Pure
open Go.RowKit Go.Proofs.Ytklnajigonjcmaa.F Go.Proofs.YtklnajigonjcmaaW.PrintWords Go.Proofs.YtklnajigonjcmaaW.PrintLast Go.Proofs.YtklnajigonjcmaaW.PrintMore Go.Proofs.YtklnajigonjcmaaB
set_option linter.unusedVariables false
set_option linter.unusedSimpArgs false
theorem laws_eqProject_f (a b c d e : Int) (xs ys : List Int) (hx : xs.length ≤ 9223372036854775807) (hy : ys.length ≤ 9223372036854775807) : Ev (fun k => laws_eqProject.f k a b c d e xs ys a b c d e xs ys) true := by
  refine ev_some (a := true) (by simp [laws_eqDial.f, laws_eqWall.f]) (ev_pos rfl (ev_pos rfl ?_))
  exact ev_bind (laws_eqInt64S_f xs hx) (ev_pos rfl (ev_bind (laws_eqInt64S_f ys hy) (ev_pos rfl (ev_now rfl))))

end Go.Proofs.Ytklnajigonjcmaa.Pure

namespace Go.Proofs.Ytklnajigonjcmaa.Pure
open Go.RowKit Go.Proofs.Ytklnajigonjcmaa.F Go.Proofs.YtklnajigonjcmaaW.PrintWords Go.Proofs.YtklnajigonjcmaaW.PrintLast Go.Proofs.YtklnajigonjcmaaW.PrintMore Go.Proofs.YtklnajigonjcmaaB
set_option linter.unusedVariables false
set_option linter.unusedSimpArgs false
theorem laws_szInt64S_f (xs : List Int) (a : Int) (h0 : 0 ≤ a) (h1 : a ≤ 1048576) (hx : xs.length ≤ 9223372036854775807) : laws_szInt64S.f xs a = some (if a < xs.length then -1 else a - xs.length) := by
  unfold laws_szInt64S.f
  rw [w64 (by omega) (by omega)]
  by_cases h : a < xs.length
  · rw [if_pos (by omega), if_pos h]
  · rw [if_neg (by omega), if_neg h]

end Go.Proofs.Ytklnajigonjcmaa.Pure

namespace Go.Proofs.Ytklnajigonjcmaa.Pure
open Go.RowKit Go.Proofs.Ytklnajigonjcmaa.F Go.Proofs.YtklnajigonjcmaaW.PrintWords Go.Proofs.YtklnajigonjcmaaW.PrintLast Go.Proofs.YtklnajigonjcmaaW.PrintMore Go.Proofs.YtklnajigonjcmaaB
set_option linter.unusedVariables false
set_option linter.unusedSimpArgs false
theorem laws_szProject_f (a b c d e : Int) (xs ys : List Int) (n : Int) (h0 : 0 ≤ n) (h1 : n ≤ 1048576) (hx : xs.length ≤ 9223372036854775807) (hy : ys.length ≤ 9223372036854775807) :
    laws_szProject.f a b c d e xs ys n = some (if n < xs.length + ys.length then -1 else n - (xs.length + ys.length)) := by
  unfold laws_szProject.f
  rw [laws_szInt64S_f xs n h0 h1 hx, Option.bind_some]
  by_cases h : n < xs.length
  · rw [if_pos h, if_pos (by omega), if_pos (by omega)]
  · rw [if_neg h, if_neg (by omega), laws_szInt64S_f ys _ (by omega) (by omega) hy, Option.bind_some]
    by_cases h2 : n - xs.length < ys.length
    · rw [if_pos h2, if_pos (by omega), if_pos (by omega)]
    · rw [if_neg h2, if_neg (by omega), if_neg (by omega)]
      congr 1
      omega

end Go.Proofs.Ytklnajigonjcmaa.Pure

namespace Go.Proofs.Ytklnajigonjcmaa.Pure
open Go.RowKit Go.Proofs.Ytklnajigonjcmaa.F Go.Proofs.YtklnajigonjcmaaW.PrintWords Go.Proofs.YtklnajigonjcmaaW.PrintLast Go.Proofs.YtklnajigonjcmaaW.PrintMore Go.Proofs.YtklnajigonjcmaaB
set_option linter.unusedVariables false
set_option linter.unusedSimpArgs false
theorem laws_toInt64S_l0 (xs : List Int) (hx : xs.length ≤ 9223372036854775807) : ∀ (ys : List Int) (m : Nat) (out : List Int), xs.drop m = ys → out.length = xs.length → out.take m = xs.take m →
    Ev (fun k => laws_toInt64S.l0 k xs out m) xs
  | [], m, out, h, hl, ht => by
    have := drop_nil h
    refine ev_step (fun _ => rfl) (ev_neg (by omega) (ev_now ?_))
    rw [List.take_of_length_le (by omega), List.take_of_length_le this] at ht
    rw [ht]
  | y :: ys, m, out, h, hl, ht => by
    obtain ⟨hm, _, hd⟩ := drop_cons h
    refine ev_step (fun _ => rfl) (ev_pos (by omega) (ev_pos (by omega) (ev_pos (by omega) ?_)))
    rw [rdI h, w64 (by omega) (by omega)]
    refine laws_toInt64S_l0 xs hx ys (m + 1) _ hd (by rw [List.length_set, hl]) ?_
    rw [take_snoc h, ← ht, Int.toNat_natCast, List.set_eq_take_append_cons_drop, if_pos (by omega), List.take_append, List.take_of_length_le (by rw [List.length_take]; omega), List.length_take, show m + 1 - min m out.length = 1 by omega]
    rfl
theorem laws_toInt64S_f (xs : List Int) (hx : xs.length ≤ 1048576) : Ev (fun k => laws_toInt64S.f k xs) xs := by
  refine ev_pos (by omega) (ev_pos (by omega) ?_)
  exact laws_toInt64S_l0 xs (by omega) xs 0 _ rfl (by simp) rfl

end Go.Proofs.Ytklnajigonjcmaa.Pure

namespace Go.Proofs.Ytklnajigonjcmaa.Pure
open Go.RowKit Go.Proofs.Ytklnajigonjcmaa.F Go.Proofs.YtklnajigonjcmaaW.PrintWords Go.Proofs.YtklnajigonjcmaaW.PrintLast Go.Proofs.YtklnajigonjcmaaW.PrintMore Go.Proofs.YtklnajigonjcmaaB
set_option linter.unusedVariables false
set_option linter.unusedSimpArgs false
theorem laws_toProject_f (a b c d e : Int) (xs ys : List Int) (hx : xs.length ≤ 1048576) (hy : ys.length ≤ 1048576) : Ev (fun k => laws_toProject.f k a b c d e xs ys) (a, b, c, d, e, xs, ys) := by
  refine ev_some (a := (a, b, c, d)) rfl (ev_bind (laws_toInt64S_f xs hx) (ev_bind (laws_toInt64S_f ys hy) (ev_now rfl)))

end Go.Proofs.Ytklnajigonjcmaa.Pure

namespace Go.Proofs.Ytklnajigonjcmaa.Pure
open Go.RowKit Go.Proofs.Ytklnajigonjcmaa.F Go.Proofs.YtklnajigonjcmaaW.PrintWords Go.Proofs.YtklnajigonjcmaaW.PrintLast Go.Proofs.YtklnajigonjcmaaW.PrintMore Go.Proofs.YtklnajigonjcmaaB
set_option linter.unusedVariables false
set_option linter.unusedSimpArgs false
theorem spec_l01In_f (a b c : Int) : spec_l01In.f a b c = some (inB a b c) := inB_if a b c

end Go.Proofs.Ytklnajigonjcmaa.Pure

namespace Go.Proofs.Ytklnajigonjcmaa.Pure
open Go.RowKit Go.Proofs.Ytklnajigonjcmaa.F Go.Proofs.YtklnajigonjcmaaW.PrintWords Go.Proofs.YtklnajigonjcmaaW.PrintLast Go.Proofs.YtklnajigonjcmaaW.PrintMore Go.Proofs.YtklnajigonjcmaaB
set_option linter.unusedVariables false
set_option linter.unusedSimpArgs false
theorem spec_l09Latitude_f (a : Int) : spec_l09Latitude.f a = some (inB a (-324000) 324000) := by
  simp only [spec_l09Latitude.f, spec_l01In_f, Option.bind_some]

end Go.Proofs.Ytklnajigonjcmaa.Pure

namespace Go.Proofs.Ytklnajigonjcmaa.Pure
open Go.RowKit Go.Proofs.Ytklnajigonjcmaa.F Go.Proofs.YtklnajigonjcmaaW.PrintWords Go.Proofs.YtklnajigonjcmaaW.PrintLast Go.Proofs.YtklnajigonjcmaaW.PrintMore Go.Proofs.YtklnajigonjcmaaB
set_option linter.unusedVariables false
set_option linter.unusedSimpArgs false
theorem spec_IsWall_f (a b : Int) : spec_IsWall.f a b = some (inB a 0 1295999 && inB b (-324000) 324000) := by
  simp only [spec_IsWall.f, spec_l01In_f, spec_l09Latitude_f, Option.bind_some]
  cases inB a 0 1295999 <;> simp

end Go.Proofs.Ytklnajigonjcmaa.Pure

namespace Go.Proofs.Ytklnajigonjcmaa.Pure
open Go.RowKit Go.Proofs.Ytklnajigonjcmaa.F Go.Proofs.YtklnajigonjcmaaW.PrintWords Go.Proofs.YtklnajigonjcmaaW.PrintLast Go.Proofs.YtklnajigonjcmaaW.PrintMore Go.Proofs.YtklnajigonjcmaaB
set_option linter.unusedVariables false
set_option linter.unusedSimpArgs false
theorem spec_l14Height_f (a : Int) : spec_l14Height.f a = some (inB a 1 10000) := by
  simp only [spec_l14Height.f, spec_l01In_f, Option.bind_some]

end Go.Proofs.Ytklnajigonjcmaa.Pure

namespace Go.Proofs.Ytklnajigonjcmaa.Pure
open Go.RowKit Go.Proofs.Ytklnajigonjcmaa.F Go.Proofs.YtklnajigonjcmaaW.PrintWords Go.Proofs.YtklnajigonjcmaaW.PrintLast Go.Proofs.YtklnajigonjcmaaW.PrintMore Go.Proofs.YtklnajigonjcmaaB
set_option linter.unusedVariables false
set_option linter.unusedSimpArgs false
theorem spec_IsDial_f (a b c d : Int) : spec_IsDial.f a b c d = some (dialB a b c d) := by
  simp only [spec_IsDial.f, spec_l09Latitude_f, spec_IsWall_f, spec_l14Height_f, Option.bind_some, dialB]
  cases inB a (-324000) 324000 <;> cases (inB b 0 1295999 && inB c (-324000) 324000) <;> simp

end Go.Proofs.Ytklnajigonjcmaa.Pure

namespace Go.Proofs.Ytklnajigonjcmaa.Pure
open Go.RowKit Go.Proofs.Ytklnajigonjcmaa.F Go.Proofs.YtklnajigonjcmaaW.PrintWords Go.Proofs.YtklnajigonjcmaaW.PrintLast Go.Proofs.YtklnajigonjcmaaW.PrintMore Go.Proofs.YtklnajigonjcmaaB
set_option linter.unusedVariables false
set_option linter.unusedSimpArgs false
theorem spec_l01Rises_l0 (xs : List Int) (a : Int) (ha : 0 ≤ a) (ha' : a ≤ 1000000) (hx : xs.length ≤ 9223372036854775807) : ∀ (ys : List Int) (m : Nat), xs.drop m = ys →
    Ev (fun k => spec_l01Rises.l0 k xs a m) (risB (a - 1) (prevOf xs m) ys)
  | [], m, h => by
    have := drop_nil h
    exact ev_step (fun _ => rfl) (ev_neg (by omega) (ev_now rfl))
  | y :: ys, m, h => by
    obtain ⟨hm, _, hd⟩ := drop_cons h
    refine ev_step (fun _ => rfl) (ev_pos (by omega) (ev_pos (by omega) ?_))
    rw [rdI h, w64 (x := (m : Int) + 1) (by omega) (by omega), w64 (x := a - 1) (by omega) (by omega), w64 (x := (m : Int) - 1) (by omega) (by omega)]
    refine ev_some (spec_l01In_f _ _ _) ?_
    have ih := spec_l01Rises_l0 xs a ha ha' hx ys (m + 1) hd
    rw [prevOf_succ h] at ih
    unfold risB
    cases inB y 0 (a - 1)
    · exact ev_neg (by simp) (ev_now (by simp))
    refine ev_pos rfl ?_
    by_cases h0 : m = 0
    · subst h0
      exact ev_neg (by omega) (ev_eq ih (by simp [prevOf]))
    · refine ev_pos (by omega) (ev_pos (by omega) (ev_pos (by omega) ?_))
      have e : rd xs ((m : Int) - 1) = xs.getD (m - 1) 0 := by unfold rd; congr 1; omega
      rw [e]
      unfold prevOf
      rw [if_neg h0]
      refine ev_ite (fun hc => ev_now ?_) (fun hc => ev_eq ih ?_)
      · have : ¬ (xs.getD (m - 1) 0 < y) := by omega
        simp [-List.getD_eq_getElem?_getD, this]
      · have : xs.getD (m - 1) 0 < y := by omega
        simp [-List.getD_eq_getElem?_getD, this]
theorem spec_l01Rises_f (xs : List Int) (a : Int) (ha : 0 ≤ a) (ha' : a ≤ 1000000) (hx : xs.length ≤ 9223372036854775807) : Ev (fun k => spec_l01Rises.f k xs a) (risesB xs (a - 1)) := spec_l01Rises_l0 xs a ha ha' hx xs 0 rfl

end Go.Proofs.Ytklnajigonjcmaa.Pure

namespace Go.Proofs.Ytklnajigonjcmaa.Pure
open Go.RowKit Go.Proofs.Ytklnajigonjcmaa.F Go.Proofs.YtklnajigonjcmaaW.PrintWords Go.Proofs.YtklnajigonjcmaaW.PrintLast Go.Proofs.YtklnajigonjcmaaW.PrintMore Go.Proofs.YtklnajigonjcmaaB
set_option linter.unusedVariables false
set_option linter.unusedSimpArgs false
theorem spec_l33Lists_f (xs ys : List Int) (hx : xs.length ≤ 9223372036854775807) (hy : ys.length ≤ 9223372036854775807) : Ev (fun k => spec_l33Lists.f k xs ys) (risesB xs 1439 && risesB ys 11) := by
  refine ev_bind (spec_l01Rises_f xs 1440 (by omega) (by omega) hx) ?_
  cases h : risesB xs (1440 - 1)
  · have h' : risesB xs 1439 = false := h
    rw [h']
    exact ev_neg (by simp) (ev_now (by simp))
  · have h' : risesB xs 1439 = true := h
    rw [h']
    exact ev_pos rfl (ev_bind (spec_l01Rises_f ys 12 (by omega) (by omega) hy) (ev_now rfl))

end Go.Proofs.Ytklnajigonjcmaa.Pure

namespace Go.Proofs.Ytklnajigonjcmaa.Pure
open Go.RowKit Go.Proofs.Ytklnajigonjcmaa.F Go.Proofs.YtklnajigonjcmaaW.PrintWords Go.Proofs.YtklnajigonjcmaaW.PrintLast Go.Proofs.YtklnajigonjcmaaW.PrintMore Go.Proofs.YtklnajigonjcmaaB
set_option linter.unusedVariables false
set_option linter.unusedSimpArgs false
theorem spec_IsProject_f (a b c d e : Int) (xs ys : List Int) (hx : xs.length ≤ 4611686018427387903) (hy : ys.length ≤ 4611686018427387903) : Ev (fun k => spec_IsProject.f k a b c d e xs ys) (projB a b c d e xs ys) := by
  unfold projB
  refine ev_some (spec_IsDial_f a b c d) ?_
  cases dialB a b c d
  · exact ev_neg (by simp) (ev_now (by simp))
  refine ev_pos rfl (ev_some (spec_l01In_f _ _ _) ?_)
  cases inB e 1901 2099
  · exact ev_neg (by simp) (ev_now (by simp))
  refine ev_pos rfl (ev_bind (spec_l33Lists_f xs ys (by omega) (by omega)) ?_)
  cases (risesB xs 1439 && risesB ys 11)
  · exact ev_neg (by simp) (ev_now (by simp))
  refine ev_pos rfl (ev_now ?_)
  rw [w64 (by omega) (by omega)]
  by_cases h : xs.length + ys.length ≤ 40
  · rw [decide_eq_true (by omega), decide_eq_true h]; rfl
  · rw [decide_eq_false (by omega), decide_eq_false h]; rfl

end Go.Proofs.Ytklnajigonjcmaa.Pure

namespace Go.Proofs.Ytklnajigonjcmaa.Pure
open Go.RowKit Go.Proofs.Ytklnajigonjcmaa.F Go.Proofs.YtklnajigonjcmaaW.PrintWords Go.Proofs.YtklnajigonjcmaaW.PrintLast Go.Proofs.YtklnajigonjcmaaW.PrintMore Go.Proofs.YtklnajigonjcmaaB
set_option linter.unusedVariables false
set_option linter.unusedSimpArgs false
theorem pure_FnExactIsProject (a b c d e : Int) (xs ys : List Int) (hx : xs.length ≤ 9223372036854775807) (hy : ys.length ≤ 9223372036854775807) : Ev (fun k => laws_FnExactIsProject.f k a b c d e xs ys) true := by
  refine ev_some (laws_szProject_f a b c d e xs ys 1048576 (by omega) (by omega) hx hy) ?_
  by_cases h : (1048576 : Int) < xs.length + ys.length
  · rw [if_pos h]
    exact ev_pos (by omega) (ev_now rfl)
  rw [if_neg h]
  refine ev_neg (by omega) ?_
  have t := laws_toProject_f a b c d e xs ys (by omega) (by omega)
  refine ev_bind t (ev_bind (spec_IsProject_f a b c d e xs ys (by omega) (by omega)) (ev_bind t (ev_bind (impl_IsProject_f a b c d e xs ys (by omega) (by omega)) (ev_neg (by simp) ?_))))
  exact ev_bind t (ev_bind (laws_eqProject_f a b c d e xs ys (by omega) (by omega)) (ev_pos rfl (ev_now rfl)))
theorem walkFnExactIsProject (a0_0 : Int) (a0_1 : Int) (a0_2 : Int) (a0_3 : Int) (a0_4 : Int) (A0_5 : Option Addr) (c0_5 : Nat) (l0_5 : (List Int)) (A0_6 : Option Addr) (c0_6 : Nat) (l0_6 : (List Int)) (w : World) (hg0_0 : (Lit.int .i64 a0_0).wf = true) (hg0_1 : (Lit.int .i64 a0_1).wf = true) (hg0_2 : (Lit.int .i64 a0_2).wf = true) (hg0_3 : (Lit.int .i64 a0_3).wf = true) (hg0_4 : (Lit.int .i64 a0_4).wf = true) (hr0_5 : Kd.C (Kd.int .i64) w A0_5 l0_5.length l0_5) (hc0_5 : l0_5.length ≤ c0_5) (hm0_5 : l0_5.length ≤ maxLen) (hg0_5 : ∀ y ∈ l0_5, g2 y) (hr0_6 : Kd.C (Kd.int .i64) w A0_6 l0_6.length l0_6) (hc0_6 : l0_6.length ≤ c0_6) (hm0_6 : l0_6.length ≤ maxLen) (hg0_6 : ∀ y ∈ l0_6, g2 y) :
    Calls Try.prog 6 #[.agg #[.int .i64 a0_0, .int .i64 a0_1, .int .i64 a0_2, .int .i64 a0_3, .int .i64 a0_4, .slice A0_5 l0_5.length c0_5, .slice A0_6 l0_6.length c0_6]] w fun e w' => e = .returned (.bool true) ∧ Below w.heap.size w w' := by
  unfold maxLen at hm0_5 hm0_6
  obtain ⟨k, h⟩ := (pure_FnExactIsProject a0_0 a0_1 a0_2 a0_3 a0_4 l0_5 l0_6 hm0_5 hm0_6).rounds
  exact laws_FnExactIsProject.calls k _ _ _ _ _ A0_5 c0_5 l0_5 A0_6 c0_6 l0_6 true w hr0_5 hc0_5 hr0_6 hc0_6 h

end Go.Proofs.Ytklnajigonjcmaa.Pure

namespace Go.Proofs.Ytklnajigonjcmaa.fnExactIsProject
open Go.ChangeShapes Go.WideShapes Go.ChangeAt Go.RowKit Go.Proofs.YtklnajigonjcmaaO Go.Proofs.Ytklnajigonjcmaa.F Go.Proofs.YtklnajigonjcmaaW.PrintWords
open Go.ChangeMaps (open_string shut_string)
set_option linter.unusedVariables false
theorem own : ownKnob Try.prog.godebug = none := by kernel_rfl
theorem laidOut : laidOutB Try.prog = true := by kernel_rfl
set_option maxRecDepth 100000 in
theorem lifted (os : Os) (started : os.Started) (H : Type) (enc : TypeId × Value → H) :
    ReturnsInHanded {} Try.checked os 6 .any (Rows.fnExactIsProjectSpec.pre6 enc Try.prog Try.f6 Rows.fnExactIsProjectRow.domain false) (Rows.fnExactIsProjectSpec.post enc Try.prog Try.f6 false true false false) := by
  refine returnsInHanded_of_change (C := Try.checked) own started (by kernel_rfl) Try.func6
    (ChangeSpec.witness6 (enc := enc) (C := Try.checked) false ⟨#[], #[.agg #[.int .i64 0, .int .i64 0, .int .i64 0, .int .i64 0, .int .i64 0, .slice none 0 0, .slice none 0 0]], []⟩ 8 (by kernel_rfl) (by kernel_rfl) (by kernel_rfl) (by kernel_rfl)) ?_
  intro W base args ds gs before hval0 hW hcnd _
  have hval : ∀ (j : Nat) t v, Try.f6.params[j]? = some t → args[j]? = some v → Value.okWide Try.prog W .any base t v := hval0
  have hW' := hW
  obtain ⟨p, q, hA0, hV, rfl, hfz, hnd⟩ := hW
  have hA : DataW.TrodAll enc Try.prog W 0 (fun _ => true) true Try.f6.params.toList args.toList ds p := hA0
  rw [Try.params6] at hA hval
  obtain ⟨v0, vs0, d0, ds0, p0, q0, hargs, rfl, rfl, h0, r0⟩ := trodAll_cons hA
  obtain ⟨rfl, rfl, rfl⟩ := trodAll_nil r0
  obtain rfl : args = #[v0] := by cases args; simp_all
  obtain ⟨rfl, rfl⟩ := trodVars_none hV
  have k0_ := h0
  have lt0 : ∀ x ∈ p0, x.block < W.heap.size := by obtain ⟨m, hm⟩ := k0_; exact DataW.trod_lt m _ _ _ hm
  obtain ⟨cs0, rfl, _, _⟩ : ∃ cs, v0 = .agg cs ∧ cs.size = Try.prog.cellsOf 50 ∧ Row.okWide Try.prog W .any base 50 cs := by
    have z := hval 0 50 v0 rfl rfl
    unfold Value.okWide at z
    rw [Try.underlying50] at z
    exact z
  obtain ⟨fuel0, hf0⟩ := h0
  obtain ⟨⟨⟨a0_0, ⟨a0_1, a0_2⟩, a0_3⟩, a0_4, l0_5, l0_6⟩, hK0, hG0⟩ := p50 _ _ _ _ _ _ hf0
  obtain ⟨L0, hL0, hK0⟩ : ∃ L, cs0.toList = L ∧ ((Kd.iso (Kd.pair (Kd.iso (Kd.pair (Kd.int .i64) (Kd.pair (Kd.iso (Kd.pair (Kd.int .i64) (Kd.int .i64)) (fun x : (Int × Int) => x)) (Kd.int .i64))) (fun x : (Int × (Int × Int) × Int) => x)) (Kd.pair (Kd.int .i64) (Kd.pair (Kd.slice 2 (Kd.int .i64)) (Kd.slice 2 (Kd.int .i64))))) (fun x : ((Int × (Int × Int) × Int) × Int × (List Int) × (List Int)) => x))).K W ⟨⟨a0_0, ⟨a0_1, a0_2⟩, a0_3⟩, a0_4, l0_5, l0_6⟩ L := ⟨_, rfl, hK0⟩
  obtain ⟨_, _, rfl, ⟨_, _, rfl, rfl, ⟨_, _, rfl, ⟨_, _, rfl, rfl, rfl⟩, rfl⟩⟩, ⟨_, _, rfl, rfl, ⟨_, _, rfl, ⟨A0_5, c0_5, rfl, hc0_5, hr0_5⟩, ⟨A0_6, c0_6, rfl, hc0_6, hr0_6⟩⟩⟩⟩ := hK0
  obtain ⟨⟨hg0_0, ⟨hg0_1, hg0_2⟩, hg0_3⟩, hg0_4, ⟨hm0_5, hg0_5⟩, ⟨hm0_6, hg0_6⟩⟩ := hG0
  obtain rfl : cs0 = #[.int .i64 a0_0, .int .i64 a0_1, .int .i64 a0_2, .int .i64 a0_3, .int .i64 a0_4, .slice A0_5 l0_5.length c0_5, .slice A0_6 l0_6.length c0_6] := by cases cs0; simpa using hL0
  clear hA0 hval0
  refine (Pure.walkFnExactIsProject a0_0 a0_1 a0_2 a0_3 a0_4 A0_5 c0_5 l0_5 A0_6 c0_6 l0_6 W hg0_0 hg0_1 hg0_2 hg0_3 hg0_4 hr0_5 hc0_5 hm0_5 hg0_5 hr0_6 hc0_6 hm0_6 hg0_6).mono fun e W' ⟨he, bel⟩ => ?_
  subst he
  exact ⟨_, rfl, _, _, _, [], _, [], hW', trodAll_mk1 (shut_bool Try.underlying4 _), (trodAll_cons_mk (Below.trod laidOut (by kernel_rfl) (of_decide_eq_true (by kernel_rfl)) k0_ bel lt0) trodAll_mk0), rfl, bel.frame _, fun h => by cases h⟩
theorem over : Rows.fnExactIsProjectRow.holds Try.pinned (OpenSpec.ofChange Rows.fnExactIsProjectSpec) :=
  OpenClaim.holds_of_wide 6 Try.f6 rfl rfl rfl rfl rfl rfl rfl ⟨rfl, rfl, rfl, rfl, rfl⟩ rfl rfl rfl rfl rfl (by kernel_rfl) Try.func6 (by kernel_rfl)
    (of_decide_eq_true (by kernel_rfl)) (by unfold Func.isWrapper; first | (rw [if_pos (by decide +kernel)]; kernel_rfl) | (rw [if_neg (by decide +kernel)]; exact ⟨rfl, rfl⟩))
    (fun os started H enc _ => lifted os started H enc)
theorem proved : Rows.FnExactIsProjectSaid := over
end Go.Proofs.Ytklnajigonjcmaa.fnExactIsProject
namespace Go.Proofs.Ytklnajigonjcmaa
/-- The row, under a short name, for the claim. -/
theorem fnExactIsProject_holds : Rows.FnExactIsProjectSaid := fnExactIsProject.proved
end Go.Proofs.Ytklnajigonjcmaa
#print axioms Go.Proofs.Ytklnajigonjcmaa.fnExactIsProject_holds
