/-
  FnExactCommonVersion: the law returns true for every input and leaves its arguments as they were (the last theorem here). No condition.
-/
import Derived.Test.YthdadohmomhchaaRows
import Derived.ProofKit
import Derived.OpenShut
import Derived.ShutString
import Derived.ChangeOld
import Derived.Test.YthdadohmomhchaaKFnExactCommonVersion6

namespace Go.Proofs.Ythdadohmomhchaa.Pure
open Go.RowKit Go.Proofs.Ythdadohmomhchaa.F Go.Proofs.YthdadohmomhchaaW.PrintWords Go.Proofs.YthdadohmomhchaaW.PrintLast Go.Proofs.YthdadohmomhchaaW.PrintMore Go.Proofs.YthdadohmomhchaaB
set_option linter.unusedVariables false
set_option linter.unusedSimpArgs false
def toPj (x : S57) : S63 := ⟨⟨x.f0.f0, ⟨x.f0.f1.f0, x.f0.f1.f1⟩, x.f0.f2⟩, x.f1, x.f2, x.f3⟩
def toV (x : S128) : S131 := ⟨x.f0, toPj x.f1⟩
theorem laws_toVersionS_f (xs : List S128) (hx : xs.length ≤ 1048576) (hi : ∀ x ∈ xs, x.f1.f2.length ≤ 1048576 ∧ x.f1.f3.length ≤ 1048576) : Ev (fun k => laws_toVersionS.f k xs) (xs.map toV) := by
  refine ev_pos (by omega) (ev_pos (by omega) ?_)
  exact ev_to (z := z128) (F := laws_toVersionS.l0) (fun k x => laws_toVersion.f k x.f0 x.f1.f0.f0 x.f1.f0.f1.f0 x.f1.f0.f1.f1 x.f1.f0.f2 x.f1.f1 x.f1.f2 x.f1.f3) (fun b => (⟨b.1, (⟨(⟨b.2.1, (⟨b.2.2.1, b.2.2.2.1⟩ : S59), b.2.2.2.2.1⟩ : S61), b.2.2.2.2.2.1, b.2.2.2.2.2.2.1, b.2.2.2.2.2.2.2⟩ : S63)⟩ : S131)) (fun _ _ _ _ => rfl) toV xs (by omega) (fun x hm => ⟨(x.f0, x.f1.f0.f0, x.f1.f0.f1.f0, x.f1.f0.f1.f1, x.f1.f0.f2, x.f1.f1, x.f1.f2, x.f1.f3), ev_bind (laws_toProject_f _ _ _ _ _ _ _ (hi x hm).1 (hi x hm).2) (ev_now rfl), rfl⟩) xs 0 _ rfl (by simp) rfl
theorem toV_small (xs : List S128) (hi : ∀ x ∈ xs, x.f1.f2.length ≤ 1048576 ∧ x.f1.f3.length ≤ 1048576) : ∀ x ∈ xs.map toV, x.f1.f2.length ≤ 1048576 ∧ x.f1.f3.length ≤ 1048576 := by
  intro x hx
  obtain ⟨y, hy, rfl⟩ := List.mem_map.1 hx
  exact hi y hy

end Go.Proofs.Ythdadohmomhchaa.Pure

namespace Go.Proofs.Ythdadohmomhchaa.Pure
open Go.RowKit Go.Proofs.Ythdadohmomhchaa.F Go.Proofs.YthdadohmomhchaaW.PrintWords Go.Proofs.YthdadohmomhchaaW.PrintLast Go.Proofs.YthdadohmomhchaaW.PrintMore Go.Proofs.YthdadohmomhchaaB
set_option linter.unusedVariables false
set_option linter.unusedSimpArgs false
theorem spec_l01Has_l0 (l : List Int) (hl : l.length ≤ 1048576) (a : Int) : ∀ (ys : List Int) (m : Nat), l.drop m = ys → Ev (fun k => spec_l01Has.l0 k l a m) (decide (a ∈ ys))
  | [], m, h => by
    have := drop_nil h
    exact ev_step (fun _ => rfl) (ev_neg (by omega) (ev_now (by simp)))
  | y :: ys, m, h => by
    obtain ⟨hm, _, hd⟩ := drop_cons h
    have e : rd l (m : Int) = y := (drop_cons h).2.1 _
    refine ev_step (fun _ => rfl) (ev_pos (by omega) (ev_pos (by omega) ?_))
    rw [e, w64 (by omega) (by omega)]
    refine ev_ite (fun hq => ev_now ?_) (fun hq => ev_eq (spec_l01Has_l0 l hl a ys (m + 1) hd) ?_)
    · subst hq
      simp
    · have : ¬ a = y := fun h => hq h.symm
      simp [this]
theorem spec_l01Has_f (l : List Int) (hl : l.length ≤ 1048576) (a : Int) : Ev (fun k => spec_l01Has.f k l a) (decide (a ∈ l)) := spec_l01Has_l0 l hl a l 0 rfl

end Go.Proofs.Ythdadohmomhchaa.Pure

namespace Go.Proofs.Ythdadohmomhchaa.Pure
open Go.RowKit Go.Proofs.Ythdadohmomhchaa.F Go.Proofs.YthdadohmomhchaaW.PrintWords Go.Proofs.YthdadohmomhchaaW.PrintLast Go.Proofs.YthdadohmomhchaaW.PrintMore Go.Proofs.YthdadohmomhchaaB
set_option linter.unusedVariables false
set_option linter.unusedSimpArgs false
theorem spec_l33Ancestors_l0 (xs : List S131) (hh : histB xs = true) : ∀ (d : Nat) (a : Int) (out : List Int), -1 ≤ a → a < xs.length → a < d → out.length + d ≤ 1000 →
    Ev (fun k => spec_l33Ancestors.l0 k xs a out) (out ++ anc xs d a)
  | 0, a, out, h0, h1, h2, ho => by
    refine ev_step (fun _ => rfl) (ev_neg (by omega) (ev_now ?_))
    rw [show anc xs 0 a = [] from rfl, List.append_nil]
  | d + 1, a, out, h0, h1, h2, ho => by
    by_cases h : 0 ≤ a
    · have hp := par_lt hh a h h1
      refine ev_step (fun _ => rfl) (ev_pos h (ev_pos (by omega) (ev_pos h (ev_pos h1 ?_))))
      rw [anc_pos xs d h]
      refine ev_eq (spec_l33Ancestors_l0 xs hh d (par xs a) (out ++ [a]) hp.1 (by omega) (by omega) (by simp; omega)) ?_
      rw [List.append_assoc]
      rfl
    · refine ev_step (fun _ => rfl) (ev_neg h (ev_now ?_))
      rw [anc_neg xs d h, List.append_nil]
theorem spec_l33Ancestors_f (xs : List S131) (hh : histB xs = true) (a : Int) (h0 : 0 ≤ a) (h1 : a < xs.length) : Ev (fun k => spec_l33Ancestors.f k xs a) (anc xs 13 a) :=
  spec_l33Ancestors_l0 xs hh 13 a [] (by omega) h1 (by have := hist_len hh; omega) (by simp)

end Go.Proofs.Ythdadohmomhchaa.Pure

namespace Go.Proofs.Ythdadohmomhchaa.Pure
open Go.RowKit Go.Proofs.Ythdadohmomhchaa.F Go.Proofs.YthdadohmomhchaaW.PrintWords Go.Proofs.YthdadohmomhchaaW.PrintLast Go.Proofs.YthdadohmomhchaaW.PrintMore Go.Proofs.YthdadohmomhchaaB
set_option linter.unusedVariables false
set_option linter.unusedSimpArgs false
theorem spec_l33Common_l0 (us vs : List Int) (ha : us.length ≤ 1000) (hb : vs.length ≤ 1000) (r : Int) : ∀ (ys : List Int) (m : Nat), us.drop m = ys → ys.find? (fun x => decide (x ∈ vs)) = some r → Ev (fun k => spec_l33Common.l0 k us vs m) r
  | [], m, h, hf => by cases hf
  | y :: ys, m, h, hf => by
    obtain ⟨hm, _, hd⟩ := drop_cons h
    have e : rd us (m : Int) = y := (drop_cons h).2.1 _
    refine ev_step (fun _ => rfl) (ev_pos (by omega) (ev_pos (by omega) ?_))
    rw [e, w64 (by omega) (by omega)]
    refine ev_bind (spec_l01Has_f vs (by omega) y) ?_
    by_cases hm : y ∈ vs
    · rw [List.find?_cons_of_pos (by simpa using hm)] at hf
      exact ev_pos (by simpa using hm) (ev_now hf)
    · rw [List.find?_cons_of_neg (by simpa using hm)] at hf
      exact ev_neg (by simpa using hm) (spec_l33Common_l0 us vs ha hb r ys (m + 1) hd hf)
theorem spec_l33Common_f (xs : List S131) (hh : histB xs = true) (a b : Int) (a0 : 0 ≤ a) (a1 : a < xs.length) (b0 : 0 ≤ b) (b1 : b < xs.length) : Ev (fun k => spec_l33Common.f k xs a b) (com xs 25 a b) := by
  have hl := hist_len hh
  have l1 := anc_length xs 13 a
  have l2 := anc_length xs 13 b
  exact ev_bind (spec_l33Ancestors_f xs hh a a0 a1) (ev_bind (spec_l33Ancestors_f xs hh b b0 b1) (spec_l33Common_l0 _ _ (by omega) (by omega) _ _ 0 rfl (com_find hh 25 a b a0 b0 a1 b1 (by omega))))

end Go.Proofs.Ythdadohmomhchaa.Pure

namespace Go.Proofs.Ythdadohmomhchaa.Pure
open Go.RowKit Go.Proofs.Ythdadohmomhchaa.F Go.Proofs.YthdadohmomhchaaW.PrintWords Go.Proofs.YthdadohmomhchaaW.PrintLast Go.Proofs.YthdadohmomhchaaW.PrintMore Go.Proofs.YthdadohmomhchaaB
set_option linter.unusedVariables false
set_option linter.unusedSimpArgs false
theorem spec_l01In_f (a b c : Int) : spec_l01In.f a b c = some (inB a b c) := inB_if a b c

end Go.Proofs.Ythdadohmomhchaa.Pure

namespace Go.Proofs.Ythdadohmomhchaa.Pure
open Go.RowKit Go.Proofs.Ythdadohmomhchaa.F Go.Proofs.YthdadohmomhchaaW.PrintWords Go.Proofs.YthdadohmomhchaaW.PrintLast Go.Proofs.YthdadohmomhchaaW.PrintMore Go.Proofs.YthdadohmomhchaaB
set_option linter.unusedVariables false
set_option linter.unusedSimpArgs false
theorem spec_l09Latitude_f (a : Int) : spec_l09Latitude.f a = some (inB a (-324000) 324000) := by
  simp only [spec_l09Latitude.f, spec_l01In_f, Option.bind_some]

end Go.Proofs.Ythdadohmomhchaa.Pure

namespace Go.Proofs.Ythdadohmomhchaa.Pure
open Go.RowKit Go.Proofs.Ythdadohmomhchaa.F Go.Proofs.YthdadohmomhchaaW.PrintWords Go.Proofs.YthdadohmomhchaaW.PrintLast Go.Proofs.YthdadohmomhchaaW.PrintMore Go.Proofs.YthdadohmomhchaaB
set_option linter.unusedVariables false
set_option linter.unusedSimpArgs false
theorem spec_IsWall_f (a b : Int) : spec_IsWall.f a b = some (inB a 0 1295999 && inB b (-324000) 324000) := by
  simp only [spec_IsWall.f, spec_l01In_f, spec_l09Latitude_f, Option.bind_some]
  cases inB a 0 1295999 <;> simp

end Go.Proofs.Ythdadohmomhchaa.Pure

namespace Go.Proofs.Ythdadohmomhchaa.Pure
open Go.RowKit Go.Proofs.Ythdadohmomhchaa.F Go.Proofs.YthdadohmomhchaaW.PrintWords Go.Proofs.YthdadohmomhchaaW.PrintLast Go.Proofs.YthdadohmomhchaaW.PrintMore Go.Proofs.YthdadohmomhchaaB
set_option linter.unusedVariables false
set_option linter.unusedSimpArgs false
theorem spec_l14Height_f (a : Int) : spec_l14Height.f a = some (inB a 1 10000) := by
  simp only [spec_l14Height.f, spec_l01In_f, Option.bind_some]

end Go.Proofs.Ythdadohmomhchaa.Pure

namespace Go.Proofs.Ythdadohmomhchaa.Pure
open Go.RowKit Go.Proofs.Ythdadohmomhchaa.F Go.Proofs.YthdadohmomhchaaW.PrintWords Go.Proofs.YthdadohmomhchaaW.PrintLast Go.Proofs.YthdadohmomhchaaW.PrintMore Go.Proofs.YthdadohmomhchaaB
set_option linter.unusedVariables false
set_option linter.unusedSimpArgs false
theorem spec_IsDial_f (a b c d : Int) : spec_IsDial.f a b c d = some (dialB a b c d) := by
  simp only [spec_IsDial.f, spec_l09Latitude_f, spec_IsWall_f, spec_l14Height_f, Option.bind_some, dialB]
  cases inB a (-324000) 324000 <;> cases (inB b 0 1295999 && inB c (-324000) 324000) <;> simp

end Go.Proofs.Ythdadohmomhchaa.Pure

namespace Go.Proofs.Ythdadohmomhchaa.Pure
open Go.RowKit Go.Proofs.Ythdadohmomhchaa.F Go.Proofs.YthdadohmomhchaaW.PrintWords Go.Proofs.YthdadohmomhchaaW.PrintLast Go.Proofs.YthdadohmomhchaaW.PrintMore Go.Proofs.YthdadohmomhchaaB
set_option linter.unusedVariables false
set_option linter.unusedSimpArgs false
theorem spec_l01Rises_l0 (xs : List Int) (a : Int) (ha : 0 ≤ a) (ha' : a ≤ 1000000) (hx : xs.length ≤ 9223372036854775807) : ∀ (ys : List Int) (m : Nat), xs.drop m = ys →
    Ev (fun k => spec_l01Rises.l0 k xs a m) (risB (a - 1) (prevOf xs m) ys)
  | [], m, h => by
    have := drop_nil h
    exact ev_step (fun _ => rfl) (ev_neg (by omega) (ev_now rfl))
  | y :: ys, m, h => by
    obtain ⟨hm, _, hd⟩ := drop_cons h
    refine ev_step (fun _ => rfl) (ev_pos (by omega) (ev_pos (by omega) ?_))
    rw [rdI h, w64 (x := (m : Int) + 1) (by omega) (by omega), w64 (x := a - 1) (by omega) (by omega), w64 (x := (m : Int) - 1) (by omega) (by omega)]
    refine ev_some (spec_l01In_f _ _ _) ?_
    have ih := spec_l01Rises_l0 xs a ha ha' hx ys (m + 1) hd
    rw [prevOf_succ h] at ih
    unfold risB
    cases inB y 0 (a - 1)
    · exact ev_neg (by simp) (ev_now (by simp))
    refine ev_pos rfl ?_
    by_cases h0 : m = 0
    · subst h0
      exact ev_neg (by omega) (ev_eq ih (by simp [prevOf]))
    · refine ev_pos (by omega) (ev_pos (by omega) (ev_pos (by omega) ?_))
      have e : rd xs ((m : Int) - 1) = xs.getD (m - 1) 0 := by unfold rd; congr 1; omega
      rw [e]
      unfold prevOf
      rw [if_neg h0]
      refine ev_ite (fun hc => ev_now ?_) (fun hc => ev_eq ih ?_)
      · have : ¬ (xs.getD (m - 1) 0 < y) := by omega
        simp [-List.getD_eq_getElem?_getD, this]
      · have : xs.getD (m - 1) 0 < y := by omega
        simp [-List.getD_eq_getElem?_getD, this]
theorem spec_l01Rises_f (xs : List Int) (a : Int) (ha : 0 ≤ a) (ha' : a ≤ 1000000) (hx : xs.length ≤ 9223372036854775807) : Ev (fun k => spec_l01Rises.f k xs a) (risesB xs (a - 1)) := spec_l01Rises_l0 xs a ha ha' hx xs 0 rfl

end Go.Proofs.Ythdadohmomhchaa.Pure

namespace Go.Proofs.Ythdadohmomhchaa.Pure
open Go.RowKit Go.Proofs.Ythdadohmomhchaa.F Go.Proofs.YthdadohmomhchaaW.PrintWords Go.Proofs.YthdadohmomhchaaW.PrintLast Go.Proofs.YthdadohmomhchaaW.PrintMore Go.Proofs.YthdadohmomhchaaB
set_option linter.unusedVariables false
set_option linter.unusedSimpArgs false
theorem spec_l33Lists_f (xs ys : List Int) (hx : xs.length ≤ 9223372036854775807) (hy : ys.length ≤ 9223372036854775807) : Ev (fun k => spec_l33Lists.f k xs ys) (risesB xs 1439 && risesB ys 11) := by
  refine ev_bind (spec_l01Rises_f xs 1440 (by omega) (by omega) hx) ?_
  cases h : risesB xs (1440 - 1)
  · have h' : risesB xs 1439 = false := h
    rw [h']
    exact ev_neg (by simp) (ev_now (by simp))
  · have h' : risesB xs 1439 = true := h
    rw [h']
    exact ev_pos rfl (ev_bind (spec_l01Rises_f ys 12 (by omega) (by omega) hy) (ev_now rfl))

end Go.Proofs.Ythdadohmomhchaa.Pure

namespace Go.Proofs.Ythdadohmomhchaa.Pure
open Go.RowKit Go.Proofs.Ythdadohmomhchaa.F Go.Proofs.YthdadohmomhchaaW.PrintWords Go.Proofs.YthdadohmomhchaaW.PrintLast Go.Proofs.YthdadohmomhchaaW.PrintMore Go.Proofs.YthdadohmomhchaaB
set_option linter.unusedVariables false
set_option linter.unusedSimpArgs false
theorem spec_IsProject_f (a b c d e : Int) (xs ys : List Int) (hx : xs.length ≤ 4611686018427387903) (hy : ys.length ≤ 4611686018427387903) : Ev (fun k => spec_IsProject.f k a b c d e xs ys) (projB a b c d e xs ys) := by
  unfold projB
  refine ev_some (spec_IsDial_f a b c d) ?_
  cases dialB a b c d
  · exact ev_neg (by simp) (ev_now (by simp))
  refine ev_pos rfl (ev_some (spec_l01In_f _ _ _) ?_)
  cases inB e 1901 2099
  · exact ev_neg (by simp) (ev_now (by simp))
  refine ev_pos rfl (ev_bind (spec_l33Lists_f xs ys (by omega) (by omega)) ?_)
  cases (risesB xs 1439 && risesB ys 11)
  · exact ev_neg (by simp) (ev_now (by simp))
  refine ev_pos rfl (ev_now ?_)
  rw [w64 (by omega) (by omega)]
  by_cases h : xs.length + ys.length ≤ 40
  · rw [decide_eq_true (by omega), decide_eq_true h]; rfl
  · rw [decide_eq_false (by omega), decide_eq_false h]; rfl

end Go.Proofs.Ythdadohmomhchaa.Pure

namespace Go.Proofs.Ythdadohmomhchaa.Pure
open Go.RowKit Go.Proofs.Ythdadohmomhchaa.F Go.Proofs.YthdadohmomhchaaW.PrintWords Go.Proofs.YthdadohmomhchaaW.PrintLast Go.Proofs.YthdadohmomhchaaW.PrintMore Go.Proofs.YthdadohmomhchaaB
set_option linter.unusedVariables false
set_option linter.unusedSimpArgs false
theorem spec_IsHistory_l0 (xs : List S131) (hx : xs.length ≤ 9223372036854775807) (hi : ∀ x ∈ xs, x.f1.f2.length ≤ 1048576 ∧ x.f1.f3.length ≤ 1048576) : ∀ (ys : List S131) (m : Nat), xs.drop m = ys →
    Ev (fun k => spec_IsHistory.l0 k xs m) (histFrom m ys && decide (xs.length ≤ 12))
  | [], m, h => by
    have := drop_nil h
    exact ev_step (fun _ => rfl) (ev_neg (by omega) (ev_now (by rw [len12]; rfl)))
  | y :: ys, m, h => by
    obtain ⟨hm, _, hd⟩ := drop_cons h
    obtain ⟨e1, e2⟩ := hi y (List.mem_of_mem_drop (by rw [h]; exact List.mem_cons_self))
    have ih := spec_IsHistory_l0 xs hx hi ys (m + 1) hd
    have hp := spec_IsProject_f y.f1.f0.f0 y.f1.f0.f1.f0 y.f1.f0.f1.f1 y.f1.f0.f2 y.f1.f1 y.f1.f2 y.f1.f3 (by omega) (by omega)
    refine ev_step (fun _ => rfl) (ev_pos (by omega) (ev_pos (by omega) ?_))
    rw [rdV h, w64 (x := (m : Int) + 1) (by omega) (by omega), w64 (x := (m : Int) - 1) (by omega) (by omega), histFrom_cons]
    change Ev _ (pjB y.f1) at hp
    by_cases h0 : m = 0
    · subst h0
      refine ev_pos (by omega) ?_
      rw [show parB 0 y.f0 = (y.f0 == -1) from rfl]
      refine ev_ite (fun hq => ?_) (fun hq => ev_now ?_)
      · refine ev_neg (by omega) (ev_bind hp ?_)
        cases pjB y.f1
        · exact ev_neg (by simp) (ev_now (by simp))
        · exact ev_pos rfl (ev_eq ih (by simp [hq]))
      · simp [hq]
    · refine ev_neg (by omega) (ev_pos (by omega) (ev_some (spec_l01In_f _ _ _) ?_))
      rw [show parB m y.f0 = inB y.f0 0 (m - 1) from if_neg h0]
      cases inB y.f0 0 (m - 1)
      · exact ev_neg (by simp) (ev_now (by simp))
      refine ev_pos rfl (ev_bind hp ?_)
      cases pjB y.f1
      · exact ev_neg (by simp) (ev_now (by simp))
      · exact ev_pos rfl (ev_eq ih (by simp))
theorem spec_IsHistory_f (xs : List S131) (hx : xs.length ≤ 9223372036854775807) (hi : ∀ x ∈ xs, x.f1.f2.length ≤ 1048576 ∧ x.f1.f3.length ≤ 1048576) : Ev (fun k => spec_IsHistory.f k xs) (histB xs) := spec_IsHistory_l0 xs hx hi xs 0 rfl

end Go.Proofs.Ythdadohmomhchaa.Pure

namespace Go.Proofs.Ythdadohmomhchaa.Pure
open Go.RowKit Go.Proofs.Ythdadohmomhchaa.F Go.Proofs.YthdadohmomhchaaW.PrintWords Go.Proofs.YthdadohmomhchaaW.PrintLast Go.Proofs.YthdadohmomhchaaW.PrintMore Go.Proofs.YthdadohmomhchaaB
set_option linter.unusedVariables false
set_option linter.unusedSimpArgs false
theorem spec_l33Code_f (xs : List S131) (hx : smallV xs) (a : Int) : Ev (fun k => spec_l33Code.f k xs a) (codeH xs [a]) := by
  have hx1 := hx.1
  refine ev_bind (spec_IsHistory_f xs (by omega) hx.2) ?_
  unfold codeH
  rw [w64 (by omega) (by omega), List.all_cons, List.all_nil, Bool.and_true]
  cases histB xs
  · exact ev_neg (by simp) (ev_now rfl)
  · refine ev_pos rfl (ev_some (spec_l01In_f _ _ _) ?_)
    cases inB a 0 ((xs.length : Int) - 1)
    · exact ev_neg (by simp) (ev_now rfl)
    · exact ev_pos rfl (ev_now rfl)

end Go.Proofs.Ythdadohmomhchaa.Pure

namespace Go.Proofs.Ythdadohmomhchaa.Pure
open Go.RowKit Go.Proofs.Ythdadohmomhchaa.F Go.Proofs.YthdadohmomhchaaW.PrintWords Go.Proofs.YthdadohmomhchaaW.PrintLast Go.Proofs.YthdadohmomhchaaW.PrintMore Go.Proofs.YthdadohmomhchaaB
set_option linter.unusedVariables false
set_option linter.unusedSimpArgs false
theorem spec_l33Two_f (xs : List S131) (hx : smallV xs) (a b : Int) : Ev (fun k => spec_l33Two.f k xs a b) (codeH xs [a, b]) := by
  refine ev_bind (spec_l33Code_f xs hx a) ?_
  have e : codeH xs [a, b] = if codeH xs [a] = 0 then codeH xs [b] else codeH xs [a] := by
    unfold codeH
    simp only [List.all_cons, List.all_nil, Bool.and_true]
    cases histB xs <;> cases inB a 0 ((xs.length : Int) - 1) <;> rfl
  rw [e]
  refine ev_ite (fun h => ?_) (fun h => ?_)
  · rw [if_pos h]
    exact ev_bind (spec_l33Code_f xs hx b) (ev_now rfl)
  · rw [if_neg h]
    exact ev_now rfl

end Go.Proofs.Ythdadohmomhchaa.Pure

namespace Go.Proofs.Ythdadohmomhchaa.Pure
open Go.RowKit Go.Proofs.Ythdadohmomhchaa.F Go.Proofs.YthdadohmomhchaaW.PrintWords Go.Proofs.YthdadohmomhchaaW.PrintLast Go.Proofs.YthdadohmomhchaaW.PrintMore Go.Proofs.YthdadohmomhchaaB
set_option linter.unusedVariables false
set_option linter.unusedSimpArgs false
theorem spec_CommonVersion_f (xs : List S131) (hx : smallV xs) (a b : Int) : Ev (fun k => spec_CommonVersion.f k xs a b) (resCom xs a b) := by
  refine ev_bind (spec_l33Two_f xs hx a b) ?_
  unfold resCom
  refine ev_ite (fun h => ?_) (fun h => ?_)
  · rw [if_pos h]
    obtain ⟨hh, hi⟩ := codeH_zero h
    have h1 := hi a (by simp)
    have h2 := hi b (by simp)
    exact ev_bind (spec_l33Common_f xs hh a b h1.1 h1.2 h2.1 h2.2) (ev_now rfl)
  · rw [if_neg h]
    exact ev_now rfl

end Go.Proofs.Ythdadohmomhchaa.Pure

namespace Go.Proofs.Ythdadohmomhchaa.Pure
open Go.RowKit Go.Proofs.Ythdadohmomhchaa.F Go.Proofs.YthdadohmomhchaaW.PrintWords Go.Proofs.YthdadohmomhchaaW.PrintLast Go.Proofs.YthdadohmomhchaaW.PrintMore Go.Proofs.YthdadohmomhchaaB
set_option linter.unusedVariables false
set_option linter.unusedSimpArgs false
theorem pure_FnExactCommonVersion (l : List S128) (a b : Int) (hx : l.length ≤ 9223372036854775807) (hi : ∀ x ∈ l, x.f1.f2.length ≤ 9223372036854775807 ∧ x.f1.f3.length ≤ 9223372036854775807) : Ev (fun k => laws_FnExactCommonVersion.f k l a b) true := by
  refine ev_bind (laws_szVersionS_f l 1048576 (by omega) (by omega) hx hi) ?_
  by_cases h : (1048576 : Int) < l.length + total szVersion l
  · rw [if_pos h]
    exact ev_pos (by omega) (ev_now rfl)
  rw [if_neg h]
  refine ev_neg (by omega) ?_
  obtain ⟨s1, s2⟩ := szVersion_small l h
  have t := laws_toVersionS_f l s1 s2
  have sm := toV_small l s2
  have sl : (l.map toV).length ≤ 1048576 := by rw [List.length_map]; exact s1
  generalize l.map toV = zs at *
  have sv : smallV zs := ⟨sl, sm⟩
  refine ev_bind t (ev_bind (spec_CommonVersion_f zs sv a b) (ev_bind t (ev_bind (impl_CommonVersion_f zs sv a b) (ev_pos rfl (ev_pos rfl ?_)))))
  exact ev_bind t (ev_bind (laws_eqVersionS_f zs (by omega) sm) (ev_pos rfl (ev_now rfl)))
theorem walkFnExactCommonVersion (A0 : Option Addr) (c0 : Nat) (l0 : (List S128)) (a1 : Int) (a2 : Int) (w : World) (hr0 : Kd.C k128 w A0 l0.length l0) (hc0 : l0.length ≤ c0) (hm0 : l0.length ≤ maxLen) (hg0 : ∀ y ∈ l0, g128 y) (hg1 : (Lit.int .i64 a1).wf = true) (hg2 : (Lit.int .i64 a2).wf = true) :
    Calls Try.prog 5 #[.slice A0 l0.length c0, .int .i64 a1, .int .i64 a2] w fun e w' => e = .returned (.bool true) ∧ Below w.heap.size w w' := by
  unfold maxLen at hm0
  have hi : ∀ x ∈ l0, x.f1.f2.length ≤ 9223372036854775807 ∧ x.f1.f3.length ≤ 9223372036854775807 := fun x hx => by
    have h1 : g57 x.f1 := (hg0 x hx).2
    unfold g57 maxLen at h1
    exact ⟨h1.2.2.1.1, h1.2.2.2.1⟩
  obtain ⟨k, h⟩ := (pure_FnExactCommonVersion l0 a1 a2 hm0 hi).rounds
  exact laws_FnExactCommonVersion.calls k A0 c0 l0 a1 a2 true w hr0 hc0 h

end Go.Proofs.Ythdadohmomhchaa.Pure

namespace Go.Proofs.Ythdadohmomhchaa.fnExactCommonVersion
open Go.ChangeShapes Go.WideShapes Go.ChangeAt Go.RowKit Go.Proofs.YthdadohmomhchaaO Go.Proofs.Ythdadohmomhchaa.F Go.Proofs.YthdadohmomhchaaW.PrintWords
open Go.ChangeMaps (open_string shut_string)
set_option linter.unusedVariables false
theorem own : ownKnob Try.prog.godebug = none := by kernel_rfl
theorem laidOut : laidOutB Try.prog = true := by kernel_rfl
set_option maxRecDepth 100000 in
theorem lifted (os : Os) (started : os.Started) (H : Type) (enc : TypeId × Value → H) :
    ReturnsInHanded {} Try.checked os 5 .any (Rows.fnExactCommonVersionSpec.pre6 enc Try.prog Try.f5 Rows.fnExactCommonVersionRow.domain false) (Rows.fnExactCommonVersionSpec.post enc Try.prog Try.f5 false true false false) := by
  refine returnsInHanded_of_change (C := Try.checked) own started (by kernel_rfl) Try.func5
    (ChangeSpec.witness6 (enc := enc) (C := Try.checked) false ⟨#[], #[.slice none 0 0, .int .i64 0, .int .i64 0], []⟩ 8 (by kernel_rfl) (by kernel_rfl) (by kernel_rfl) (by kernel_rfl)) ?_
  intro W base args ds gs before hval0 hW hcnd _
  have hval : ∀ (j : Nat) t v, Try.f5.params[j]? = some t → args[j]? = some v → Value.okWide Try.prog W .any base t v := hval0
  have hW' := hW
  obtain ⟨p, q, hA0, hV, rfl, hfz, hnd⟩ := hW
  have hA : DataW.TrodAll enc Try.prog W 0 (fun _ => true) true Try.f5.params.toList args.toList ds p := hA0
  rw [Try.params5] at hA hval
  obtain ⟨v0, vs0, d0, ds0, p0, q0, hargs, rfl, rfl, h0, r0⟩ := trodAll_cons hA
  obtain ⟨v1, vs1, d1, ds1, p1, q1, rfl, rfl, rfl, h1, r1⟩ := trodAll_cons r0
  obtain ⟨v2, vs2, d2, ds2, p2, q2, rfl, rfl, rfl, h2, r2⟩ := trodAll_cons r1
  obtain ⟨rfl, rfl, rfl⟩ := trodAll_nil r2
  obtain rfl : args = #[v0, v1, v2] := by cases args; simp_all
  obtain ⟨rfl, rfl⟩ := trodVars_none hV
  obtain ⟨a0, len0, cap0, rfl⟩ := okWide_slice Try.underlying41 (hval 0 41 v0 rfl rfl)
  have k0_ := h0
  have lt0 : ∀ x ∈ p0, x.block < W.heap.size := by obtain ⟨m, hm⟩ := k0_; exact DataW.trod_lt m _ _ _ hm
  obtain ⟨fuel0, hf0⟩ := h0
  obtain ⟨A0, l0, c0, hcs0, hc0, hb0, hr0, hg0⟩ := opens_row (d := k128) (G := g128) Try.underlying41 (by kernel_rfl) o128 hf0
  simp [Value.cells] at hcs0
  obtain ⟨rfl, rfl, rfl⟩ := hcs0
  obtain ⟨a1, rfl, rfl, rfl, hg1⟩ := open_int Try.underlying2 (hval 1 2 v1 rfl rfl) h1
  obtain ⟨a2, rfl, rfl, rfl, hg2⟩ := open_int Try.underlying2 (hval 2 2 v2 rfl rfl) h2
  clear hA0 hval0
  refine (Pure.walkFnExactCommonVersion _ _ l0 a1 a2 W hr0 hc0 (Nat.le_trans hc0 hb0) hg0 hg1 hg2).mono fun e W' ⟨he, bel⟩ => ?_
  subst he
  exact ⟨_, rfl, _, _, _, [], _, [], hW', trodAll_mk1 (shut_bool Try.underlying4 _), (trodAll_cons_mk (Below.trod laidOut (by kernel_rfl) (of_decide_eq_true (by kernel_rfl)) k0_ bel lt0) (trodAll_cons_mk (shut_int Try.underlying2 hg1) (trodAll_cons_mk (shut_int Try.underlying2 hg2) trodAll_mk0))), rfl, bel.frame _, fun h => by cases h⟩
theorem over : Rows.fnExactCommonVersionRow.holds Try.pinned (OpenSpec.ofChange Rows.fnExactCommonVersionSpec) :=
  OpenClaim.holds_of_wide 5 Try.f5 rfl rfl rfl rfl rfl rfl rfl ⟨rfl, rfl, rfl, rfl, rfl⟩ rfl rfl rfl rfl rfl (by kernel_rfl) Try.func5 (by kernel_rfl)
    (of_decide_eq_true (by kernel_rfl)) (by unfold Func.isWrapper; first | (rw [if_pos (by decide +kernel)]; kernel_rfl) | (rw [if_neg (by decide +kernel)]; exact ⟨rfl, rfl⟩))
    (fun os started H enc _ => lifted os started H enc)
theorem proved : Rows.FnExactCommonVersionSaid := over
end Go.Proofs.Ythdadohmomhchaa.fnExactCommonVersion
namespace Go.Proofs.Ythdadohmomhchaa
/-- The row, under a short name, for the claim. -/
theorem fnExactCommonVersion_holds : Rows.FnExactCommonVersionSaid := fnExactCommonVersion.proved
end Go.Proofs.Ythdadohmomhchaa
#print axioms Go.Proofs.Ythdadohmomhchaa.fnExactCommonVersion_holds
