/-
  FnExactShortProgram: the law returns true for every input and leaves its arguments as they were (the last theorem here). No condition.
-/
import Derived.Test.YtklnajigonjcmaaRows
import Derived.ProofKit
import Derived.OpenShut
import Derived.ShutString
import Derived.ChangeOld
import Derived.Test.YtklnajigonjcmaaKFnExactShortProgram3

namespace Go.Proofs.Ytklnajigonjcmaa.Pure
open Go.RowKit Go.Proofs.Ytklnajigonjcmaa.F Go.Proofs.YtklnajigonjcmaaW.PrintWords Go.Proofs.YtklnajigonjcmaaW.PrintLast Go.Proofs.YtklnajigonjcmaaW.PrintMore Go.Proofs.YtklnajigonjcmaaB
set_option linter.unusedVariables false
set_option linter.unusedSimpArgs false
theorem laws_heldCommandS_l0 (xs : List S32) (hx : xs.length ≤ 2147483647) : ∀ (ys : List S32) (m : Nat) (a : Int), xs.drop m = markC a ys → 0 ≤ a → a + 3 * ys.length ≤ 4611686018427387904 →
    Ev (fun k => laws_heldCommandS.l0 k xs a m) (a + 3 * ys.length)
  | [], m, a, h, h0, h1 => by
    have := drop_nil h
    exact ev_step (fun _ => rfl) (ev_neg (by omega) (ev_now (by simp)))
  | y :: ys, m, a, h, h0, h1 => by
    simp only [markC] at h
    obtain ⟨hm, _, hd⟩ := drop_cons h
    simp only [List.length_cons] at h1
    refine ev_step (fun _ => rfl) (ev_pos (by omega) (ev_pos (by omega) ?_))
    rw [rdC h, w64 (x := a + 1) (by omega) (by omega), w64 (x := a + 1 + 1) (by omega) (by omega), w64 (x := a + 1 + 1 + 1) (by omega) (by omega), w64 (x := (m : Int) + 1) (by omega) (by omega)]
    refine ev_pos rfl (ev_pos rfl (ev_pos (by show a + 2 = a + 1 + 1; omega) ?_))
    rw [show a + 1 + 1 + 1 = a + 3 by omega]
    exact ev_eq (laws_heldCommandS_l0 xs hx ys (m + 1) (a + 3) hd (by omega) (by omega)) (by simp only [List.length_cons]; omega)
theorem laws_heldCommandS_f (xs : List S32) (a : Int) (hx : xs.length ≤ 2147483647) (h0 : 0 ≤ a) (h1 : a + 3 * xs.length ≤ 4611686018427387904) :
    Ev (fun k => laws_heldCommandS.f k (markC a xs) a) (a + 3 * xs.length) := laws_heldCommandS_l0 (markC a xs) (by rw [markC_length]; exact hx) xs 0 a rfl h0 h1

end Go.Proofs.Ytklnajigonjcmaa.Pure

namespace Go.Proofs.Ytklnajigonjcmaa.Pure
open Go.RowKit Go.Proofs.Ytklnajigonjcmaa.F Go.Proofs.YtklnajigonjcmaaW.PrintWords Go.Proofs.YtklnajigonjcmaaW.PrintLast Go.Proofs.YtklnajigonjcmaaW.PrintMore Go.Proofs.YtklnajigonjcmaaB
set_option linter.unusedVariables false
set_option linter.unusedSimpArgs false
theorem laws_szCommandS_f (xs : List S29) (a : Int) (h0 : 0 ≤ a) (h1 : a ≤ 1048576) (hx : xs.length ≤ 9223372036854775807) : laws_szCommandS.f xs a = some (if a < xs.length then -1 else a - xs.length) := by
  unfold laws_szCommandS.f
  rw [w64 (by omega) (by omega)]
  by_cases h : a < xs.length
  · rw [if_pos (by omega), if_pos h]
  · rw [if_neg (by omega), if_neg h]

end Go.Proofs.Ytklnajigonjcmaa.Pure

namespace Go.Proofs.Ytklnajigonjcmaa.Pure
open Go.RowKit Go.Proofs.Ytklnajigonjcmaa.F Go.Proofs.YtklnajigonjcmaaW.PrintWords Go.Proofs.YtklnajigonjcmaaW.PrintLast Go.Proofs.YtklnajigonjcmaaW.PrintMore Go.Proofs.YtklnajigonjcmaaB
set_option linter.unusedVariables false
set_option linter.unusedSimpArgs false
def toC (x : S29) : S32 := ⟨x.f0, x.f1, x.f2⟩
theorem rdLC {xs ys : List S29} {y : S29} {m : Nat} (h : xs.drop m = y :: ys) : rd_T29 xs (m : Int) = y := (drop_cons h).2.1 _
theorem laws_toCommandS_l0 (xs : List S29) (hx : xs.length ≤ 9223372036854775807) : ∀ (ys : List S29) (m : Nat) (out : List S32), xs.drop m = ys → out.length = xs.length → out.take m = (xs.take m).map toC →
    Ev (fun k => laws_toCommandS.l0 k xs out m) (xs.map toC)
  | [], m, out, h, hl, ht => by
    have := drop_nil h
    refine ev_step (fun _ => rfl) (ev_neg (by omega) (ev_now ?_))
    rw [List.take_of_length_le (by omega), List.take_of_length_le this] at ht
    rw [ht]
  | y :: ys, m, out, h, hl, ht => by
    obtain ⟨hm, _, hd⟩ := drop_cons h
    refine ev_step (fun _ => rfl) (ev_pos (by omega) (ev_pos (by omega) ?_))
    rw [rdLC h, w64 (by omega) (by omega)]
    refine ev_some (a := (y.f0, y.f1, y.f2)) rfl (ev_pos (by omega) ?_)
    refine laws_toCommandS_l0 xs hx ys (m + 1) _ hd (by rw [List.length_set, hl]) ?_
    rw [take_snoc h, List.map_append, ← ht, Int.toNat_natCast, List.set_eq_take_append_cons_drop, if_pos (by omega), List.take_append, List.take_of_length_le (by rw [List.length_take]; omega), List.length_take, show m + 1 - min m out.length = 1 by omega]
    rfl
theorem laws_toCommandS_f (xs : List S29) (hx : xs.length ≤ 1048576) : Ev (fun k => laws_toCommandS.f k xs) (xs.map toC) := by
  refine ev_pos (by omega) (ev_pos (by omega) ?_)
  exact laws_toCommandS_l0 xs (by omega) xs 0 _ rfl (by simp) rfl

end Go.Proofs.Ytklnajigonjcmaa.Pure

namespace Go.Proofs.Ytklnajigonjcmaa.Pure
open Go.RowKit Go.Proofs.Ytklnajigonjcmaa.F Go.Proofs.YtklnajigonjcmaaW.PrintWords Go.Proofs.YtklnajigonjcmaaW.PrintLast Go.Proofs.YtklnajigonjcmaaW.PrintMore Go.Proofs.YtklnajigonjcmaaB
set_option linter.unusedVariables false
set_option linter.unusedSimpArgs false
theorem spec_l01In_f (a b c : Int) : spec_l01In.f a b c = some (inB a b c) := inB_if a b c

end Go.Proofs.Ytklnajigonjcmaa.Pure

namespace Go.Proofs.Ytklnajigonjcmaa.Pure
open Go.RowKit Go.Proofs.Ytklnajigonjcmaa.F Go.Proofs.YtklnajigonjcmaaW.PrintWords Go.Proofs.YtklnajigonjcmaaW.PrintLast Go.Proofs.YtklnajigonjcmaaW.PrintMore Go.Proofs.YtklnajigonjcmaaB
set_option linter.unusedVariables false
set_option linter.unusedSimpArgs false
theorem spec_l14Point_f (a b : Int) : spec_l14Point.f a b = some (inB a (-1000000) 1000000 && inB b (-1000000) 1000000) := by
  simp only [spec_l14Point.f, spec_l01In_f, Option.bind_some]
  cases inB a (-1000000) 1000000 <;> simp

end Go.Proofs.Ytklnajigonjcmaa.Pure

namespace Go.Proofs.Ytklnajigonjcmaa.Pure
open Go.RowKit Go.Proofs.Ytklnajigonjcmaa.F Go.Proofs.YtklnajigonjcmaaW.PrintWords Go.Proofs.YtklnajigonjcmaaW.PrintLast Go.Proofs.YtklnajigonjcmaaW.PrintMore Go.Proofs.YtklnajigonjcmaaB
set_option linter.unusedVariables false
set_option linter.unusedSimpArgs false
theorem spec_l28Pen_f (a : Int) : spec_l28Pen.f a = some (inB a 1 8) := by
  simp only [spec_l28Pen.f, spec_l01In_f, Option.bind_some]

end Go.Proofs.Ytklnajigonjcmaa.Pure

namespace Go.Proofs.Ytklnajigonjcmaa.Pure
open Go.RowKit Go.Proofs.Ytklnajigonjcmaa.F Go.Proofs.YtklnajigonjcmaaW.PrintWords Go.Proofs.YtklnajigonjcmaaW.PrintLast Go.Proofs.YtklnajigonjcmaaW.PrintMore Go.Proofs.YtklnajigonjcmaaB
set_option linter.unusedVariables false
set_option linter.unusedSimpArgs false
theorem spec_l29Is_f (a b c : Int) : spec_l29Is.f a b c = some (isC a b c) := by
  simp only [spec_l29Is.f, spec_l28Pen_f, spec_l14Point_f, Option.bind_some, isC]
  by_cases h : a = 80
  · simp only [if_pos h]
    cases inB b 1 8 <;> simp
  · simp only [if_neg h]
    by_cases h1 : a = 85 <;> by_cases h2 : a = 68 <;> simp [h1, h2]

end Go.Proofs.Ytklnajigonjcmaa.Pure

namespace Go.Proofs.Ytklnajigonjcmaa.Pure
open Go.RowKit Go.Proofs.Ytklnajigonjcmaa.F Go.Proofs.YtklnajigonjcmaaW.PrintWords Go.Proofs.YtklnajigonjcmaaW.PrintLast Go.Proofs.YtklnajigonjcmaaW.PrintMore Go.Proofs.YtklnajigonjcmaaB
set_option linter.unusedVariables false
set_option linter.unusedSimpArgs false
theorem spec_l29Code_l0 (xs : List S32) (hx : xs.length ≤ 9223372036854775807) : ∀ (ys : List S32) (m : Nat), xs.drop m = ys →
    Ev (fun k => spec_l29Code.l0 k xs m) (if ys.all isCm = true then (if 400 < xs.length then 3 else 0) else 1)
  | [], m, h => by
    have := drop_nil h
    refine ev_step (fun _ => rfl) (ev_neg (by omega) (ev_now ?_))
    simp only [List.all_nil, if_true]
    by_cases h4 : 400 < xs.length
    · rw [if_pos (by omega), if_pos h4]
    · rw [if_neg (by omega), if_neg h4]
  | y :: ys, m, h => by
    obtain ⟨hm, _, hd⟩ := drop_cons h
    refine ev_step (fun _ => rfl) (ev_pos (by omega) (ev_pos (by omega) ?_))
    rw [rdC h, w64 (by omega) (by omega)]
    refine ev_some (spec_l29Is_f _ _ _) ?_
    rw [List.all_cons, show isC y.f0 y.f1 y.f2 = isCm y from rfl]
    cases hc : isCm y
    · exact ev_neg (by simp) (ev_now (by simp))
    · refine ev_pos rfl (ev_eq (spec_l29Code_l0 xs hx ys (m + 1) hd) (by simp))
theorem spec_l29Code_f (xs : List S32) (hx : xs.length ≤ 9223372036854775807) : Ev (fun k => spec_l29Code.f k xs) (codeC xs) := spec_l29Code_l0 xs hx xs 0 rfl

end Go.Proofs.Ytklnajigonjcmaa.Pure

namespace Go.Proofs.Ytklnajigonjcmaa.Pure
open Go.RowKit Go.Proofs.Ytklnajigonjcmaa.F Go.Proofs.YtklnajigonjcmaaW.PrintWords Go.Proofs.YtklnajigonjcmaaW.PrintLast Go.Proofs.YtklnajigonjcmaaW.PrintMore Go.Proofs.YtklnajigonjcmaaB
set_option linter.unusedVariables false
set_option linter.unusedSimpArgs false
theorem spec_l29Needed_l0 (xs : List S32) (hx : xs.length ≤ 4611686018427387904) (m : Nat) (y : S32) (zs : List S32) (hm : xs.drop m = y :: zs) : ∀ (ys : List S32) (j : Nat), xs.drop j = ys →
    Ev (fun k => spec_l29Needed.l0 k xs m j) (needC y.f0 ys)
  | [], j, h => by
    have := drop_nil h
    refine ev_step (fun _ => rfl) (ev_neg (by omega) ?_)
    exact ev_step (fun _ => rfl) (ev_now rfl)
  | z :: ys, j, h => by
    obtain ⟨hj, _, hd⟩ := drop_cons h
    obtain ⟨hl, _, _⟩ := drop_cons hm
    refine ev_step (fun _ => rfl) (ev_pos (by omega) (ev_pos (by omega) (ev_pos (by omega) (ev_pos (by omega) ?_))))
    refine ev_step (fun _ => rfl) ?_
    simp only [spec_l29Needed.j1]
    rw [rdC h, rdC hm, w64 (by omega) (by omega)]
    rw [needC_cons]
    by_cases h1 : z.f0 = y.f0
    · exact ev_neg (by simp [h1]) (ev_now (by rw [if_pos h1]))
    · refine ev_pos (by simp [h1]) (ev_pos (by omega) (ev_pos (by omega) ?_))
      rw [if_neg h1]
      refine ev_ite (fun h2 => ev_now (by rw [if_pos h2])) (fun h2 => ?_)
      rw [if_neg h2]
      exact spec_l29Needed_l0 xs hx m y zs hm ys (j + 1) hd
theorem spec_l29Needed_f (xs : List S32) (hx : xs.length ≤ 4611686018427387904) (m : Nat) (y : S32) (zs : List S32) (hm : xs.drop m = y :: zs) : Ev (fun k => spec_l29Needed.f k xs m) (needC y.f0 zs) := by
  obtain ⟨hl, _, hd⟩ := drop_cons hm
  have := spec_l29Needed_l0 xs hx m y zs hm zs (m + 1) hd
  unfold spec_l29Needed.f
  rw [w64 (by omega) (by omega)]
  exact this

end Go.Proofs.Ytklnajigonjcmaa.Pure

namespace Go.Proofs.Ytklnajigonjcmaa.Pure
open Go.RowKit Go.Proofs.Ytklnajigonjcmaa.F Go.Proofs.YtklnajigonjcmaaW.PrintWords Go.Proofs.YtklnajigonjcmaaW.PrintLast Go.Proofs.YtklnajigonjcmaaW.PrintMore Go.Proofs.YtklnajigonjcmaaB
set_option linter.unusedVariables false
set_option linter.unusedSimpArgs false
theorem spec_ShortProgram_l0 (xs : List S32) (hx : xs.length ≤ 1048576) : ∀ (ys : List S32) (m : Nat) (out : List S32), xs.drop m = ys → out.length ≤ m →
    Ev (fun k => spec_ShortProgram.l0 k xs out m) (out ++ shortC ys, 0)
  | [], m, out, h, ho => by
    have := drop_nil h
    exact ev_step (fun _ => rfl) (ev_neg (by omega) (ev_now (by simp [shortC])))
  | y :: ys, m, out, h, ho => by
    obtain ⟨hm, _, hd⟩ := drop_cons h
    refine ev_step (fun _ => rfl) (ev_pos (by omega) (ev_pos (by omega) ?_))
    rw [rdC h, w64 (by omega) (by omega)]
    rw [shortC_cons]
    refine ev_ite (fun h1 => ?_) (fun h1 => ?_)
    · rw [if_pos (Or.inl h1)]
      refine ev_pos (by omega) ?_
      exact ev_eq (spec_ShortProgram_l0 xs hx ys (m + 1) (out ++ [y]) hd (by simp; omega)) (by simp)
    · refine ev_bind (spec_l29Needed_f xs (by omega) m y ys h) ?_
      refine ev_ite (fun h2 => ?_) (fun h2 => ?_)
      · rw [if_pos (Or.inr h2)]
        refine ev_pos (by omega) ?_
        exact ev_eq (spec_ShortProgram_l0 xs hx ys (m + 1) (out ++ [y]) hd (by simp; omega)) (by simp)
      · rw [if_neg (by rintro (h3 | h3); exact h1 h3; exact h2 h3)]
        exact spec_ShortProgram_l0 xs hx ys (m + 1) out hd (by omega)
theorem spec_ShortProgram_f (xs : List S32) (hx : xs.length ≤ 1048576) : Ev (fun k => spec_ShortProgram.f k xs) (resShort xs) := by
  refine ev_bind (spec_l29Code_f xs (by omega)) ?_
  unfold resShort
  refine ev_ite (fun h => ?_) (fun h => ?_)
  · rw [if_pos h]
    exact ev_eq (spec_ShortProgram_l0 xs hx xs 0 [] rfl (Nat.le_refl _)) (by simp)
  · rw [if_neg h]
    exact ev_now rfl

end Go.Proofs.Ytklnajigonjcmaa.Pure

namespace Go.Proofs.Ytklnajigonjcmaa.Pure
open Go.RowKit Go.Proofs.Ytklnajigonjcmaa.F Go.Proofs.YtklnajigonjcmaaW.PrintWords Go.Proofs.YtklnajigonjcmaaW.PrintLast Go.Proofs.YtklnajigonjcmaaW.PrintMore Go.Proofs.YtklnajigonjcmaaB
set_option linter.unusedVariables false
set_option linter.unusedSimpArgs false
theorem pure_FnExactShortProgram (l : List S29) (hx : l.length ≤ 9223372036854775807) : Ev (fun k => laws_FnExactShortProgram.f k l) true := by
  refine ev_some (laws_szCommandS_f l 1048576 (by omega) (by omega) hx) ?_
  by_cases h : (1048576 : Int) < l.length
  · rw [if_pos h]
    exact ev_pos (by omega) (ev_now rfl)
  rw [if_neg h]
  refine ev_neg (by omega) ?_
  have t := laws_toCommandS_f l (by omega)
  have hm : (l.map toC).length ≤ 1048576 := by rw [List.length_map]; omega
  have hr := resShort_length (l.map toC)
  have hs := spec_ShortProgram_f (l.map toC) hm
  have hi := impl_ShortProgram_f (l.map toC) hm
  generalize l.map toC = xs at *
  generalize resShort xs = r at *
  obtain ⟨r1, r2⟩ := r
  have e := laws_eqCommandS_f r1 (by simp only at hr; omega)
  have ex := laws_eqCommandS_f xs (by omega)
  simp only at hr
  refine ev_bind t (ev_bind hs (ev_bind t (ev_bind hi (ev_bind e (ev_pos rfl ?_)))))
  refine ev_step (fun _ => rfl) (ev_neg (by simp) (ev_bind t (ev_bind ex (ev_pos rfl ?_))))
  refine ev_bind (laws_markCommandS_f xs 1 (by omega) (by omega) (by omega)) (ev_neg (by simp only; omega) (ev_bind e (ev_pos rfl ?_)))
  refine ev_step (fun _ => rfl) (ev_neg (by simp) ?_)
  refine ev_bind (laws_markCommandS_f r1 1 (by omega) (by omega) (by omega)) (ev_bind (laws_heldCommandS_f r1 1 (by omega) (by omega) (by omega)) (ev_neg (by omega) (ev_pos rfl ?_)))
  refine ev_bind t (ev_bind hi (ev_bind e (ev_pos rfl ?_)))
  refine ev_step (fun _ => rfl) (ev_neg (by simp) ?_)
  exact ev_bind (laws_heldCommandS_f r1 1 (by omega) (by omega) (by omega)) (ev_neg (by omega) (ev_pos rfl (ev_now rfl)))
theorem walkFnExactShortProgram (A0 : Option Addr) (c0 : Nat) (l0 : (List S29)) (w : World) (hr0 : Kd.C k29 w A0 l0.length l0) (hc0 : l0.length ≤ c0) (hm0 : l0.length ≤ maxLen) (hg0 : ∀ y ∈ l0, g29 y) :
    Calls Try.prog 7 #[.slice A0 l0.length c0] w fun e w' => e = .returned (.bool true) ∧ Below w.heap.size w w' := by
  unfold maxLen at hm0
  obtain ⟨k, h⟩ := (pure_FnExactShortProgram l0 hm0).rounds
  exact laws_FnExactShortProgram.calls k A0 c0 l0 true w hr0 hc0 h

end Go.Proofs.Ytklnajigonjcmaa.Pure

namespace Go.Proofs.Ytklnajigonjcmaa.fnExactShortProgram
open Go.ChangeShapes Go.WideShapes Go.ChangeAt Go.RowKit Go.Proofs.YtklnajigonjcmaaO Go.Proofs.Ytklnajigonjcmaa.F Go.Proofs.YtklnajigonjcmaaW.PrintWords
open Go.ChangeMaps (open_string shut_string)
set_option linter.unusedVariables false
theorem own : ownKnob Try.prog.godebug = none := by kernel_rfl
theorem laidOut : laidOutB Try.prog = true := by kernel_rfl
set_option maxRecDepth 100000 in
theorem lifted (os : Os) (started : os.Started) (H : Type) (enc : TypeId × Value → H) :
    ReturnsInHanded {} Try.checked os 7 .any (Rows.fnExactShortProgramSpec.pre6 enc Try.prog Try.f7 Rows.fnExactShortProgramRow.domain false) (Rows.fnExactShortProgramSpec.post enc Try.prog Try.f7 false true false false) := by
  refine returnsInHanded_of_change (C := Try.checked) own started (by kernel_rfl) Try.func7
    (ChangeSpec.witness6 (enc := enc) (C := Try.checked) false ⟨#[], #[.slice none 0 0], []⟩ 8 (by kernel_rfl) (by kernel_rfl) (by kernel_rfl) (by kernel_rfl)) ?_
  intro W base args ds gs before hval0 hW hcnd _
  have hval : ∀ (j : Nat) t v, Try.f7.params[j]? = some t → args[j]? = some v → Value.okWide Try.prog W .any base t v := hval0
  have hW' := hW
  obtain ⟨p, q, hA0, hV, rfl, hfz, hnd⟩ := hW
  have hA : DataW.TrodAll enc Try.prog W 0 (fun _ => true) true Try.f7.params.toList args.toList ds p := hA0
  rw [Try.params7] at hA hval
  obtain ⟨v0, vs0, d0, ds0, p0, q0, hargs, rfl, rfl, h0, r0⟩ := trodAll_cons hA
  obtain ⟨rfl, rfl, rfl⟩ := trodAll_nil r0
  obtain rfl : args = #[v0] := by cases args; simp_all
  obtain ⟨rfl, rfl⟩ := trodVars_none hV
  obtain ⟨a0, len0, cap0, rfl⟩ := okWide_slice Try.underlying36 (hval 0 36 v0 rfl rfl)
  have k0_ := h0
  have lt0 : ∀ x ∈ p0, x.block < W.heap.size := by obtain ⟨m, hm⟩ := k0_; exact DataW.trod_lt m _ _ _ hm
  obtain ⟨fuel0, hf0⟩ := h0
  obtain ⟨A0, l0, c0, hcs0, hc0, hb0, hr0, hg0⟩ := opens_row (d := k29) (G := g29) Try.underlying36 (by kernel_rfl) o29 hf0
  simp [Value.cells] at hcs0
  obtain ⟨rfl, rfl, rfl⟩ := hcs0
  clear hA0 hval0
  refine (Pure.walkFnExactShortProgram _ _ l0 W hr0 hc0 (Nat.le_trans hc0 hb0) hg0).mono fun e W' ⟨he, bel⟩ => ?_
  subst he
  exact ⟨_, rfl, _, _, _, [], _, [], hW', trodAll_mk1 (shut_bool Try.underlying4 _), (trodAll_cons_mk (Below.trod laidOut (by kernel_rfl) (of_decide_eq_true (by kernel_rfl)) k0_ bel lt0) trodAll_mk0), rfl, bel.frame _, fun h => by cases h⟩
theorem over : Rows.fnExactShortProgramRow.holds Try.pinned (OpenSpec.ofChange Rows.fnExactShortProgramSpec) :=
  OpenClaim.holds_of_wide 7 Try.f7 rfl rfl rfl rfl rfl rfl rfl ⟨rfl, rfl, rfl, rfl, rfl⟩ rfl rfl rfl rfl rfl (by kernel_rfl) Try.func7 (by kernel_rfl)
    (of_decide_eq_true (by kernel_rfl)) (by unfold Func.isWrapper; first | (rw [if_pos (by decide +kernel)]; kernel_rfl) | (rw [if_neg (by decide +kernel)]; exact ⟨rfl, rfl⟩))
    (fun os started H enc _ => lifted os started H enc)
theorem proved : Rows.FnExactShortProgramSaid := over
end Go.Proofs.Ytklnajigonjcmaa.fnExactShortProgram
namespace Go.Proofs.Ytklnajigonjcmaa
/-- The row, under a short name, for the claim. -/
theorem fnExactShortProgram_holds : Rows.FnExactShortProgramSaid := fnExactShortProgram.proved
end Go.Proofs.Ytklnajigonjcmaa
#print axioms Go.Proofs.Ytklnajigonjcmaa.fnExactShortProgram_holds
