/-
  FnExactIsDesk: the law returns true for every input and leaves its arguments as they were (the last theorem here). No condition.
-/
import Derived.Test.YtnimjikikfhlpaaRows
import Derived.ProofKit
import Derived.OpenShut
import Derived.ShutString
import Derived.ChangeOld
import Derived.Test.YtnimjikikfhlpaaKFnExactIsDesk8

namespace Go.Proofs.Ytnimjikikfhlpaa.fnExactIsDesk
open Go.ChangeShapes Go.WideShapes Go.ChangeAt Go.RowKit Go.Proofs.YtnimjikikfhlpaaO Go.Proofs.Ytnimjikikfhlpaa.F Go.Proofs.YtnimjikikfhlpaaW.PrintWords
open Go.ChangeMaps (open_string shut_string)
set_option linter.unusedVariables false
theorem own : ownKnob Try.prog.godebug = none := by kernel_rfl
theorem laidOut : laidOutB Try.prog = true := by kernel_rfl
set_option maxRecDepth 100000 in
theorem lifted (os : Os) (started : os.Started) (H : Type) (enc : TypeId × Value → H) :
    ReturnsInHanded {} Try.checked os 11 .any (Rows.fnExactIsDeskSpec.pre6 enc Try.prog Try.f11 Rows.fnExactIsDeskRow.domain false) (Rows.fnExactIsDeskSpec.post enc Try.prog Try.f11 false true false false) := by
  refine returnsInHanded_of_change (C := Try.checked) own started (by kernel_rfl) Try.func11
    (ChangeSpec.witness6 (enc := enc) (C := Try.checked) false ⟨#[], #[.agg #[.int .i64 0, .int .i64 0, .int .i64 0, .int .i64 0, .int .i64 0, .slice none 0 0, .slice none 0 0, .int .i64 0, .int .i64 0, .int .i64 0, .int .i64 0, .int .i64 0, .int .i64 0, .int .i64 0]], []⟩ 8 (by kernel_rfl) (by kernel_rfl) (by kernel_rfl) (by kernel_rfl)) ?_
  intro W base args ds gs before hval0 hW hcnd _
  have hval : ∀ (j : Nat) t v, Try.f11.params[j]? = some t → args[j]? = some v → Value.okWide Try.prog W .any base t v := hval0
  have hW' := hW
  obtain ⟨p, q, hA0, hV, rfl, hfz, hnd⟩ := hW
  have hA : DataW.TrodAll enc Try.prog W 0 (fun _ => true) true Try.f11.params.toList args.toList ds p := hA0
  rw [Try.params11] at hA hval
  obtain ⟨v0, vs0, d0, ds0, p0, q0, hargs, rfl, rfl, h0, r0⟩ := trodAll_cons hA
  obtain ⟨rfl, rfl, rfl⟩ := trodAll_nil r0
  obtain rfl : args = #[v0] := by cases args; simp_all
  obtain ⟨rfl, rfl⟩ := trodVars_none hV
  have k0_ := h0
  have lt0 : ∀ x ∈ p0, x.block < W.heap.size := by obtain ⟨m, hm⟩ := k0_; exact DataW.trod_lt m _ _ _ hm
  obtain ⟨cs0, rfl, _, _⟩ : ∃ cs, v0 = .agg cs ∧ cs.size = Try.prog.cellsOf 84 ∧ Row.okWide Try.prog W .any base 84 cs := by
    have z := hval 0 84 v0 rfl rfl
    unfold Value.okWide at z
    rw [Try.underlying84] at z
    exact z
  obtain ⟨fuel0, hf0⟩ := h0
  obtain ⟨⟨⟨⟨a0_0, ⟨a0_1, a0_2⟩, a0_3⟩, a0_4, l0_5, l0_6⟩, ⟨a0_7, a0_8, a0_9, a0_10, a0_11⟩, a0_12, a0_13⟩, hK0, hG0⟩ := p84 _ _ _ _ _ _ hf0
  obtain ⟨L0, hL0, hK0⟩ : ∃ L, cs0.toList = L ∧ ((Kd.iso (Kd.pair (Kd.iso (Kd.pair (Kd.iso (Kd.pair (Kd.int .i64) (Kd.pair (Kd.iso (Kd.pair (Kd.int .i64) (Kd.int .i64)) (fun x : (Int × Int) => x)) (Kd.int .i64))) (fun x : (Int × (Int × Int) × Int) => x)) (Kd.pair (Kd.int .i64) (Kd.pair (Kd.slice 2 (Kd.int .i64)) (Kd.slice 2 (Kd.int .i64))))) (fun x : ((Int × (Int × Int) × Int) × Int × (List Int) × (List Int)) => x)) (Kd.pair (Kd.iso (Kd.pair (Kd.int .i64) (Kd.pair (Kd.int .i64) (Kd.pair (Kd.int .i64) (Kd.pair (Kd.int .i64) (Kd.int .i64))))) (fun x : (Int × Int × Int × Int × Int) => x)) (Kd.pair (Kd.int .i64) (Kd.int .i64)))) (fun x : (((Int × (Int × Int) × Int) × Int × (List Int) × (List Int)) × (Int × Int × Int × Int × Int) × Int × Int) => x))).K W ⟨⟨⟨a0_0, ⟨a0_1, a0_2⟩, a0_3⟩, a0_4, l0_5, l0_6⟩, ⟨a0_7, a0_8, a0_9, a0_10, a0_11⟩, a0_12, a0_13⟩ L := ⟨_, rfl, hK0⟩
  obtain ⟨_, _, rfl, ⟨_, _, rfl, ⟨_, _, rfl, rfl, ⟨_, _, rfl, ⟨_, _, rfl, rfl, rfl⟩, rfl⟩⟩, ⟨_, _, rfl, rfl, ⟨_, _, rfl, ⟨A0_5, c0_5, rfl, hc0_5, hr0_5⟩, ⟨A0_6, c0_6, rfl, hc0_6, hr0_6⟩⟩⟩⟩, ⟨_, _, rfl, ⟨_, _, rfl, rfl, ⟨_, _, rfl, rfl, ⟨_, _, rfl, rfl, ⟨_, _, rfl, rfl, rfl⟩⟩⟩⟩, ⟨_, _, rfl, rfl, rfl⟩⟩⟩ := hK0
  obtain ⟨⟨⟨hg0_0, ⟨hg0_1, hg0_2⟩, hg0_3⟩, hg0_4, ⟨hm0_5, hg0_5⟩, ⟨hm0_6, hg0_6⟩⟩, ⟨hg0_7, hg0_8, hg0_9, hg0_10, hg0_11⟩, hg0_12, hg0_13⟩ := hG0
  obtain rfl : cs0 = #[.int .i64 a0_0, .int .i64 a0_1, .int .i64 a0_2, .int .i64 a0_3, .int .i64 a0_4, .slice A0_5 l0_5.length c0_5, .slice A0_6 l0_6.length c0_6, .int .i64 a0_7, .int .i64 a0_8, .int .i64 a0_9, .int .i64 a0_10, .int .i64 a0_11, .int .i64 a0_12, .int .i64 a0_13] := by cases cs0; simpa using hL0
  clear hA0 hval0
  refine (Pure.walkFnExactIsDesk a0_0 a0_1 a0_2 a0_3 a0_4 A0_5 c0_5 l0_5 A0_6 c0_6 l0_6 a0_7 a0_8 a0_9 a0_10 a0_11 a0_12 a0_13 W hg0_0 hg0_1 hg0_2 hg0_3 hg0_4 hr0_5 hc0_5 hm0_5 hg0_5 hr0_6 hc0_6 hm0_6 hg0_6 hg0_7 hg0_8 hg0_9 hg0_10 hg0_11 hg0_12 hg0_13).mono fun e W' ⟨he, bel⟩ => ?_
  subst he
  exact ⟨_, rfl, _, _, _, [], _, [], hW', trodAll_mk1 (shut_bool Try.underlying4 _), (trodAll_cons_mk (Below.trod laidOut (by kernel_rfl) (of_decide_eq_true (by kernel_rfl)) k0_ bel lt0) trodAll_mk0), rfl, bel.frame _, fun h => by cases h⟩
theorem over : Rows.fnExactIsDeskRow.holds Try.pinned (OpenSpec.ofChange Rows.fnExactIsDeskSpec) :=
  OpenClaim.holds_of_wide 11 Try.f11 rfl rfl rfl rfl rfl rfl rfl ⟨rfl, rfl, rfl, rfl, rfl⟩ rfl rfl rfl rfl rfl (by kernel_rfl) Try.func11 (by kernel_rfl)
    (of_decide_eq_true (by kernel_rfl)) (by unfold Func.isWrapper; first | (rw [if_pos (by decide +kernel)]; kernel_rfl) | (rw [if_neg (by decide +kernel)]; exact ⟨rfl, rfl⟩))
    (fun os started H enc _ => lifted os started H enc)
theorem proved : Rows.FnExactIsDeskSaid := over
end Go.Proofs.Ytnimjikikfhlpaa.fnExactIsDesk
namespace Go.Proofs.Ytnimjikikfhlpaa
/-- The row, under a short name, for the claim. -/
theorem fnExactIsDesk_holds : Rows.FnExactIsDeskSaid := fnExactIsDesk.proved
end Go.Proofs.Ytnimjikikfhlpaa
#print axioms Go.Proofs.Ytnimjikikfhlpaa.fnExactIsDesk_holds
