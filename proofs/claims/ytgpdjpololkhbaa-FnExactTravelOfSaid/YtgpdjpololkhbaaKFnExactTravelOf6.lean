/-
  FnExactTravelOf: the law returns true for every input and leaves its arguments as they were (the last theorem here). No condition.
-/
import Derived.Test.YtgpdjpololkhbaaRows
import Derived.ProofKit
import Derived.OpenShut
import Derived.ShutString
import Derived.ChangeOld
import Derived.Test.YtgpdjpololkhbaaKFnExactTravelOf5

namespace Go.Proofs.Ytgpdjpololkhbaa.Pure
open Go.RowKit Go.Proofs.Ytgpdjpololkhbaa.F Go.Proofs.YtgpdjpololkhbaaW.PrintWords Go.Proofs.YtgpdjpololkhbaaW.PrintLast Go.Proofs.YtgpdjpololkhbaaW.PrintMore Go.Proofs.YtgpdjpololkhbaaB
set_option linter.unusedVariables false
set_option linter.unusedSimpArgs false
theorem spec_l30All_j3 (xs : List S137) (m : Nat) (hx : xs.length ≤ 1048576) (hm : m < xs.length) (line : List S90) (e : Bool) (st : List S110) (hs : st.length ≤ 1048576) (a b c : Int) (d : Bool) (A B C : Int) (D : Bool) (up dn p : Int) (res : Int × Int × Int × Bool × List S110 × Int × Int × Int × Int)
    (H : Ev (fun k => spec_l30All.l0 k xs (if e = true then [] else line) ((m + 1 : Nat) : Int) A B C D (if e = true then st ++ [⟨c, line⟩] else st) up dn p) res) :
    Ev (fun k => spec_l30All.j3 k xs line m e a b c d st up dn p A B C D) res := by
  refine ev_step (fun _ => rfl) ?_
  show Ev (fun k => if e = true then ((some (([] : List S110) : List S110)).bind fun y1 => (if y1.length + st.length < 4398046511104 then ((some (y1 ++ st : List S110)).bind fun y2 => ((some (([(⟨c, line⟩ : S110)] : List S110) : List S110)).bind fun y3 => (if y2.length + y3.length < 4398046511104 then (spec_l30All.l0 k xs (([] : List S90)) (wrap64 ((m : Int) + 1)) A B C D (y2 ++ y3) up dn p) else (none)))) else (none))) else (spec_l30All.l0 k xs line (wrap64 ((m : Int) + 1)) A B C D st up dn p)) res
  rw [w64 (x := (m : Int) + 1) (by omega) (by omega), show ((m : Int) + 1) = ((m + 1 : Nat) : Int) by omega]
  refine ev_ite (fun he => ?_) (fun he => ?_)
  · rw [if_pos he, if_pos he] at H
    exact ev_some rfl (ev_pos (by simp; omega) (ev_some rfl (ev_some rfl (ev_pos (by simp; omega) H))))
  · rw [if_neg he, if_neg he] at H
    exact H
theorem spec_l30All_j2 (xs : List S137) (y : S137) (ys : List S137) (m : Nat) (h : xs.drop m = y :: ys) (hx : xs.length ≤ 1048576) (line : List S90) (st : List S110) (hs : st.length ≤ 1048576) (a b c : Int) (d : Bool) (A B C : Int) (D : Bool) (up dn p : Int) (res : Int × Int × Int × Bool × List S110 × Int × Int × Int × Int)
    (H : Ev (fun k => spec_l30All.l0 k xs (if endB line ys = true then [] else line) ((m + 1 : Nat) : Int) A B C D (if endB line ys = true then st ++ [⟨c, line⟩] else st) up dn p) res) :
    Ev (fun k => spec_l30All.j2 k xs line m a b c d st up dn p A B C D) res := by
  obtain ⟨hm, _, hd⟩ := drop_cons h
  refine ev_step (fun _ => rfl) ?_
  show Ev (fun k => if (line.length : Int) > 0 then (if (wrap64 ((m : Int) + 1)) = (xs.length : Int) then (spec_l30All.j3 k xs line m true a b c d st up dn p A B C D) else (if 0 ≤ (wrap64 ((m : Int) + 1)) then (if (wrap64 ((m : Int) + 1)) < (xs.length : Int) then (spec_l30All.j3 k xs line m (((rd_T137 xs (wrap64 ((m : Int) + 1))).f0) != 68) a b c d st up dn p A B C D) else (none)) else (none))) else (spec_l30All.j3 k xs line m false a b c d st up dn p A B C D)) res
  have key := fun (e : Bool) (he : endB line ys = e) => spec_l30All_j3 xs m hx hm line e st hs a b c d A B C D up dn p res (by rw [← he]; exact H)
  rw [w64 (x := (m : Int) + 1) (by omega) (by omega), show ((m : Int) + 1) = ((m + 1 : Nat) : Int) by omega]
  cases ys with
  | nil =>
    have hl := drop_nil hd
    refine ev_ite (fun h0 => ?_) (fun h0 => ?_)
    · exact ev_pos (by omega) (key true (decide_eq_true (by omega)))
    · exact key false (decide_eq_false (by omega))
  | cons z zs =>
    obtain ⟨hm1, _, _⟩ := drop_cons hd
    rw [rdC hd]
    refine ev_ite (fun h0 => ?_) (fun h0 => ?_)
    · have h1 : decide (0 < line.length) = true := decide_eq_true (by omega)
      refine ev_neg (by omega) (ev_pos (by omega) (ev_pos (by omega) (key _ ?_)))
      simp only [endB, h1, Bool.true_and]
      by_cases hz : z.f0 = 68
      · simp [hz]
      · rw [decide_eq_false hz]
        simpa using hz
    · have h1 : decide (0 < line.length) = false := decide_eq_false (by omega)
      exact key false (by simp only [endB, h1, Bool.false_and])
theorem spec_l30All_j1 (xs : List S137) (y : S137) (ys : List S137) (m : Nat) (h : xs.drop m = y :: ys) (hx : xs.length ≤ 1048576) (line : List S90) (st : List S110) (hs : st.length ≤ 1048576) (a b c : Int) (d : Bool) (A B C : Int) (D : Bool) (up dn p : Int) (res : Int × Int × Int × Bool × List S110 × Int × Int × Int × Int)
    (H : Ev (fun k => spec_l30All.l0 k xs (if endB line ys = true then [] else line) ((m + 1 : Nat) : Int) A B C D (if endB line ys = true then st ++ [⟨c, line⟩] else st) up dn (pensN y.f0 p)) res) :
    Ev (fun k => spec_l30All.j1 k xs line m a b c d st up dn p A B C D) res := by
  obtain ⟨hm, _, hd⟩ := drop_cons h
  refine ev_step (fun _ => rfl) ?_
  show Ev (fun k => if 0 ≤ (m : Int) then (if (m : Int) < (xs.length : Int) then (if ((rd_T137 xs (m : Int)).f0) = 80 then (spec_l30All.j2 k xs line m a b c d st up dn (wrap64 (p + 1)) A B C D) else (spec_l30All.j2 k xs line m a b c d st up dn p A B C D)) else (none)) else (none)) res
  refine ev_pos (by omega) (ev_pos (by omega) ?_)
  rw [rdC h]
  refine ev_ite (fun hk => ?_) (fun hk => ?_)
  · rw [show pensN y.f0 p = wrap64 (p + 1) from if_pos hk] at H
    exact spec_l30All_j2 xs y ys m h hx line st hs a b c d A B C D up dn _ res H
  · rw [show pensN y.f0 p = p from if_neg hk] at H
    exact spec_l30All_j2 xs y ys m h hx line st hs a b c d A B C D up dn _ res H
theorem spec_l30All_l0 (xs : List S137) (hx : xs.length ≤ 1048576) : ∀ (ys : List S137) (m : Nat) (line : List S90) (a b c : Int) (d : Bool) (st : List S110) (up dn p : Int), xs.drop m = ys → m ≤ xs.length → line.length ≤ 2 * m → st.length ≤ m →
    Ev (fun k => spec_l30All.l0 k xs line m a b c d st up dn p) (runM ys a b c d line st up dn p)
  | [], m, line, a, b, c, d, st, up, dn, p, h, hm, hl, hs => by
    have := drop_nil h
    exact ev_step (fun _ => rfl) (ev_neg (by omega) (ev_now rfl))
  | y :: ys, m, line, a, b, c, d, st, up, dn, p, h, hm, hl, hs => by
    obtain ⟨hm1, _, hd⟩ := drop_cons h
    refine ev_step (fun _ => rfl) (ev_pos (by omega) (ev_pos (by omega) ?_))
    rw [rdC h]
    generalize hst : stepM a b c d y.f0 y.f1 y.f2 = s
    rw [runM_cons y ys a b c d line st up dn p s hst]
    refine ev_some ((spec_l30Step_f a b c d y.f0 y.f1 y.f2).trans (congrArg some hst)) (ev_ite (fun hq => ?_) (fun hq => ?_))
    · rw [if_pos hq]
      have hln : (lineN y.f0 a b s.1 s.2.1 line).length ≤ 2 * (m + 1) := by
        unfold lineN
        split
        · split <;> simp <;> omega
        · omega
      refine ev_some rfl (ev_bind (spec_l01Root_f _) (ev_ite (fun hk => ?_) (fun hk => ?_)))
      · have e1 : upN y.f0 up (distM a b s.1 s.2.1) = up := if_pos hk
        have e2 : dnN y.f0 dn (distM a b s.1 s.2.1) = wrap64 (dn + distM a b s.1 s.2.1) := if_pos hk
        rw [e1, e2]
        refine ev_ite (fun h0 => ?_) (fun h0 => ?_)
        · have e3 : lineN y.f0 a b s.1 s.2.1 line = line ++ [⟨a, b⟩] ++ [⟨s.1, s.2.1⟩] := by
            have : line = [] := List.eq_nil_of_length_eq_zero (by omega)
            subst this
            exact if_pos hk
          rw [e3] at hln ⊢
          refine ev_some rfl (ev_pos (by simp; omega) (ev_some rfl (ev_some rfl (ev_pos (by simp; omega) (spec_l30All_j1 xs y ys m h hx _ st (by omega) a b c d _ _ _ _ _ _ _ _ (spec_l30All_l0 xs hx ys (m + 1) _ _ _ _ _ _ _ _ _ hd (by omega) ?_ ?_))))))
          · split
            · exact Nat.zero_le _
            · exact hln
          · split
            · simp; omega
            · omega
        · have e3 : lineN y.f0 a b s.1 s.2.1 line = line ++ [⟨s.1, s.2.1⟩] := by
            unfold lineN
            rw [if_pos hk, if_neg h0]
          rw [e3] at hln ⊢
          refine ev_some rfl (ev_pos (by simp; omega) (spec_l30All_j1 xs y ys m h hx _ st (by omega) a b c d _ _ _ _ _ _ _ _ (spec_l30All_l0 xs hx ys (m + 1) _ _ _ _ _ _ _ _ _ hd (by omega) ?_ ?_)))
          · split
            · exact Nat.zero_le _
            · exact hln
          · split
            · simp; omega
            · omega
      · have e1 : upN y.f0 up (distM a b s.1 s.2.1) = wrap64 (up + distM a b s.1 s.2.1) := if_neg hk
        have e2 : dnN y.f0 dn (distM a b s.1 s.2.1) = dn := if_neg hk
        have e3 : lineN y.f0 a b s.1 s.2.1 line = line := if_neg hk
        rw [e1, e2]
        rw [e3] at hln ⊢
        refine spec_l30All_j1 xs y ys m h hx line st (by omega) a b c d _ _ _ _ _ _ _ _ (spec_l30All_l0 xs hx ys (m + 1) _ _ _ _ _ _ _ _ _ hd (by omega) ?_ ?_)
        · split
          · exact Nat.zero_le _
          · exact hln
        · split
          · simp; omega
          · omega
    · rw [if_neg hq]
      exact ev_now rfl
theorem spec_l30All_f (xs : List S137) (hx : xs.length ≤ 1048576) : Ev (fun k => spec_l30All.f k xs) (allM xs) := by
  refine ev_bind (spec_l29Code_f xs (by omega)) ?_
  unfold allM
  refine ev_ite (fun h => ?_) (fun h => ?_)
  · rw [if_pos h]
    exact spec_l30All_l0 xs hx xs 0 [] 0 0 0 false [] 0 0 0 rfl (Nat.zero_le _) (Nat.zero_le _) (Nat.zero_le _)
  · rw [if_neg h]
    exact ev_now rfl

end Go.Proofs.Ytgpdjpololkhbaa.Pure

namespace Go.Proofs.Ytgpdjpololkhbaa.Pure
open Go.RowKit Go.Proofs.Ytgpdjpololkhbaa.F Go.Proofs.YtgpdjpololkhbaaW.PrintWords Go.Proofs.YtgpdjpololkhbaaW.PrintLast Go.Proofs.YtgpdjpololkhbaaW.PrintMore Go.Proofs.YtgpdjpololkhbaaB
set_option linter.unusedVariables false
set_option linter.unusedSimpArgs false
theorem spec_TravelOf_f (xs : List S137) (hx : xs.length ≤ 1048576) : Ev (fun k => spec_TravelOf.f k xs) (resTravel xs) := by
  refine ev_bind (spec_l30All_f xs hx) ?_
  show Ev (fun _ => if (allM xs).2.2.2.2.2.2.2.2 = 0 then (some ((allM xs).2.2.2.2.2.1, (allM xs).2.2.2.2.2.2.1, (0 : Int))) else (some (0, 0, (allM xs).2.2.2.2.2.2.2.2))) (resTravel xs)
  by_cases h : codeC xs = 0
  · rw [show allM xs = runM xs 0 0 0 false [] [] 0 0 0 from if_pos h]
    unfold resTravel
    rw [if_pos h]
    rcases runM_trav xs 0 0 0 false [] [] 0 0 0 (by omega) (by omega) with ⟨h1, h2, h3, h4, h5⟩ | ⟨h1, h2⟩
    · rw [if_pos h1]
      refine ev_pos h2 (ev_now ?_)
      rw [h3, h4]
    · rw [if_neg (show ¬ (travM xs 0 0 0 false 0 0).2.2 = true by rw [h1]; exact Bool.false_ne_true), h2]
      exact ev_neg (show ¬ (5 : Int) = 0 by decide) (ev_now rfl)
  · rw [show allM xs = (0, 0, 0, false, [], 0, 0, 0, codeC xs) from if_neg h]
    rw [show resTravel xs = (0, 0, codeC xs) from if_neg h]
    exact ev_neg h (ev_now rfl)

end Go.Proofs.Ytgpdjpololkhbaa.Pure

namespace Go.Proofs.Ytgpdjpololkhbaa.Pure
open Go.RowKit Go.Proofs.Ytgpdjpololkhbaa.F Go.Proofs.YtgpdjpololkhbaaW.PrintWords Go.Proofs.YtgpdjpololkhbaaW.PrintLast Go.Proofs.YtgpdjpololkhbaaW.PrintMore Go.Proofs.YtgpdjpololkhbaaB
set_option linter.unusedVariables false
set_option linter.unusedSimpArgs false
theorem pure_FnExactTravelOf (l : List S139) (hx : l.length ≤ 9223372036854775807) : Ev (fun k => laws_FnExactTravelOf.f k l) true := by
  refine ev_some (laws_szCommandS_f l 1048576 (by omega) (by omega) hx) ?_
  by_cases h : (1048576 : Int) < l.length
  · rw [if_pos h]
    exact ev_pos (by omega) (ev_now rfl)
  rw [if_neg h]
  refine ev_neg (by omega) ?_
  have t := laws_toCommandS_f l (by omega)
  have hm : (l.map toC).length ≤ 1048576 := by rw [List.length_map]; omega
  have hs := spec_TravelOf_f (l.map toC) hm
  have hi := impl_TravelOf_f (l.map toC) hm
  generalize l.map toC = xs at *
  generalize resTravel xs = r at *
  obtain ⟨r1, r2, r3⟩ := r
  have ex := laws_eqCommandS_f xs (by omega)
  refine ev_bind t (ev_bind hs (ev_bind t (ev_bind hi (ev_pos rfl (ev_pos rfl (ev_pos rfl (ev_bind t (ev_bind ex (ev_pos rfl (ev_now rfl))))))))))
theorem walkFnExactTravelOf (A0 : Option Addr) (c0 : Nat) (l0 : (List S139)) (w : World) (hr0 : Kd.C k139 w A0 l0.length l0) (hc0 : l0.length ≤ c0) (hm0 : l0.length ≤ maxLen) (hg0 : ∀ y ∈ l0, g139 y) :
    Calls Try.prog 9 #[.slice A0 l0.length c0] w fun e w' => e = .returned (.bool true) ∧ Below w.heap.size w w' := by
  unfold maxLen at hm0
  obtain ⟨k, h⟩ := (pure_FnExactTravelOf l0 hm0).rounds
  exact laws_FnExactTravelOf.calls k A0 c0 l0 true w hr0 hc0 h

end Go.Proofs.Ytgpdjpololkhbaa.Pure

namespace Go.Proofs.Ytgpdjpololkhbaa.fnExactTravelOf
open Go.ChangeShapes Go.WideShapes Go.ChangeAt Go.RowKit Go.Proofs.YtgpdjpololkhbaaO Go.Proofs.Ytgpdjpololkhbaa.F Go.Proofs.YtgpdjpololkhbaaW.PrintWords
open Go.ChangeMaps (open_string shut_string)
set_option linter.unusedVariables false
theorem own : ownKnob Try.prog.godebug = none := by kernel_rfl
theorem laidOut : laidOutB Try.prog = true := by kernel_rfl
set_option maxRecDepth 100000 in
theorem lifted (os : Os) (started : os.Started) (H : Type) (enc : TypeId × Value → H) :
    ReturnsInHanded {} Try.checked os 9 .any (Rows.fnExactTravelOfSpec.pre6 enc Try.prog Try.f9 Rows.fnExactTravelOfRow.domain false) (Rows.fnExactTravelOfSpec.post enc Try.prog Try.f9 false true false false) := by
  refine returnsInHanded_of_change (C := Try.checked) own started (by kernel_rfl) Try.func9
    (ChangeSpec.witness6 (enc := enc) (C := Try.checked) false ⟨#[], #[.slice none 0 0], []⟩ 8 (by kernel_rfl) (by kernel_rfl) (by kernel_rfl) (by kernel_rfl)) ?_
  intro W base args ds gs before hval0 hW hcnd _
  have hval : ∀ (j : Nat) t v, Try.f9.params[j]? = some t → args[j]? = some v → Value.okWide Try.prog W .any base t v := hval0
  have hW' := hW
  obtain ⟨p, q, hA0, hV, rfl, hfz, hnd⟩ := hW
  have hA : DataW.TrodAll enc Try.prog W 0 (fun _ => true) true Try.f9.params.toList args.toList ds p := hA0
  rw [Try.params9] at hA hval
  obtain ⟨v0, vs0, d0, ds0, p0, q0, hargs, rfl, rfl, h0, r0⟩ := trodAll_cons hA
  obtain ⟨rfl, rfl, rfl⟩ := trodAll_nil r0
  obtain rfl : args = #[v0] := by cases args; simp_all
  obtain ⟨rfl, rfl⟩ := trodVars_none hV
  obtain ⟨a0, len0, cap0, rfl⟩ := okWide_slice Try.underlying42 (hval 0 42 v0 rfl rfl)
  have k0_ := h0
  have lt0 : ∀ x ∈ p0, x.block < W.heap.size := by obtain ⟨m, hm⟩ := k0_; exact DataW.trod_lt m _ _ _ hm
  obtain ⟨fuel0, hf0⟩ := h0
  obtain ⟨A0, l0, c0, hcs0, hc0, hb0, hr0, hg0⟩ := opens_row (d := k139) (G := g139) Try.underlying42 (by kernel_rfl) o139 hf0
  simp [Value.cells] at hcs0
  obtain ⟨rfl, rfl, rfl⟩ := hcs0
  clear hA0 hval0
  refine (Pure.walkFnExactTravelOf _ _ l0 W hr0 hc0 (Nat.le_trans hc0 hb0) hg0).mono fun e W' ⟨he, bel⟩ => ?_
  subst he
  exact ⟨_, rfl, _, _, _, [], _, [], hW', trodAll_mk1 (shut_bool Try.underlying4 _), (trodAll_cons_mk (Below.trod laidOut (by kernel_rfl) (of_decide_eq_true (by kernel_rfl)) k0_ bel lt0) trodAll_mk0), rfl, bel.frame _, fun h => by cases h⟩
theorem over : Rows.fnExactTravelOfRow.holds Try.pinned (OpenSpec.ofChange Rows.fnExactTravelOfSpec) :=
  OpenClaim.holds_of_wide 9 Try.f9 rfl rfl rfl rfl rfl rfl rfl ⟨rfl, rfl, rfl, rfl, rfl⟩ rfl rfl rfl rfl rfl (by kernel_rfl) Try.func9 (by kernel_rfl)
    (of_decide_eq_true (by kernel_rfl)) (by unfold Func.isWrapper; first | (rw [if_pos (by decide +kernel)]; kernel_rfl) | (rw [if_neg (by decide +kernel)]; exact ⟨rfl, rfl⟩))
    (fun os started H enc _ => lifted os started H enc)
theorem proved : Rows.FnExactTravelOfSaid := over
end Go.Proofs.Ytgpdjpololkhbaa.fnExactTravelOf
namespace Go.Proofs.Ytgpdjpololkhbaa
/-- The row, under a short name, for the claim. -/
theorem fnExactTravelOf_holds : Rows.FnExactTravelOfSaid := fnExactTravelOf.proved
end Go.Proofs.Ytgpdjpololkhbaa
#print axioms Go.Proofs.Ytgpdjpololkhbaa.fnExactTravelOf_holds
