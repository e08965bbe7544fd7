/-
  A part of the proof of FnExactSplitProgram: contracts of the Go functions that it reaches, and plain statements on what they come to; each says its own conditions.
-/
import Derived.Test.YtgpdjpololkhbaaKFnExactSplitProgram1

namespace Go.Proofs.Ytgpdjpololkhbaa.F
open Go.RowKit Go.Proofs.YtgpdjpololkhbaaW.PrintWords Go.Proofs.YtgpdjpololkhbaaW.PrintLast Go.Proofs.YtgpdjpololkhbaaW.PrintMore
attribute [local go_sem] max2_int min2_int max_two min_two max_three min_three max_four min_four   -- for this text's walks alone
set_option linter.unusedVariables false
set_option linter.unusedSimpArgs false

/-! ### impl_SplitProgram: function 33 -/
def impl_SplitProgram.l0 : Nat → List (S137) → Int → List (List (S137)) → Option ((List (List (S137))) × Int)
  | 0, _, _, _ => none
  | k + 1, x0, x1, x7 => if (x0.length : Int) > 0 then ((some (([] : List (S137)) : List (S137))).bind fun y547 => (if 0 ≤ (mn x1 (x0.length : Int)) then (if (mn x1 (x0.length : Int)) ≤ (x0.length : Int) then ((some (x0.take ((mn x1 (x0.length : Int)) : Int).toNat : List (S137))).bind fun y550 => (if y547.length + y550.length < 5864062014805 then (if x7.length < 5864062014805 then (impl_SplitProgram.l0 k (x0.drop ((mn x1 (x0.length : Int)) : Int).toNat) x1 (x7 ++ [(y547 ++ y550)])) else (none)) else (none))) else (none)) else (none))) else (some (x7, 0))
def impl_SplitProgram.f (k : Nat) (l0 : List (S137)) (a1 : Int) : Option ((List (List (S137))) × Int) := (impl_program.f k l0).bind fun t542 => (if t542 = 0 then ((impl_in.f a1 1 400).bind fun t543 => (if t543 = true then (impl_SplitProgram.l0 k l0 a1 (([] : List (List (S137))))) else (some (([] : List (List (S137))), 2)))) else (some (([] : List (List (S137))), t542)))
theorem impl_SplitProgram.mono_l : ∀ k, (∀ y0 y1 y2, LeO (impl_SplitProgram.l0 k y0 y1 y2) (impl_SplitProgram.l0 (k + 1) y0 y1 y2))
  | 0 => fun _ _ _ r h => by simp [impl_SplitProgram.l0] at h
  | k + 1 => by
    have ih0 := impl_SplitProgram.mono_l k
    · intro y0 y1 y2
      unfold impl_SplitProgram.l0
      repeat' first
      | (with_reducible exact ih0 _ _ _)
      | (with_reducible exact impl_program.mono _ _)
      | (with_reducible exact LeO.refl _)
      | (with_reducible exact LeO.none _)
      | (with_reducible refine LeO.ite ?_ ?_)
      | (with_reducible refine LeO.bind ?_ (fun _ => ?_))
      | exact ih0 _ _ _
      | exact impl_program.mono _ _
      | exact LeO.none _
      | refine LeO.ite ?_ ?_
      | refine LeO.bind ?_ (fun _ => ?_)
theorem impl_SplitProgram.mono : ∀ a0 a1 k, LeO (impl_SplitProgram.f k a0 a1) (impl_SplitProgram.f (k + 1) a0 a1) := by
  intro a0 a1 k
  have ih0 := impl_SplitProgram.mono_l k
  unfold impl_SplitProgram.f
  repeat' first
      | (with_reducible exact ih0 _ _ _)
      | (with_reducible exact impl_program.mono _ _)
      | (with_reducible exact LeO.refl _)
      | (with_reducible exact LeO.none _)
      | (with_reducible refine LeO.ite ?_ ?_)
      | (with_reducible refine LeO.bind ?_ (fun _ => ?_))
      | exact ih0 _ _ _
      | exact impl_program.mono _ _
      | exact LeO.none _
      | refine LeO.ite ?_ ?_
      | refine LeO.bind ?_ (fun _ => ?_)
set_option maxHeartbeats 8000000 in
set_option maxRecDepth 100000 in
theorem impl_SplitProgram.calls (k : Nat) (P0_ : Nat → Prop) (A0 : Option Addr) (c0 : Nat) (l0 : List (S137)) (a1 : Int) (r1 : List (List (S137))) (r2 : Int) (w : World) (hs0 : Kd.V k137 137 w w.heap.size (fun k_ => P0_ k_) (.slice A0 l0.length c0) l0) (h : impl_SplitProgram.f k l0 a1 = some (r1, r2)) :
    Calls Try.prog 33 #[.slice A0 l0.length c0, .int .i64 a1] w fun e w' => ∃ v0_ : Value, e = .returned (.tuple #[v0_, .int .i64 r2]) ∧ Kd.S (Kd.slice 137 k137) 47 w' w.heap.size (fun k_ => (w.heap.size ≤ k_)) v0_ r1 ∧ Below w.heap.size w w' := by
  have HO0 := Aside0.mk (show Kd.V k137 137 w w.heap.size (fun k_ => (P0_ k_ ∨ w.heap.size ≤ k_)) (.slice A0 l0.length c0) l0 from Kd.V_mono hs0 (fun k_ hk => .inl hk))
  have HB := Aside0.mk (Below.refl w.heap.size w)
  have H : ((impl_program.f k l0).bind fun t542 => (if t542 = 0 then ((impl_in.f a1 1 400).bind fun t543 => (if t543 = true then (impl_SplitProgram.l0 k l0 a1 (([] : List (List (S137))))) else (some (([] : List (List (S137))), 2)))) else (some (([] : List (List (S137))), t542)))) = some (r1, r2) := h
  clear h
  replace H := Option.bind_eq_some_iff.mp H
  obtain ⟨t542, A30, H⟩ := H
  replace H : (if t542 = 0 then ((impl_in.f a1 1 400).bind fun t543 => (if t543 = true then (impl_SplitProgram.l0 k l0 a1 (([] : List (List (S137))))) else (some (([] : List (List (S137))), 2)))) else (some (([] : List (List (S137))), t542))) = some (r1, r2) := H
  have A3 := Aside0.mk A30
  clear A30
  by_cases c4 : t542 = 0
  · rw [if_pos c4] at H
    have c4b0 : (t542 == 0) = true := beq_iff_eq.mpr c4
    have c4b1 : (t542 != 0) = false := bne_eq_false_iff_eq.mpr c4
    clear c4
    replace H := Option.bind_eq_some_iff.mp H
    obtain ⟨t543, A50, H⟩ := H
    replace H : (if t543 = true then (impl_SplitProgram.l0 k l0 a1 (([] : List (List (S137))))) else (some (([] : List (List (S137))), 2))) = some (r1, r2) := H
    have A5 := Aside0.mk A50
    clear A50
    by_cases c6 : t543 = true
    · subst c6
      have H1 : (impl_SplitProgram.l0 k l0 a1 (([] : List (List (S137))))) = some (r1, r2) := by rw [if_pos rfl] at H; exact H
      clear H
      have H := H1
      clear H1
      obtain ⟨y544, hy544⟩ : ∃ y_ : List (List (S137)), y_ = (([] : List (List (S137)))) := ⟨_, rfl⟩
      replace H : (impl_SplitProgram.l0 k l0 a1 y544) = some (r1, r2) := by first | (rw [hy544]; with_reducible exact H) | (have H2_ := (Option.bind_some _ _).symm.trans H; rw [hy544]; with_reducible exact H2_) | (have H2_ := (Option.bind_some _ _).symm.trans H; with_reducible exact H2_) | with_reducible exact H | (rw [hy544]; exact H) | exact H
      have Ny544 := Aside0.mk hy544
      clear hy544
      have H' := Aside0.mk H
      clear H
      go_enter Try.func33, Try.ntmps33
      go_wp2_with (first | ((with_reducible refine gate_callee (f := 91) rfl ?_); refine goesL_ (some 10) rfl rfl Try.func91 (by kernel_rfl) rfl #[.slice A0 l0.length c0] rfl (by (try simp only [List.map_toArray, List.map_cons, List.map_nil]); first | done | rfl | (simp only [List.length_drop, List.length_take]; rfl)) ?_; (with_reducible refine (impl_program.calls k _ _ l0 t542 _ ?side1 ?side2 A3.out).mono ?_); (case side1 => repeat (first | exact (Kd.V_reads' HO0.out).2.2 | (with_reducible refine Kd.C_alloc ?_ _) | (with_reducible refine Kd.C_drewN ?_ _) | (with_reducible refine Kd.C_drew ?_))); (case side2 => exact (Kd.V_reads' HO0.out).2.1); rintro e w7 ⟨rfl, hb⟩; refine ⟨_, rfl, ?_⟩; have n0_ := Aside0.mk (Kd.V_below (by (with_reducible repeat (first | apply Kd.V_alloc | apply Kd.V_drewN | apply Kd.V_drew)); exact HO0.out) hb); have n1_ := Aside0.mk (below_step (by repeat (first | (with_reducible first | exact HB.out | apply below_alloc | apply pw_below_drewN | apply below_drew1) | exact HB.out)) hb); clear HO0; clear HB; have HO0 := n0_; have HB := n1_; clear n0_ n1_; (try clear hb); (try clear hb2); (try clear hk); (try clear hi)) | ((with_reducible refine gate_callee (f := 92) rfl ?_); refine goesL_ (some 15) rfl rfl Try.func92 (by kernel_rfl) rfl #[.int .i64 a1, .int .i64 1, .int .i64 400] rfl (by (try simp only [List.map_toArray, List.map_cons, List.map_nil]); first | done | rfl | (simp only [List.length_drop, List.length_take]; rfl)) ?_; (with_reducible refine (impl_in.calls a1 1 400 true _ A5.out).mono ?_); rintro e w' ⟨rfl, ⟨nd, rfl⟩⟩; refine ⟨_, rfl, ?_⟩) | ((with_reducible refine gate_dst (N := 17) rfl ?_); refine Kd.S_lit (Kd.slice 137 k137) _ 47 ?hg (N := 17) ?hd (xs := ([] : List (List (S137)))) (inner := []) (ok := fun _ => True) (okp := fun _ => True) ?hr ?hp (fun _ hk => hk) trivial (Below.refl _ _) (Nat.le_refl _) (by simp) ?_; (case hd => rfl); (case hg => rfl); (case hr => first | (go_simp; done) | (go_simp; rfl)); (case hp => exact (Reps.none _ _)); intro v545 w8 ho9 hb hg_ hnew_; clear hg_ hnew_; (first | rw [← Ny544.out] at ho9 | (simp only [Int.reduceToNat] at ho9; rw [← Ny544.out] at ho9)); have n0_ := Aside0.mk (Kd.V_elder' (by (with_reducible repeat (first | apply Kd.V_alloc | apply Kd.V_drewN | apply Kd.V_drew)); exact HO0.out) (Kd.S_base ho9) hb); have n1_ := Aside0.mk (Kd.S_lower (Kd.S_newM (M := fun k_ => (w.heap.size ≤ k_)) ho9 (below_size (by repeat (first | (with_reducible first | exact HB.out | apply below_alloc | apply pw_below_drewN | apply below_drew1) | exact HB.out))) (fun k_ h_ => h_)) (below_size (by repeat (first | (with_reducible first | exact HB.out | apply below_alloc | apply pw_below_drewN | apply below_drew1) | exact HB.out)))); have n2_ := Aside0.mk (below_step (by repeat (first | (with_reducible first | exact HB.out | apply below_alloc | apply pw_below_drewN | apply below_drew1) | exact HB.out)) hb); clear HO0; clear HB; have HO0 := n0_; have HO546 := n1_; have HB := n2_; clear n0_ n1_ n2_; clear hb ho9))
      go_loopg [0, 7] k (fun kq v0 v7 w' => ∃ (x0_1 : List (S137)) (x7_1 : List (List (S137))), Aside0 (impl_SplitProgram.l0 kq x0_1 a1 x7_1 = some (r1, r2)) ∧ Aside0 (kq ≤ k) ∧ Aside0 (Kd.V k137 137 w' w.heap.size (fun k_ => (P0_ k_ ∨ w.heap.size ≤ k_) ∧ some k_ ≠ (v7 : Value).ownBlock) v0 x0_1) ∧ Aside0 (Kd.S (Kd.slice 137 k137) 47 w' w.heap.size (fun k_ => (w.heap.size ≤ k_)) v7 x7_1) ∧ Aside0 (Below w.heap.size w w'))
      case atStart => exact ⟨(l0), (y544), H', ⟨Nat.le_refl _⟩, ⟨by (with_reducible repeat (first | apply Kd.V_alloc | apply Kd.V_drewN | apply Kd.V_drew)); exact HO0.out⟩, ⟨by (with_reducible repeat (first | apply Kd.S_alloc | apply Kd.S_drewN | apply Kd.S_drew)); exact Kd.S_mono HO546.out (fun _ hk => hk.1)⟩, ⟨by repeat (first | (with_reducible first | exact HB.out | apply below_alloc | apply pw_below_drewN | apply below_drew1) | exact HB.out)⟩⟩
      case round =>
        clear H'
        try clear p2
        try clear c3
        try clear c4
        try clear c4b0
        try clear c4b1
        try clear c6
        try clear c9
        obtain ⟨x0_1, x7_1, HA, HK1, HO_0, HO_7, HB⟩ := hrel
        cases gk with
        | zero => exact absurd HA.out (by simp [impl_SplitProgram.l0])
        | succ k1 =>
          have H := HA.out
          clear HA
          simp only [impl_SplitProgram.l0] at H
          by_cases c10 : (x0_1.length : Int) > 0
          · rw [if_pos c10] at H
            have c10b0 : decide (0 < (x0_1.length : Int)) = true := decide_eq_true c10
            have c10b1 : decide (0 < x0_1.length) = true := decide_eq_true (by omega)
            clear c10
            obtain ⟨ji11, hji11⟩ : ∃ j_ : Int, (mn a1 (x0_1.length : Int)) = j_ := ⟨_, rfl⟩
            replace H : ((some (([] : List (S137)) : List (S137))).bind fun y547 => (if 0 ≤ (ji11) then (if (ji11) ≤ (x0_1.length : Int) then ((some (x0_1.take ((ji11) : Int).toNat : List (S137))).bind fun y550 => (if y547.length + y550.length < 5864062014805 then (if x7_1.length < 5864062014805 then (impl_SplitProgram.l0 k1 (x0_1.drop ((ji11) : Int).toNat) a1 (x7_1 ++ [(y547 ++ y550)])) else (none)) else (none))) else (none)) else (none))) = some (r1, r2) := by first | (rw [hji11] at H; exact H) | (simp only [hji11] at H ⊢; exact H)
            have hji11_ : (if (x0_1.length : Int) < a1 then (x0_1.length : Int) else a1) = ji11 := hji11
            obtain ⟨y547, hy547⟩ : ∃ y_ : List (S137), y_ = (([] : List (S137))) := ⟨_, rfl⟩
            replace H : (if 0 ≤ (ji11) then (if (ji11) ≤ (x0_1.length : Int) then ((some (x0_1.take ((ji11) : Int).toNat : List (S137))).bind fun y550 => (if y547.length + y550.length < 5864062014805 then (if x7_1.length < 5864062014805 then (impl_SplitProgram.l0 k1 (x0_1.drop ((ji11) : Int).toNat) a1 (x7_1 ++ [(y547 ++ y550)])) else (none)) else (none))) else (none)) else (none)) = some (r1, r2) := by first | (rw [hy547]; with_reducible exact H) | (have H2_ := (Option.bind_some _ _).symm.trans H; rw [hy547]; with_reducible exact H2_) | (have H2_ := (Option.bind_some _ _).symm.trans H; with_reducible exact H2_) | with_reducible exact H | (rw [hy547]; exact H) | exact H
            have Ny547 := Aside0.mk hy547
            clear hy547
            by_cases c12 : 0 ≤ (ji11)
            · rw [if_pos c12] at H
              have c12b0 := eq_true c12
              have c12b1 : decide (0 ≤ (ji11)) = true := decide_eq_true c12
              clear c12
              by_cases c13 : (ji11) ≤ (x0_1.length : Int)
              · rw [if_pos c13] at H
                have c13b0 := eq_true c13
                have c13b1 : decide ((ji11) ≤ (x0_1.length : Int)) = true := decide_eq_true c13
                clear c13
                obtain ⟨y550, hy550⟩ : ∃ y_ : List (S137), y_ = (x0_1.take ((ji11) : Int).toNat) := ⟨_, rfl⟩
                replace H : (if y547.length + y550.length < 5864062014805 then (if x7_1.length < 5864062014805 then (impl_SplitProgram.l0 k1 (x0_1.drop ((ji11) : Int).toNat) a1 (x7_1 ++ [(y547 ++ y550)])) else (none)) else (none)) = some (r1, r2) := by first | (rw [hy550]; with_reducible exact H) | (have H2_ := (Option.bind_some _ _).symm.trans H; rw [hy550]; with_reducible exact H2_) | (have H2_ := (Option.bind_some _ _).symm.trans H; with_reducible exact H2_) | with_reducible exact H | (rw [hy550]; exact H) | exact H
                have Ny550 := Aside0.mk hy550
                clear hy550
                by_cases c14 : y547.length + y550.length < 5864062014805
                · rw [if_pos c14] at H
                  have LMc14 := Aside0.mk c14
                  clear c14
                  obtain ⟨y555, hy555⟩ : ∃ y_ : List (S137), y_ = (y547 ++ y550) := ⟨_, rfl⟩
                  replace H : (if x7_1.length < 5864062014805 then (impl_SplitProgram.l0 k1 (x0_1.drop ((ji11) : Int).toNat) a1 (x7_1 ++ [y555])) else (none)) = some (r1, r2) := by first | (rw [hy555]; with_reducible exact H) | (have H2_ := (Option.bind_some _ _).symm.trans H; rw [hy555]; with_reducible exact H2_) | (have H2_ := (Option.bind_some _ _).symm.trans H; with_reducible exact H2_) | with_reducible exact H | (rw [hy555]; exact H) | exact H
                  have Ny555 := Aside0.mk hy555
                  clear hy555
                  by_cases c15 : x7_1.length < 5864062014805
                  · rw [if_pos c15] at H
                    have LMc15 := Aside0.mk c15
                    clear c15
                    obtain ⟨y558, hy558⟩ : ∃ y_ : List (List (S137)), y_ = (x7_1 ++ [y555]) := ⟨_, rfl⟩
                    replace H : (impl_SplitProgram.l0 k1 (x0_1.drop ((ji11) : Int).toNat) a1 y558) = some (r1, r2) := by first | (rw [hy558]; with_reducible exact H) | (have H2_ := (Option.bind_some _ _).symm.trans H; rw [hy558]; with_reducible exact H2_) | (have H2_ := (Option.bind_some _ _).symm.trans H; with_reducible exact H2_) | with_reducible exact H | (rw [hy558]; exact H) | exact H
                    have Ny558 := Aside0.mk hy558
                    clear hy558
                    have c16b0 := eq_true (of_decide_eq_true (by first | (with_reducible assumption) | assumption) : 0 ≤ (ji11))
                    have c17b0 := eq_true (of_decide_eq_true (by first | (with_reducible assumption) | assumption) : (ji11) ≤ (x0_1.length : Int))
                    obtain ⟨y561, hy561⟩ : ∃ y_ : List (S137), y_ = (x0_1.drop ((ji11) : Int).toNat) := ⟨_, rfl⟩
                    replace H : (impl_SplitProgram.l0 k1 y561 a1 y558) = some (r1, r2) := by first | (rw [hy561]; with_reducible exact H) | (have H2_ := (Option.bind_some _ _).symm.trans H; rw [hy561]; with_reducible exact H2_) | (have H2_ := (Option.bind_some _ _).symm.trans H; with_reducible exact H2_) | with_reducible exact H | (rw [hy561]; exact H) | exact H
                    have Ny561 := Aside0.mk hy561
                    clear hy561
                    have H' := Aside0.mk H
                    clear H
                    obtain ⟨Ao18, co18, eo18⟩ := Kd.V_slice HO_0.out
                    subst eo18
                    go_wp2_with (first | ((with_reducible refine gate_dst (N := 26) rfl ?_); refine Kd.R_lit k137 _ 137 ?hg (N := 26) ?hd (xs := ([] : List (S137))) (inner := []) (ok := fun _ => True) (okp := fun _ => True) ?hr ?hp (fun _ hk => hk) trivial (Below.refl _ _) (Nat.le_refl _) (by simp) ?_; (case hd => rfl); (case hg => rfl); (case hr => first | (go_simp; done) | (go_simp; rfl)); (case hp => exact (Reps.none _ _)); intro v548 w19 ho20 hb hg_ hnew_; clear hg_ hnew_; (first | rw [← Ny547.out] at ho20 | (simp only [Int.reduceToNat] at ho20; rw [← Ny547.out] at ho20)); have n0_ := Aside0.mk (Kd.V_elder' (by (with_reducible repeat (first | apply Kd.V_alloc | apply Kd.V_drewN | apply Kd.V_drew)); exact HO_0.out) (Kd.R_base ho20) hb); have n1_ := Aside0.mk (Kd.S_elder' (by (with_reducible repeat (first | apply Kd.S_alloc | apply Kd.S_drewN | apply Kd.S_drew)); exact HO_7.out) (Kd.R_base ho20) hb); have n2_ := Aside0.mk (Kd.R_lower (Kd.R_newM (M := fun k_ => (w.heap.size ≤ k_)) ho20 (below_size (by repeat (first | (with_reducible first | exact HB.out | apply below_alloc | apply pw_below_drewN | apply below_drew1) | exact HB.out))) (fun k_ h_ => h_)) (below_size (by repeat (first | (with_reducible first | exact HB.out | apply below_alloc | apply pw_below_drewN | apply below_drew1) | exact HB.out)))); have n3_ := Aside0.mk (below_step (by repeat (first | (with_reducible first | exact HB.out | apply below_alloc | apply pw_below_drewN | apply below_drew1) | exact HB.out)) hb); clear HO_0; clear HO_7; clear HB; have HO_0 := n0_; have HO_7 := n1_; have HO549 := n2_; have HB := n3_; clear n0_ n1_ n2_ n3_; clear hb ho20; have q21 : ((ji11) : Int) ≤ ((x0_1.length : Int) : Int) := of_decide_eq_true (by first | (with_reducible assumption) | assumption); obtain ⟨i021, hi021, _, hsz21, _⟩ := info_parts info137; have hroom21 : x0_1.length ≤ co18 := (Kd.V_reads' HO_0.out).2.1; have hC21 : Kd.F k137 _ _ Ao18 x0_1.length x0_1 := (Kd.V_at (base := w.heap.size) HO_0.out).2.2; have hcut21 := cut_to (P := Try.prog) 47 137 .i64 Try.underlying47 hi021 Ao18 x0_1.length co18 (ji11) (of_decide_eq_true (by first | (with_reducible assumption) | assumption)) q21 hroom21; have hr21 := Kd.F_take (m := ((ji11) : Int).toNat) hC21 (by omega); have hy21 : y550.length = ((ji11) : Int).toNat := (by rw [Ny550.out, List.length_take]; omega); rw [← Ny550.out] at hr21; rw [← hy21] at hcut21; have HO554 := Aside0.mk (show Kd.V k137 137 _ w.heap.size _ (.slice Ao18 y550.length co18) y550 from Kd.V_mk (by omega) hr21); have HC554 := Aside0.mk (show y550.length ≤ co18 from by omega); clear hr21 hC21 hroom21 hi021 hsz21; have KY21 := Aside0.mk hy21; clear hy21; replace q21 := eq_true q21) | ((with_reducible refine gate_builtin (b := .append) (xs := #[.tmp 26, .tmp 29]) rfl ?_); at_builtin; refine Kd.R_append_rows k137 (w0 := w) w.heap.size rfl (.tmp 26) (.tmp 29) 47 137 (.agg #[(.int .u8 0), (.int .i64 0), (.int .i64 0)]) 24 rfl Try.underlying47 info137 rfl (by decide) (by omega) v548 y547 y550 _ _ _ (fun k_ => (w.heap.size ≤ k_)) (fun _ => False) rfl rfl ?aO ?aR (fun _ _ h => h) (fun _ h => h.elim) ?aF ?aB ?aS ?aL ?_; (case aR => repeat (first | exact (Kd.V_reads' HO554.out).2.2 | (with_reducible refine Kd.C_alloc ?_ _) | (with_reducible refine Kd.C_drewN ?_ _) | (with_reducible refine Kd.C_drew ?_))); (case aB => exact (by repeat (first | (with_reducible first | exact HB.out | apply below_alloc | apply pw_below_drewN | apply below_drew1) | exact HB.out))); (case aF => exact (fun k_ hk => (Nat.le_trans (below_size (by repeat (first | (with_reducible first | exact HB.out | apply below_alloc | apply pw_below_drewN | apply below_drew1) | exact HB.out))) hk))); (case aO => exact (by (with_reducible repeat (first | apply Kd.R_alloc | apply Kd.R_drewN | apply Kd.R_drew)); exact Kd.R_mono HO549.out (fun _ hk => hk.1))); (case aS => exact (below_size (by repeat (first | (with_reducible first | exact HB.out | apply below_alloc | apply pw_below_drewN | apply below_drew1) | exact HB.out)))); (case aL => have := LMc14.out; omega); intro v556 w22 ho hb hg hat; rw [← Ny555.out] at ho; have n0_ := Aside0.mk (Kd.V_afterv (ok := (fun k_ => (P0_ k_ ∨ w.heap.size ≤ k_) ∧ some k_ ≠ (u7 : Value).ownBlock)) (by (with_reducible repeat (first | apply Kd.V_alloc | apply Kd.V_drewN | apply Kd.V_drew)); exact HO_0.out) hg hat); have n1_ := Aside0.mk (Kd.S_after (ok := (fun k_ => (w.heap.size ≤ k_))) (by (with_reducible repeat (first | apply Kd.S_alloc | apply Kd.S_drewN | apply Kd.S_drew)); exact HO_7.out) hg hat); have n2_ := Aside0.mk (Kd.V_afterv (ok := (fun k_ => (P0_ k_ ∨ w.heap.size ≤ k_) ∧ some k_ ≠ (u7 : Value).ownBlock)) (by (with_reducible repeat (first | apply Kd.V_alloc | apply Kd.V_drewN | apply Kd.V_drew)); exact HO554.out) hg hat); have n3_ := Aside0.mk (hb); have n4_ := Aside0.mk (ho); clear HO_0; clear HO_7; clear HO554; clear HB; clear HO549; have HO_0 := n0_; have HO_7 := n1_; have HO554 := n2_; have HB := n3_; have HO557 := n4_; clear n0_ n1_ n2_ n3_ n4_; clear ho hb hg hat; obtain ⟨Ao24, co24, eo24⟩ := Kd.R_slice HO557.out; subst eo24) | ((with_reducible refine gate_builtin (b := .append) (xs := #[.tmp 25, .tmp 31]) rfl ?_); at_builtin; refine Kd.S_append (Kd.slice 137 k137) (w0 := w) w.heap.size rfl (.tmp 25) (.tmp 31) 44 47 (.slice none 0 0) 24 rfl Try.underlying44 info47 rfl (by decide) (by omega) u7 x7_1 y555 [.slice Ao24 y555.length co24] (fun k_ => (w.heap.size ≤ k_)) (fun k_ => some k_ = (.slice Ao24 y555.length co24 : Value).ownBlock) rfl rfl ?aP (fun k_ hk_ => ((Kd.R_mono (ok' := fun k_ => ((fun k_ => (w.heap.size ≤ k_))) k_ ∧ some k_ ≠ (u7 : Value).ownBlock) (Kd.R_apart' (HO557.out) (Kd.S_typed HO_7.out) (by decide)) (fun k_ hk => ⟨hk.1, hk.2⟩))).1 k_ hk_.symm) ?aF ?aO ?aB ?aS ?aL ?_; (case aP => exact Kd.M_row (Kd.R_mono (Kd.R_tight rfl (Kd.R_mono (ok' := fun k_ => ((fun k_ => (w.heap.size ≤ k_))) k_ ∧ some k_ ≠ (u7 : Value).ownBlock) (Kd.R_apart' (HO557.out) (Kd.S_typed HO_7.out) (by decide)) (fun k_ hk => ⟨hk.1, hk.2⟩))) (fun _ h_ => h_))); (case aB => exact (by repeat (first | (with_reducible first | exact HB.out | apply below_alloc | apply pw_below_drewN | apply below_drew1) | exact HB.out))); (case aF => exact (fun k_ hk => (Nat.le_trans (below_size (by repeat (first | (with_reducible first | exact HB.out | apply below_alloc | apply pw_below_drewN | apply below_drew1) | exact HB.out))) hk))); (case aO => exact (by (with_reducible repeat (first | apply Kd.S_alloc | apply Kd.S_drewN | apply Kd.S_drew)); exact Kd.S_mono HO_7.out (fun k_ hk => ⟨hk.1, fun e_ => hk.2 e_⟩))); (case aS => exact (below_size (by repeat (first | (with_reducible first | exact HB.out | apply below_alloc | apply pw_below_drewN | apply below_drew1) | exact HB.out)))); (case aL => have := LMc15.out; omega); intro v559 w23 ho hb hg hat; rw [← Ny558.out] at ho; have n0_ := Aside0.mk (Kd.V_afterv (ok := (fun k_ => (P0_ k_ ∨ w.heap.size ≤ k_) ∧ some k_ ≠ (.slice Ao24 y555.length co24 : Value).ownBlock)) (by (with_reducible repeat (first | apply Kd.V_alloc | apply Kd.V_drewN | apply Kd.V_drew)); exact Kd.V_mono HO_0.out (fun _ hk => ⟨⟨hk.1.1, hk.2⟩, hk.1.2⟩)) hg hat); have n1_ := Aside0.mk (Kd.V_afterv (ok := (fun k_ => (P0_ k_ ∨ w.heap.size ≤ k_) ∧ some k_ ≠ (.slice Ao24 y555.length co24 : Value).ownBlock)) (by (with_reducible repeat (first | apply Kd.V_alloc | apply Kd.V_drewN | apply Kd.V_drew)); exact Kd.V_mono HO554.out (fun _ hk => ⟨⟨hk.1.1, hk.2⟩, hk.1.2⟩)) hg hat); have n2_ := Aside0.mk (hb); have n3_ := Aside0.mk (ho); clear HO_0; clear HO554; clear HB; clear HO_7; clear HO557; have HO_0 := n0_; have HO554 := n1_; have HB := n2_; have HO560 := n3_; clear n0_ n1_ n2_ n3_; clear ho hb hg hat; have q25 : ((ji11) : Int) ≤ ((x0_1.length : Int) : Int) := of_decide_eq_true (by first | (with_reducible assumption) | assumption); obtain ⟨i025, hi025, _, hsz25, _⟩ := info_parts info137; have hroom25 : x0_1.length ≤ co18 := (Kd.V_reads' HO_0.out).2.1; have hC25 : Kd.F k137 _ _ Ao18 x0_1.length x0_1 := (Kd.V_at (base := w.heap.size) HO_0.out).2.2; have q025 : (0 : Int) ≤ ((ji11) : Int) := of_decide_eq_true (by first | (with_reducible assumption) | assumption); have hcut25 := cut_from (P := Try.prog) 47 137 .i64 Try.underlying47 hi025 3 hsz25 Ao18 x0_1.length co18 (ji11) q025 q25; have hr25 := Kd.F_cut (m := ((ji11) : Int).toNat) (c := co18) hC25 (by omega) hroom25; obtain ⟨A25, hA25⟩ : ∃ A1, A1 = (if co18 = ((ji11) : Int).toNat then Ao18 else (Ao18 : Option Addr).map (·.add (((ji11) : Int).toNat * 3))) := ⟨_, rfl⟩; obtain ⟨c25, hc25⟩ : ∃ c1, c1 = co18 - ((ji11) : Int).toNat := ⟨_, rfl⟩; have hy25 : y561.length = x0_1.length - ((ji11) : Int).toNat := (by rw [Ny561.out, List.length_drop] <;> omega); rw [show (x0_1).drop ((ji11) : Int).toNat = y561 from Ny561.out.symm] at hr25; replace hr25 : Kd.F k137 _ _ A25 y561.length y561 := (by rw [hA25]; exact hr25); rw [← hy25, ← hA25, ← hc25] at hcut25; have HO565 := Aside0.mk (show Kd.V k137 137 _ w.heap.size _ (.slice A25 y561.length c25) y561 from Kd.V_mk (by rw [hy25, hc25]; exact Nat.sub_le_sub_right hroom25 _) hr25); have HC565 := Aside0.mk (show y561.length ≤ c25 from by rw [hy25, hc25]; exact Nat.sub_le_sub_right hroom25 _); clear hr25 hC25 hroom25 hi025 hsz25 hc25; have KY25 := Aside0.mk hy25; have KA25 := Aside0.mk hA25; clear hy25 hA25; replace q25 := eq_true q25))
                    go_roundg k1
                    case measure => have := HK1.out; omega
                    case rel => exact ⟨(y561), (y558), H', ⟨by have := HK1.out; omega⟩, ⟨by (with_reducible repeat (first | apply Kd.V_alloc | apply Kd.V_drewN | apply Kd.V_drew)); exact Kd.V_mono HO565.out (fun _ hk => ⟨hk.1.1, hk.2⟩)⟩, ⟨by (with_reducible repeat (first | apply Kd.S_alloc | apply Kd.S_drewN | apply Kd.S_drew)); exact HO560.out⟩, ⟨by repeat (first | (with_reducible first | exact HB.out | apply below_alloc | apply pw_below_drewN | apply below_drew1) | exact HB.out)⟩⟩
                  · rw [if_neg c15] at H
                    exact absurd H (by simp)
                · rw [if_neg c14] at H
                  exact absurd H (by simp)
              · rw [if_neg c13] at H
                exact absurd H (by simp)
            · rw [if_neg c12] at H
              exact absurd H (by simp)
          · rw [if_neg c10] at H
            have c10b0 : decide (0 < (x0_1.length : Int)) = false := decide_eq_false c10
            have c10b1 : decide (0 < x0_1.length) = false := decide_eq_false (by omega)
            clear c10
            simp only [Option.some.injEq, Prod.mk.injEq] at H
            obtain ⟨rfl, rfl⟩ := H
            obtain ⟨Ao26, co26, eo26⟩ := Kd.V_slice HO_0.out
            subst eo26
            go_wp2
            go_ret2
            exact ⟨_, by first | rfl | (simp [errW_none, errW_some] <;> rfl) | (simp [*, errW_none, errW_some] <;> rfl), by (with_reducible repeat (first | apply Kd.S_alloc | apply Kd.S_drewN | apply Kd.S_drew)); exact HO_7.out, by repeat (first | (with_reducible first | exact HB.out | apply below_alloc | apply pw_below_drewN | apply below_drew1) | exact HB.out)⟩
    · replace c6 := Bool.eq_false_iff.mpr c6
      subst c6
      have H1 : (some (([] : List (List (S137))), 2)) = some (r1, r2) := by rw [if_neg (show ¬ (false = true) by decide)] at H; exact H
      clear H
      have H := H1
      clear H1
      simp only [Option.some.injEq, Prod.mk.injEq] at H
      obtain ⟨rfl, rfl⟩ := H
      go_enter Try.func33, Try.ntmps33
      go_wp2_with (first | ((with_reducible refine gate_callee (f := 91) rfl ?_); refine goesL_ (some 10) rfl rfl Try.func91 (by kernel_rfl) rfl #[.slice A0 l0.length c0] rfl (by (try simp only [List.map_toArray, List.map_cons, List.map_nil]); first | done | rfl | (simp only [List.length_drop, List.length_take]; rfl)) ?_; (with_reducible refine (impl_program.calls k _ _ l0 t542 _ ?side1 ?side2 A3.out).mono ?_); (case side1 => repeat (first | exact (Kd.V_reads' HO0.out).2.2 | (with_reducible refine Kd.C_alloc ?_ _) | (with_reducible refine Kd.C_drewN ?_ _) | (with_reducible refine Kd.C_drew ?_))); (case side2 => exact (Kd.V_reads' HO0.out).2.1); rintro e w27 ⟨rfl, hb⟩; refine ⟨_, rfl, ?_⟩; have n0_ := Aside0.mk (Kd.V_below (by (with_reducible repeat (first | apply Kd.V_alloc | apply Kd.V_drewN | apply Kd.V_drew)); exact HO0.out) hb); have n1_ := Aside0.mk (below_step (by repeat (first | (with_reducible first | exact HB.out | apply below_alloc | apply pw_below_drewN | apply below_drew1) | exact HB.out)) hb); clear HO0; clear HB; have HO0 := n0_; have HB := n1_; clear n0_ n1_; (try clear hb); (try clear hb2); (try clear hk); (try clear hi)) | ((with_reducible refine gate_callee (f := 92) rfl ?_); refine goesL_ (some 15) rfl rfl Try.func92 (by kernel_rfl) rfl #[.int .i64 a1, .int .i64 1, .int .i64 400] rfl (by (try simp only [List.map_toArray, List.map_cons, List.map_nil]); first | done | rfl | (simp only [List.length_drop, List.length_take]; rfl)) ?_; (with_reducible refine (impl_in.calls a1 1 400 false _ A5.out).mono ?_); rintro e w' ⟨rfl, ⟨nd, rfl⟩⟩; refine ⟨_, rfl, ?_⟩))
      go_ret2
      exact ⟨_, by first | rfl | (simp [errW_none, errW_some] <;> rfl) | (simp [*, errW_none, errW_some] <;> rfl), by first | exact Kd.S_nil _ _ _ _ _ | exact Kd.N_nil _ _ _ _ _ | exact Kd.V_nil _ _ _ _ _ | exact Kd.Q_nil _ _ _ _ _ | exact Kd.R_nil _ _ _ _ _, by repeat (first | (with_reducible first | exact HB.out | apply below_alloc | apply pw_below_drewN | apply below_drew1) | exact HB.out)⟩
  · rw [if_neg c4] at H
    have c4b0 : (t542 == 0) = false := beq_eq_false_iff_ne.mpr c4
    have c4b1 : (t542 != 0) = true := bne_iff_ne.mpr c4
    simp only [Option.some.injEq, Prod.mk.injEq] at H
    obtain ⟨rfl, rfl⟩ := H
    go_enter Try.func33, Try.ntmps33
    go_wp2_with (first | ((with_reducible refine gate_callee (f := 91) rfl ?_); refine goesL_ (some 10) rfl rfl Try.func91 (by kernel_rfl) rfl #[.slice A0 l0.length c0] rfl (by (try simp only [List.map_toArray, List.map_cons, List.map_nil]); first | done | rfl | (simp only [List.length_drop, List.length_take]; rfl)) ?_; (with_reducible refine (impl_program.calls k _ _ l0 t542 _ ?side1 ?side2 A3.out).mono ?_); (case side1 => repeat (first | exact (Kd.V_reads' HO0.out).2.2 | (with_reducible refine Kd.C_alloc ?_ _) | (with_reducible refine Kd.C_drewN ?_ _) | (with_reducible refine Kd.C_drew ?_))); (case side2 => exact (Kd.V_reads' HO0.out).2.1); rintro e w28 ⟨rfl, hb⟩; refine ⟨_, rfl, ?_⟩; have n0_ := Aside0.mk (Kd.V_below (by (with_reducible repeat (first | apply Kd.V_alloc | apply Kd.V_drewN | apply Kd.V_drew)); exact HO0.out) hb); have n1_ := Aside0.mk (below_step (by repeat (first | (with_reducible first | exact HB.out | apply below_alloc | apply pw_below_drewN | apply below_drew1) | exact HB.out)) hb); clear HO0; clear HB; have HO0 := n0_; have HB := n1_; clear n0_ n1_; (try clear hb); (try clear hb2); (try clear hk); (try clear hi)))
    go_ret2
    exact ⟨_, by first | rfl | (simp [errW_none, errW_some] <;> rfl) | (simp [*, errW_none, errW_some] <;> rfl), by first | exact Kd.S_nil _ _ _ _ _ | exact Kd.N_nil _ _ _ _ _ | exact Kd.V_nil _ _ _ _ _ | exact Kd.Q_nil _ _ _ _ _ | exact Kd.R_nil _ _ _ _ _, by repeat (first | (with_reducible first | exact HB.out | apply below_alloc | apply pw_below_drewN | apply below_drew1) | exact HB.out)⟩

end Go.Proofs.Ytgpdjpololkhbaa.F

namespace Go.Proofs.Ytgpdjpololkhbaa.Pure
open Go.RowKit Go.Proofs.Ytgpdjpololkhbaa.F Go.Proofs.YtgpdjpololkhbaaW.PrintWords Go.Proofs.YtgpdjpololkhbaaW.PrintLast Go.Proofs.YtgpdjpololkhbaaW.PrintMore Go.Proofs.YtgpdjpololkhbaaB
set_option linter.unusedVariables false
set_option linter.unusedSimpArgs false
theorem impl_in_f (a b c : Int) : impl_in.f a b c = some (inB a b c) := inB_if a b c

end Go.Proofs.Ytgpdjpololkhbaa.Pure

namespace Go.Proofs.Ytgpdjpololkhbaa.Pure
open Go.RowKit Go.Proofs.Ytgpdjpololkhbaa.F Go.Proofs.YtgpdjpololkhbaaW.PrintWords Go.Proofs.YtgpdjpololkhbaaW.PrintLast Go.Proofs.YtgpdjpololkhbaaW.PrintMore Go.Proofs.YtgpdjpololkhbaaB
set_option linter.unusedVariables false
set_option linter.unusedSimpArgs false
theorem impl_isPen_f (a : Int) : impl_isPen.f a = some (inB a 1 8) := by
  simp only [impl_isPen.f, impl_in_f, Option.bind_some]

end Go.Proofs.Ytgpdjpololkhbaa.Pure

namespace Go.Proofs.Ytgpdjpololkhbaa.Pure
open Go.RowKit Go.Proofs.Ytgpdjpololkhbaa.F Go.Proofs.YtgpdjpololkhbaaW.PrintWords Go.Proofs.YtgpdjpololkhbaaW.PrintLast Go.Proofs.YtgpdjpololkhbaaW.PrintMore Go.Proofs.YtgpdjpololkhbaaB
set_option linter.unusedVariables false
set_option linter.unusedSimpArgs false
theorem impl_isSpot_f (a : Int) : impl_isSpot.f a = some (inB a (-1000000) 1000000) := by
  simp only [impl_isSpot.f, impl_in_f, Option.bind_some]

end Go.Proofs.Ytgpdjpololkhbaa.Pure

namespace Go.Proofs.Ytgpdjpololkhbaa.Pure
open Go.RowKit Go.Proofs.Ytgpdjpololkhbaa.F Go.Proofs.YtgpdjpololkhbaaW.PrintWords Go.Proofs.YtgpdjpololkhbaaW.PrintLast Go.Proofs.YtgpdjpololkhbaaW.PrintMore Go.Proofs.YtgpdjpololkhbaaB
set_option linter.unusedVariables false
set_option linter.unusedSimpArgs false
def isC (a b c : Int) : Bool := if a = 80 then inB b 1 8 && c == 0 else if a = 85 ∨ a = 68 then inB b (-1000000) 1000000 && inB c (-1000000) 1000000 else false
def isCm (x : S137) : Bool := isC x.f0 x.f1 x.f2
def codeC (l : List S137) : Int := if l.all isCm = true then (if 400 < l.length then 3 else 0) else 1
theorem rdC {xs ys : List S137} {y : S137} {m : Nat} (h : xs.drop m = y :: ys) : rd_T137 xs (m : Int) = y := (drop_cons h).2.1 _

end Go.Proofs.Ytgpdjpololkhbaa.Pure

namespace Go.Proofs.Ytgpdjpololkhbaa.Pure
open Go.RowKit Go.Proofs.Ytgpdjpololkhbaa.F Go.Proofs.YtgpdjpololkhbaaW.PrintWords Go.Proofs.YtgpdjpololkhbaaW.PrintLast Go.Proofs.YtgpdjpololkhbaaW.PrintMore Go.Proofs.YtgpdjpololkhbaaB
set_option linter.unusedVariables false
set_option linter.unusedSimpArgs false
theorem impl_isCommand_f (a b c : Int) : Ev (fun k => impl_isCommand.f k a b c) (isC a b c) := by
  refine ⟨1, fun k hk => ?_⟩
  obtain ⟨k, rfl⟩ : ∃ m, k = m + 1 := ⟨k - 1, by omega⟩
  simp only [impl_isCommand.f, impl_isCommand.j0, impl_isPen_f, impl_isSpot_f, Option.bind_some, isC]
  by_cases h : a = 80
  · simp only [if_pos h]
    cases inB b 1 8 <;> simp
  · simp only [if_neg h]
    by_cases h1 : a = 85 <;> by_cases h2 : a = 68 <;> cases inB b (-1000000) 1000000 <;> simp [h1, h2]

end Go.Proofs.Ytgpdjpololkhbaa.Pure

namespace Go.Proofs.Ytgpdjpololkhbaa.Pure
open Go.RowKit Go.Proofs.Ytgpdjpololkhbaa.F Go.Proofs.YtgpdjpololkhbaaW.PrintWords Go.Proofs.YtgpdjpololkhbaaW.PrintLast Go.Proofs.YtgpdjpololkhbaaW.PrintMore Go.Proofs.YtgpdjpololkhbaaB
set_option linter.unusedVariables false
set_option linter.unusedSimpArgs false
theorem impl_areCommands_l0 (xs : List S137) (hx : xs.length ≤ 9223372036854775807) : ∀ (ys : List S137) (m : Nat), xs.drop m = ys →
    Ev (fun k => impl_areCommands.l0 k xs xs.length m) (ys.all isCm)
  | [], m, h => by
    have := drop_nil h
    exact ev_step (fun _ => rfl) (ev_neg (by omega) (ev_now rfl))
  | y :: ys, m, h => by
    obtain ⟨hm, _, hd⟩ := drop_cons h
    refine ev_step (fun _ => rfl) (ev_pos (by omega) (ev_pos (by omega) (ev_pos (by omega) ?_)))
    rw [rdC h, w64 (by omega) (by omega)]
    refine ev_bind (impl_isCommand_f _ _ _) ?_
    rw [List.all_cons, show isC y.f0 y.f1 y.f2 = isCm y from rfl]
    cases hc : isCm y
    · exact ev_neg (by simp) (ev_now (by simp))
    · refine ev_pos rfl (ev_eq (impl_areCommands_l0 xs hx ys (m + 1) hd) (by simp))
theorem impl_areCommands_f (xs : List S137) (hx : xs.length ≤ 9223372036854775807) : Ev (fun k => impl_areCommands.f k xs) (xs.all isCm) := impl_areCommands_l0 xs hx xs 0 rfl

end Go.Proofs.Ytgpdjpololkhbaa.Pure

namespace Go.Proofs.Ytgpdjpololkhbaa.Pure
open Go.RowKit Go.Proofs.Ytgpdjpololkhbaa.F Go.Proofs.YtgpdjpololkhbaaW.PrintWords Go.Proofs.YtgpdjpololkhbaaW.PrintLast Go.Proofs.YtgpdjpololkhbaaW.PrintMore Go.Proofs.YtgpdjpololkhbaaB
set_option linter.unusedVariables false
set_option linter.unusedSimpArgs false
theorem impl_program_f (xs : List S137) (hx : xs.length ≤ 9223372036854775807) : Ev (fun k => impl_program.f k xs) (codeC xs) := by
  refine ev_bind (impl_areCommands_f xs hx) ?_
  unfold codeC
  cases xs.all isCm
  · exact ev_neg (by simp) (ev_now (by simp))
  · refine ev_pos rfl (ev_now ?_)
    by_cases h : 400 < xs.length
    · rw [if_pos (by omega), if_pos rfl, if_pos h]
    · rw [if_neg (by omega), if_pos rfl, if_neg h]

end Go.Proofs.Ytgpdjpololkhbaa.Pure

namespace Go.Proofs.Ytgpdjpololkhbaa.Pure
open Go.RowKit Go.Proofs.Ytgpdjpololkhbaa.F Go.Proofs.YtgpdjpololkhbaaW.PrintWords Go.Proofs.YtgpdjpololkhbaaW.PrintLast Go.Proofs.YtgpdjpololkhbaaW.PrintMore Go.Proofs.YtgpdjpololkhbaaB
set_option linter.unusedVariables false
set_option linter.unusedSimpArgs false
/-- The parts of a list, each of q elements but the last one. -/
def chunks {α : Type} (q : Nat) : Nat → List α → List (List α)
  | 0, _ => []
  | d + 1, xs => if xs.length = 0 then [] else xs.take q :: chunks q d (xs.drop q)
theorem chunks_nil {α : Type} (q d : Nat) : chunks q d ([] : List α) = [] := by
  cases d with
  | zero => rfl
  | succ d => exact if_pos rfl
theorem chunks_pos {α : Type} (q d : Nat) {xs : List α} (h : ¬ xs.length = 0) : chunks q (d + 1) xs = xs.take q :: chunks q d (xs.drop q) := if_neg h
theorem chunks_small {α : Type} (q : Nat) (hq : 1 ≤ q) (hb : q ≤ 400) : ∀ (d : Nat) (xs : List α), (chunks q d xs).length ≤ xs.length ∧ ∀ y ∈ chunks q d xs, y.length ≤ 400
  | 0, xs => ⟨Nat.zero_le _, fun y hy => absurd hy List.not_mem_nil⟩
  | d + 1, xs => by
    by_cases h : xs.length = 0
    · rw [show chunks q (d + 1) xs = [] from if_pos h]
      exact ⟨Nat.zero_le _, fun y hy => absurd hy List.not_mem_nil⟩
    · rw [chunks_pos q d h]
      obtain ⟨h1, h2⟩ := chunks_small q hq hb d (xs.drop q)
      rw [List.length_drop] at h1
      refine ⟨by rw [List.length_cons]; omega, fun y hy => ?_⟩
      rcases List.mem_cons.1 hy with rfl | hy
      · rw [List.length_take]
        omega
      · exact h2 y hy
def resSplit (xs : List S137) (q : Int) : List (List S137) × Int := if codeC xs = 0 then (if inB q 1 400 = true then (chunks q.toNat xs.length xs, 0) else ([], 2)) else ([], codeC xs)

end Go.Proofs.Ytgpdjpololkhbaa.Pure

namespace Go.Proofs.Ytgpdjpololkhbaa.F
open Go.RowKit Go.Proofs.YtgpdjpololkhbaaW.PrintWords Go.Proofs.YtgpdjpololkhbaaW.PrintLast Go.Proofs.YtgpdjpololkhbaaW.PrintMore
attribute [local go_sem] max2_int min2_int max_two min_two max_three min_three max_four min_four   -- for this text's walks alone
set_option linter.unusedVariables false
set_option linter.unusedSimpArgs false

/-! ### laws_markPointS: function 80 -/
def laws_markPointS.l0 : Nat → List (S90) → Int → Int → Option (Int × (List (S90)))
  | 0, _, _, _ => none
  | k + 1, x0, x1, x5 => if x5 < (x0.length : Int) then (if 0 ≤ x5 then ((some (x0.set (x5 : Int).toNat (⟨x1, (rd_T90 x0 x5).f1⟩ : S90) : List (S90))).bind fun y290 => (laws_markPointS.l0 k (y290.set (x5 : Int).toNat (⟨(rd_T90 y290 x5).f0, wrap64 (x1 + 1)⟩ : S90)) (wrap64 ((wrap64 (x1 + 1)) + 1)) (wrap64 (x5 + 1)))) else (none)) else (some (x1, x0))
def laws_markPointS.f (k : Nat) (l0 : List (S90)) (a1 : Int) : Option (Int × (List (S90))) := laws_markPointS.l0 k l0 a1 0
theorem laws_markPointS.mono_l : ∀ k, (∀ y0 y1 y2, LeO (laws_markPointS.l0 k y0 y1 y2) (laws_markPointS.l0 (k + 1) y0 y1 y2))
  | 0 => fun _ _ _ r h => by simp [laws_markPointS.l0] at h
  | k + 1 => by
    have ih0 := laws_markPointS.mono_l k
    · intro y0 y1 y2
      unfold laws_markPointS.l0
      repeat' first
      | (with_reducible exact ih0 _ _ _)
      | (with_reducible exact LeO.refl _)
      | (with_reducible exact LeO.none _)
      | (with_reducible refine LeO.ite ?_ ?_)
      | (with_reducible refine LeO.bind ?_ (fun _ => ?_))
      | exact ih0 _ _ _
      | exact LeO.none _
      | refine LeO.ite ?_ ?_
      | refine LeO.bind ?_ (fun _ => ?_)
theorem laws_markPointS.mono : ∀ a0 a1 k, LeO (laws_markPointS.f k a0 a1) (laws_markPointS.f (k + 1) a0 a1) := by
  intro a0 a1 k
  have ih0 := laws_markPointS.mono_l k
  unfold laws_markPointS.f
  repeat' first
      | (with_reducible exact ih0 _ _ _)
      | (with_reducible exact LeO.refl _)
      | (with_reducible exact LeO.none _)
      | (with_reducible refine LeO.ite ?_ ?_)
      | (with_reducible refine LeO.bind ?_ (fun _ => ?_))
      | exact ih0 _ _ _
      | exact LeO.none _
      | refine LeO.ite ?_ ?_
      | refine LeO.bind ?_ (fun _ => ?_)
set_option maxHeartbeats 8000000 in
set_option maxRecDepth 100000 in
theorem laws_markPointS.calls (k : Nat) (P0_ : Nat → Prop) (u9000_ : Value) (l0 : List (S90)) (a1 : Int) (r1 : Int) (r2 : List (S90)) (w0 w : World) (hB : Below w0.heap.size w0 w) (ho0 : Kd.R k90 90 w w0.heap.size P0_ u9000_ l0) (h : laws_markPointS.f k l0 a1 = some (r1, r2)) :
    Calls Try.prog 80 #[u9000_, .int .i64 a1] w fun e w' => e = .returned (.int .i64 r1) ∧ Kd.R k90 90 w' w0.heap.size (fun k_ => (P0_ k_ ∨ w.heap.size ≤ k_)) u9000_ r2 ∧ Below w0.heap.size w0 w' ∧ Kept w w' (fun k_ => P0_ k_) := by
  have HO0 := Aside0.mk (show Kd.R k90 90 w w0.heap.size (fun k_ => (P0_ k_ ∨ w.heap.size ≤ k_)) u9000_ l0 from Kd.R_mono ho0 (fun k_ hk => (.inl hk)))
  have HK := Aside0.mk (Kept.refl w (fun k_ => P0_ k_))
  have HW0 := Aside0.mk hB.size
  have HB := Aside0.mk hB
  clear hB
  have H : (laws_markPointS.l0 k l0 a1 0) = some (r1, r2) := h
  clear h
  have H' := Aside0.mk H
  clear H
  go_enter Try.func80, Try.ntmps80
  go_wp2
  go_loopg [1, 5] k (fun kq v1 v5 w' => ∃ (x0_1 : List (S90)) (x1_1 : Int) (x5_1 : Int), v1 = .int .i64 x1_1 ∧ v5 = .int .i64 x5_1 ∧ Aside0 (laws_markPointS.l0 kq x0_1 x1_1 x5_1 = some (r1, r2)) ∧ Aside0 (kq ≤ k) ∧ Aside0 (Kd.R k90 90 w' w0.heap.size (fun k_ => (P0_ k_ ∨ w.heap.size ≤ k_)) u9000_ x0_1) ∧ Aside0 (Kept w w' (fun k_ => P0_ k_)) ∧ Aside0 (Below w0.heap.size w0 w'))
  case atStart => exact ⟨(l0), (a1), (0), (by first | rfl | (simp; done) | (simp [*]; done)), (by first | rfl | (simp; done) | (simp [*]; done)), H', ⟨Nat.le_refl _⟩, ⟨by (with_reducible repeat (first | apply Kd.R_alloc | apply Kd.R_drewN | apply Kd.R_drew)); exact HO0.out⟩, ⟨by repeat (first | (with_reducible first | exact HK.out | apply Kept.alloc | apply Kept.drewN | apply Kept.drew) | exact HK.out)⟩, ⟨by repeat (first | (with_reducible first | exact HB.out | apply below_alloc | apply pw_below_drewN | apply below_drew1) | exact HB.out)⟩⟩
  case round =>
    clear H'
    try clear p2
    obtain ⟨x0_1, x1_1, x5_1, rfl, rfl, HA, HK1, HO_0, HK, HB⟩ := hrel
    cases gk with
    | zero => exact absurd HA.out (by simp [laws_markPointS.l0])
    | succ k1 =>
      have H := HA.out
      clear HA
      simp only [laws_markPointS.l0] at H
      by_cases c3 : x5_1 < (x0_1.length : Int)
      · rw [if_pos c3] at H
        have c3b0 : decide (x5_1 < (x0_1.length : Int)) = true := decide_eq_true c3
        clear c3
        by_cases c4 : 0 ≤ x5_1
        · rw [if_pos c4] at H
          have c4b0 : decide (0 ≤ x5_1) = true := decide_eq_true c4
          clear c4
          obtain ⟨y290, hy290⟩ : ∃ y_ : List (S90), y_ = (x0_1.set (x5_1 : Int).toNat (⟨x1_1, (rd_T90 x0_1 x5_1).f1⟩ : S90)) := ⟨_, rfl⟩
          replace H : (laws_markPointS.l0 k1 (y290.set (x5_1 : Int).toNat (⟨(rd_T90 y290 x5_1).f0, wrap64 (x1_1 + 1)⟩ : S90)) (wrap64 ((wrap64 (x1_1 + 1)) + 1)) (wrap64 (x5_1 + 1))) = some (r1, r2) := by first | (rw [hy290]; with_reducible exact H) | (have H2_ := (Option.bind_some _ _).symm.trans H; rw [hy290]; with_reducible exact H2_) | (have H2_ := (Option.bind_some _ _).symm.trans H; with_reducible exact H2_) | with_reducible exact H | (rw [hy290]; exact H) | exact H
          have Ny290 := Aside0.mk hy290
          clear hy290
          obtain ⟨y291, hy291⟩ : ∃ y_ : List (S90), y_ = (y290.set (x5_1 : Int).toNat (⟨(rd_T90 y290 x5_1).f0, wrap64 (x1_1 + 1)⟩ : S90)) := ⟨_, rfl⟩
          replace H : (laws_markPointS.l0 k1 y291 (wrap64 ((wrap64 (x1_1 + 1)) + 1)) (wrap64 (x5_1 + 1))) = some (r1, r2) := by first | (rw [hy291]; with_reducible exact H) | (have H2_ := (Option.bind_some _ _).symm.trans H; rw [hy291]; with_reducible exact H2_) | (have H2_ := (Option.bind_some _ _).symm.trans H; with_reducible exact H2_) | with_reducible exact H | (rw [hy291]; exact H) | exact H
          have Ny291 := Aside0.mk hy291
          clear hy291
          have H' := Aside0.mk H
          clear H
          obtain ⟨Ao7, co7, eo7⟩ := Kd.R_slice HO_0.out
          subst eo7
          have p5 : 0 ≤ (x5_1 : Int) := of_decide_eq_true (by first | (with_reducible assumption) | assumption)
          have q5 : (x5_1 : Int) < ((x0_1.length : Int) : Int) := of_decide_eq_true (by first | (with_reducible assumption) | assumption)
          obtain ⟨go5, co5, eo5, gb5, gl5, cl5, HG5⟩ := Kd.R_form HO_0.out (by omega)
          (first | cases eo5 | (injection eo5 with ea_ en_ ec_; (first | subst ea_ | (injection ea_ with ea_; subst ea_)); subst ec_; clear en_))
          have GB5 := Aside0.mk gb5
          have GG5 := Aside0.mk HG5
          clear gb5 gl5 HG5
          have HMgo5 := Aside0.mk (show (P0_ go5 ∨ w.heap.size ≤ go5) from (HO_0.out.1 _ rfl))
          obtain ⟨ce5, hcl5, hM5, hcc5, hfr5⟩ := Kd.R_elem HO_0.out z90 (x5_1 : Int) p5 q5
          obtain rfl := k90_openM hM5
          have hx5_0 : wr.cell? ⟨go5, (x5_1 : Int).toNat * 2, none⟩ = some (.int .i64 ((rd_T90 x0_1 x5_1).f0)) := hcc5 0 _ rfl
          have hx5_1 : wr.cell? ⟨go5, (x5_1 : Int).toNat * 2 + 1, none⟩ = some (.int .i64 ((rd_T90 x0_1 x5_1).f1)) := hcc5 1 _ rfl
          have hf5_0 : wr.frozen? ⟨go5, (x5_1 : Int).toNat * 2, none⟩ = false := hfr5 0
          have hf5_1 : wr.frozen? ⟨go5, (x5_1 : Int).toNat * 2 + 1, none⟩ = false := hfr5 1
          clear hcl5 hcc5 hfr5 hM5
          replace p5 := eq_true p5
          replace q5 := eq_true q5
          have HX8 := Aside0.mk (show Kd.R k90 90 wr w0.heap.size (fun k_ => (P0_ k_ ∨ w.heap.size ≤ k_)) (.slice (some ⟨go5, 0, none⟩) x0_1.length co7) x0_1 from (by (with_reducible repeat (first | apply Kd.R_alloc | apply Kd.R_drewN | apply Kd.R_drew)); exact HO_0.out))
          obtain ⟨ce8, hcl8, hM8, hcc8, hfr8⟩ := Kd.R_elem HX8.out z90 (x5_1 : Int) (of_decide_eq_true (by first | (with_reducible assumption) | assumption)) (by have h_ : (x5_1 : Int) < ((x0_1.length : Int) : Int) := of_decide_eq_true (by first | (with_reducible assumption) | assumption); first | exact h_ | (have e_ := (Kd.R_reads' HO_0.out).1; omega) | simpa using h_)
          obtain rfl := k90_openM hM8
          have HP8 := Kd.R_seg HX8.out (x5_1 : Int) (of_decide_eq_true (by first | (with_reducible assumption) | assumption)) (by have h_ : (x5_1 : Int) < ((x0_1.length : Int) : Int) := of_decide_eq_true (by first | (with_reducible assumption) | assumption); first | exact h_ | (have e_ := (Kd.R_reads' HO_0.out).1; omega) | simpa using h_) (seg := [.int .i64 x1_1]) (j := 0) hcl8 hcc8 (show 1 ≤ 2 from by decide) (x' := (⟨x1_1, (rd_T90 x0_1 x5_1).f1⟩ : S90)) (k90_mkM _ _ _ (⟨x1_1, (rd_T90 x0_1 x5_1).f1⟩ : S90) ) (fun _ hk => hk)
          have hx8_0 := hcc8 0 _ rfl
          (try simp only [show (k90).sz = 2 from rfl, Nat.mul_one, Nat.add_zero] at hx8_0)
          have hf8_0 := hfr8 0
          (try simp only [show (k90).sz = 2 from rfl, Nat.mul_one, Nat.add_zero] at hf8_0)
          clear hcl8 hcc8 hfr8 hM8
          go_wp2_with (first | ((with_reducible refine gate_store (t := 2) (p := 16) rfl ?_); refine store_event (t := 2) (p := 16) (v := ?vo_w9) (w1 := (wr.setCell ⟨go5, (x5_1 : Int).toNat * 2, none⟩ (.int .i64 x1_1))) ?hg ?ho ?hn ?hr ?_; (case ho => rfl); (case hg => rfl); (case hn => rfl); (case hr => first | (go_simp; done) | (go_simp; rfl)); intro w9 hw; have hg : wr.grownBy w9 (some go5) := (by rw [hw]; exact HP8.2); have hp_ : Kd.R k90 90 w9 w0.heap.size (fun k_ => (P0_ k_ ∨ w.heap.size ≤ k_)) (.slice (some ⟨go5, 0, none⟩) x0_1.length co7) y290 := (by rw [hw, Ny290.out]; exact HP8.1); clear HP8; have n0_ := Aside0.mk (hp_); have n1_ := Aside0.mk ((by rw [hw]; exact below_set (HB.out) GB5.out : Below w0.heap.size w0 w9)); have n2_ := Aside0.mk (Kept.of_grown (S := (fun k_ => P0_ k_)) hg (by repeat (first | (with_reducible first | exact HK.out | apply Kept.alloc | apply Kept.drewN | apply Kept.drew) | exact HK.out)) (fun k_ e_ => (HO_0.out.1 k_ e_))); clear HO_0; clear HB; clear HK; have HO_0 := n0_; have HB := n1_; have HK := n2_; clear n0_ n1_ n2_; clear hg hw hp_; have p6 : 0 ≤ (x5_1 : Int) := of_decide_eq_true (by first | (with_reducible assumption) | assumption); have q6 : (x5_1 : Int) < ((x0_1.length : Int) : Int) := of_decide_eq_true (by first | (with_reducible assumption) | assumption); obtain ⟨ce6, hcl6, hM6, hcc6, hfr6⟩ := Kd.R_elem HO_0.out z90 (x5_1 : Int) p6 q6; obtain rfl := k90_openM hM6; have hx6_0 : w9.cell? ⟨go5, (x5_1 : Int).toNat * 2, none⟩ = some (.int .i64 ((rd_T90 y290 x5_1).f0)) := hcc6 0 _ rfl; have hx6_1 : w9.cell? ⟨go5, (x5_1 : Int).toNat * 2 + 1, none⟩ = some (.int .i64 ((rd_T90 y290 x5_1).f1)) := hcc6 1 _ rfl; have hf6_0 : w9.frozen? ⟨go5, (x5_1 : Int).toNat * 2, none⟩ = false := hfr6 0; have hf6_1 : w9.frozen? ⟨go5, (x5_1 : Int).toNat * 2 + 1, none⟩ = false := hfr6 1; clear hcl6 hcc6 hfr6 hM6; replace p6 := eq_true p6; replace q6 := eq_true q6; have HX10 := Aside0.mk (show Kd.R k90 90 w9 w0.heap.size (fun k_ => (P0_ k_ ∨ w.heap.size ≤ k_)) (.slice (some ⟨go5, 0, none⟩) x0_1.length co7) y290 from (by (with_reducible repeat (first | apply Kd.R_alloc | apply Kd.R_drewN | apply Kd.R_drew)); exact HO_0.out)); obtain ⟨ce10, hcl10, hM10, hcc10, hfr10⟩ := Kd.R_elem HX10.out z90 (x5_1 : Int) (of_decide_eq_true (by first | (with_reducible assumption) | assumption)) (by have h_ : (x5_1 : Int) < ((x0_1.length : Int) : Int) := of_decide_eq_true (by first | (with_reducible assumption) | assumption); first | exact h_ | (have e_ := (Kd.R_reads' HO_0.out).1; omega) | simpa using h_); obtain rfl := k90_openM hM10; have HP10 := Kd.R_seg HX10.out (x5_1 : Int) (of_decide_eq_true (by first | (with_reducible assumption) | assumption)) (by have h_ : (x5_1 : Int) < ((x0_1.length : Int) : Int) := of_decide_eq_true (by first | (with_reducible assumption) | assumption); first | exact h_ | (have e_ := (Kd.R_reads' HO_0.out).1; omega) | simpa using h_) (seg := [.int .i64 (wrap64 (x1_1 + 1))]) (j := 1) hcl10 hcc10 (show 2 ≤ 2 from by decide) (x' := (⟨(rd_T90 y290 x5_1).f0, wrap64 (x1_1 + 1)⟩ : S90)) (k90_mkM _ _ _ (⟨(rd_T90 y290 x5_1).f0, wrap64 (x1_1 + 1)⟩ : S90) ) (fun _ hk => hk); have hx10_1 := hcc10 1 _ rfl; (try simp only [show (k90).sz = 2 from rfl, Nat.mul_one, Nat.add_zero] at hx10_1); have hf10_1 := hfr10 1; (try simp only [show (k90).sz = 2 from rfl, Nat.mul_one, Nat.add_zero] at hf10_1); clear hcl10 hcc10 hfr10 hM10) | ((with_reducible refine gate_store (t := 2) (p := 23) rfl ?_); refine store_event (t := 2) (p := 23) (v := ?vo_w11) (w1 := (w9.setCell ⟨go5, (x5_1 : Int).toNat * 2 + 1, none⟩ (.int .i64 (wrap64 (x1_1 + 1))))) ?hg ?ho ?hn ?hr ?_; (case ho => rfl); (case hg => rfl); (case hn => rfl); (case hr => first | (go_simp; done) | (go_simp; rfl)); intro w11 hw; have hg : w9.grownBy w11 (some go5) := (by rw [hw]; exact HP10.2); have hp_ : Kd.R k90 90 w11 w0.heap.size (fun k_ => (P0_ k_ ∨ w.heap.size ≤ k_)) (.slice (some ⟨go5, 0, none⟩) x0_1.length co7) y291 := (by rw [hw, Ny291.out]; exact HP10.1); clear HP10; have n0_ := Aside0.mk (hp_); have n1_ := Aside0.mk ((by rw [hw]; exact below_set (HB.out) GB5.out : Below w0.heap.size w0 w11)); have n2_ := Aside0.mk (Kept.of_grown (S := (fun k_ => P0_ k_)) hg (by repeat (first | (with_reducible first | exact HK.out | apply Kept.alloc | apply Kept.drewN | apply Kept.drew) | exact HK.out)) (fun k_ e_ => (HO_0.out.1 k_ e_))); clear HO_0; clear HB; clear HK; have HO_0 := n0_; have HB := n1_; have HK := n2_; clear n0_ n1_ n2_; clear hg hw hp_))
          go_roundg k1
          case measure => have := HK1.out; omega
          case rel => exact ⟨(y291), (wrap64 ((wrap64 (x1_1 + 1)) + 1)), (wrap64 (x5_1 + 1)), (by first | rfl | (simp; done) | (simp [*]; done)), (by first | rfl | (simp; done) | (simp [*]; done)), H', ⟨by have := HK1.out; omega⟩, ⟨by (with_reducible repeat (first | apply Kd.R_alloc | apply Kd.R_drewN | apply Kd.R_drew)); exact HO_0.out⟩, ⟨by repeat (first | (with_reducible first | exact HK.out | apply Kept.alloc | apply Kept.drewN | apply Kept.drew) | exact HK.out)⟩, ⟨by repeat (first | (with_reducible first | exact HB.out | apply below_alloc | apply pw_below_drewN | apply below_drew1) | exact HB.out)⟩⟩
        · rw [if_neg c4] at H
          exact absurd H (by simp)
      · rw [if_neg c3] at H
        have c3b0 : decide (x5_1 < (x0_1.length : Int)) = false := decide_eq_false c3
        clear c3
        simp only [Option.some.injEq, Prod.mk.injEq] at H
        obtain ⟨rfl, rfl⟩ := H
        obtain ⟨Ao12, co12, eo12⟩ := Kd.R_slice HO_0.out
        subst eo12
        go_wp2
        go_ret
        exact ⟨by first | rfl | (simp [errW_none, errW_some] <;> rfl) | (simp [*, errW_none, errW_some] <;> rfl), by (with_reducible repeat (first | apply Kd.R_alloc | apply Kd.R_drewN | apply Kd.R_drew)); exact HO_0.out, by repeat (first | (with_reducible first | exact HB.out | apply below_alloc | apply pw_below_drewN | apply below_drew1) | exact HB.out), by repeat (first | (with_reducible first | exact HK.out | apply Kept.alloc | apply Kept.drewN | apply Kept.drew) | exact HK.out)⟩

end Go.Proofs.Ytgpdjpololkhbaa.F

namespace Go.Proofs.Ytgpdjpololkhbaa.Pure
open Go.RowKit Go.Proofs.Ytgpdjpololkhbaa.F Go.Proofs.YtgpdjpololkhbaaW.PrintWords Go.Proofs.YtgpdjpololkhbaaW.PrintLast Go.Proofs.YtgpdjpololkhbaaW.PrintMore Go.Proofs.YtgpdjpololkhbaaB
set_option linter.unusedVariables false
set_option linter.unusedSimpArgs false
def markP (a : Int) : List S90 → List S90
  | [] => []
  | _ :: ys => ⟨a, a + 1⟩ :: markP (a + 2) ys
theorem markP_length (a : Int) (l : List S90) : (markP a l).length = l.length := by
  induction l generalizing a with
  | nil => rfl
  | cons y ys ih => simp [markP, ih]
theorem laws_markPointS_l0 : ∀ (ys : List S90) (m : Nat) (xs : List S90) (a : Int), xs.length ≤ 2147483647 → xs.drop m = ys → 0 ≤ a → a + 2 * ys.length ≤ 4611686018427387904 →
    Ev (fun k => laws_markPointS.l0 k xs a m) (a + 2 * ys.length, xs.take m ++ markP a ys)
  | [], m, xs, a, hx, h, h0, h1 => by
    have := drop_nil h
    refine ev_step (fun _ => rfl) (ev_neg (by omega) (ev_now ?_))
    rw [List.take_of_length_le this]
    simp [markP]
  | y :: ys, m, xs, a, hx, h, h0, h1 => by
    obtain ⟨hm, _, hd⟩ := drop_cons h
    simp only [List.length_cons] at h1
    refine ev_step (fun _ => rfl) (ev_pos (by omega) (ev_pos (by omega) ?_))
    refine ev_some rfl ?_
    rw [w64 (x := a + 1) (by omega) (by omega), w64 (x := a + 1 + 1) (by omega) (by omega), w64 (x := (m : Int) + 1) (by omega) (by omega)]
    simp only [Int.toNat_natCast]
    have hset : ∀ (v : S90), (rd_T90 (xs.set m v) (m : Int)) = v := fun v => by simp [rd_T90, hm]
    rw [hset, List.set_set]
    have hd' : (xs.set m ⟨a, a + 1⟩).drop (m + 1) = ys := by rw [List.drop_set_of_lt (by omega), hd]
    refine ev_eq (laws_markPointS_l0 ys (m + 1) _ (a + 1 + 1) (by rw [List.length_set]; exact hx) hd' (by omega) (by omega)) ?_
    have ht : (xs.set m ⟨a, a + 1⟩).take (m + 1) = xs.take m ++ [⟨a, a + 1⟩] := by
      rw [set_take h, List.take_append, List.take_of_length_le (by rw [List.length_take]; omega), List.length_take, show m + 1 - min m xs.length = 1 by omega]
      rfl
    rw [ht]
    simp only [markP, List.length_cons, List.append_assoc, List.singleton_append, show a + 1 + 1 = a + 2 by omega]
    congr 1
    omega
theorem laws_markPointS_f (xs : List S90) (a : Int) (hx : xs.length ≤ 2147483647) (h0 : 0 ≤ a) (h1 : a + 2 * xs.length ≤ 4611686018427387904) :
    Ev (fun k => laws_markPointS.f k xs a) (a + 2 * xs.length, markP a xs) := ev_eq (laws_markPointS_l0 xs 0 xs a hx rfl h0 h1) (by simp)

end Go.Proofs.Ytgpdjpololkhbaa.Pure

namespace Go.Proofs.Ytgpdjpololkhbaa.Pure
open Go.RowKit Go.Proofs.Ytgpdjpololkhbaa.F Go.Proofs.YtgpdjpololkhbaaW.PrintWords Go.Proofs.YtgpdjpololkhbaaW.PrintLast Go.Proofs.YtgpdjpololkhbaaW.PrintMore Go.Proofs.YtgpdjpololkhbaaB
set_option linter.unusedVariables false
set_option linter.unusedSimpArgs false
/-- How many numbers the strokes hold. -/
def numSt : List S110 → Int
  | [] => 0
  | y :: ys => 1 + 2 * y.f1.length + numSt ys
def markSt (a : Int) : List S110 → List S110
  | [] => []
  | y :: ys => ⟨a, markP (a + 1) y.f1⟩ :: markSt (a + 1 + 2 * y.f1.length) ys
theorem markSt_length (a : Int) (l : List S110) : (markSt a l).length = l.length := by
  induction l generalizing a with
  | nil => rfl
  | cons y ys ih => simp [markSt, ih]
theorem numSt_nonneg (l : List S110) : 0 ≤ numSt l := by
  induction l with
  | nil => exact Int.le_refl _
  | cons y ys ih => simp only [numSt]; omega

end Go.Proofs.Ytgpdjpololkhbaa.Pure

namespace Go.Proofs.Ytgpdjpololkhbaa.Pure
open Go.RowKit Go.Proofs.Ytgpdjpololkhbaa.F Go.Proofs.YtgpdjpololkhbaaW.PrintWords Go.Proofs.YtgpdjpololkhbaaW.PrintLast Go.Proofs.YtgpdjpololkhbaaW.PrintMore Go.Proofs.YtgpdjpololkhbaaB
set_option linter.unusedVariables false
set_option linter.unusedSimpArgs false
theorem setCells_one (W : World) (g o : Nat) (u : Value) : W.setCells g o [u] = W.setCell ⟨g, o, none⟩ u := rfl
/-- What the marks of a row of strokes are worth: the strokes are marked, what is not theirs is as it was. -/
def MarkedSt (P : Nat → Prop) (v : Value) (l : List S110) (a : Int) (w0 w w' : World) (e : Ending) : Prop :=
  e = .returned (.int .i64 (a + numSt l)) ∧ Kd.S k110 110 w' w0.heap.size (fun k => P k ∨ w.heap.size ≤ k) v (markSt a l) ∧ Below w0.heap.size w0 w' ∧ Kept w w' P
set_option maxHeartbeats 8000000 in
set_option maxRecDepth 100000 in
theorem markStrokeS_calls (P : Nat → Prop) (v : Value) (l : List S110) (a : Int) (w0 w : World) (hB : Below w0.heap.size w0 w) (hS : Kd.S k110 110 w w0.heap.size P v l) (hl : l.length ≤ 2147483647) (hi : ∀ y ∈ l, y.f1.length ≤ 2147483647) (h0 : 0 ≤ a) (h1 : a + numSt l ≤ 4611686018427387904) :
    Calls Try.prog 21 #[v, .int .i64 a] w fun e w' => MarkedSt P v l a w0 w w' e := by
  have hu := Try.underlying110
  obtain ⟨A0, c0, rfl⟩ := Kd.S_slice hS
  have HS := Aside0.mk (Kd.S_mono hS (ok' := fun k => P k ∨ w.heap.size ≤ k) (fun _ h => .inl h))
  have HB := Aside0.mk hB
  have HI := Aside0.mk hi
  have HA := Aside0.mk h0
  have HT := Aside0.mk h1
  clear hS hB hi h0 h1
  go_enter Try.func21, Try.ntmps21
  go_wp2
  go_loopw [1, 5] (fun v1 v5 wr => ∃ (m : Nat) (b : Int) (xs ys : List S110), v1 = .int .i64 b ∧ v5 = .int .i64 m ∧ m ≤ l.length ∧ Aside0 (xs.length = l.length ∧ l.drop m = ys ∧ xs.drop m = ys ∧ xs.take m ++ markSt b ys = markSt a l ∧ b + numSt ys = a + numSt l ∧ 0 ≤ b) ∧ Aside0 (Kd.S k110 110 wr w0.heap.size (fun k => P k ∨ w.heap.size ≤ k) (.slice A0 l.length c0) xs) ∧ Aside0 (Below w0.heap.size w0 wr) ∧ Aside0 (Kept w wr P)) (fun _ v5 _ => l.length - (intOf v5).toNat)
  case atStart => exact ⟨0, a, l, l, rfl, rfl, Nat.zero_le _, ⟨rfl, rfl, rfl, rfl, rfl, HA.out⟩, ⟨HS.out⟩, ⟨HB.out⟩, ⟨Kept.refl _ _⟩⟩
  case round =>
    obtain ⟨m, b, xs, ys, rfl, rfl, hm, HF, HS1, HB1, HK1⟩ := hrel
    by_cases hlt : m < l.length
    · cases ys with
      | nil => exact absurd (drop_nil HF.out.2.1) (by omega)
      | cons y ys =>
      have hb0 := HF.out.2.2.2.2.2
      have hb1 : b + 1 + 2 * y.f1.length ≤ 4611686018427387904 := by
        have h2 := HF.out.2.2.2.2.1
        have h3 := HT.out
        have h4 := numSt_nonneg ys
        simp only [numSt] at h2
        omega
      have hy : y.f1.length ≤ 2147483647 := HI.out y (List.mem_of_mem_drop (by rw [HF.out.2.1]; exact List.mem_cons_self))
      have HS2 := Aside0.mk (Kd.S_mono (Kd.S_bound HS1.out) (ok' := fun k => (P k ∨ w.heap.size ≤ k) ∧ ¬ (wr.heap.size ≤ k)) (fun k hk => ⟨hk.1, by have := hk.2.2.1; omega⟩))
      obtain ⟨g, cap, eg, hg0, hg1, _⟩ := Kd.S_form HS1.out (by rw [HF.out.1]; omega)
      injection eg with ea en ec
      subst ea ec
      clear en
      obtain ⟨oki, c, hcl, hM, hcc, hfr, hoki, hH⟩ := Kd.S_elem HS2.out z110 (m : Int) (by omega) (by omega)
      rw [Int.toNat_natCast, (drop_cons HF.out.2.2.1).2.1] at hM
      obtain ⟨ve, rfl, hR⟩ := k110_openM hM
      simp only [Int.toNat_natCast] at hcc hfr
      have hx0 : wr.cell? ⟨g, m * 2, none⟩ = some (.int .i64 y.f0) := hcc 0 _ rfl
      have hx1 : wr.cell? ⟨g, m * 2 + 1, none⟩ = some ve := hcc 1 _ rfl
      have hf0 : wr.frozen? ⟨g, m * 2, none⟩ = false := hfr 0
      have HH := Aside0.mk hH
      have HR := Aside0.mk hR
      have HO := Aside0.mk hoki
      have HG := Aside0.mk hg0
      have hok1 : P g ∨ w.heap.size ≤ g := (Kd.S_R HS1.out).1 g (by simp [Value.ownBlock])
      have HP := Aside0.mk hok1
      obtain ⟨kq, hq⟩ := (laws_markPointS_f y.f1 (b + 1) hy (by omega) hb1).rounds
      have HQ := Aside0.mk hq
      clear hcl hM hcc hfr hoki hH hR hg0 hg1 hok1 hq HS2
      go_wp2_with fail
      have hW1 : Below w0.heap.size w0 (wr.setCell ⟨g, m * 2, none⟩ (.int .i64 b)) := below_set HB1.out HG.out
      refine (laws_markPointS.calls kq oki ve y.f1 (b + 1) _ _ w0 _ hW1 (Kd.R_far HR.out (fun k hk => (HO.out k hk).2) _) HQ.out).mono ?_
      rintro e w2 ⟨rfl, hR2, hB2, hK2⟩
      have HS3 : Aside0 (Kd.S k110 110 w2 w0.heap.size (fun k => P k ∨ w.heap.size ≤ k) (.slice (some ⟨g, 0, none⟩) l.length c0) (xs.set m ⟨b, markP (b + 1) y.f1⟩)) := ⟨by
        have e1 := (Kd.H_seg HH.out (by omega) (by omega) (seg := [.int .i64 b]) (j := 0) (show 0 + 1 ≤ 2 by decide) (by simp [Value.oneCell'])).1
        rw [setCells_one, Int.toNat_natCast] at e1
        have e2 := Kd.H_kept e1 hK2 (fun k _ hn => hn)
        have e3 := Kd.H_more (okg := fun k => wr.heap.size ≤ k) e2 (fun k hk => .inr (Nat.le_trans HK1.out.1 hk))
        have e4 := Kd.H_back e3 (x' := ⟨b, markP (b + 1) y.f1⟩) (okp := fun k => oki k ∨ wr.heap.size ≤ k) (k110_mkM _ _ _ ⟨b, markP (b + 1) y.f1⟩ (by simpa using hR2)) (fun _ h => h)
        exact e4⟩
      have HK2 := Aside0.mk (Kept.then_ (Kept.setCell HK1.out (p := ⟨g, m * 2, none⟩) HP.out (.int .i64 b)) hK2 (fun k hk => (HO.out k hk).1.1))
      have HB2 := Aside0.mk hB2
      have HF2 : Aside0 ((xs.set m ⟨b, markP (b + 1) y.f1⟩).length = l.length ∧ l.drop (m + 1) = ys ∧ (xs.set m ⟨b, markP (b + 1) y.f1⟩).drop (m + 1) = ys ∧ (xs.set m ⟨b, markP (b + 1) y.f1⟩).take (m + 1) ++ markSt (b + 1 + 2 * y.f1.length) ys = markSt a l ∧ b + 1 + 2 * y.f1.length + numSt ys = a + numSt l ∧ 0 ≤ b + 1 + 2 * y.f1.length) := ⟨by
        obtain ⟨f1, f2, f3, f4, f5, f6⟩ := HF.out
        refine ⟨by rw [List.length_set, f1], (drop_cons f2).2.2, by rw [List.drop_set_of_lt (by omega), (drop_cons f3).2.2], ?_, by simp only [numSt] at f5; omega, by omega⟩
        rw [← f4, set_take f3, List.take_append, List.take_of_length_le (by rw [List.length_take]; omega), List.length_take, show m + 1 - min m xs.length = 1 by omega]
        simp [markSt]⟩
      clear hW1 hR2 hB2 hK2 hx0 hx1 hf0 HH HR HO HQ HF HS1 HB1 HK1
      go_wp2_with fail
      go_roundw
      case rel => exact ⟨m + 1, b + 1 + 2 * y.f1.length, _, ys, rfl, by go_num, by omega, HF2, HS3, HB2, HK2⟩
      case measure => simp [intOf]; omega
    · have HE : Aside0 (xs = markSt a l ∧ b = a + numSt l) := ⟨by
        obtain ⟨f1, f2, f3, f4, f5, f6⟩ := HF.out
        have : ys = [] := by rw [← f2, List.drop_eq_nil_of_le (by omega)]
        subst this
        simp only [markSt, List.append_nil, numSt, Int.add_zero] at f4 f5
        rw [List.take_of_length_le (by omega)] at f4
        exact ⟨f4, f5⟩⟩
      clear HF
      go_wp2
      go_ret
      obtain ⟨rfl, rfl⟩ := HE.out
      exact ⟨rfl, HS1.out, HB1.out, HK1.out⟩

end Go.Proofs.Ytgpdjpololkhbaa.Pure

namespace Go.Proofs.Ytgpdjpololkhbaa.Pure
open Go.RowKit Go.Proofs.Ytgpdjpololkhbaa.F Go.Proofs.YtgpdjpololkhbaaW.PrintWords Go.Proofs.YtgpdjpololkhbaaW.PrintLast Go.Proofs.YtgpdjpololkhbaaW.PrintMore Go.Proofs.YtgpdjpololkhbaaB
set_option linter.unusedVariables false
set_option linter.unusedSimpArgs false
/-- What the numbers behind marks from a on are. -/
def MarkSt (l ys : List S110) (a n : Int) : Prop := l.length ≤ 2147483647 ∧ (∀ y ∈ l, y.f1.length ≤ 2147483647) ∧ 0 ≤ a ∧ a + numSt l ≤ 4611686018427387904 ∧ n = a + numSt l ∧ ys = markSt a l
theorem MK_StrokeS (P : Nat → Prop) (A : Option Addr) (c : Nat) (l ys : List S110) (a n : Int) (w0 w : World) (hB : Below w0.heap.size w0 w) (hO : Kd.S k110 110 w w0.heap.size P (.slice A l.length c) l) (h : MarkSt l ys a n) :
    Calls Try.prog 21 #[.slice A l.length c, .int .i64 a] w fun e w' => e = .returned (.int .i64 n) ∧ Kd.S k110 110 w' w0.heap.size (fun k => P k ∨ w.heap.size ≤ k) (.slice A l.length c) ys ∧ Below w0.heap.size w0 w' ∧ Kept w w' P := by
  obtain ⟨h1, h2, h3, h4, rfl, rfl⟩ := h
  exact markStrokeS_calls P _ l a w0 w hB hO h1 h2 h3 h4

end Go.Proofs.Ytgpdjpololkhbaa.Pure

namespace Go.Proofs.Ytgpdjpololkhbaa.F
open Go.RowKit Go.Proofs.YtgpdjpololkhbaaW.PrintWords Go.Proofs.YtgpdjpololkhbaaW.PrintLast Go.Proofs.YtgpdjpololkhbaaW.PrintMore
attribute [local go_sem] max2_int min2_int max_two min_two max_three min_three max_four min_four   -- for this text's walks alone
set_option linter.unusedVariables false
set_option linter.unusedSimpArgs false

/-! ### impl_isPoint: function 123 -/
def impl_isPoint.f (a0_0 : Int) (a0_1 : Int) : Option (Bool) := (impl_isSpot.f a0_0).bind fun t195 => (if t195 = true then ((impl_isSpot.f a0_1).bind fun t196 => (some t196)) else (some false))
set_option maxHeartbeats 8000000 in
set_option maxRecDepth 100000 in
theorem impl_isPoint.calls (a0_0 : Int) (a0_1 : Int) (r : Bool) (w : World) (h : impl_isPoint.f a0_0 a0_1 = some r) :
    Calls Try.prog 123 #[.agg #[.int .i64 a0_0, .int .i64 a0_1]] w fun e w' => e = .returned (.bool r) ∧ Below w.heap.size w w' := by
  have hu90 := Try.underlying90
  have HB := Aside0.mk (Below.refl w.heap.size w)
  have H : ((impl_isSpot.f a0_0).bind fun t195 => (if t195 = true then ((impl_isSpot.f a0_1).bind fun t196 => (some t196)) else (some false))) = some r := h
  clear h
  replace H := Option.bind_eq_some_iff.mp H
  obtain ⟨t195, A20, H⟩ := H
  replace H : (if t195 = true then ((impl_isSpot.f a0_1).bind fun t196 => (some t196)) else (some false)) = some r := H
  have A2 := Aside0.mk A20
  clear A20
  by_cases c3 : t195 = true
  · subst c3
    have H1 : ((impl_isSpot.f a0_1).bind fun t196 => (some t196)) = some r := by rw [if_pos rfl] at H; exact H
    clear H
    have H := H1
    clear H1
    replace H := Option.bind_eq_some_iff.mp H
    obtain ⟨t196, A40, H⟩ := H
    replace H : (some t196) = some r := H
    have A4 := Aside0.mk A40
    clear A40
    obtain rfl := Option.some.inj H
    go_enter Try.func123, Try.ntmps123
    go_wp2_with (first | ((with_reducible refine gate_dst (N := 1) rfl ?_); refine box_event ?hg (N := 1) ?hd (cs := #[.int .i64 a0_0, .int .i64 a0_1]) (t := 90) ?hr ?_; (case hd => rfl); (case hg => rfl); (case hr => first | (go_simp; done) | (go_simp; rfl)); intro gb194 hg w5 hbox hb; have n0_ := Aside0.mk (below_step (by repeat (first | (with_reducible first | exact HB.out | apply below_alloc | apply pw_below_drewN | apply below_drew1) | exact HB.out)) hb); have n1_ := Aside0.mk (hbox); have n2_ := Aside0.mk ((by rw [hg]; exact (below_size (by repeat (first | (with_reducible first | exact HB.out | apply below_alloc | apply pw_below_drewN | apply below_drew1) | exact HB.out))) : w.heap.size ≤ gb194)); have n3_ := Aside0.mk ((by rw [hg]; exact (below_size (by repeat (first | (with_reducible first | exact HB.out | apply below_alloc | apply pw_below_drewN | apply below_drew1) | exact HB.out))) : w.heap.size ≤ gb194)); clear HB; have HB := n0_; have BK194 := n1_; have GW194 := n2_; have GE194 := n3_; clear n0_ n1_ n2_ n3_; clear hb hbox hg; have hcz6_0 : w5.cell? ⟨gb194, 0, none⟩ = some (.int .i64 a0_0) := (blk_cell BK194.out 0).trans rfl; have hcz6_1 : w5.cell? ⟨gb194, 1, none⟩ = some (.int .i64 a0_1) := (blk_cell BK194.out 1).trans rfl; have hfz6_0 := blk_frozen BK194.out 0; have hfz6_1 := blk_frozen BK194.out 1) | ((with_reducible refine gate_callee (f := 99) rfl ?_); refine goesL_ (some 5) rfl rfl Try.func99 (by kernel_rfl) rfl #[.int .i64 a0_0] rfl (by (try simp only [List.map_toArray, List.map_cons, List.map_nil]); first | done | rfl | (simp only [List.length_drop, List.length_take]; rfl)) ?_; (with_reducible refine (impl_isSpot.calls a0_0 true _ A2.out).mono ?_); rintro e w' ⟨rfl, ⟨nd, rfl⟩⟩; refine ⟨_, rfl, ?_⟩) | (go_at_call 99; (with_reducible refine (impl_isSpot.calls a0_1 t196 _ A4.out).mono ?_); rintro e w' ⟨rfl, ⟨nd, rfl⟩⟩))
    go_ret
    exact ⟨by first | rfl | (simp [errW_none, errW_some] <;> rfl) | (simp [*, errW_none, errW_some] <;> rfl), by repeat (first | (with_reducible first | exact HB.out | apply below_alloc | apply pw_below_drewN | apply below_drew1 | refine below_set ?_ GE194.out) | exact HB.out)⟩
  · replace c3 := Bool.eq_false_iff.mpr c3
    subst c3
    have H1 : (some false) = some r := by rw [if_neg (show ¬ (false = true) by decide)] at H; exact H
    clear H
    have H := H1
    clear H1
    obtain rfl := Option.some.inj H
    go_enter Try.func123, Try.ntmps123
    go_wp2_with (first | ((with_reducible refine gate_dst (N := 1) rfl ?_); refine box_event ?hg (N := 1) ?hd (cs := #[.int .i64 a0_0, .int .i64 a0_1]) (t := 90) ?hr ?_; (case hd => rfl); (case hg => rfl); (case hr => first | (go_simp; done) | (go_simp; rfl)); intro gb194 hg w7 hbox hb; have n0_ := Aside0.mk (below_step (by repeat (first | (with_reducible first | exact HB.out | apply below_alloc | apply pw_below_drewN | apply below_drew1) | exact HB.out)) hb); have n1_ := Aside0.mk (hbox); have n2_ := Aside0.mk ((by rw [hg]; exact (below_size (by repeat (first | (with_reducible first | exact HB.out | apply below_alloc | apply pw_below_drewN | apply below_drew1) | exact HB.out))) : w.heap.size ≤ gb194)); have n3_ := Aside0.mk ((by rw [hg]; exact (below_size (by repeat (first | (with_reducible first | exact HB.out | apply below_alloc | apply pw_below_drewN | apply below_drew1) | exact HB.out))) : w.heap.size ≤ gb194)); clear HB; have HB := n0_; have BK194 := n1_; have GW194 := n2_; have GE194 := n3_; clear n0_ n1_ n2_ n3_; clear hb hbox hg; have hcz8_0 : w7.cell? ⟨gb194, 0, none⟩ = some (.int .i64 a0_0) := (blk_cell BK194.out 0).trans rfl; have hcz8_1 : w7.cell? ⟨gb194, 1, none⟩ = some (.int .i64 a0_1) := (blk_cell BK194.out 1).trans rfl; have hfz8_0 := blk_frozen BK194.out 0; have hfz8_1 := blk_frozen BK194.out 1) | ((with_reducible refine gate_callee (f := 99) rfl ?_); refine goesL_ (some 5) rfl rfl Try.func99 (by kernel_rfl) rfl #[.int .i64 a0_0] rfl (by (try simp only [List.map_toArray, List.map_cons, List.map_nil]); first | done | rfl | (simp only [List.length_drop, List.length_take]; rfl)) ?_; (with_reducible refine (impl_isSpot.calls a0_0 false _ A2.out).mono ?_); rintro e w' ⟨rfl, ⟨nd, rfl⟩⟩; refine ⟨_, rfl, ?_⟩))
    go_ret
    exact ⟨by first | rfl | (simp [errW_none, errW_some] <;> rfl) | (simp [*, errW_none, errW_some] <;> rfl), by repeat (first | (with_reducible first | exact HB.out | apply below_alloc | apply pw_below_drewN | apply below_drew1 | refine below_set ?_ GE194.out) | exact HB.out)⟩

end Go.Proofs.Ytgpdjpololkhbaa.F

namespace Go.Proofs.Ytgpdjpololkhbaa.F
open Go.RowKit Go.Proofs.YtgpdjpololkhbaaW.PrintWords Go.Proofs.YtgpdjpololkhbaaW.PrintLast Go.Proofs.YtgpdjpololkhbaaW.PrintMore
attribute [local go_sem] max2_int min2_int max_two min_two max_three min_three max_four min_four   -- for this text's walks alone
set_option linter.unusedVariables false
set_option linter.unusedSimpArgs false

/-! ### impl_IsLine_1: function 180 -/
def impl_IsLine_1.f (a0_0 : Int) (a0_1 : Int) : Option (Bool) := (impl_isPoint.f a0_0 a0_1).bind fun t198 => (some (!t198))
set_option maxHeartbeats 8000000 in
set_option maxRecDepth 100000 in
theorem impl_IsLine_1.calls (a0_0 : Int) (a0_1 : Int) (r : Bool) (w : World) (h : impl_IsLine_1.f a0_0 a0_1 = some r) :
    Calls Try.prog 180 #[.agg #[.int .i64 a0_0, .int .i64 a0_1]] w fun e w' => e = .returned (.bool r) ∧ Below w.heap.size w w' := by
  have hu90 := Try.underlying90
  have HB := Aside0.mk (Below.refl w.heap.size w)
  have H : ((impl_isPoint.f a0_0 a0_1).bind fun t198 => (some (!t198))) = some r := h
  clear h
  replace H := Option.bind_eq_some_iff.mp H
  obtain ⟨t198, A20, H⟩ := H
  replace H : (some (!t198)) = some r := H
  have A2 := Aside0.mk A20
  clear A20
  obtain rfl := Option.some.inj H
  go_enter Try.func180, Try.ntmps180
  go_wp2_with (first | ((with_reducible refine gate_dst (N := 1) rfl ?_); refine box_event ?hg (N := 1) ?hd (cs := #[.int .i64 a0_0, .int .i64 a0_1]) (t := 90) ?hr ?_; (case hd => rfl); (case hg => rfl); (case hr => first | (go_simp; done) | (go_simp; rfl)); intro gb197 hg w3 hbox hb; have n0_ := Aside0.mk (below_step (by repeat (first | (with_reducible first | exact HB.out | apply below_alloc | apply pw_below_drewN | apply below_drew1) | exact HB.out)) hb); have n1_ := Aside0.mk (hbox); have n2_ := Aside0.mk ((by rw [hg]; exact (below_size (by repeat (first | (with_reducible first | exact HB.out | apply below_alloc | apply pw_below_drewN | apply below_drew1) | exact HB.out))) : w.heap.size ≤ gb197)); have n3_ := Aside0.mk ((by rw [hg]; exact (below_size (by repeat (first | (with_reducible first | exact HB.out | apply below_alloc | apply pw_below_drewN | apply below_drew1) | exact HB.out))) : w.heap.size ≤ gb197)); clear HB; have HB := n0_; have BK197 := n1_; have GW197 := n2_; have GE197 := n3_; clear n0_ n1_ n2_ n3_; clear hb hbox hg; have hcz4_0 : w3.cell? ⟨gb197, 0, none⟩ = some (.int .i64 a0_0) := (blk_cell BK197.out 0).trans rfl; have hcz4_1 : w3.cell? ⟨gb197, 1, none⟩ = some (.int .i64 a0_1) := (blk_cell BK197.out 1).trans rfl; have hfz4_0 := blk_frozen BK197.out 0; have hfz4_1 := blk_frozen BK197.out 1) | ((with_reducible refine gate_callee (f := 123) rfl ?_); refine goesL_ (some 4) rfl rfl Try.func123 (by kernel_rfl) rfl #[.agg #[.int .i64 a0_0, .int .i64 a0_1]] rfl (by (try simp only [List.map_toArray, List.map_cons, List.map_nil]); first | done | rfl | (simp only [List.length_drop, List.length_take]; rfl)) ?_; (with_reducible refine (impl_isPoint.calls a0_0 a0_1 t198 _ A2.out).mono ?_); rintro e w5 ⟨rfl, hb⟩; refine ⟨_, rfl, ?_⟩; have n0_ := Aside0.mk (blk_below (g := gb197) (o := .cells #[.int .i64 a0_0, .int .i64 a0_1] 90 (0, 0)) (by (with_reducible repeat (first | refine blk_drewN ?_ _ | refine blk_drew ?_ | refine blk_alloc ?_ _)); exact BK197.out) hb); have n1_ := Aside0.mk (below_step (by repeat (first | (with_reducible first | exact HB.out | apply below_alloc | apply pw_below_drewN | apply below_drew1 | refine below_set ?_ GE197.out) | exact HB.out)) hb); clear BK197; clear HB; have BK197 := n0_; have HB := n1_; clear n0_ n1_; (try clear hb); (try clear hb2); (try clear hk); (try clear hi)))
  go_ret
  exact ⟨by first | rfl | (simp [errW_none, errW_some] <;> rfl) | (simp [*, errW_none, errW_some] <;> rfl), by repeat (first | (with_reducible first | exact HB.out | apply below_alloc | apply pw_below_drewN | apply below_drew1 | refine below_set ?_ GE197.out) | exact HB.out)⟩

end Go.Proofs.Ytgpdjpololkhbaa.F

namespace Go.Proofs.Ytgpdjpololkhbaa.F
open Go.RowKit Go.Proofs.YtgpdjpololkhbaaW.PrintWords Go.Proofs.YtgpdjpololkhbaaW.PrintLast Go.Proofs.YtgpdjpololkhbaaW.PrintMore
attribute [local go_sem] max2_int min2_int max_two min_two max_three min_three max_four min_four   -- for this text's walks alone
set_option linter.unusedVariables false
set_option linter.unusedSimpArgs false

/-! ### impl_IsLine: function 147 -/
def bdPoint (p : S90) : Bool := !(decide (-1000000 ≤ p.f0 ∧ p.f0 ≤ 1000000) && decide (-1000000 ≤ p.f1 ∧ p.f1 ≤ 1000000))
def impl_IsLine.f (l0 : List (S90)) : Option (Bool) := some (decide (l0.length ≤ 200) && !l0.any bdPoint)
theorem bdPoint_f (p : S90) : impl_IsLine_1.f p.f0 p.f1 = some (bdPoint p) := by
  simp only [impl_IsLine_1.f, impl_isPoint.f, impl_isSpot.f, impl_in.f, bdPoint]
  by_cases h1 : p.f0 ≥ -1000000 <;> by_cases h2 : p.f0 ≤ 1000000 <;> by_cases h3 : p.f1 ≥ -1000000 <;> by_cases h4 : p.f1 ≤ 1000000 <;> simp [h1, h2, h3, h4]
theorem any_take (l0 : List (S90)) (m : Nat) (h : m < l0.length) : (l0.take (m + 1)).any bdPoint = ((l0.take m).any bdPoint || bdPoint (rd_T90 l0 m)) := by
  rw [List.take_succ_eq_append_getElem h, List.any_append]
  simp [rd_T90, h]
/-- What the index says: one of 0 and above tells that one of the points is beyond the bounds. -/
def IdxIs (b : Bool) (w w' : World) (e : Ending) : Prop := ∃ i : Int, e = .returned (.int .i64 i) ∧ decide (0 ≤ i) = b ∧ Below w.heap.size w w'
set_option maxHeartbeats 8000000 in
set_option maxRecDepth 100000 in
theorem idx_any (A0 : Option Addr) (c0 : Nat) (l0 : List (S90)) (w : World) (hr0 : Kd.C k90 w A0 l0.length l0) :
    Calls Try.prog 198 #[.slice A0 l0.length c0, .func (.func 180) #[] #[]] w fun e w' => IdxIs (l0.any bdPoint) w w' e := by
  have hu := Try.underlying90
  have HR0 := Aside0.mk hr0
  have hlen : l0.length ≤ 9223372036854775807 := hr0.2.1
  clear hr0
  go_enter Try.func198, Try.ntmps198
  go_wp2
  go_loopw [8] (fun v8 wr => ∃ m : Nat, v8 = .int .i64 m ∧ m ≤ l0.length ∧ Aside0 ((l0.take m).any bdPoint = false) ∧ Aside0 (Below w.heap.size w wr)) (fun v8 _ => l0.length - (intOf v8).toNat)
  case atStart => exact ⟨0, rfl, Nat.zero_le _, ⟨rfl⟩, ⟨Below.refl _ _⟩⟩
  case round =>
    obtain ⟨m, rfl, hm, HT, HB⟩ := hrel
    by_cases hlt : m < l0.length
    · obtain ⟨ad, e0, hx0, hx1⟩ := at_T90 HR0.out (m : Int) (by omega) (by omega)
      cases e0
      simp only [Int.toNat_natCast] at hx0 hx1
      replace hx0 := (HB.out.cell (World.block_lt_of_cell? w _ hx0)).trans hx0
      replace hx1 := (HB.out.cell (World.block_lt_of_cell? w _ hx1)).trans hx1
      have HN := Aside0.mk (any_take l0 m hlt)
      have HF := Aside0.mk (bdPoint_f (rd_T90 l0 (m : Int)))
      generalize hp : rd_T90 l0 (m : Int) = p at *
      clear hp
      cases hb : bdPoint p
      · have H2 : Aside0 (impl_IsLine_1.f p.f0 p.f1 = some false) := ⟨by rw [HF.out, hb]⟩
        have H3 : Aside0 ((l0.take (m + 1)).any bdPoint = false) := ⟨by rw [HN.out, HT.out, hb]; rfl⟩
        clear hb HN HF
        go_wp2_with (go_at_call 180; (with_reducible refine (impl_IsLine_1.calls p.f0 p.f1 false _ H2.out).mono ?_); rintro e w1 ⟨rfl, hb1⟩)
        go_roundw
        case rel => exact ⟨m + 1, by go_num, by omega, H3, ⟨HB.out.trans (hb1.mono HB.out.size)⟩⟩
        case measure => simp [intOf]; omega
      · have H2 : Aside0 (impl_IsLine_1.f p.f0 p.f1 = some true) := ⟨by rw [HF.out, hb]⟩
        have H3 : Aside0 (l0.any bdPoint = true) := ⟨by
          have := HN.out
          rw [hb, Bool.or_true] at this
          rw [← List.take_append_drop (m + 1) l0, List.any_append, this]
          rfl⟩
        clear hb HN HF
        go_wp2_with (go_at_call 180; (with_reducible refine (impl_IsLine_1.calls p.f0 p.f1 true _ H2.out).mono ?_); rintro e w1 ⟨rfl, hb1⟩)
        go_ret
        exact ⟨m, rfl, by rw [H3.out]; simp, HB.out.trans (hb1.mono HB.out.size)⟩
    · have H3 : Aside0 (l0.any bdPoint = false) := ⟨by
        have := HT.out
        rw [List.take_of_length_le (by omega)] at this
        exact this⟩
      go_wp2
      go_ret
      exact ⟨-1, rfl, by rw [H3.out]; simp, HB.out⟩
set_option maxHeartbeats 8000000 in
set_option maxRecDepth 100000 in
theorem cont_any (A0 : Option Addr) (c0 : Nat) (l0 : List (S90)) (w : World) (hr0 : Kd.C k90 w A0 l0.length l0) :
    Calls Try.prog 179 #[.slice A0 l0.length c0, .func (.func 180) #[] #[]] w fun e w' => e = .returned (.bool (l0.any bdPoint)) ∧ Below w.heap.size w w' := by
  have HI := Aside0.mk (idx_any A0 c0 l0 w hr0)
  clear hr0
  go_enter Try.func179, Try.ntmps179
  go_wp2_with (go_at_call 198; (with_reducible refine HI.out.mono ?_); rintro e w1 ⟨i, rfl, hi, hb1⟩; have hi := Aside0.mk hi)
  go_ret
  exact ⟨by rw [← hi.out]; rfl, hb1⟩
set_option maxHeartbeats 8000000 in
set_option maxRecDepth 100000 in
theorem impl_IsLine.calls (A0 : Option Addr) (c0 : Nat) (l0 : List (S90)) (r : Bool) (w : World) (hr0 : Kd.C k90 w A0 l0.length l0) (hc0 : l0.length ≤ c0) (h : impl_IsLine.f l0 = some r) :
    Calls Try.prog 147 #[.slice A0 l0.length c0] w fun e w' => e = .returned (.bool r) ∧ Below w.heap.size w w' := by
  have hlen : l0.length ≤ 9223372036854775807 := hr0.2.1
  have HI := Aside0.mk (cont_any A0 c0 l0 w hr0)
  obtain rfl := Option.some.inj h
  clear hr0 hc0 h
  by_cases h2 : l0.length ≤ 200
  · have g2 : decide ((l0.length : Int) ≤ 200) = true := by simp; omega
    generalize hq : l0.any bdPoint = q at *
    have HQ := Aside0.mk hq
    clear hq
    have HL : Aside0 (decide (l0.length ≤ 200) = true) := ⟨decide_eq_true h2⟩
    clear h2
    go_enter Try.func147, Try.ntmps147
    go_wp2_with (go_at_call 179; (with_reducible refine HI.out.mono ?_); rintro e w1 ⟨rfl, hb1⟩)
    go_ret
    exact ⟨by rw [HL.out]; simp, hb1⟩
  · have g2 : decide ((l0.length : Int) ≤ 200) = false := by simp; omega
    have HL : Aside0 (decide (l0.length ≤ 200) = false) := ⟨decide_eq_false h2⟩
    clear h2
    go_enter Try.func147, Try.ntmps147
    go_wp2
    go_ret
    exact ⟨by rw [HL.out]; simp, Below.refl _ _⟩

end Go.Proofs.Ytgpdjpololkhbaa.F

namespace Go.Proofs.Ytgpdjpololkhbaa.Pure
open Go.RowKit Go.Proofs.Ytgpdjpololkhbaa.F Go.Proofs.YtgpdjpololkhbaaW.PrintWords Go.Proofs.YtgpdjpololkhbaaW.PrintLast Go.Proofs.YtgpdjpololkhbaaW.PrintMore Go.Proofs.YtgpdjpololkhbaaB
set_option linter.unusedVariables false
set_option linter.unusedSimpArgs false
def ptB (p : S90) : Bool := inB p.f0 (-1000000) 1000000 && inB p.f1 (-1000000) 1000000
theorem bdPoint_eq (p : S90) : bdPoint p = !ptB p := rfl
def lineB (l : List S90) : Bool := decide (l.length ≤ 200) && l.all ptB
def strokeB (s : S110) : Bool := inB s.f0 1 8 && lineB s.f1 && decide (2 ≤ s.f1.length)
def codeS (l : List S110) : Int := if l.all strokeB = true then (if 40 < l.length then 3 else 0) else 1
theorem rdP {xs ys : List S90} {y : S90} {m : Nat} (h : xs.drop m = y :: ys) : rd_T90 xs (m : Int) = y := (drop_cons h).2.1 _
theorem rdS {xs ys : List S110} {y : S110} {m : Nat} (h : xs.drop m = y :: ys) : rd_T110 xs (m : Int) = y := (drop_cons h).2.1 _
theorem any_not_all (l : List S90) : (!l.any bdPoint) = l.all ptB := by
  rw [List.not_any_eq_all_not]
  congr 1
  funext p
  simp [bdPoint_eq]

end Go.Proofs.Ytgpdjpololkhbaa.Pure

namespace Go.Proofs.Ytgpdjpololkhbaa.Pure
open Go.RowKit Go.Proofs.Ytgpdjpololkhbaa.F Go.Proofs.YtgpdjpololkhbaaW.PrintWords Go.Proofs.YtgpdjpololkhbaaW.PrintLast Go.Proofs.YtgpdjpololkhbaaW.PrintMore Go.Proofs.YtgpdjpololkhbaaB
set_option linter.unusedVariables false
set_option linter.unusedSimpArgs false
theorem codeS_zero {xs : List S110} (h : codeS xs = 0) : xs.length ≤ 40 ∧ ∀ x ∈ xs, strokeB x = true := by
  unfold codeS at h
  split at h
  · rename_i ha
    split at h
    · cases h
    · exact ⟨by omega, fun x hx => List.all_eq_true.1 ha x hx⟩
  · cases h
theorem strokeB_len {x : S110} (h : strokeB x = true) : 2 ≤ x.f1.length ∧ x.f1.length ≤ 200 := by
  unfold strokeB lineB at h
  simp only [Bool.and_eq_true, decide_eq_true_eq] at h
  exact ⟨h.2, h.1.2.1⟩
theorem codeS_lens {xs : List S110} (h : codeS xs = 0) : ∀ x ∈ xs, 2 ≤ x.f1.length ∧ x.f1.length ≤ 9223372036854775807 := fun x hx => by
  have := strokeB_len ((codeS_zero h).2 x hx)
  omega
theorem codeS_or (xs : List S110) : codeS xs = 0 ∨ codeS xs = 1 ∨ codeS xs = 3 := by
  unfold codeS
  split
  · split
    · exact .inr (.inr rfl)
    · exact .inl rfl
  · exact .inr (.inl rfl)

end Go.Proofs.Ytgpdjpololkhbaa.Pure

namespace Go.Proofs.Ytgpdjpololkhbaa.Pure
open Go.RowKit Go.Proofs.Ytgpdjpololkhbaa.F Go.Proofs.YtgpdjpololkhbaaW.PrintWords Go.Proofs.YtgpdjpololkhbaaW.PrintLast Go.Proofs.YtgpdjpololkhbaaW.PrintMore Go.Proofs.YtgpdjpololkhbaaB
set_option linter.unusedVariables false
set_option linter.unusedSimpArgs false
/-- Drawings of a size that the loops can copy. -/
def smallS (xs : List S110) : Prop := xs.length ≤ 1048576 ∧ ∀ x ∈ xs, x.f1.length ≤ 1048576
theorem smallS_zero {xs : List S110} (h : codeS xs = 0) : smallS xs := by
  have := codeS_zero h
  refine ⟨by omega, fun x hx => ?_⟩
  have := strokeB_len (this.2 x hx)
  omega
theorem numSt_le {b : Int} : ∀ (xs : List S110), (∀ x ∈ xs, (x.f1.length : Int) ≤ b) → numSt xs ≤ xs.length * (1 + 2 * b)
  | [], _ => by simp [numSt]
  | y :: ys, h => by
    have h1 := h y List.mem_cons_self
    have h2 := numSt_le ys (fun x hx => h x (List.mem_cons_of_mem _ hx))
    simp only [numSt, List.length_cons]
    have : ((ys.length + 1 : Nat) : Int) * (1 + 2 * b) = ys.length * (1 + 2 * b) + (1 + 2 * b) := by
      rw [Int.natCast_add, Int.add_mul]; simp
    omega
theorem markSt_res (xs : List S110) (hx : xs.length ≤ 1048576) (hi : ∀ x ∈ xs, x.f1.length ≤ 1048576) : MarkSt xs (markSt 1 xs) 1 (1 + numSt xs) ∧ 0 ≤ 1 + numSt xs ∧ 1 + numSt xs ≤ 4611686018427387904 := by
  have h := numSt_le (b := 1048576) xs (fun x hx => by have := hi x hx; omega)
  have h0 := numSt_nonneg xs
  have h2 : numSt xs ≤ 1048576 * 2097153 := Int.le_trans h (Int.mul_le_mul_of_nonneg_right (by omega) (by omega))
  refine ⟨⟨by omega, fun y hy => by have := hi y hy; omega, by omega, by omega, rfl, rfl⟩, by omega, by omega⟩

end Go.Proofs.Ytgpdjpololkhbaa.Pure

namespace Go.Proofs.Ytgpdjpololkhbaa.Pure
open Go.RowKit Go.Proofs.Ytgpdjpololkhbaa.F Go.Proofs.YtgpdjpololkhbaaW.PrintWords Go.Proofs.YtgpdjpololkhbaaW.PrintLast Go.Proofs.YtgpdjpololkhbaaW.PrintMore Go.Proofs.YtgpdjpololkhbaaB
set_option linter.unusedVariables false
set_option linter.unusedSimpArgs false
def turnS (x : S110) : S110 := ⟨x.f0, x.f1.reverse⟩
def resTurn (xs : List S110) (a : Int) : List S110 × Int := if codeS xs = 0 then (if inB a 0 (xs.length - 1) = true then (xs.set a.toNat (turnS (rd_T110 xs a)), 0) else ([], 2)) else ([], codeS xs)
theorem rdS_mem {xs : List S110} {a : Int} (h0 : 0 ≤ a) (h1 : a < xs.length) : rd_T110 xs a ∈ xs := by
  show xs.getD a.toNat _ ∈ xs
  rw [List.getD_eq_getElem?_getD, List.getElem?_eq_getElem (by omega)]
  exact List.getElem_mem _
theorem inB_true {x lo hi : Int} (h : inB x lo hi = true) : lo ≤ x ∧ x ≤ hi := by
  unfold inB at h
  exact of_decide_eq_true h
theorem smallS_turn (xs : List S110) (a : Int) : smallS (resTurn xs a).1 := by
  unfold resTurn
  split
  · rename_i h
    have hs := smallS_zero h
    split
    · rename_i hb
      have hb := inB_true hb
      have hm := rdS_mem (xs := xs) (a := a) hb.1 (by omega)
      refine ⟨by rw [List.length_set]; exact hs.1, fun x hx => ?_⟩
      rcases List.mem_or_eq_of_mem_set hx with h1 | h1
      · exact hs.2 x h1
      · rw [h1]
        show (List.reverse _).length ≤ _
        rw [List.length_reverse]
        exact hs.2 _ hm
    · exact ⟨by simp, fun x hx => absurd hx (List.not_mem_nil)⟩
  · exact ⟨by simp, fun x hx => absurd hx (List.not_mem_nil)⟩

end Go.Proofs.Ytgpdjpololkhbaa.Pure

namespace Go.Proofs.Ytgpdjpololkhbaa.Pure
open Go.RowKit Go.Proofs.Ytgpdjpololkhbaa.F Go.Proofs.YtgpdjpololkhbaaW.PrintWords Go.Proofs.YtgpdjpololkhbaaW.PrintLast Go.Proofs.YtgpdjpololkhbaaW.PrintMore Go.Proofs.YtgpdjpololkhbaaB
set_option linter.unusedVariables false
set_option linter.unusedSimpArgs false
theorem impl_SplitProgram_l0 (q : Int) (h1 : 1 ≤ q) (h2 : q ≤ 400) : ∀ (d : Nat) (xs : List S137) (out : List (List S137)), xs.length ≤ d → out.length + xs.length ≤ 1048576 →
    Ev (fun k => impl_SplitProgram.l0 k xs q out) (out ++ chunks q.toNat d xs, 0)
  | 0, xs, out, hd, ho => by
    obtain rfl : xs = [] := List.eq_nil_of_length_eq_zero (by omega)
    refine ev_step (fun _ => rfl) (ev_neg (by simp) (ev_now ?_))
    rw [chunks_nil, List.append_nil]
  | d + 1, xs, out, hd, ho => by
    refine ev_step (fun _ => rfl) ?_
    by_cases h0 : xs.length = 0
    · obtain rfl : xs = [] := List.eq_nil_of_length_eq_zero h0
      refine ev_neg (by simp) (ev_now ?_)
      rw [chunks_nil, List.append_nil]
    · have hmn : mn q (xs.length : Int) = if (xs.length : Int) < q then (xs.length : Int) else q := rfl
      have ht : xs.take (mn q (xs.length : Int)).toNat = xs.take q.toNat := by
        rw [hmn]
        split
        · rw [List.take_of_length_le (by omega), List.take_of_length_le (by omega)]
        · rfl
      have hdr : xs.drop (mn q (xs.length : Int)).toNat = xs.drop q.toNat := by
        rw [hmn]
        split
        · rw [List.drop_eq_nil_of_le (by omega), List.drop_eq_nil_of_le (by omega)]
        · rfl
      have hm0 : 0 ≤ mn q (xs.length : Int) := by rw [hmn]; split <;> omega
      have hm1 : mn q (xs.length : Int) ≤ (xs.length : Int) := by rw [hmn]; split <;> omega
      have hl : (xs.take q.toNat).length ≤ xs.length := by rw [List.length_take]; omega
      have hl2 : (xs.drop q.toNat).length ≤ d := by rw [List.length_drop]; omega
      have hl3 : (xs.drop q.toNat).length + 1 ≤ xs.length := by rw [List.length_drop]; omega
      refine ev_pos (by omega) (ev_some rfl (ev_pos hm0 (ev_pos hm1 (ev_some rfl ?_))))
      rw [ht, hdr]
      refine ev_pos (by simp only [List.length_nil]; omega) (ev_pos (by omega) (ev_eq (impl_SplitProgram_l0 q h1 h2 d _ _ hl2 (by simp only [List.length_append, List.length_singleton]; omega)) ?_))
      rw [chunks_pos _ _ h0, List.append_assoc]
      rfl
theorem impl_SplitProgram_f (xs : List S137) (hx : xs.length ≤ 1048576) (q : Int) : Ev (fun k => impl_SplitProgram.f k xs q) (resSplit xs q) := by
  refine ev_bind (impl_program_f xs (by omega)) ?_
  unfold resSplit
  refine ev_ite (fun h => ?_) (fun h => ?_)
  · rw [if_pos h]
    refine ev_some (impl_in_f q 1 400) ?_
    cases hq : inB q 1 400
    · exact ev_neg (by simp) (ev_now (by simp))
    · have hb := inB_true hq
      refine ev_pos rfl (ev_eq (impl_SplitProgram_l0 q hb.1 hb.2 xs.length xs [] (Nat.le_refl _) (by simpa using hx)) ?_)
      simp
  · rw [if_neg h]
    exact ev_now rfl

end Go.Proofs.Ytgpdjpololkhbaa.Pure

namespace Go.Proofs.Ytgpdjpololkhbaa.F
open Go.RowKit Go.Proofs.YtgpdjpololkhbaaW.PrintWords Go.Proofs.YtgpdjpololkhbaaW.PrintLast Go.Proofs.YtgpdjpololkhbaaW.PrintMore
attribute [local go_sem] max2_int min2_int max_two min_two max_three min_three max_four min_four   -- for this text's walks alone
set_option linter.unusedVariables false
set_option linter.unusedSimpArgs false

/-! ### laws_eqCommand: function 93 -/
def laws_eqCommand.f (a0_0 : Int) (a0_1 : Int) (a0_2 : Int) (a1_0 : Int) (a1_1 : Int) (a1_2 : Int) : Option (Bool) := if a0_0 = a1_0 then (if a0_1 = a1_1 then (if a0_2 = a1_2 then (some true) else (some false)) else (some false)) else (some false)
set_option maxHeartbeats 8000000 in
set_option maxRecDepth 100000 in
theorem laws_eqCommand.calls (a0_0 : Int) (a0_1 : Int) (a0_2 : Int) (a1_0 : Int) (a1_1 : Int) (a1_2 : Int) (r : Bool) (w : World) (h : laws_eqCommand.f a0_0 a0_1 a0_2 a1_0 a1_1 a1_2 = some r) :
    Calls Try.prog 93 #[.agg #[.int .u8 a0_0, .int .i64 a0_1, .int .i64 a0_2], .agg #[.int .u8 a1_0, .int .i64 a1_1, .int .i64 a1_2]] w fun e w' => e = .returned (.bool r) ∧ Below w.heap.size w w' := by
  have hu137 := Try.underlying137
  have HB := Aside0.mk (Below.refl w.heap.size w)
  have H : (if a0_0 = a1_0 then (if a0_1 = a1_1 then (if a0_2 = a1_2 then (some true) else (some false)) else (some false)) else (some false)) = some r := h
  clear h
  by_cases c3 : a0_0 = a1_0
  · rw [if_pos c3] at H
    have c3b0 : (a0_0 == a1_0) = true := beq_iff_eq.mpr c3
    have c3b1 : (a0_0 != a1_0) = false := bne_eq_false_iff_eq.mpr c3
    clear c3
    by_cases c4 : a0_1 = a1_1
    · rw [if_pos c4] at H
      have c4b0 : (a0_1 == a1_1) = true := beq_iff_eq.mpr c4
      have c4b1 : (a0_1 != a1_1) = false := bne_eq_false_iff_eq.mpr c4
      clear c4
      by_cases c5 : a0_2 = a1_2
      · rw [if_pos c5] at H
        have c5b0 : (a0_2 == a1_2) = true := beq_iff_eq.mpr c5
        have c5b1 : (a0_2 != a1_2) = false := bne_eq_false_iff_eq.mpr c5
        clear c5
        obtain rfl := Option.some.inj H
        go_enter Try.func93, Try.ntmps93
        go_wp2_with (first | ((with_reducible refine gate_dst (N := 2) rfl ?_); refine box_event ?hg (N := 2) ?hd (cs := #[.int .u8 a0_0, .int .i64 a0_1, .int .i64 a0_2]) (t := 137) ?hr ?_; (case hd => rfl); (case hg => rfl); (case hr => first | (go_simp; done) | (go_simp; rfl)); intro gb566 hg w6 hbox hb; have n0_ := Aside0.mk (below_step (by repeat (first | (with_reducible first | exact HB.out | apply below_alloc | apply pw_below_drewN | apply below_drew1) | exact HB.out)) hb); have n1_ := Aside0.mk (hbox); have n2_ := Aside0.mk ((by rw [hg]; exact (below_size (by repeat (first | (with_reducible first | exact HB.out | apply below_alloc | apply pw_below_drewN | apply below_drew1) | exact HB.out))) : w.heap.size ≤ gb566)); have n3_ := Aside0.mk ((by rw [hg]; exact (below_size (by repeat (first | (with_reducible first | exact HB.out | apply below_alloc | apply pw_below_drewN | apply below_drew1) | exact HB.out))) : w.heap.size ≤ gb566)); clear HB; have HB := n0_; have BK566 := n1_; have GW566 := n2_; have GE566 := n3_; clear n0_ n1_ n2_ n3_; clear hb hbox hg) | ((with_reducible refine gate_dst (N := 3) rfl ?_); refine box_event ?hg (N := 3) ?hd (cs := #[.int .u8 a1_0, .int .i64 a1_1, .int .i64 a1_2]) (t := 137) ?hr ?_; (case hd => rfl); (case hg => rfl); (case hr => first | (go_simp; done) | (go_simp; rfl)); intro gb567 hg w7 hbox hb; have n0_ := Aside0.mk (blk_below (g := gb566) (o := .cells #[.int .u8 a0_0, .int .i64 a0_1, .int .i64 a0_2] 137 (0, 0)) (by (with_reducible repeat (first | refine blk_drewN ?_ _ | refine blk_drew ?_ | refine blk_alloc ?_ _)); exact BK566.out) hb); have n1_ := Aside0.mk (below_step (by repeat (first | (with_reducible first | exact HB.out | apply below_alloc | apply pw_below_drewN | apply below_drew1 | refine below_set ?_ GE566.out) | exact HB.out)) hb); have n2_ := Aside0.mk (hbox); have n3_ := Aside0.mk ((by rw [hg]; exact (below_size (by repeat (first | (with_reducible first | exact HB.out | apply below_alloc | apply pw_below_drewN | apply below_drew1 | refine below_set ?_ GE566.out) | exact HB.out))) : w.heap.size ≤ gb567)); have n4_ := Aside0.mk ((by rw [hg]; exact (below_size (by repeat (first | (with_reducible first | exact HB.out | apply below_alloc | apply pw_below_drewN | apply below_drew1 | refine below_set ?_ GE566.out) | exact HB.out))) : w.heap.size ≤ gb567)); have n5_ := Aside0.mk ((by rw [hg]; exact Nat.ne_of_lt (blk_lt (g := gb566) (o := .cells #[.int .u8 a0_0, .int .i64 a0_1, .int .i64 a0_2] 137 (0, 0)) (by (with_reducible repeat (first | refine blk_drewN ?_ _ | refine blk_drew ?_ | refine blk_alloc ?_ _)); exact BK566.out)) : gb566 ≠ gb567)); have n6_ := Aside0.mk ((by rw [hg]; exact Nat.ne_of_gt (blk_lt (g := gb566) (o := .cells #[.int .u8 a0_0, .int .i64 a0_1, .int .i64 a0_2] 137 (0, 0)) (by (with_reducible repeat (first | refine blk_drewN ?_ _ | refine blk_drew ?_ | refine blk_alloc ?_ _)); exact BK566.out)) : gb567 ≠ gb566)); clear BK566; clear HB; have BK566 := n0_; have HB := n1_; have BK567 := n2_; have GW567 := n3_; have GE567 := n4_; have NB566_567 := n5_; have NB567_566 := n6_; clear n0_ n1_ n2_ n3_ n4_ n5_ n6_; clear hb hbox hg; have hnb8 := NB566_567.out; have hnc8 := NB567_566.out; have hcz9_0 : w7.cell? ⟨gb566, 0, none⟩ = some (.int .u8 a0_0) := (blk_cell BK566.out 0).trans rfl; have hcz9_1 : w7.cell? ⟨gb566, 1, none⟩ = some (.int .i64 a0_1) := (blk_cell BK566.out 1).trans rfl; have hcz9_2 : w7.cell? ⟨gb566, 2, none⟩ = some (.int .i64 a0_2) := (blk_cell BK566.out 2).trans rfl; have hfz9_0 := blk_frozen BK566.out 0; have hfz9_1 := blk_frozen BK566.out 1; have hfz9_2 := blk_frozen BK566.out 2; have hcz10_0 : w7.cell? ⟨gb567, 0, none⟩ = some (.int .u8 a1_0) := (blk_cell BK567.out 0).trans rfl; have hcz10_1 : w7.cell? ⟨gb567, 1, none⟩ = some (.int .i64 a1_1) := (blk_cell BK567.out 1).trans rfl; have hcz10_2 : w7.cell? ⟨gb567, 2, none⟩ = some (.int .i64 a1_2) := (blk_cell BK567.out 2).trans rfl; have hfz10_0 := blk_frozen BK567.out 0; have hfz10_1 := blk_frozen BK567.out 1; have hfz10_2 := blk_frozen BK567.out 2))
        go_ret
        exact ⟨by first | rfl | (simp [errW_none, errW_some] <;> rfl) | (simp [*, errW_none, errW_some] <;> rfl), by repeat (first | (with_reducible first | exact HB.out | apply below_alloc | apply pw_below_drewN | apply below_drew1 | refine below_set ?_ GE566.out | refine below_set ?_ GE567.out) | exact HB.out)⟩
      · rw [if_neg c5] at H
        have c5b0 : (a0_2 == a1_2) = false := beq_eq_false_iff_ne.mpr c5
        have c5b1 : (a0_2 != a1_2) = true := bne_iff_ne.mpr c5
        obtain rfl := Option.some.inj H
        go_enter Try.func93, Try.ntmps93
        go_wp2_with (first | ((with_reducible refine gate_dst (N := 2) rfl ?_); refine box_event ?hg (N := 2) ?hd (cs := #[.int .u8 a0_0, .int .i64 a0_1, .int .i64 a0_2]) (t := 137) ?hr ?_; (case hd => rfl); (case hg => rfl); (case hr => first | (go_simp; done) | (go_simp; rfl)); intro gb566 hg w11 hbox hb; have n0_ := Aside0.mk (below_step (by repeat (first | (with_reducible first | exact HB.out | apply below_alloc | apply pw_below_drewN | apply below_drew1) | exact HB.out)) hb); have n1_ := Aside0.mk (hbox); have n2_ := Aside0.mk ((by rw [hg]; exact (below_size (by repeat (first | (with_reducible first | exact HB.out | apply below_alloc | apply pw_below_drewN | apply below_drew1) | exact HB.out))) : w.heap.size ≤ gb566)); have n3_ := Aside0.mk ((by rw [hg]; exact (below_size (by repeat (first | (with_reducible first | exact HB.out | apply below_alloc | apply pw_below_drewN | apply below_drew1) | exact HB.out))) : w.heap.size ≤ gb566)); clear HB; have HB := n0_; have BK566 := n1_; have GW566 := n2_; have GE566 := n3_; clear n0_ n1_ n2_ n3_; clear hb hbox hg) | ((with_reducible refine gate_dst (N := 3) rfl ?_); refine box_event ?hg (N := 3) ?hd (cs := #[.int .u8 a1_0, .int .i64 a1_1, .int .i64 a1_2]) (t := 137) ?hr ?_; (case hd => rfl); (case hg => rfl); (case hr => first | (go_simp; done) | (go_simp; rfl)); intro gb567 hg w12 hbox hb; have n0_ := Aside0.mk (blk_below (g := gb566) (o := .cells #[.int .u8 a0_0, .int .i64 a0_1, .int .i64 a0_2] 137 (0, 0)) (by (with_reducible repeat (first | refine blk_drewN ?_ _ | refine blk_drew ?_ | refine blk_alloc ?_ _)); exact BK566.out) hb); have n1_ := Aside0.mk (below_step (by repeat (first | (with_reducible first | exact HB.out | apply below_alloc | apply pw_below_drewN | apply below_drew1 | refine below_set ?_ GE566.out) | exact HB.out)) hb); have n2_ := Aside0.mk (hbox); have n3_ := Aside0.mk ((by rw [hg]; exact (below_size (by repeat (first | (with_reducible first | exact HB.out | apply below_alloc | apply pw_below_drewN | apply below_drew1 | refine below_set ?_ GE566.out) | exact HB.out))) : w.heap.size ≤ gb567)); have n4_ := Aside0.mk ((by rw [hg]; exact (below_size (by repeat (first | (with_reducible first | exact HB.out | apply below_alloc | apply pw_below_drewN | apply below_drew1 | refine below_set ?_ GE566.out) | exact HB.out))) : w.heap.size ≤ gb567)); have n5_ := Aside0.mk ((by rw [hg]; exact Nat.ne_of_lt (blk_lt (g := gb566) (o := .cells #[.int .u8 a0_0, .int .i64 a0_1, .int .i64 a0_2] 137 (0, 0)) (by (with_reducible repeat (first | refine blk_drewN ?_ _ | refine blk_drew ?_ | refine blk_alloc ?_ _)); exact BK566.out)) : gb566 ≠ gb567)); have n6_ := Aside0.mk ((by rw [hg]; exact Nat.ne_of_gt (blk_lt (g := gb566) (o := .cells #[.int .u8 a0_0, .int .i64 a0_1, .int .i64 a0_2] 137 (0, 0)) (by (with_reducible repeat (first | refine blk_drewN ?_ _ | refine blk_drew ?_ | refine blk_alloc ?_ _)); exact BK566.out)) : gb567 ≠ gb566)); clear BK566; clear HB; have BK566 := n0_; have HB := n1_; have BK567 := n2_; have GW567 := n3_; have GE567 := n4_; have NB566_567 := n5_; have NB567_566 := n6_; clear n0_ n1_ n2_ n3_ n4_ n5_ n6_; clear hb hbox hg; have hnb13 := NB566_567.out; have hnc13 := NB567_566.out; have hcz14_0 : w12.cell? ⟨gb566, 0, none⟩ = some (.int .u8 a0_0) := (blk_cell BK566.out 0).trans rfl; have hcz14_1 : w12.cell? ⟨gb566, 1, none⟩ = some (.int .i64 a0_1) := (blk_cell BK566.out 1).trans rfl; have hcz14_2 : w12.cell? ⟨gb566, 2, none⟩ = some (.int .i64 a0_2) := (blk_cell BK566.out 2).trans rfl; have hfz14_0 := blk_frozen BK566.out 0; have hfz14_1 := blk_frozen BK566.out 1; have hfz14_2 := blk_frozen BK566.out 2; have hcz15_0 : w12.cell? ⟨gb567, 0, none⟩ = some (.int .u8 a1_0) := (blk_cell BK567.out 0).trans rfl; have hcz15_1 : w12.cell? ⟨gb567, 1, none⟩ = some (.int .i64 a1_1) := (blk_cell BK567.out 1).trans rfl; have hcz15_2 : w12.cell? ⟨gb567, 2, none⟩ = some (.int .i64 a1_2) := (blk_cell BK567.out 2).trans rfl; have hfz15_0 := blk_frozen BK567.out 0; have hfz15_1 := blk_frozen BK567.out 1; have hfz15_2 := blk_frozen BK567.out 2))
        go_ret
        exact ⟨by first | rfl | (simp [errW_none, errW_some] <;> rfl) | (simp [*, errW_none, errW_some] <;> rfl), by repeat (first | (with_reducible first | exact HB.out | apply below_alloc | apply pw_below_drewN | apply below_drew1 | refine below_set ?_ GE566.out | refine below_set ?_ GE567.out) | exact HB.out)⟩
    · rw [if_neg c4] at H
      have c4b0 : (a0_1 == a1_1) = false := beq_eq_false_iff_ne.mpr c4
      have c4b1 : (a0_1 != a1_1) = true := bne_iff_ne.mpr c4
      obtain rfl := Option.some.inj H
      go_enter Try.func93, Try.ntmps93
      go_wp2_with (first | ((with_reducible refine gate_dst (N := 2) rfl ?_); refine box_event ?hg (N := 2) ?hd (cs := #[.int .u8 a0_0, .int .i64 a0_1, .int .i64 a0_2]) (t := 137) ?hr ?_; (case hd => rfl); (case hg => rfl); (case hr => first | (go_simp; done) | (go_simp; rfl)); intro gb566 hg w16 hbox hb; have n0_ := Aside0.mk (below_step (by repeat (first | (with_reducible first | exact HB.out | apply below_alloc | apply pw_below_drewN | apply below_drew1) | exact HB.out)) hb); have n1_ := Aside0.mk (hbox); have n2_ := Aside0.mk ((by rw [hg]; exact (below_size (by repeat (first | (with_reducible first | exact HB.out | apply below_alloc | apply pw_below_drewN | apply below_drew1) | exact HB.out))) : w.heap.size ≤ gb566)); have n3_ := Aside0.mk ((by rw [hg]; exact (below_size (by repeat (first | (with_reducible first | exact HB.out | apply below_alloc | apply pw_below_drewN | apply below_drew1) | exact HB.out))) : w.heap.size ≤ gb566)); clear HB; have HB := n0_; have BK566 := n1_; have GW566 := n2_; have GE566 := n3_; clear n0_ n1_ n2_ n3_; clear hb hbox hg) | ((with_reducible refine gate_dst (N := 3) rfl ?_); refine box_event ?hg (N := 3) ?hd (cs := #[.int .u8 a1_0, .int .i64 a1_1, .int .i64 a1_2]) (t := 137) ?hr ?_; (case hd => rfl); (case hg => rfl); (case hr => first | (go_simp; done) | (go_simp; rfl)); intro gb567 hg w17 hbox hb; have n0_ := Aside0.mk (blk_below (g := gb566) (o := .cells #[.int .u8 a0_0, .int .i64 a0_1, .int .i64 a0_2] 137 (0, 0)) (by (with_reducible repeat (first | refine blk_drewN ?_ _ | refine blk_drew ?_ | refine blk_alloc ?_ _)); exact BK566.out) hb); have n1_ := Aside0.mk (below_step (by repeat (first | (with_reducible first | exact HB.out | apply below_alloc | apply pw_below_drewN | apply below_drew1 | refine below_set ?_ GE566.out) | exact HB.out)) hb); have n2_ := Aside0.mk (hbox); have n3_ := Aside0.mk ((by rw [hg]; exact (below_size (by repeat (first | (with_reducible first | exact HB.out | apply below_alloc | apply pw_below_drewN | apply below_drew1 | refine below_set ?_ GE566.out) | exact HB.out))) : w.heap.size ≤ gb567)); have n4_ := Aside0.mk ((by rw [hg]; exact (below_size (by repeat (first | (with_reducible first | exact HB.out | apply below_alloc | apply pw_below_drewN | apply below_drew1 | refine below_set ?_ GE566.out) | exact HB.out))) : w.heap.size ≤ gb567)); have n5_ := Aside0.mk ((by rw [hg]; exact Nat.ne_of_lt (blk_lt (g := gb566) (o := .cells #[.int .u8 a0_0, .int .i64 a0_1, .int .i64 a0_2] 137 (0, 0)) (by (with_reducible repeat (first | refine blk_drewN ?_ _ | refine blk_drew ?_ | refine blk_alloc ?_ _)); exact BK566.out)) : gb566 ≠ gb567)); have n6_ := Aside0.mk ((by rw [hg]; exact Nat.ne_of_gt (blk_lt (g := gb566) (o := .cells #[.int .u8 a0_0, .int .i64 a0_1, .int .i64 a0_2] 137 (0, 0)) (by (with_reducible repeat (first | refine blk_drewN ?_ _ | refine blk_drew ?_ | refine blk_alloc ?_ _)); exact BK566.out)) : gb567 ≠ gb566)); clear BK566; clear HB; have BK566 := n0_; have HB := n1_; have BK567 := n2_; have GW567 := n3_; have GE567 := n4_; have NB566_567 := n5_; have NB567_566 := n6_; clear n0_ n1_ n2_ n3_ n4_ n5_ n6_; clear hb hbox hg; have hnb18 := NB566_567.out; have hnc18 := NB567_566.out; have hcz19_0 : w17.cell? ⟨gb566, 0, none⟩ = some (.int .u8 a0_0) := (blk_cell BK566.out 0).trans rfl; have hcz19_1 : w17.cell? ⟨gb566, 1, none⟩ = some (.int .i64 a0_1) := (blk_cell BK566.out 1).trans rfl; have hcz19_2 : w17.cell? ⟨gb566, 2, none⟩ = some (.int .i64 a0_2) := (blk_cell BK566.out 2).trans rfl; have hfz19_0 := blk_frozen BK566.out 0; have hfz19_1 := blk_frozen BK566.out 1; have hfz19_2 := blk_frozen BK566.out 2; have hcz20_0 : w17.cell? ⟨gb567, 0, none⟩ = some (.int .u8 a1_0) := (blk_cell BK567.out 0).trans rfl; have hcz20_1 : w17.cell? ⟨gb567, 1, none⟩ = some (.int .i64 a1_1) := (blk_cell BK567.out 1).trans rfl; have hcz20_2 : w17.cell? ⟨gb567, 2, none⟩ = some (.int .i64 a1_2) := (blk_cell BK567.out 2).trans rfl; have hfz20_0 := blk_frozen BK567.out 0; have hfz20_1 := blk_frozen BK567.out 1; have hfz20_2 := blk_frozen BK567.out 2))
      go_ret
      exact ⟨by first | rfl | (simp [errW_none, errW_some] <;> rfl) | (simp [*, errW_none, errW_some] <;> rfl), by repeat (first | (with_reducible first | exact HB.out | apply below_alloc | apply pw_below_drewN | apply below_drew1 | refine below_set ?_ GE566.out | refine below_set ?_ GE567.out) | exact HB.out)⟩
  · rw [if_neg c3] at H
    have c3b0 : (a0_0 == a1_0) = false := beq_eq_false_iff_ne.mpr c3
    have c3b1 : (a0_0 != a1_0) = true := bne_iff_ne.mpr c3
    obtain rfl := Option.some.inj H
    go_enter Try.func93, Try.ntmps93
    go_wp2_with (first | ((with_reducible refine gate_dst (N := 2) rfl ?_); refine box_event ?hg (N := 2) ?hd (cs := #[.int .u8 a0_0, .int .i64 a0_1, .int .i64 a0_2]) (t := 137) ?hr ?_; (case hd => rfl); (case hg => rfl); (case hr => first | (go_simp; done) | (go_simp; rfl)); intro gb566 hg w21 hbox hb; have n0_ := Aside0.mk (below_step (by repeat (first | (with_reducible first | exact HB.out | apply below_alloc | apply pw_below_drewN | apply below_drew1) | exact HB.out)) hb); have n1_ := Aside0.mk (hbox); have n2_ := Aside0.mk ((by rw [hg]; exact (below_size (by repeat (first | (with_reducible first | exact HB.out | apply below_alloc | apply pw_below_drewN | apply below_drew1) | exact HB.out))) : w.heap.size ≤ gb566)); have n3_ := Aside0.mk ((by rw [hg]; exact (below_size (by repeat (first | (with_reducible first | exact HB.out | apply below_alloc | apply pw_below_drewN | apply below_drew1) | exact HB.out))) : w.heap.size ≤ gb566)); clear HB; have HB := n0_; have BK566 := n1_; have GW566 := n2_; have GE566 := n3_; clear n0_ n1_ n2_ n3_; clear hb hbox hg) | ((with_reducible refine gate_dst (N := 3) rfl ?_); refine box_event ?hg (N := 3) ?hd (cs := #[.int .u8 a1_0, .int .i64 a1_1, .int .i64 a1_2]) (t := 137) ?hr ?_; (case hd => rfl); (case hg => rfl); (case hr => first | (go_simp; done) | (go_simp; rfl)); intro gb567 hg w22 hbox hb; have n0_ := Aside0.mk (blk_below (g := gb566) (o := .cells #[.int .u8 a0_0, .int .i64 a0_1, .int .i64 a0_2] 137 (0, 0)) (by (with_reducible repeat (first | refine blk_drewN ?_ _ | refine blk_drew ?_ | refine blk_alloc ?_ _)); exact BK566.out) hb); have n1_ := Aside0.mk (below_step (by repeat (first | (with_reducible first | exact HB.out | apply below_alloc | apply pw_below_drewN | apply below_drew1 | refine below_set ?_ GE566.out) | exact HB.out)) hb); have n2_ := Aside0.mk (hbox); have n3_ := Aside0.mk ((by rw [hg]; exact (below_size (by repeat (first | (with_reducible first | exact HB.out | apply below_alloc | apply pw_below_drewN | apply below_drew1 | refine below_set ?_ GE566.out) | exact HB.out))) : w.heap.size ≤ gb567)); have n4_ := Aside0.mk ((by rw [hg]; exact (below_size (by repeat (first | (with_reducible first | exact HB.out | apply below_alloc | apply pw_below_drewN | apply below_drew1 | refine below_set ?_ GE566.out) | exact HB.out))) : w.heap.size ≤ gb567)); have n5_ := Aside0.mk ((by rw [hg]; exact Nat.ne_of_lt (blk_lt (g := gb566) (o := .cells #[.int .u8 a0_0, .int .i64 a0_1, .int .i64 a0_2] 137 (0, 0)) (by (with_reducible repeat (first | refine blk_drewN ?_ _ | refine blk_drew ?_ | refine blk_alloc ?_ _)); exact BK566.out)) : gb566 ≠ gb567)); have n6_ := Aside0.mk ((by rw [hg]; exact Nat.ne_of_gt (blk_lt (g := gb566) (o := .cells #[.int .u8 a0_0, .int .i64 a0_1, .int .i64 a0_2] 137 (0, 0)) (by (with_reducible repeat (first | refine blk_drewN ?_ _ | refine blk_drew ?_ | refine blk_alloc ?_ _)); exact BK566.out)) : gb567 ≠ gb566)); clear BK566; clear HB; have BK566 := n0_; have HB := n1_; have BK567 := n2_; have GW567 := n3_; have GE567 := n4_; have NB566_567 := n5_; have NB567_566 := n6_; clear n0_ n1_ n2_ n3_ n4_ n5_ n6_; clear hb hbox hg; have hnb23 := NB566_567.out; have hnc23 := NB567_566.out; have hcz24_0 : w22.cell? ⟨gb566, 0, none⟩ = some (.int .u8 a0_0) := (blk_cell BK566.out 0).trans rfl; have hcz24_1 : w22.cell? ⟨gb566, 1, none⟩ = some (.int .i64 a0_1) := (blk_cell BK566.out 1).trans rfl; have hcz24_2 : w22.cell? ⟨gb566, 2, none⟩ = some (.int .i64 a0_2) := (blk_cell BK566.out 2).trans rfl; have hfz24_0 := blk_frozen BK566.out 0; have hfz24_1 := blk_frozen BK566.out 1; have hfz24_2 := blk_frozen BK566.out 2; have hcz25_0 : w22.cell? ⟨gb567, 0, none⟩ = some (.int .u8 a1_0) := (blk_cell BK567.out 0).trans rfl; have hcz25_1 : w22.cell? ⟨gb567, 1, none⟩ = some (.int .i64 a1_1) := (blk_cell BK567.out 1).trans rfl; have hcz25_2 : w22.cell? ⟨gb567, 2, none⟩ = some (.int .i64 a1_2) := (blk_cell BK567.out 2).trans rfl; have hfz25_0 := blk_frozen BK567.out 0; have hfz25_1 := blk_frozen BK567.out 1; have hfz25_2 := blk_frozen BK567.out 2))
    go_ret
    exact ⟨by first | rfl | (simp [errW_none, errW_some] <;> rfl) | (simp [*, errW_none, errW_some] <;> rfl), by repeat (first | (with_reducible first | exact HB.out | apply below_alloc | apply pw_below_drewN | apply below_drew1 | refine below_set ?_ GE566.out | refine below_set ?_ GE567.out) | exact HB.out)⟩

end Go.Proofs.Ytgpdjpololkhbaa.F

namespace Go.Proofs.Ytgpdjpololkhbaa.F
open Go.RowKit Go.Proofs.YtgpdjpololkhbaaW.PrintWords Go.Proofs.YtgpdjpololkhbaaW.PrintLast Go.Proofs.YtgpdjpololkhbaaW.PrintMore
attribute [local go_sem] max2_int min2_int max_two min_two max_three min_three max_four min_four   -- for this text's walks alone
set_option linter.unusedVariables false
set_option linter.unusedSimpArgs false

/-! ### laws_eqCommandS: function 35 -/
def laws_eqCommandS.l0 : Nat → List (S137) → List (S137) → Int → Option (Bool)
  | 0, _, _, _ => none
  | k + 1, x0, x1, x5 => if x5 < (x0.length : Int) then (if 0 ≤ x5 then (if x5 < (x1.length : Int) then ((laws_eqCommand.f ((rd_T137 x0 x5).f0) ((rd_T137 x0 x5).f1) ((rd_T137 x0 x5).f2) ((rd_T137 x1 x5).f0) ((rd_T137 x1 x5).f1) ((rd_T137 x1 x5).f2)).bind fun t570 => (if t570 = true then (laws_eqCommandS.l0 k x0 x1 (wrap64 (x5 + 1))) else (some false))) else (none)) else (none)) else (some true)
def laws_eqCommandS.f (k : Nat) (l0 : List (S137)) (l1 : List (S137)) : Option (Bool) := if (l0.length : Int) = (l1.length : Int) then (laws_eqCommandS.l0 k l0 l1 0) else (some false)
theorem laws_eqCommandS.mono_l : ∀ k, (∀ y0 y1 y2, LeO (laws_eqCommandS.l0 k y0 y1 y2) (laws_eqCommandS.l0 (k + 1) y0 y1 y2))
  | 0 => fun _ _ _ r h => by simp [laws_eqCommandS.l0] at h
  | k + 1 => by
    have ih0 := laws_eqCommandS.mono_l k
    · intro y0 y1 y2
      unfold laws_eqCommandS.l0
      repeat' first
      | (with_reducible exact ih0 _ _ _)
      | (with_reducible exact LeO.refl _)
      | (with_reducible exact LeO.none _)
      | (with_reducible refine LeO.ite ?_ ?_)
      | (with_reducible refine LeO.bind ?_ (fun _ => ?_))
      | exact ih0 _ _ _
      | exact LeO.none _
      | refine LeO.ite ?_ ?_
      | refine LeO.bind ?_ (fun _ => ?_)
theorem laws_eqCommandS.mono : ∀ a0 a1 k, LeO (laws_eqCommandS.f k a0 a1) (laws_eqCommandS.f (k + 1) a0 a1) := by
  intro a0 a1 k
  have ih0 := laws_eqCommandS.mono_l k
  unfold laws_eqCommandS.f
  repeat' first
      | (with_reducible exact ih0 _ _ _)
      | (with_reducible exact LeO.refl _)
      | (with_reducible exact LeO.none _)
      | (with_reducible refine LeO.ite ?_ ?_)
      | (with_reducible refine LeO.bind ?_ (fun _ => ?_))
      | exact ih0 _ _ _
      | exact LeO.none _
      | refine LeO.ite ?_ ?_
      | refine LeO.bind ?_ (fun _ => ?_)
def laws_eqCommandS.T6 : Bool × List (List Nat × List Nat) := (true, [([], []), ([], []), ([0, 1], [0, 1]), ([2], [2]), ([], []), ([], []), ([4, 5], [4, 5]), ([6], [6]), ([3, 7], [3, 7]), ([8], [8])])
def laws_eqCommandS.B6 : List Nat := [0, 0, 3, 7, 0, 0, 48, 112, 255, 511]
theorem laws_eqCommandS.tab6 : rtab .any (opsOf Try.f35 6) = laws_eqCommandS.T6 := by kernel_rfl
theorem laws_eqCommandS.bits6 : waitsOk laws_eqCommandS.T6.2 laws_eqCommandS.B6 = true := by kernel_rfl
set_option maxHeartbeats 8000000 in
set_option maxRecDepth 100000 in
theorem laws_eqCommandS.calls (k : Nat) (A0 : Option Addr) (c0 : Nat) (l0 : List (S137)) (A1 : Option Addr) (c1 : Nat) (l1 : List (S137)) (r : Bool) (w : World) (hr0 : Kd.C k137 w A0 l0.length l0) (hc0 : l0.length ≤ c0) (hr1 : Kd.C k137 w A1 l1.length l1) (hc1 : l1.length ≤ c1) (h : laws_eqCommandS.f k l0 l1 = some r) :
    Calls Try.prog 35 #[.slice A0 l0.length c0, .slice A1 l1.length c1] w fun e w' => e = .returned (.bool r) ∧ Below w.heap.size w w' := by
  have hu137 := Try.underlying137
  have HR0 := Aside0.mk hr0
  have HC0 := Aside0.mk hc0
  clear hr0 hc0
  have HR1 := Aside0.mk hr1
  have HC1 := Aside0.mk hc1
  clear hr1 hc1
  have HB := Aside0.mk (Below.refl w.heap.size w)
  have H : (if (l0.length : Int) = (l1.length : Int) then (laws_eqCommandS.l0 k l0 l1 0) else (some false)) = some r := h
  clear h
  by_cases c3 : (l0.length : Int) = (l1.length : Int)
  · rw [if_pos c3] at H
    have c3b0 : ((l0.length : Int) == (l1.length : Int)) = true := beq_iff_eq.mpr c3
    have c3b1 : ((l0.length : Int) != (l1.length : Int)) = false := bne_eq_false_iff_eq.mpr c3
    have c3b2 : (l0.length == l1.length) = true := by first | simpa using c3 | (simp at c3 ⊢; omega)
    clear c3
    have H' := Aside0.mk H
    clear H
    go_enter Try.func35, Try.ntmps35
    go_wp2
    go_loopg [5] k (fun kq v5 w' => ∃ (x5_1 : Int), v5 = .int .i64 x5_1 ∧ Aside0 (laws_eqCommandS.l0 kq l0 l1 x5_1 = some r) ∧ Aside0 (kq ≤ k) ∧ Aside0 (Below w.heap.size w w'))
    case atStart => exact ⟨(0), (by first | rfl | (simp; done) | (simp [*]; done)), H', ⟨Nat.le_refl _⟩, ⟨by repeat (first | (with_reducible first | exact HB.out | apply below_alloc | apply pw_below_drewN | apply below_drew1) | exact HB.out)⟩⟩
    case round =>
      clear H'
      try clear c1
      try clear p2
      try clear c3
      try clear c3b0
      try clear c3b1
      try clear c3b2
      obtain ⟨x5_1, rfl, HA, HK1, HB⟩ := hrel
      cases gk with
      | zero => exact absurd HA.out (by simp [laws_eqCommandS.l0])
      | succ k1 =>
        have H := HA.out
        clear HA
        simp only [laws_eqCommandS.l0] at H
        by_cases c4 : x5_1 < (l0.length : Int)
        · rw [if_pos c4] at H
          have c4b0 : decide (x5_1 < (l0.length : Int)) = true := decide_eq_true c4
          clear c4
          by_cases c5 : 0 ≤ x5_1
          · rw [if_pos c5] at H
            have c5b0 : decide (0 ≤ x5_1) = true := decide_eq_true c5
            clear c5
            by_cases c6 : x5_1 < (l1.length : Int)
            · rw [if_pos c6] at H
              have c6b0 : decide (x5_1 < (l1.length : Int)) = true := decide_eq_true c6
              clear c6
              replace H := Option.bind_eq_some_iff.mp H
              obtain ⟨t570, A70, H⟩ := H
              replace H : (if t570 = true then (laws_eqCommandS.l0 k1 l0 l1 (wrap64 (x5_1 + 1))) else (some false)) = some r := H
              have A7 := Aside0.mk A70
              clear A70
              by_cases c8 : t570 = true
              · subst c8
                have H1 : (laws_eqCommandS.l0 k1 l0 l1 (wrap64 (x5_1 + 1))) = some r := by rw [if_pos rfl] at H; exact H
                clear H
                have H := H1
                clear H1
                have H' := Aside0.mk H
                clear H
                try go_wp2
                have n0_ := Aside0.mk (below_drew1 HB.out)
                clear HB
                have HB := n0_
                clear n0_
                have p568 : 0 ≤ (x5_1 : Int) := of_decide_eq_true (by first | (with_reducible assumption) | assumption)
                have q568 : x5_1 < (l0.length : Int) := of_decide_eq_true (by first | (with_reducible assumption) | assumption)
                obtain ⟨ad568, e568, hx568_0, hx568_1, hx568_2⟩ := at_T137 HR0.out x5_1 p568 q568
                have hw568_2 := hx568_2
                have hw568_1 := hx568_1
                have hw568_0 := hx568_0
                cases e568
                replace hx568_0 := (HB.out.cell (World.block_lt_of_cell? w _ hx568_0)).trans hx568_0
                replace hx568_1 := (HB.out.cell (World.block_lt_of_cell? w _ hx568_1)).trans hx568_1
                replace hx568_2 := (HB.out.cell (World.block_lt_of_cell? w _ hx568_2)).trans hx568_2
                replace p568 := eq_true p568
                replace q568 := eq_true q568
                have p569 : 0 ≤ (x5_1 : Int) := of_decide_eq_true (by first | (with_reducible assumption) | assumption)
                have q569 : x5_1 < (l1.length : Int) := of_decide_eq_true (by first | (with_reducible assumption) | assumption)
                obtain ⟨ad569, e569, hx569_0, hx569_1, hx569_2⟩ := at_T137 HR1.out x5_1 p569 q569
                have hw569_2 := hx569_2
                have hw569_1 := hx569_1
                have hw569_0 := hx569_0
                cases e569
                replace hx569_0 := (HB.out.cell (World.block_lt_of_cell? w _ hx569_0)).trans hx569_0
                replace hx569_1 := (HB.out.cell (World.block_lt_of_cell? w _ hx569_1)).trans hx569_1
                replace hx569_2 := (HB.out.cell (World.block_lt_of_cell? w _ hx569_2)).trans hx569_2
                replace p569 := eq_true p569
                replace q569 := eq_true q569
                refine start_ (n := 10) (S := fun w' => w'.cell? (ad568.add ((x5_1).toNat * 3)) = some (.int .u8 ((rd_T137 l0 x5_1).f0)) ∧ w'.cell? ⟨(ad568.add ((x5_1).toNat * 3)).block, (ad568.add ((x5_1).toNat * 3)).off + 1, none⟩ = some (.int .i64 ((rd_T137 l0 x5_1).f1)) ∧ w'.cell? ⟨(ad568.add ((x5_1).toNat * 3)).block, (ad568.add ((x5_1).toNat * 3)).off + 2, none⟩ = some (.int .i64 ((rd_T137 l0 x5_1).f2)) ∧ w'.cell? (ad569.add ((x5_1).toNat * 3)) = some (.int .u8 ((rd_T137 l1 x5_1).f0)) ∧ w'.cell? ⟨(ad569.add ((x5_1).toNat * 3)).block, (ad569.add ((x5_1).toNat * 3)).off + 1, none⟩ = some (.int .i64 ((rd_T137 l1 x5_1).f1)) ∧ w'.cell? ⟨(ad569.add ((x5_1).toNat * 3)).block, (ad569.add ((x5_1).toNat * 3)).off + 2, none⟩ = some (.int .i64 ((rd_T137 l1 x5_1).f2))) (ds := []) #[false, false, false, false, false, false, false, false, false, false] (by kernel_rfl) rfl rfl ⟨((HB.out.cell (World.block_lt_of_cell? w _ hw568_0)).trans hw568_0), ((HB.out.cell (World.block_lt_of_cell? w _ hw568_1)).trans hw568_1), ((HB.out.cell (World.block_lt_of_cell? w _ hw568_2)).trans hw568_2), ((HB.out.cell (World.block_lt_of_cell? w _ hw569_0)).trans hw569_0), ((HB.out.cell (World.block_lt_of_cell? w _ hw569_1)).trans hw569_1), ((HB.out.cell (World.block_lt_of_cell? w _ hw569_2)).trans hw569_2)⟩ (fun hHeld => ?_); refine with_tabW laws_eqCommandS.tab6 laws_eqCommandS.bits6 (fun HT_ HW_ => ?_)
                generalize wr.drew = w9 at HB hx568_0 hx568_1 hx568_2 hx569_0 hx569_1 hx569_2 hHeld ⊢
                refine pure_ (i := 0) (N := some 17) (v := ?_) (a' := ?_) #[true, false, false, false, false, false, false, false, false, false] rfl rfl (any_of HT_.out (by kernel_rfl)) (fun _ _ _ h => h) (Or.inl ⟨by rfl, ?_⟩) ?_ ?_
                rotate_left
                · intro w'
                  go_simp
                  with_reducible rfl
                rotate_left
                · simp only [Act.put, List.setIfInBounds_toArray, List.set_cons_zero, List.set_cons_succ, i64_w, i32_w]
                  rfl
                refine pure_ (i := 1) (N := some 18) (v := ?_) (a' := ?_) #[true, true, false, false, false, false, false, false, false, false] rfl rfl (any_of HT_.out (by kernel_rfl)) (fun _ _ _ h => h) (Or.inl ⟨by rfl, ?_⟩) ?_ ?_
                rotate_left
                · intro w'
                  go_simp
                  with_reducible rfl
                rotate_left
                · simp only [Act.put, List.setIfInBounds_toArray, List.set_cons_zero, List.set_cons_succ, i64_w, i32_w]
                  rfl
                refine pure_ (i := 2) (N := some 19) (v := ?_) (a' := ?_) #[true, true, true, false, false, false, false, false, false, false] rfl rfl (any_of HT_.out (by kernel_rfl)) (fun _ _ _ h => h) (Or.inl ⟨by rfl, ?_⟩) ?_ ?_
                rotate_left
                · intro w'
                  go_simp
                  with_reducible rfl
                rotate_left
                · simp only [Act.put, List.setIfInBounds_toArray, List.set_cons_zero, List.set_cons_succ, i64_w, i32_w]
                  rfl
                refine pure_ (i := 4) (N := some 21) (v := ?_) (a' := ?_) #[true, true, true, false, true, false, false, false, false, false] rfl rfl (any_of HT_.out (by kernel_rfl)) (fun _ _ _ h => h) (Or.inl ⟨by rfl, ?_⟩) ?_ ?_
                rotate_left
                · intro w'
                  go_simp
                  with_reducible rfl
                rotate_left
                · simp only [Act.put, List.setIfInBounds_toArray, List.set_cons_zero, List.set_cons_succ, i64_w, i32_w]
                  rfl
                refine pure_ (i := 5) (N := some 22) (v := ?_) (a' := ?_) #[true, true, true, false, true, true, false, false, false, false] rfl rfl (any_of HT_.out (by kernel_rfl)) (fun _ _ _ h => h) (Or.inl ⟨by rfl, ?_⟩) ?_ ?_
                rotate_left
                · intro w'
                  go_simp
                  with_reducible rfl
                rotate_left
                · simp only [Act.put, List.setIfInBounds_toArray, List.set_cons_zero, List.set_cons_succ, i64_w, i32_w]
                  rfl
                refine pure_ (i := 6) (N := some 23) (v := ?_) (a' := ?_) #[true, true, true, false, true, true, true, false, false, false] rfl rfl (any_of HT_.out (by kernel_rfl)) (fun _ _ _ h => h) (Or.inl ⟨by rfl, ?_⟩) ?_ ?_
                rotate_left
                · intro w'
                  go_simp
                  with_reducible rfl
                rotate_left
                · simp only [Act.put, List.setIfInBounds_toArray, List.set_cons_zero, List.set_cons_succ, i64_w, i32_w]
                  rfl
                refine take_ (i := 3) (N := some 20) (v := ?_) (a' := ?_) #[true, true, true, true, true, true, true, false, false, false] rfl rfl (take_ofW HT_.out HW_.out (by kernel_rfl)) (fun _ _ _ h => h) (Or.inl ⟨by rfl, ?_⟩) hHeld ?_ ?_
                rotate_left
                · rintro w' ⟨s0, s1, s2, s3, s4, s5⟩
                  go_simp
                  with_reducible rfl
                rotate_left
                · simp only [Act.put, List.setIfInBounds_toArray, List.set_cons_zero, List.set_cons_succ, i64_w, i32_w]
                  rfl
                refine take_ (i := 7) (N := some 24) (v := ?_) (a' := ?_) #[true, true, true, true, true, true, true, true, false, false] rfl rfl (take_ofW HT_.out HW_.out (by kernel_rfl)) (fun _ _ _ h => h) (Or.inl ⟨by rfl, ?_⟩) hHeld ?_ ?_
                rotate_left
                · rintro w' ⟨s0, s1, s2, s3, s4, s5⟩
                  go_simp
                  with_reducible rfl
                rotate_left
                · simp only [Act.put, List.setIfInBounds_toArray, List.set_cons_zero, List.set_cons_succ, i64_w, i32_w]
                  rfl
                refine one_ (i := 8) (N := some 25) #[true, true, true, true, true, true, true, true, true, false] rfl rfl (one_of HT_.out (by kernel_rfl)) (by decide) (fun K hK => ?_)
                refine goes_ Try.func93 (by kernel_rfl) rfl #[.agg #[.int .u8 ((rd_T137 l0 x5_1).f0), .int .i64 ((rd_T137 l0 x5_1).f1), .int .i64 ((rd_T137 l0 x5_1).f2)], .agg #[.int .u8 ((rd_T137 l1 x5_1).f0), .int .i64 ((rd_T137 l1 x5_1).f1), .int .i64 ((rd_T137 l1 x5_1).f2)]] (by rfl) rfl rfl (by (try simp only [List.map_toArray, List.map_cons, List.map_nil]); first | done | rfl | (simp only [List.length_drop, List.length_take]; rfl)) ?_
                with_reducible refine (laws_eqCommand.calls ((rd_T137 l0 x5_1).f0) ((rd_T137 l0 x5_1).f1) ((rd_T137 l0 x5_1).f2) ((rd_T137 l1 x5_1).f0) ((rd_T137 l1 x5_1).f1) ((rd_T137 l1 x5_1).f2) true _ A7.out).mono ?_
                rintro e w10 ⟨rfl, hb⟩
                refine ⟨_, rfl, ?_⟩
                have n0_ := Aside0.mk (below_step (by repeat (first | (with_reducible first | exact HB.out | apply below_alloc | apply pw_below_drewN | apply below_drew1) | exact HB.out)) hb)
                clear HB
                have HB := n0_
                clear n0_
                (try clear hb)
                (try clear hb2)
                (try clear hk)
                (try clear hi)
                refine hK.out _ _ ⟨((HB.out.cell (World.block_lt_of_cell? w _ hw568_0)).trans hw568_0), ((HB.out.cell (World.block_lt_of_cell? w _ hw568_1)).trans hw568_1), ((HB.out.cell (World.block_lt_of_cell? w _ hw568_2)).trans hw568_2), ((HB.out.cell (World.block_lt_of_cell? w _ hw569_0)).trans hw569_0), ((HB.out.cell (World.block_lt_of_cell? w _ hw569_1)).trans hw569_1), ((HB.out.cell (World.block_lt_of_cell? w _ hw569_2)).trans hw569_2)⟩ (fun hHeld => ?_)
                clear hK K
                refine norm_ (a' := ?_) ?_ ?_
                rotate_left
                · show Act.put _ (some 25) _ = _
                  simp only [Act.put, List.setIfInBounds_toArray, List.set_cons_zero, List.set_cons_succ, i64_w, i32_w]
                  rfl
                refine pure_ (i := 9) (N := some 26) (v := ?_) (a' := ?_) #[true, true, true, true, true, true, true, true, true, true] rfl rfl (any_of HT_.out (by kernel_rfl)) (fun _ _ _ h => h) (Or.inl ⟨by rfl, ?_⟩) ?_ ?_
                rotate_left
                · intro w'
                  go_simp
                  with_reducible rfl
                rotate_left
                · simp only [Act.put, List.setIfInBounds_toArray, List.set_cons_zero, List.set_cons_succ, i64_w, i32_w]
                  rfl
                refine done_ (done_of HT_.out (by kernel_rfl)) ?_
                try go_wp2
                go_roundg k1
                case measure => have := HK1.out; omega
                case rel => exact ⟨(wrap64 (x5_1 + 1)), (by first | rfl | (simp; done) | (simp [*]; done)), H', ⟨by have := HK1.out; omega⟩, ⟨by repeat (first | (with_reducible first | exact HB.out | apply below_alloc | apply pw_below_drewN | apply below_drew1) | exact HB.out)⟩⟩
              · replace c8 := Bool.eq_false_iff.mpr c8
                subst c8
                have H1 : (some false) = some r := by rw [if_neg (show ¬ (false = true) by decide)] at H; exact H
                clear H
                have H := H1
                clear H1
                obtain rfl := Option.some.inj H
                try go_wp2
                have n0_ := Aside0.mk (below_drew1 HB.out)
                clear HB
                have HB := n0_
                clear n0_
                have p568 : 0 ≤ (x5_1 : Int) := of_decide_eq_true (by first | (with_reducible assumption) | assumption)
                have q568 : x5_1 < (l0.length : Int) := of_decide_eq_true (by first | (with_reducible assumption) | assumption)
                obtain ⟨ad568, e568, hx568_0, hx568_1, hx568_2⟩ := at_T137 HR0.out x5_1 p568 q568
                have hw568_2 := hx568_2
                have hw568_1 := hx568_1
                have hw568_0 := hx568_0
                cases e568
                replace hx568_0 := (HB.out.cell (World.block_lt_of_cell? w _ hx568_0)).trans hx568_0
                replace hx568_1 := (HB.out.cell (World.block_lt_of_cell? w _ hx568_1)).trans hx568_1
                replace hx568_2 := (HB.out.cell (World.block_lt_of_cell? w _ hx568_2)).trans hx568_2
                replace p568 := eq_true p568
                replace q568 := eq_true q568
                have p569 : 0 ≤ (x5_1 : Int) := of_decide_eq_true (by first | (with_reducible assumption) | assumption)
                have q569 : x5_1 < (l1.length : Int) := of_decide_eq_true (by first | (with_reducible assumption) | assumption)
                obtain ⟨ad569, e569, hx569_0, hx569_1, hx569_2⟩ := at_T137 HR1.out x5_1 p569 q569
                have hw569_2 := hx569_2
                have hw569_1 := hx569_1
                have hw569_0 := hx569_0
                cases e569
                replace hx569_0 := (HB.out.cell (World.block_lt_of_cell? w _ hx569_0)).trans hx569_0
                replace hx569_1 := (HB.out.cell (World.block_lt_of_cell? w _ hx569_1)).trans hx569_1
                replace hx569_2 := (HB.out.cell (World.block_lt_of_cell? w _ hx569_2)).trans hx569_2
                replace p569 := eq_true p569
                replace q569 := eq_true q569
                refine start_ (n := 10) (S := fun w' => w'.cell? (ad568.add ((x5_1).toNat * 3)) = some (.int .u8 ((rd_T137 l0 x5_1).f0)) ∧ w'.cell? ⟨(ad568.add ((x5_1).toNat * 3)).block, (ad568.add ((x5_1).toNat * 3)).off + 1, none⟩ = some (.int .i64 ((rd_T137 l0 x5_1).f1)) ∧ w'.cell? ⟨(ad568.add ((x5_1).toNat * 3)).block, (ad568.add ((x5_1).toNat * 3)).off + 2, none⟩ = some (.int .i64 ((rd_T137 l0 x5_1).f2)) ∧ w'.cell? (ad569.add ((x5_1).toNat * 3)) = some (.int .u8 ((rd_T137 l1 x5_1).f0)) ∧ w'.cell? ⟨(ad569.add ((x5_1).toNat * 3)).block, (ad569.add ((x5_1).toNat * 3)).off + 1, none⟩ = some (.int .i64 ((rd_T137 l1 x5_1).f1)) ∧ w'.cell? ⟨(ad569.add ((x5_1).toNat * 3)).block, (ad569.add ((x5_1).toNat * 3)).off + 2, none⟩ = some (.int .i64 ((rd_T137 l1 x5_1).f2))) (ds := []) #[false, false, false, false, false, false, false, false, false, false] (by kernel_rfl) rfl rfl ⟨((HB.out.cell (World.block_lt_of_cell? w _ hw568_0)).trans hw568_0), ((HB.out.cell (World.block_lt_of_cell? w _ hw568_1)).trans hw568_1), ((HB.out.cell (World.block_lt_of_cell? w _ hw568_2)).trans hw568_2), ((HB.out.cell (World.block_lt_of_cell? w _ hw569_0)).trans hw569_0), ((HB.out.cell (World.block_lt_of_cell? w _ hw569_1)).trans hw569_1), ((HB.out.cell (World.block_lt_of_cell? w _ hw569_2)).trans hw569_2)⟩ (fun hHeld => ?_); refine with_tabW laws_eqCommandS.tab6 laws_eqCommandS.bits6 (fun HT_ HW_ => ?_)
                generalize wr.drew = w11 at HB hx568_0 hx568_1 hx568_2 hx569_0 hx569_1 hx569_2 hHeld ⊢
                refine pure_ (i := 0) (N := some 17) (v := ?_) (a' := ?_) #[true, false, false, false, false, false, false, false, false, false] rfl rfl (any_of HT_.out (by kernel_rfl)) (fun _ _ _ h => h) (Or.inl ⟨by rfl, ?_⟩) ?_ ?_
                rotate_left
                · intro w'
                  go_simp
                  with_reducible rfl
                rotate_left
                · simp only [Act.put, List.setIfInBounds_toArray, List.set_cons_zero, List.set_cons_succ, i64_w, i32_w]
                  rfl
                refine pure_ (i := 1) (N := some 18) (v := ?_) (a' := ?_) #[true, true, false, false, false, false, false, false, false, false] rfl rfl (any_of HT_.out (by kernel_rfl)) (fun _ _ _ h => h) (Or.inl ⟨by rfl, ?_⟩) ?_ ?_
                rotate_left
                · intro w'
                  go_simp
                  with_reducible rfl
                rotate_left
                · simp only [Act.put, List.setIfInBounds_toArray, List.set_cons_zero, List.set_cons_succ, i64_w, i32_w]
                  rfl
                refine pure_ (i := 2) (N := some 19) (v := ?_) (a' := ?_) #[true, true, true, false, false, false, false, false, false, false] rfl rfl (any_of HT_.out (by kernel_rfl)) (fun _ _ _ h => h) (Or.inl ⟨by rfl, ?_⟩) ?_ ?_
                rotate_left
                · intro w'
                  go_simp
                  with_reducible rfl
                rotate_left
                · simp only [Act.put, List.setIfInBounds_toArray, List.set_cons_zero, List.set_cons_succ, i64_w, i32_w]
                  rfl
                refine pure_ (i := 4) (N := some 21) (v := ?_) (a' := ?_) #[true, true, true, false, true, false, false, false, false, false] rfl rfl (any_of HT_.out (by kernel_rfl)) (fun _ _ _ h => h) (Or.inl ⟨by rfl, ?_⟩) ?_ ?_
                rotate_left
                · intro w'
                  go_simp
                  with_reducible rfl
                rotate_left
                · simp only [Act.put, List.setIfInBounds_toArray, List.set_cons_zero, List.set_cons_succ, i64_w, i32_w]
                  rfl
                refine pure_ (i := 5) (N := some 22) (v := ?_) (a' := ?_) #[true, true, true, false, true, true, false, false, false, false] rfl rfl (any_of HT_.out (by kernel_rfl)) (fun _ _ _ h => h) (Or.inl ⟨by rfl, ?_⟩) ?_ ?_
                rotate_left
                · intro w'
                  go_simp
                  with_reducible rfl
                rotate_left
                · simp only [Act.put, List.setIfInBounds_toArray, List.set_cons_zero, List.set_cons_succ, i64_w, i32_w]
                  rfl
                refine pure_ (i := 6) (N := some 23) (v := ?_) (a' := ?_) #[true, true, true, false, true, true, true, false, false, false] rfl rfl (any_of HT_.out (by kernel_rfl)) (fun _ _ _ h => h) (Or.inl ⟨by rfl, ?_⟩) ?_ ?_
                rotate_left
                · intro w'
                  go_simp
                  with_reducible rfl
                rotate_left
                · simp only [Act.put, List.setIfInBounds_toArray, List.set_cons_zero, List.set_cons_succ, i64_w, i32_w]
                  rfl
                refine take_ (i := 3) (N := some 20) (v := ?_) (a' := ?_) #[true, true, true, true, true, true, true, false, false, false] rfl rfl (take_ofW HT_.out HW_.out (by kernel_rfl)) (fun _ _ _ h => h) (Or.inl ⟨by rfl, ?_⟩) hHeld ?_ ?_
                rotate_left
                · rintro w' ⟨s0, s1, s2, s3, s4, s5⟩
                  go_simp
                  with_reducible rfl
                rotate_left
                · simp only [Act.put, List.setIfInBounds_toArray, List.set_cons_zero, List.set_cons_succ, i64_w, i32_w]
                  rfl
                refine take_ (i := 7) (N := some 24) (v := ?_) (a' := ?_) #[true, true, true, true, true, true, true, true, false, false] rfl rfl (take_ofW HT_.out HW_.out (by kernel_rfl)) (fun _ _ _ h => h) (Or.inl ⟨by rfl, ?_⟩) hHeld ?_ ?_
                rotate_left
                · rintro w' ⟨s0, s1, s2, s3, s4, s5⟩
                  go_simp
                  with_reducible rfl
                rotate_left
                · simp only [Act.put, List.setIfInBounds_toArray, List.set_cons_zero, List.set_cons_succ, i64_w, i32_w]
                  rfl
                refine one_ (i := 8) (N := some 25) #[true, true, true, true, true, true, true, true, true, false] rfl rfl (one_of HT_.out (by kernel_rfl)) (by decide) (fun K hK => ?_)
                refine goes_ Try.func93 (by kernel_rfl) rfl #[.agg #[.int .u8 ((rd_T137 l0 x5_1).f0), .int .i64 ((rd_T137 l0 x5_1).f1), .int .i64 ((rd_T137 l0 x5_1).f2)], .agg #[.int .u8 ((rd_T137 l1 x5_1).f0), .int .i64 ((rd_T137 l1 x5_1).f1), .int .i64 ((rd_T137 l1 x5_1).f2)]] (by rfl) rfl rfl (by (try simp only [List.map_toArray, List.map_cons, List.map_nil]); first | done | rfl | (simp only [List.length_drop, List.length_take]; rfl)) ?_
                with_reducible refine (laws_eqCommand.calls ((rd_T137 l0 x5_1).f0) ((rd_T137 l0 x5_1).f1) ((rd_T137 l0 x5_1).f2) ((rd_T137 l1 x5_1).f0) ((rd_T137 l1 x5_1).f1) ((rd_T137 l1 x5_1).f2) false _ A7.out).mono ?_
                rintro e w12 ⟨rfl, hb⟩
                refine ⟨_, rfl, ?_⟩
                have n0_ := Aside0.mk (below_step (by repeat (first | (with_reducible first | exact HB.out | apply below_alloc | apply pw_below_drewN | apply below_drew1) | exact HB.out)) hb)
                clear HB
                have HB := n0_
                clear n0_
                (try clear hb)
                (try clear hb2)
                (try clear hk)
                (try clear hi)
                refine hK.out _ _ ⟨((HB.out.cell (World.block_lt_of_cell? w _ hw568_0)).trans hw568_0), ((HB.out.cell (World.block_lt_of_cell? w _ hw568_1)).trans hw568_1), ((HB.out.cell (World.block_lt_of_cell? w _ hw568_2)).trans hw568_2), ((HB.out.cell (World.block_lt_of_cell? w _ hw569_0)).trans hw569_0), ((HB.out.cell (World.block_lt_of_cell? w _ hw569_1)).trans hw569_1), ((HB.out.cell (World.block_lt_of_cell? w _ hw569_2)).trans hw569_2)⟩ (fun hHeld => ?_)
                clear hK K
                refine norm_ (a' := ?_) ?_ ?_
                rotate_left
                · show Act.put _ (some 25) _ = _
                  simp only [Act.put, List.setIfInBounds_toArray, List.set_cons_zero, List.set_cons_succ, i64_w, i32_w]
                  rfl
                refine pure_ (i := 9) (N := some 26) (v := ?_) (a' := ?_) #[true, true, true, true, true, true, true, true, true, true] rfl rfl (any_of HT_.out (by kernel_rfl)) (fun _ _ _ h => h) (Or.inl ⟨by rfl, ?_⟩) ?_ ?_
                rotate_left
                · intro w'
                  go_simp
                  with_reducible rfl
                rotate_left
                · simp only [Act.put, List.setIfInBounds_toArray, List.set_cons_zero, List.set_cons_succ, i64_w, i32_w]
                  rfl
                refine done_ (done_of HT_.out (by kernel_rfl)) ?_
                try go_wp2
                go_ret
                exact ⟨by first | rfl | (simp [errW_none, errW_some] <;> rfl) | (simp [*, errW_none, errW_some] <;> rfl), by repeat (first | (with_reducible first | exact HB.out | apply below_alloc | apply pw_below_drewN | apply below_drew1) | exact HB.out)⟩
            · rw [if_neg c6] at H
              exact absurd H (by simp)
          · rw [if_neg c5] at H
            exact absurd H (by simp)
        · rw [if_neg c4] at H
          have c4b0 : decide (x5_1 < (l0.length : Int)) = false := decide_eq_false c4
          clear c4
          obtain rfl := Option.some.inj H
          go_wp2
          go_ret
          exact ⟨by first | rfl | (simp [errW_none, errW_some] <;> rfl) | (simp [*, errW_none, errW_some] <;> rfl), by repeat (first | (with_reducible first | exact HB.out | apply below_alloc | apply pw_below_drewN | apply below_drew1) | exact HB.out)⟩
  · rw [if_neg c3] at H
    have c3b0 : ((l0.length : Int) == (l1.length : Int)) = false := beq_eq_false_iff_ne.mpr c3
    have c3b1 : ((l0.length : Int) != (l1.length : Int)) = true := bne_iff_ne.mpr c3
    have c3b2 : (l0.length == l1.length) = false := by first | simpa using c3 | (simp at c3 ⊢; omega)
    obtain rfl := Option.some.inj H
    go_enter Try.func35, Try.ntmps35
    go_wp2
    go_ret
    exact ⟨by first | rfl | (simp [errW_none, errW_some] <;> rfl) | (simp [*, errW_none, errW_some] <;> rfl), by repeat (first | (with_reducible first | exact HB.out | apply below_alloc | apply pw_below_drewN | apply below_drew1) | exact HB.out)⟩

end Go.Proofs.Ytgpdjpololkhbaa.F

namespace Go.Proofs.Ytgpdjpololkhbaa.Pure
open Go.RowKit Go.Proofs.Ytgpdjpololkhbaa.F Go.Proofs.YtgpdjpololkhbaaW.PrintWords Go.Proofs.YtgpdjpololkhbaaW.PrintLast Go.Proofs.YtgpdjpololkhbaaW.PrintMore Go.Proofs.YtgpdjpololkhbaaB
set_option linter.unusedVariables false
set_option linter.unusedSimpArgs false
theorem laws_eqCommandS_l0 (xs : List S137) (hx : xs.length ≤ 9223372036854775807) : ∀ (ys : List S137) (m : Nat), xs.drop m = ys →
    Ev (fun k => laws_eqCommandS.l0 k xs xs m) true
  | [], m, h => by
    have := drop_nil h
    exact ev_step (fun _ => rfl) (ev_neg (by omega) (ev_now rfl))
  | y :: ys, m, h => by
    obtain ⟨hm, _, hd⟩ := drop_cons h
    refine ev_step (fun _ => rfl) (ev_pos (by omega) (ev_pos (by omega) (ev_pos (by omega) ?_)))
    rw [rdC h, w64 (by omega) (by omega)]
    refine ev_some (a := true) (by simp [laws_eqCommand.f]) (ev_pos rfl ?_)
    exact laws_eqCommandS_l0 xs hx ys (m + 1) hd
theorem laws_eqCommandS_f (xs : List S137) (hx : xs.length ≤ 9223372036854775807) : Ev (fun k => laws_eqCommandS.f k xs xs) true := ev_pos rfl (laws_eqCommandS_l0 xs hx xs 0 rfl)

end Go.Proofs.Ytgpdjpololkhbaa.Pure
