/-
  A part of the proof of FnExactSplitProgram: contracts of the Go functions that it reaches, and plain statements on what they come to; each says its own conditions.
-/
import Derived.Test.YtgpdjpololkhbaaKFnExactSplitProgram2

namespace Go.Proofs.Ytgpdjpololkhbaa.F
open Go.RowKit Go.Proofs.YtgpdjpololkhbaaW.PrintWords Go.Proofs.YtgpdjpololkhbaaW.PrintLast Go.Proofs.YtgpdjpololkhbaaW.PrintMore
attribute [local go_sem] max2_int min2_int max_two min_two max_three min_three max_four min_four   -- for this text's walks alone
set_option linter.unusedVariables false
set_option linter.unusedSimpArgs false

/-! ### laws_eqCommandSS: function 34 -/
def laws_eqCommandSS.l0 : Nat → List (List (S137)) → List (List (S137)) → Int → Option (Bool)
  | 0, _, _, _ => none
  | k + 1, x0, x1, x5 => if x5 < (x0.length : Int) then (if 0 ≤ x5 then (if x5 < (x1.length : Int) then ((laws_eqCommandS.f k (rd_L20 x0 x5) (rd_L20 x1 x5)).bind fun t573 => (if t573 = true then (laws_eqCommandSS.l0 k x0 x1 (wrap64 (x5 + 1))) else (some false))) else (none)) else (none)) else (some true)
def laws_eqCommandSS.f (k : Nat) (l0 : List (List (S137))) (l1 : List (List (S137))) : Option (Bool) := if (l0.length : Int) = (l1.length : Int) then (laws_eqCommandSS.l0 k l0 l1 0) else (some false)
theorem laws_eqCommandSS.mono_l : ∀ k, (∀ y0 y1 y2, LeO (laws_eqCommandSS.l0 k y0 y1 y2) (laws_eqCommandSS.l0 (k + 1) y0 y1 y2))
  | 0 => fun _ _ _ r h => by simp [laws_eqCommandSS.l0] at h
  | k + 1 => by
    have ih0 := laws_eqCommandSS.mono_l k
    · intro y0 y1 y2
      unfold laws_eqCommandSS.l0
      repeat' first
      | (with_reducible exact ih0 _ _ _)
      | (with_reducible exact laws_eqCommandS.mono _ _ _)
      | (with_reducible exact LeO.refl _)
      | (with_reducible exact LeO.none _)
      | (with_reducible refine LeO.ite ?_ ?_)
      | (with_reducible refine LeO.bind ?_ (fun _ => ?_))
      | exact ih0 _ _ _
      | exact laws_eqCommandS.mono _ _ _
      | exact LeO.none _
      | refine LeO.ite ?_ ?_
      | refine LeO.bind ?_ (fun _ => ?_)
theorem laws_eqCommandSS.mono : ∀ a0 a1 k, LeO (laws_eqCommandSS.f k a0 a1) (laws_eqCommandSS.f (k + 1) a0 a1) := by
  intro a0 a1 k
  have ih0 := laws_eqCommandSS.mono_l k
  unfold laws_eqCommandSS.f
  repeat' first
      | (with_reducible exact ih0 _ _ _)
      | (with_reducible exact laws_eqCommandS.mono _ _ _)
      | (with_reducible exact LeO.refl _)
      | (with_reducible exact LeO.none _)
      | (with_reducible refine LeO.ite ?_ ?_)
      | (with_reducible refine LeO.bind ?_ (fun _ => ?_))
      | exact ih0 _ _ _
      | exact laws_eqCommandS.mono _ _ _
      | exact LeO.none _
      | refine LeO.ite ?_ ?_
      | refine LeO.bind ?_ (fun _ => ?_)
def laws_eqCommandSS.T6 : Bool × List (List Nat × List Nat) := (true, [([], []), ([], []), ([0, 1], [0, 1]), ([2], [2]), ([], []), ([], []), ([4, 5], [4, 5]), ([6], [6]), ([3, 7], [3, 7]), ([8], [8])])
def laws_eqCommandSS.B6 : List Nat := [0, 0, 3, 7, 0, 0, 48, 112, 255, 511]
theorem laws_eqCommandSS.tab6 : rtab .any (opsOf Try.f34 6) = laws_eqCommandSS.T6 := by kernel_rfl
theorem laws_eqCommandSS.bits6 : waitsOk laws_eqCommandSS.T6.2 laws_eqCommandSS.B6 = true := by kernel_rfl
set_option maxHeartbeats 8000000 in
set_option maxRecDepth 100000 in
theorem laws_eqCommandSS.calls (k : Nat) (A0 : Option Addr) (c0 : Nat) (l0 : List (List (S137))) (A1 : Option Addr) (c1 : Nat) (l1 : List (List (S137))) (r : Bool) (w : World) (hr0 : Kd.C (Kd.slice 137 k137) w A0 l0.length l0) (hc0 : l0.length ≤ c0) (hr1 : Kd.C (Kd.slice 137 k137) w A1 l1.length l1) (hc1 : l1.length ≤ c1) (h : laws_eqCommandSS.f k l0 l1 = some r) :
    Calls Try.prog 34 #[.slice A0 l0.length c0, .slice A1 l1.length c1] w fun e w' => e = .returned (.bool r) ∧ Below w.heap.size w w' := by
  have HR0 := Aside0.mk hr0
  have HC0 := Aside0.mk hc0
  clear hr0 hc0
  have HR1 := Aside0.mk hr1
  have HC1 := Aside0.mk hc1
  clear hr1 hc1
  have HB := Aside0.mk (Below.refl w.heap.size w)
  have H : (if (l0.length : Int) = (l1.length : Int) then (laws_eqCommandSS.l0 k l0 l1 0) else (some false)) = some r := h
  clear h
  by_cases c3 : (l0.length : Int) = (l1.length : Int)
  · rw [if_pos c3] at H
    have c3b0 : ((l0.length : Int) == (l1.length : Int)) = true := beq_iff_eq.mpr c3
    have c3b1 : ((l0.length : Int) != (l1.length : Int)) = false := bne_eq_false_iff_eq.mpr c3
    have c3b2 : (l0.length == l1.length) = true := by first | simpa using c3 | (simp at c3 ⊢; omega)
    clear c3
    have H' := Aside0.mk H
    clear H
    go_enter Try.func34, Try.ntmps34
    go_wp2
    go_loopg [5] k (fun kq v5 w' => ∃ (x5_1 : Int), v5 = .int .i64 x5_1 ∧ Aside0 (laws_eqCommandSS.l0 kq l0 l1 x5_1 = some r) ∧ Aside0 (kq ≤ k) ∧ Aside0 (Below w.heap.size w w'))
    case atStart => exact ⟨(0), (by first | rfl | (simp; done) | (simp [*]; done)), H', ⟨Nat.le_refl _⟩, ⟨by repeat (first | (with_reducible first | exact HB.out | apply below_alloc | apply pw_below_drewN | apply below_drew1) | exact HB.out)⟩⟩
    case round =>
      clear H'
      try clear c1
      try clear p2
      try clear c3
      try clear c3b0
      try clear c3b1
      try clear c3b2
      obtain ⟨x5_1, rfl, HA, HK1, HB⟩ := hrel
      cases gk with
      | zero => exact absurd HA.out (by simp [laws_eqCommandSS.l0])
      | succ k1 =>
        have H := HA.out
        clear HA
        simp only [laws_eqCommandSS.l0] at H
        by_cases c4 : x5_1 < (l0.length : Int)
        · rw [if_pos c4] at H
          have c4b0 : decide (x5_1 < (l0.length : Int)) = true := decide_eq_true c4
          clear c4
          by_cases c5 : 0 ≤ x5_1
          · rw [if_pos c5] at H
            have c5b0 : decide (0 ≤ x5_1) = true := decide_eq_true c5
            clear c5
            by_cases c6 : x5_1 < (l1.length : Int)
            · rw [if_pos c6] at H
              have c6b0 : decide (x5_1 < (l1.length : Int)) = true := decide_eq_true c6
              clear c6
              replace H := Option.bind_eq_some_iff.mp H
              obtain ⟨t573, A70, H⟩ := H
              replace H : (if t573 = true then (laws_eqCommandSS.l0 k1 l0 l1 (wrap64 (x5_1 + 1))) else (some false)) = some r := H
              have A7 := Aside0.mk A70
              clear A70
              by_cases c8 : t573 = true
              · subst c8
                have H1 : (laws_eqCommandSS.l0 k1 l0 l1 (wrap64 (x5_1 + 1))) = some r := by rw [if_pos rfl] at H; exact H
                clear H
                have H := H1
                clear H1
                have H' := Aside0.mk H
                clear H
                try go_wp2
                have n0_ := Aside0.mk (below_drew1 HB.out)
                clear HB
                have HB := n0_
                clear n0_
                have p571 : 0 ≤ (x5_1 : Int) := of_decide_eq_true (by first | (with_reducible assumption) | assumption)
                have q571 : x5_1 < (l0.length : Int) := of_decide_eq_true (by first | (with_reducible assumption) | assumption)
                obtain ⟨ad571, A571_0, c571_0, e571, hx571_0, hl571_0, hi571_0⟩ := at_L20 HR0.out x5_1 p571 q571
                have hw571_0 := hx571_0
                cases e571
                replace hx571_0 := (HB.out.cell (World.block_lt_of_cell? w _ hx571_0)).trans hx571_0
                have HR571_0 := Aside0.mk hi571_0
                have HC571_0 := Aside0.mk hl571_0
                clear hi571_0 hl571_0
                replace p571 := eq_true p571
                replace q571 := eq_true q571
                have p572 : 0 ≤ (x5_1 : Int) := of_decide_eq_true (by first | (with_reducible assumption) | assumption)
                have q572 : x5_1 < (l1.length : Int) := of_decide_eq_true (by first | (with_reducible assumption) | assumption)
                obtain ⟨ad572, A572_0, c572_0, e572, hx572_0, hl572_0, hi572_0⟩ := at_L20 HR1.out x5_1 p572 q572
                have hw572_0 := hx572_0
                cases e572
                replace hx572_0 := (HB.out.cell (World.block_lt_of_cell? w _ hx572_0)).trans hx572_0
                have HR572_0 := Aside0.mk hi572_0
                have HC572_0 := Aside0.mk hl572_0
                clear hi572_0 hl572_0
                replace p572 := eq_true p572
                replace q572 := eq_true q572
                refine start_ (n := 10) (S := fun w' => w'.cell? (ad571.add (x5_1).toNat) = some (.slice A571_0 (rd_L20 l0 x5_1).length c571_0) ∧ w'.cell? (ad572.add (x5_1).toNat) = some (.slice A572_0 (rd_L20 l1 x5_1).length c572_0)) (ds := []) #[false, false, false, false, false, false, false, false, false, false] (by kernel_rfl) rfl rfl ⟨((HB.out.cell (World.block_lt_of_cell? w _ hw571_0)).trans hw571_0), ((HB.out.cell (World.block_lt_of_cell? w _ hw572_0)).trans hw572_0)⟩ (fun hHeld => ?_); refine with_tabW laws_eqCommandSS.tab6 laws_eqCommandSS.bits6 (fun HT_ HW_ => ?_)
                generalize wr.drew = w9 at HB HR571_0 HR572_0 hx571_0 hx572_0 hHeld ⊢
                refine pure_ (i := 0) (N := some 17) (v := ?_) (a' := ?_) #[true, false, false, false, false, false, false, false, false, false] rfl rfl (any_of HT_.out (by kernel_rfl)) (fun _ _ _ h => h) (Or.inl ⟨by rfl, ?_⟩) ?_ ?_
                rotate_left
                · intro w'
                  go_simp
                  with_reducible rfl
                rotate_left
                · simp only [Act.put, List.setIfInBounds_toArray, List.set_cons_zero, List.set_cons_succ, i64_w, i32_w]
                  rfl
                refine pure_ (i := 1) (N := some 18) (v := ?_) (a' := ?_) #[true, true, false, false, false, false, false, false, false, false] rfl rfl (any_of HT_.out (by kernel_rfl)) (fun _ _ _ h => h) (Or.inl ⟨by rfl, ?_⟩) ?_ ?_
                rotate_left
                · intro w'
                  go_simp
                  with_reducible rfl
                rotate_left
                · simp only [Act.put, List.setIfInBounds_toArray, List.set_cons_zero, List.set_cons_succ, i64_w, i32_w]
                  rfl
                refine pure_ (i := 2) (N := some 19) (v := ?_) (a' := ?_) #[true, true, true, false, false, false, false, false, false, false] rfl rfl (any_of HT_.out (by kernel_rfl)) (fun _ _ _ h => h) (Or.inl ⟨by rfl, ?_⟩) ?_ ?_
                rotate_left
                · intro w'
                  go_simp
                  with_reducible rfl
                rotate_left
                · simp only [Act.put, List.setIfInBounds_toArray, List.set_cons_zero, List.set_cons_succ, i64_w, i32_w]
                  rfl
                refine pure_ (i := 4) (N := some 21) (v := ?_) (a' := ?_) #[true, true, true, false, true, false, false, false, false, false] rfl rfl (any_of HT_.out (by kernel_rfl)) (fun _ _ _ h => h) (Or.inl ⟨by rfl, ?_⟩) ?_ ?_
                rotate_left
                · intro w'
                  go_simp
                  with_reducible rfl
                rotate_left
                · simp only [Act.put, List.setIfInBounds_toArray, List.set_cons_zero, List.set_cons_succ, i64_w, i32_w]
                  rfl
                refine pure_ (i := 5) (N := some 22) (v := ?_) (a' := ?_) #[true, true, true, false, true, true, false, false, false, false] rfl rfl (any_of HT_.out (by kernel_rfl)) (fun _ _ _ h => h) (Or.inl ⟨by rfl, ?_⟩) ?_ ?_
                rotate_left
                · intro w'
                  go_simp
                  with_reducible rfl
                rotate_left
                · simp only [Act.put, List.setIfInBounds_toArray, List.set_cons_zero, List.set_cons_succ, i64_w, i32_w]
                  rfl
                refine pure_ (i := 6) (N := some 23) (v := ?_) (a' := ?_) #[true, true, true, false, true, true, true, false, false, false] rfl rfl (any_of HT_.out (by kernel_rfl)) (fun _ _ _ h => h) (Or.inl ⟨by rfl, ?_⟩) ?_ ?_
                rotate_left
                · intro w'
                  go_simp
                  with_reducible rfl
                rotate_left
                · simp only [Act.put, List.setIfInBounds_toArray, List.set_cons_zero, List.set_cons_succ, i64_w, i32_w]
                  rfl
                refine take_ (i := 3) (N := some 20) (v := ?_) (a' := ?_) #[true, true, true, true, true, true, true, false, false, false] rfl rfl (take_ofW HT_.out HW_.out (by kernel_rfl)) (fun _ _ _ h => h) (Or.inl ⟨by rfl, ?_⟩) hHeld ?_ ?_
                rotate_left
                · rintro w' ⟨s0, s1⟩
                  go_simp
                  with_reducible rfl
                rotate_left
                · simp only [Act.put, List.setIfInBounds_toArray, List.set_cons_zero, List.set_cons_succ, i64_w, i32_w]
                  rfl
                refine take_ (i := 7) (N := some 24) (v := ?_) (a' := ?_) #[true, true, true, true, true, true, true, true, false, false] rfl rfl (take_ofW HT_.out HW_.out (by kernel_rfl)) (fun _ _ _ h => h) (Or.inl ⟨by rfl, ?_⟩) hHeld ?_ ?_
                rotate_left
                · rintro w' ⟨s0, s1⟩
                  go_simp
                  with_reducible rfl
                rotate_left
                · simp only [Act.put, List.setIfInBounds_toArray, List.set_cons_zero, List.set_cons_succ, i64_w, i32_w]
                  rfl
                refine one_ (i := 8) (N := some 25) #[true, true, true, true, true, true, true, true, true, false] rfl rfl (one_of HT_.out (by kernel_rfl)) (by decide) (fun K hK => ?_)
                refine goes_ Try.func35 (by kernel_rfl) rfl #[.slice A571_0 (rd_L20 l0 x5_1).length c571_0, .slice A572_0 (rd_L20 l1 x5_1).length c572_0] (by rfl) rfl rfl (by (try simp only [List.map_toArray, List.map_cons, List.map_nil]); first | done | rfl | (simp only [List.length_drop, List.length_take]; rfl)) ?_
                with_reducible refine (laws_eqCommandS.calls k1 _ _ (rd_L20 l0 x5_1) _ _ (rd_L20 l1 x5_1) true _ ?side1 ?side2 ?side3 ?side4 A7.out).mono ?_
                (case side1 => repeat (first | exact (Kd.C_below HR571_0.out HB.out) | (with_reducible refine Kd.C_alloc ?_ _) | (with_reducible refine Kd.C_drewN ?_ _) | (with_reducible refine Kd.C_drew ?_)))
                (case side2 => exact HC571_0.out)
                (case side3 => repeat (first | exact (Kd.C_below HR572_0.out HB.out) | (with_reducible refine Kd.C_alloc ?_ _) | (with_reducible refine Kd.C_drewN ?_ _) | (with_reducible refine Kd.C_drew ?_)))
                (case side4 => exact HC572_0.out)
                rintro e w10 ⟨rfl, hb⟩
                refine ⟨_, rfl, ?_⟩
                have n0_ := Aside0.mk (below_step (by repeat (first | (with_reducible first | exact HB.out | apply below_alloc | apply pw_below_drewN | apply below_drew1) | exact HB.out)) hb)
                clear HB
                have HB := n0_
                clear n0_
                (try clear hb)
                (try clear hb2)
                (try clear hk)
                (try clear hi)
                refine hK.out _ _ ⟨((HB.out.cell (World.block_lt_of_cell? w _ hw571_0)).trans hw571_0), ((HB.out.cell (World.block_lt_of_cell? w _ hw572_0)).trans hw572_0)⟩ (fun hHeld => ?_)
                clear hK K
                refine norm_ (a' := ?_) ?_ ?_
                rotate_left
                · show Act.put _ (some 25) _ = _
                  simp only [Act.put, List.setIfInBounds_toArray, List.set_cons_zero, List.set_cons_succ, i64_w, i32_w]
                  rfl
                refine pure_ (i := 9) (N := some 26) (v := ?_) (a' := ?_) #[true, true, true, true, true, true, true, true, true, true] rfl rfl (any_of HT_.out (by kernel_rfl)) (fun _ _ _ h => h) (Or.inl ⟨by rfl, ?_⟩) ?_ ?_
                rotate_left
                · intro w'
                  go_simp
                  with_reducible rfl
                rotate_left
                · simp only [Act.put, List.setIfInBounds_toArray, List.set_cons_zero, List.set_cons_succ, i64_w, i32_w]
                  rfl
                refine done_ (done_of HT_.out (by kernel_rfl)) ?_
                try go_wp2
                go_roundg k1
                case measure => have := HK1.out; omega
                case rel => exact ⟨(wrap64 (x5_1 + 1)), (by first | rfl | (simp; done) | (simp [*]; done)), H', ⟨by have := HK1.out; omega⟩, ⟨by repeat (first | (with_reducible first | exact HB.out | apply below_alloc | apply pw_below_drewN | apply below_drew1) | exact HB.out)⟩⟩
              · replace c8 := Bool.eq_false_iff.mpr c8
                subst c8
                have H1 : (some false) = some r := by rw [if_neg (show ¬ (false = true) by decide)] at H; exact H
                clear H
                have H := H1
                clear H1
                obtain rfl := Option.some.inj H
                try go_wp2
                have n0_ := Aside0.mk (below_drew1 HB.out)
                clear HB
                have HB := n0_
                clear n0_
                have p571 : 0 ≤ (x5_1 : Int) := of_decide_eq_true (by first | (with_reducible assumption) | assumption)
                have q571 : x5_1 < (l0.length : Int) := of_decide_eq_true (by first | (with_reducible assumption) | assumption)
                obtain ⟨ad571, A571_0, c571_0, e571, hx571_0, hl571_0, hi571_0⟩ := at_L20 HR0.out x5_1 p571 q571
                have hw571_0 := hx571_0
                cases e571
                replace hx571_0 := (HB.out.cell (World.block_lt_of_cell? w _ hx571_0)).trans hx571_0
                have HR571_0 := Aside0.mk hi571_0
                have HC571_0 := Aside0.mk hl571_0
                clear hi571_0 hl571_0
                replace p571 := eq_true p571
                replace q571 := eq_true q571
                have p572 : 0 ≤ (x5_1 : Int) := of_decide_eq_true (by first | (with_reducible assumption) | assumption)
                have q572 : x5_1 < (l1.length : Int) := of_decide_eq_true (by first | (with_reducible assumption) | assumption)
                obtain ⟨ad572, A572_0, c572_0, e572, hx572_0, hl572_0, hi572_0⟩ := at_L20 HR1.out x5_1 p572 q572
                have hw572_0 := hx572_0
                cases e572
                replace hx572_0 := (HB.out.cell (World.block_lt_of_cell? w _ hx572_0)).trans hx572_0
                have HR572_0 := Aside0.mk hi572_0
                have HC572_0 := Aside0.mk hl572_0
                clear hi572_0 hl572_0
                replace p572 := eq_true p572
                replace q572 := eq_true q572
                refine start_ (n := 10) (S := fun w' => w'.cell? (ad571.add (x5_1).toNat) = some (.slice A571_0 (rd_L20 l0 x5_1).length c571_0) ∧ w'.cell? (ad572.add (x5_1).toNat) = some (.slice A572_0 (rd_L20 l1 x5_1).length c572_0)) (ds := []) #[false, false, false, false, false, false, false, false, false, false] (by kernel_rfl) rfl rfl ⟨((HB.out.cell (World.block_lt_of_cell? w _ hw571_0)).trans hw571_0), ((HB.out.cell (World.block_lt_of_cell? w _ hw572_0)).trans hw572_0)⟩ (fun hHeld => ?_); refine with_tabW laws_eqCommandSS.tab6 laws_eqCommandSS.bits6 (fun HT_ HW_ => ?_)
                generalize wr.drew = w11 at HB HR571_0 HR572_0 hx571_0 hx572_0 hHeld ⊢
                refine pure_ (i := 0) (N := some 17) (v := ?_) (a' := ?_) #[true, false, false, false, false, false, false, false, false, false] rfl rfl (any_of HT_.out (by kernel_rfl)) (fun _ _ _ h => h) (Or.inl ⟨by rfl, ?_⟩) ?_ ?_
                rotate_left
                · intro w'
                  go_simp
                  with_reducible rfl
                rotate_left
                · simp only [Act.put, List.setIfInBounds_toArray, List.set_cons_zero, List.set_cons_succ, i64_w, i32_w]
                  rfl
                refine pure_ (i := 1) (N := some 18) (v := ?_) (a' := ?_) #[true, true, false, false, false, false, false, false, false, false] rfl rfl (any_of HT_.out (by kernel_rfl)) (fun _ _ _ h => h) (Or.inl ⟨by rfl, ?_⟩) ?_ ?_
                rotate_left
                · intro w'
                  go_simp
                  with_reducible rfl
                rotate_left
                · simp only [Act.put, List.setIfInBounds_toArray, List.set_cons_zero, List.set_cons_succ, i64_w, i32_w]
                  rfl
                refine pure_ (i := 2) (N := some 19) (v := ?_) (a' := ?_) #[true, true, true, false, false, false, false, false, false, false] rfl rfl (any_of HT_.out (by kernel_rfl)) (fun _ _ _ h => h) (Or.inl ⟨by rfl, ?_⟩) ?_ ?_
                rotate_left
                · intro w'
                  go_simp
                  with_reducible rfl
                rotate_left
                · simp only [Act.put, List.setIfInBounds_toArray, List.set_cons_zero, List.set_cons_succ, i64_w, i32_w]
                  rfl
                refine pure_ (i := 4) (N := some 21) (v := ?_) (a' := ?_) #[true, true, true, false, true, false, false, false, false, false] rfl rfl (any_of HT_.out (by kernel_rfl)) (fun _ _ _ h => h) (Or.inl ⟨by rfl, ?_⟩) ?_ ?_
                rotate_left
                · intro w'
                  go_simp
                  with_reducible rfl
                rotate_left
                · simp only [Act.put, List.setIfInBounds_toArray, List.set_cons_zero, List.set_cons_succ, i64_w, i32_w]
                  rfl
                refine pure_ (i := 5) (N := some 22) (v := ?_) (a' := ?_) #[true, true, true, false, true, true, false, false, false, false] rfl rfl (any_of HT_.out (by kernel_rfl)) (fun _ _ _ h => h) (Or.inl ⟨by rfl, ?_⟩) ?_ ?_
                rotate_left
                · intro w'
                  go_simp
                  with_reducible rfl
                rotate_left
                · simp only [Act.put, List.setIfInBounds_toArray, List.set_cons_zero, List.set_cons_succ, i64_w, i32_w]
                  rfl
                refine pure_ (i := 6) (N := some 23) (v := ?_) (a' := ?_) #[true, true, true, false, true, true, true, false, false, false] rfl rfl (any_of HT_.out (by kernel_rfl)) (fun _ _ _ h => h) (Or.inl ⟨by rfl, ?_⟩) ?_ ?_
                rotate_left
                · intro w'
                  go_simp
                  with_reducible rfl
                rotate_left
                · simp only [Act.put, List.setIfInBounds_toArray, List.set_cons_zero, List.set_cons_succ, i64_w, i32_w]
                  rfl
                refine take_ (i := 3) (N := some 20) (v := ?_) (a' := ?_) #[true, true, true, true, true, true, true, false, false, false] rfl rfl (take_ofW HT_.out HW_.out (by kernel_rfl)) (fun _ _ _ h => h) (Or.inl ⟨by rfl, ?_⟩) hHeld ?_ ?_
                rotate_left
                · rintro w' ⟨s0, s1⟩
                  go_simp
                  with_reducible rfl
                rotate_left
                · simp only [Act.put, List.setIfInBounds_toArray, List.set_cons_zero, List.set_cons_succ, i64_w, i32_w]
                  rfl
                refine take_ (i := 7) (N := some 24) (v := ?_) (a' := ?_) #[true, true, true, true, true, true, true, true, false, false] rfl rfl (take_ofW HT_.out HW_.out (by kernel_rfl)) (fun _ _ _ h => h) (Or.inl ⟨by rfl, ?_⟩) hHeld ?_ ?_
                rotate_left
                · rintro w' ⟨s0, s1⟩
                  go_simp
                  with_reducible rfl
                rotate_left
                · simp only [Act.put, List.setIfInBounds_toArray, List.set_cons_zero, List.set_cons_succ, i64_w, i32_w]
                  rfl
                refine one_ (i := 8) (N := some 25) #[true, true, true, true, true, true, true, true, true, false] rfl rfl (one_of HT_.out (by kernel_rfl)) (by decide) (fun K hK => ?_)
                refine goes_ Try.func35 (by kernel_rfl) rfl #[.slice A571_0 (rd_L20 l0 x5_1).length c571_0, .slice A572_0 (rd_L20 l1 x5_1).length c572_0] (by rfl) rfl rfl (by (try simp only [List.map_toArray, List.map_cons, List.map_nil]); first | done | rfl | (simp only [List.length_drop, List.length_take]; rfl)) ?_
                with_reducible refine (laws_eqCommandS.calls k1 _ _ (rd_L20 l0 x5_1) _ _ (rd_L20 l1 x5_1) false _ ?side1 ?side2 ?side3 ?side4 A7.out).mono ?_
                (case side1 => repeat (first | exact (Kd.C_below HR571_0.out HB.out) | (with_reducible refine Kd.C_alloc ?_ _) | (with_reducible refine Kd.C_drewN ?_ _) | (with_reducible refine Kd.C_drew ?_)))
                (case side2 => exact HC571_0.out)
                (case side3 => repeat (first | exact (Kd.C_below HR572_0.out HB.out) | (with_reducible refine Kd.C_alloc ?_ _) | (with_reducible refine Kd.C_drewN ?_ _) | (with_reducible refine Kd.C_drew ?_)))
                (case side4 => exact HC572_0.out)
                rintro e w12 ⟨rfl, hb⟩
                refine ⟨_, rfl, ?_⟩
                have n0_ := Aside0.mk (below_step (by repeat (first | (with_reducible first | exact HB.out | apply below_alloc | apply pw_below_drewN | apply below_drew1) | exact HB.out)) hb)
                clear HB
                have HB := n0_
                clear n0_
                (try clear hb)
                (try clear hb2)
                (try clear hk)
                (try clear hi)
                refine hK.out _ _ ⟨((HB.out.cell (World.block_lt_of_cell? w _ hw571_0)).trans hw571_0), ((HB.out.cell (World.block_lt_of_cell? w _ hw572_0)).trans hw572_0)⟩ (fun hHeld => ?_)
                clear hK K
                refine norm_ (a' := ?_) ?_ ?_
                rotate_left
                · show Act.put _ (some 25) _ = _
                  simp only [Act.put, List.setIfInBounds_toArray, List.set_cons_zero, List.set_cons_succ, i64_w, i32_w]
                  rfl
                refine pure_ (i := 9) (N := some 26) (v := ?_) (a' := ?_) #[true, true, true, true, true, true, true, true, true, true] rfl rfl (any_of HT_.out (by kernel_rfl)) (fun _ _ _ h => h) (Or.inl ⟨by rfl, ?_⟩) ?_ ?_
                rotate_left
                · intro w'
                  go_simp
                  with_reducible rfl
                rotate_left
                · simp only [Act.put, List.setIfInBounds_toArray, List.set_cons_zero, List.set_cons_succ, i64_w, i32_w]
                  rfl
                refine done_ (done_of HT_.out (by kernel_rfl)) ?_
                try go_wp2
                go_ret
                exact ⟨by first | rfl | (simp [errW_none, errW_some] <;> rfl) | (simp [*, errW_none, errW_some] <;> rfl), by repeat (first | (with_reducible first | exact HB.out | apply below_alloc | apply pw_below_drewN | apply below_drew1) | exact HB.out)⟩
            · rw [if_neg c6] at H
              exact absurd H (by simp)
          · rw [if_neg c5] at H
            exact absurd H (by simp)
        · rw [if_neg c4] at H
          have c4b0 : decide (x5_1 < (l0.length : Int)) = false := decide_eq_false c4
          clear c4
          obtain rfl := Option.some.inj H
          go_wp2
          go_ret
          exact ⟨by first | rfl | (simp [errW_none, errW_some] <;> rfl) | (simp [*, errW_none, errW_some] <;> rfl), by repeat (first | (with_reducible first | exact HB.out | apply below_alloc | apply pw_below_drewN | apply below_drew1) | exact HB.out)⟩
  · rw [if_neg c3] at H
    have c3b0 : ((l0.length : Int) == (l1.length : Int)) = false := beq_eq_false_iff_ne.mpr c3
    have c3b1 : ((l0.length : Int) != (l1.length : Int)) = true := bne_iff_ne.mpr c3
    have c3b2 : (l0.length == l1.length) = false := by first | simpa using c3 | (simp at c3 ⊢; omega)
    obtain rfl := Option.some.inj H
    go_enter Try.func34, Try.ntmps34
    go_wp2
    go_ret
    exact ⟨by first | rfl | (simp [errW_none, errW_some] <;> rfl) | (simp [*, errW_none, errW_some] <;> rfl), by repeat (first | (with_reducible first | exact HB.out | apply below_alloc | apply pw_below_drewN | apply below_drew1) | exact HB.out)⟩

end Go.Proofs.Ytgpdjpololkhbaa.F

namespace Go.Proofs.Ytgpdjpololkhbaa.F
open Go.RowKit Go.Proofs.YtgpdjpololkhbaaW.PrintWords Go.Proofs.YtgpdjpololkhbaaW.PrintLast Go.Proofs.YtgpdjpololkhbaaW.PrintMore
attribute [local go_sem] max2_int min2_int max_two min_two max_three min_three max_four min_four   -- for this text's walks alone
set_option linter.unusedVariables false
set_option linter.unusedSimpArgs false

/-! ### laws_markCommandS: function 36 -/
def laws_markCommandS.l0 : Nat → List (S137) → Int → Int → Option (Int × (List (S137)))
  | 0, _, _, _ => none
  | k + 1, x0, x1, x5 => if x5 < (x0.length : Int) then (if 0 ≤ x5 then ((some (x0.set (x5 : Int).toNat (⟨(x1) % 256, (rd_T137 x0 x5).f1, (rd_T137 x0 x5).f2⟩ : S137) : List (S137))).bind fun y574 => ((some (y574.set (x5 : Int).toNat (⟨(rd_T137 y574 x5).f0, wrap64 (x1 + 1), (rd_T137 y574 x5).f2⟩ : S137) : List (S137))).bind fun y575 => (laws_markCommandS.l0 k (y575.set (x5 : Int).toNat (⟨(rd_T137 y575 x5).f0, (rd_T137 y575 x5).f1, wrap64 ((wrap64 (x1 + 1)) + 1)⟩ : S137)) (wrap64 ((wrap64 ((wrap64 (x1 + 1)) + 1)) + 1)) (wrap64 (x5 + 1))))) else (none)) else (some (x1, x0))
def laws_markCommandS.f (k : Nat) (l0 : List (S137)) (a1 : Int) : Option (Int × (List (S137))) := laws_markCommandS.l0 k l0 a1 0
theorem laws_markCommandS.mono_l : ∀ k, (∀ y0 y1 y2, LeO (laws_markCommandS.l0 k y0 y1 y2) (laws_markCommandS.l0 (k + 1) y0 y1 y2))
  | 0 => fun _ _ _ r h => by simp [laws_markCommandS.l0] at h
  | k + 1 => by
    have ih0 := laws_markCommandS.mono_l k
    · intro y0 y1 y2
      unfold laws_markCommandS.l0
      repeat' first
      | (with_reducible exact ih0 _ _ _)
      | (with_reducible exact LeO.refl _)
      | (with_reducible exact LeO.none _)
      | (with_reducible refine LeO.ite ?_ ?_)
      | (with_reducible refine LeO.bind ?_ (fun _ => ?_))
      | exact ih0 _ _ _
      | exact LeO.none _
      | refine LeO.ite ?_ ?_
      | refine LeO.bind ?_ (fun _ => ?_)
theorem laws_markCommandS.mono : ∀ a0 a1 k, LeO (laws_markCommandS.f k a0 a1) (laws_markCommandS.f (k + 1) a0 a1) := by
  intro a0 a1 k
  have ih0 := laws_markCommandS.mono_l k
  unfold laws_markCommandS.f
  repeat' first
      | (with_reducible exact ih0 _ _ _)
      | (with_reducible exact LeO.refl _)
      | (with_reducible exact LeO.none _)
      | (with_reducible refine LeO.ite ?_ ?_)
      | (with_reducible refine LeO.bind ?_ (fun _ => ?_))
      | exact ih0 _ _ _
      | exact LeO.none _
      | refine LeO.ite ?_ ?_
      | refine LeO.bind ?_ (fun _ => ?_)
set_option maxHeartbeats 8000000 in
set_option maxRecDepth 100000 in
theorem laws_markCommandS.calls (k : Nat) (P0_ : Nat → Prop) (u9000_ : Value) (l0 : List (S137)) (a1 : Int) (r1 : Int) (r2 : List (S137)) (w0 w : World) (hB : Below w0.heap.size w0 w) (ho0 : Kd.R k137 137 w w0.heap.size P0_ u9000_ l0) (h : laws_markCommandS.f k l0 a1 = some (r1, r2)) :
    Calls Try.prog 36 #[u9000_, .int .i64 a1] w fun e w' => e = .returned (.int .i64 r1) ∧ Kd.R k137 137 w' w0.heap.size (fun k_ => (P0_ k_ ∨ w.heap.size ≤ k_)) u9000_ r2 ∧ Below w0.heap.size w0 w' ∧ Kept w w' (fun k_ => P0_ k_) := by
  have HO0 := Aside0.mk (show Kd.R k137 137 w w0.heap.size (fun k_ => (P0_ k_ ∨ w.heap.size ≤ k_)) u9000_ l0 from Kd.R_mono ho0 (fun k_ hk => (.inl hk)))
  have HK := Aside0.mk (Kept.refl w (fun k_ => P0_ k_))
  have HW0 := Aside0.mk hB.size
  have HB := Aside0.mk hB
  clear hB
  have H : (laws_markCommandS.l0 k l0 a1 0) = some (r1, r2) := h
  clear h
  have H' := Aside0.mk H
  clear H
  go_enter Try.func36, Try.ntmps36
  go_wp2
  go_loopg [1, 5] k (fun kq v1 v5 w' => ∃ (x0_1 : List (S137)) (x1_1 : Int) (x5_1 : Int), v1 = .int .i64 x1_1 ∧ v5 = .int .i64 x5_1 ∧ Aside0 (laws_markCommandS.l0 kq x0_1 x1_1 x5_1 = some (r1, r2)) ∧ Aside0 (kq ≤ k) ∧ Aside0 (Kd.R k137 137 w' w0.heap.size (fun k_ => (P0_ k_ ∨ w.heap.size ≤ k_)) u9000_ x0_1) ∧ Aside0 (Kept w w' (fun k_ => P0_ k_)) ∧ Aside0 (Below w0.heap.size w0 w'))
  case atStart => exact ⟨(l0), (a1), (0), (by first | rfl | (simp; done) | (simp [*]; done)), (by first | rfl | (simp; done) | (simp [*]; done)), H', ⟨Nat.le_refl _⟩, ⟨by (with_reducible repeat (first | apply Kd.R_alloc | apply Kd.R_drewN | apply Kd.R_drew)); exact HO0.out⟩, ⟨by repeat (first | (with_reducible first | exact HK.out | apply Kept.alloc | apply Kept.drewN | apply Kept.drew) | exact HK.out)⟩, ⟨by repeat (first | (with_reducible first | exact HB.out | apply below_alloc | apply pw_below_drewN | apply below_drew1) | exact HB.out)⟩⟩
  case round =>
    clear H'
    try clear p2
    obtain ⟨x0_1, x1_1, x5_1, rfl, rfl, HA, HK1, HO_0, HK, HB⟩ := hrel
    cases gk with
    | zero => exact absurd HA.out (by simp [laws_markCommandS.l0])
    | succ k1 =>
      have H := HA.out
      clear HA
      simp only [laws_markCommandS.l0] at H
      by_cases c3 : x5_1 < (x0_1.length : Int)
      · rw [if_pos c3] at H
        have c3b0 : decide (x5_1 < (x0_1.length : Int)) = true := decide_eq_true c3
        clear c3
        by_cases c4 : 0 ≤ x5_1
        · rw [if_pos c4] at H
          have c4b0 : decide (0 ≤ x5_1) = true := decide_eq_true c4
          clear c4
          obtain ⟨y574, hy574⟩ : ∃ y_ : List (S137), y_ = (x0_1.set (x5_1 : Int).toNat (⟨(x1_1) % 256, (rd_T137 x0_1 x5_1).f1, (rd_T137 x0_1 x5_1).f2⟩ : S137)) := ⟨_, rfl⟩
          replace H : ((some (y574.set (x5_1 : Int).toNat (⟨(rd_T137 y574 x5_1).f0, wrap64 (x1_1 + 1), (rd_T137 y574 x5_1).f2⟩ : S137) : List (S137))).bind fun y575 => (laws_markCommandS.l0 k1 (y575.set (x5_1 : Int).toNat (⟨(rd_T137 y575 x5_1).f0, (rd_T137 y575 x5_1).f1, wrap64 ((wrap64 (x1_1 + 1)) + 1)⟩ : S137)) (wrap64 ((wrap64 ((wrap64 (x1_1 + 1)) + 1)) + 1)) (wrap64 (x5_1 + 1)))) = some (r1, r2) := by first | (rw [hy574]; with_reducible exact H) | (have H2_ := (Option.bind_some _ _).symm.trans H; rw [hy574]; with_reducible exact H2_) | (have H2_ := (Option.bind_some _ _).symm.trans H; with_reducible exact H2_) | with_reducible exact H | (rw [hy574]; exact H) | exact H
          have Ny574 := Aside0.mk hy574
          clear hy574
          obtain ⟨y575, hy575⟩ : ∃ y_ : List (S137), y_ = (y574.set (x5_1 : Int).toNat (⟨(rd_T137 y574 x5_1).f0, wrap64 (x1_1 + 1), (rd_T137 y574 x5_1).f2⟩ : S137)) := ⟨_, rfl⟩
          replace H : (laws_markCommandS.l0 k1 (y575.set (x5_1 : Int).toNat (⟨(rd_T137 y575 x5_1).f0, (rd_T137 y575 x5_1).f1, wrap64 ((wrap64 (x1_1 + 1)) + 1)⟩ : S137)) (wrap64 ((wrap64 ((wrap64 (x1_1 + 1)) + 1)) + 1)) (wrap64 (x5_1 + 1))) = some (r1, r2) := by first | (rw [hy575]; with_reducible exact H) | (have H2_ := (Option.bind_some _ _).symm.trans H; rw [hy575]; with_reducible exact H2_) | (have H2_ := (Option.bind_some _ _).symm.trans H; with_reducible exact H2_) | with_reducible exact H | (rw [hy575]; exact H) | exact H
          have Ny575 := Aside0.mk hy575
          clear hy575
          obtain ⟨y576, hy576⟩ : ∃ y_ : List (S137), y_ = (y575.set (x5_1 : Int).toNat (⟨(rd_T137 y575 x5_1).f0, (rd_T137 y575 x5_1).f1, wrap64 ((wrap64 (x1_1 + 1)) + 1)⟩ : S137)) := ⟨_, rfl⟩
          replace H : (laws_markCommandS.l0 k1 y576 (wrap64 ((wrap64 ((wrap64 (x1_1 + 1)) + 1)) + 1)) (wrap64 (x5_1 + 1))) = some (r1, r2) := by first | (rw [hy576]; with_reducible exact H) | (have H2_ := (Option.bind_some _ _).symm.trans H; rw [hy576]; with_reducible exact H2_) | (have H2_ := (Option.bind_some _ _).symm.trans H; with_reducible exact H2_) | with_reducible exact H | (rw [hy576]; exact H) | exact H
          have Ny576 := Aside0.mk hy576
          clear hy576
          have H' := Aside0.mk H
          clear H
          obtain ⟨Ao8, co8, eo8⟩ := Kd.R_slice HO_0.out
          subst eo8
          have p5 : 0 ≤ (x5_1 : Int) := of_decide_eq_true (by first | (with_reducible assumption) | assumption)
          have q5 : (x5_1 : Int) < ((x0_1.length : Int) : Int) := of_decide_eq_true (by first | (with_reducible assumption) | assumption)
          obtain ⟨go5, co5, eo5, gb5, gl5, cl5, HG5⟩ := Kd.R_form HO_0.out (by omega)
          (first | cases eo5 | (injection eo5 with ea_ en_ ec_; (first | subst ea_ | (injection ea_ with ea_; subst ea_)); subst ec_; clear en_))
          have GB5 := Aside0.mk gb5
          have GG5 := Aside0.mk HG5
          clear gb5 gl5 HG5
          have HMgo5 := Aside0.mk (show (P0_ go5 ∨ w.heap.size ≤ go5) from (HO_0.out.1 _ rfl))
          obtain ⟨ce5, hcl5, hM5, hcc5, hfr5⟩ := Kd.R_elem HO_0.out z137 (x5_1 : Int) p5 q5
          obtain rfl := k137_openM hM5
          have hx5_0 : wr.cell? ⟨go5, (x5_1 : Int).toNat * 3, none⟩ = some (.int .u8 ((rd_T137 x0_1 x5_1).f0)) := hcc5 0 _ rfl
          have hx5_1 : wr.cell? ⟨go5, (x5_1 : Int).toNat * 3 + 1, none⟩ = some (.int .i64 ((rd_T137 x0_1 x5_1).f1)) := hcc5 1 _ rfl
          have hx5_2 : wr.cell? ⟨go5, (x5_1 : Int).toNat * 3 + 2, none⟩ = some (.int .i64 ((rd_T137 x0_1 x5_1).f2)) := hcc5 2 _ rfl
          have hf5_0 : wr.frozen? ⟨go5, (x5_1 : Int).toNat * 3, none⟩ = false := hfr5 0
          have hf5_1 : wr.frozen? ⟨go5, (x5_1 : Int).toNat * 3 + 1, none⟩ = false := hfr5 1
          have hf5_2 : wr.frozen? ⟨go5, (x5_1 : Int).toNat * 3 + 2, none⟩ = false := hfr5 2
          clear hcl5 hcc5 hfr5 hM5
          replace p5 := eq_true p5
          replace q5 := eq_true q5
          have HX9 := Aside0.mk (show Kd.R k137 137 wr w0.heap.size (fun k_ => (P0_ k_ ∨ w.heap.size ≤ k_)) (.slice (some ⟨go5, 0, none⟩) x0_1.length co8) x0_1 from (by (with_reducible repeat (first | apply Kd.R_alloc | apply Kd.R_drewN | apply Kd.R_drew)); exact HO_0.out))
          obtain ⟨ce9, hcl9, hM9, hcc9, hfr9⟩ := Kd.R_elem HX9.out z137 (x5_1 : Int) (of_decide_eq_true (by first | (with_reducible assumption) | assumption)) (by have h_ : (x5_1 : Int) < ((x0_1.length : Int) : Int) := of_decide_eq_true (by first | (with_reducible assumption) | assumption); first | exact h_ | (have e_ := (Kd.R_reads' HO_0.out).1; omega) | simpa using h_)
          obtain rfl := k137_openM hM9
          have HP9 := Kd.R_seg HX9.out (x5_1 : Int) (of_decide_eq_true (by first | (with_reducible assumption) | assumption)) (by have h_ : (x5_1 : Int) < ((x0_1.length : Int) : Int) := of_decide_eq_true (by first | (with_reducible assumption) | assumption); first | exact h_ | (have e_ := (Kd.R_reads' HO_0.out).1; omega) | simpa using h_) (seg := [.int .u8 ((x1_1) % 256)]) (j := 0) hcl9 hcc9 (show 1 ≤ 3 from by decide) (x' := (⟨(x1_1) % 256, (rd_T137 x0_1 x5_1).f1, (rd_T137 x0_1 x5_1).f2⟩ : S137)) (k137_mkM _ _ _ (⟨(x1_1) % 256, (rd_T137 x0_1 x5_1).f1, (rd_T137 x0_1 x5_1).f2⟩ : S137) ) (fun _ hk => hk)
          have hx9_0 := hcc9 0 _ rfl
          (try simp only [show (k137).sz = 3 from rfl, Nat.mul_one, Nat.add_zero] at hx9_0)
          have hf9_0 := hfr9 0
          (try simp only [show (k137).sz = 3 from rfl, Nat.mul_one, Nat.add_zero] at hf9_0)
          clear hcl9 hcc9 hfr9 hM9
          go_wp2_with (first | ((with_reducible refine gate_store (t := 5) (p := 17) rfl ?_); refine store_event (t := 5) (p := 17) (v := ?vo_w10) (w1 := (wr.setCell ⟨go5, (x5_1 : Int).toNat * 3, none⟩ (.int .u8 ((x1_1) % 256)))) ?hg ?ho ?hn ?hr ?_; (case ho => rfl); (case hg => rfl); (case hn => rfl); (case hr => first | (go_simp; done) | (go_simp; rfl)); intro w10 hw; have hg : wr.grownBy w10 (some go5) := (by rw [hw]; exact HP9.2); have hp_ : Kd.R k137 137 w10 w0.heap.size (fun k_ => (P0_ k_ ∨ w.heap.size ≤ k_)) (.slice (some ⟨go5, 0, none⟩) x0_1.length co8) y574 := (by rw [hw, Ny574.out]; exact HP9.1); clear HP9; have n0_ := Aside0.mk (hp_); have n1_ := Aside0.mk ((by rw [hw]; exact below_set (HB.out) GB5.out : Below w0.heap.size w0 w10)); have n2_ := Aside0.mk (Kept.of_grown (S := (fun k_ => P0_ k_)) hg (by repeat (first | (with_reducible first | exact HK.out | apply Kept.alloc | apply Kept.drewN | apply Kept.drew) | exact HK.out)) (fun k_ e_ => (HO_0.out.1 k_ e_))); clear HO_0; clear HB; clear HK; have HO_0 := n0_; have HB := n1_; have HK := n2_; clear n0_ n1_ n2_; clear hg hw hp_; have p6 : 0 ≤ (x5_1 : Int) := of_decide_eq_true (by first | (with_reducible assumption) | assumption); have q6 : (x5_1 : Int) < ((x0_1.length : Int) : Int) := of_decide_eq_true (by first | (with_reducible assumption) | assumption); obtain ⟨ce6, hcl6, hM6, hcc6, hfr6⟩ := Kd.R_elem HO_0.out z137 (x5_1 : Int) p6 q6; obtain rfl := k137_openM hM6; have hx6_0 : w10.cell? ⟨go5, (x5_1 : Int).toNat * 3, none⟩ = some (.int .u8 ((rd_T137 y574 x5_1).f0)) := hcc6 0 _ rfl; have hx6_1 : w10.cell? ⟨go5, (x5_1 : Int).toNat * 3 + 1, none⟩ = some (.int .i64 ((rd_T137 y574 x5_1).f1)) := hcc6 1 _ rfl; have hx6_2 : w10.cell? ⟨go5, (x5_1 : Int).toNat * 3 + 2, none⟩ = some (.int .i64 ((rd_T137 y574 x5_1).f2)) := hcc6 2 _ rfl; have hf6_0 : w10.frozen? ⟨go5, (x5_1 : Int).toNat * 3, none⟩ = false := hfr6 0; have hf6_1 : w10.frozen? ⟨go5, (x5_1 : Int).toNat * 3 + 1, none⟩ = false := hfr6 1; have hf6_2 : w10.frozen? ⟨go5, (x5_1 : Int).toNat * 3 + 2, none⟩ = false := hfr6 2; clear hcl6 hcc6 hfr6 hM6; replace p6 := eq_true p6; replace q6 := eq_true q6; have HX11 := Aside0.mk (show Kd.R k137 137 w10 w0.heap.size (fun k_ => (P0_ k_ ∨ w.heap.size ≤ k_)) (.slice (some ⟨go5, 0, none⟩) x0_1.length co8) y574 from (by (with_reducible repeat (first | apply Kd.R_alloc | apply Kd.R_drewN | apply Kd.R_drew)); exact HO_0.out)); obtain ⟨ce11, hcl11, hM11, hcc11, hfr11⟩ := Kd.R_elem HX11.out z137 (x5_1 : Int) (of_decide_eq_true (by first | (with_reducible assumption) | assumption)) (by have h_ : (x5_1 : Int) < ((x0_1.length : Int) : Int) := of_decide_eq_true (by first | (with_reducible assumption) | assumption); first | exact h_ | (have e_ := (Kd.R_reads' HO_0.out).1; omega) | simpa using h_); obtain rfl := k137_openM hM11; have HP11 := Kd.R_seg HX11.out (x5_1 : Int) (of_decide_eq_true (by first | (with_reducible assumption) | assumption)) (by have h_ : (x5_1 : Int) < ((x0_1.length : Int) : Int) := of_decide_eq_true (by first | (with_reducible assumption) | assumption); first | exact h_ | (have e_ := (Kd.R_reads' HO_0.out).1; omega) | simpa using h_) (seg := [.int .i64 (wrap64 (x1_1 + 1))]) (j := 1) hcl11 hcc11 (show 2 ≤ 3 from by decide) (x' := (⟨(rd_T137 y574 x5_1).f0, wrap64 (x1_1 + 1), (rd_T137 y574 x5_1).f2⟩ : S137)) (k137_mkM _ _ _ (⟨(rd_T137 y574 x5_1).f0, wrap64 (x1_1 + 1), (rd_T137 y574 x5_1).f2⟩ : S137) ) (fun _ hk => hk); have hx11_1 := hcc11 1 _ rfl; (try simp only [show (k137).sz = 3 from rfl, Nat.mul_one, Nat.add_zero] at hx11_1); have hf11_1 := hfr11 1; (try simp only [show (k137).sz = 3 from rfl, Nat.mul_one, Nat.add_zero] at hf11_1); clear hcl11 hcc11 hfr11 hM11) | ((with_reducible refine gate_store (t := 2) (p := 24) rfl ?_); refine store_event (t := 2) (p := 24) (v := ?vo_w12) (w1 := (w10.setCell ⟨go5, (x5_1 : Int).toNat * 3 + 1, none⟩ (.int .i64 (wrap64 (x1_1 + 1))))) ?hg ?ho ?hn ?hr ?_; (case ho => rfl); (case hg => rfl); (case hn => rfl); (case hr => first | (go_simp; done) | (go_simp; rfl)); intro w12 hw; have hg : w10.grownBy w12 (some go5) := (by rw [hw]; exact HP11.2); have hp_ : Kd.R k137 137 w12 w0.heap.size (fun k_ => (P0_ k_ ∨ w.heap.size ≤ k_)) (.slice (some ⟨go5, 0, none⟩) x0_1.length co8) y575 := (by rw [hw, Ny575.out]; exact HP11.1); clear HP11; have n0_ := Aside0.mk (hp_); have n1_ := Aside0.mk ((by rw [hw]; exact below_set (HB.out) GB5.out : Below w0.heap.size w0 w12)); have n2_ := Aside0.mk (Kept.of_grown (S := (fun k_ => P0_ k_)) hg (by repeat (first | (with_reducible first | exact HK.out | apply Kept.alloc | apply Kept.drewN | apply Kept.drew) | exact HK.out)) (fun k_ e_ => (HO_0.out.1 k_ e_))); clear HO_0; clear HB; clear HK; have HO_0 := n0_; have HB := n1_; have HK := n2_; clear n0_ n1_ n2_; clear hg hw hp_; have p7 : 0 ≤ (x5_1 : Int) := of_decide_eq_true (by first | (with_reducible assumption) | assumption); have q7 : (x5_1 : Int) < ((x0_1.length : Int) : Int) := of_decide_eq_true (by first | (with_reducible assumption) | assumption); obtain ⟨ce7, hcl7, hM7, hcc7, hfr7⟩ := Kd.R_elem HO_0.out z137 (x5_1 : Int) p7 q7; obtain rfl := k137_openM hM7; have hx7_0 : w12.cell? ⟨go5, (x5_1 : Int).toNat * 3, none⟩ = some (.int .u8 ((rd_T137 y575 x5_1).f0)) := hcc7 0 _ rfl; have hx7_1 : w12.cell? ⟨go5, (x5_1 : Int).toNat * 3 + 1, none⟩ = some (.int .i64 ((rd_T137 y575 x5_1).f1)) := hcc7 1 _ rfl; have hx7_2 : w12.cell? ⟨go5, (x5_1 : Int).toNat * 3 + 2, none⟩ = some (.int .i64 ((rd_T137 y575 x5_1).f2)) := hcc7 2 _ rfl; have hf7_0 : w12.frozen? ⟨go5, (x5_1 : Int).toNat * 3, none⟩ = false := hfr7 0; have hf7_1 : w12.frozen? ⟨go5, (x5_1 : Int).toNat * 3 + 1, none⟩ = false := hfr7 1; have hf7_2 : w12.frozen? ⟨go5, (x5_1 : Int).toNat * 3 + 2, none⟩ = false := hfr7 2; clear hcl7 hcc7 hfr7 hM7; replace p7 := eq_true p7; replace q7 := eq_true q7; have HX13 := Aside0.mk (show Kd.R k137 137 w12 w0.heap.size (fun k_ => (P0_ k_ ∨ w.heap.size ≤ k_)) (.slice (some ⟨go5, 0, none⟩) x0_1.length co8) y575 from (by (with_reducible repeat (first | apply Kd.R_alloc | apply Kd.R_drewN | apply Kd.R_drew)); exact HO_0.out)); obtain ⟨ce13, hcl13, hM13, hcc13, hfr13⟩ := Kd.R_elem HX13.out z137 (x5_1 : Int) (of_decide_eq_true (by first | (with_reducible assumption) | assumption)) (by have h_ : (x5_1 : Int) < ((x0_1.length : Int) : Int) := of_decide_eq_true (by first | (with_reducible assumption) | assumption); first | exact h_ | (have e_ := (Kd.R_reads' HO_0.out).1; omega) | simpa using h_); obtain rfl := k137_openM hM13; have HP13 := Kd.R_seg HX13.out (x5_1 : Int) (of_decide_eq_true (by first | (with_reducible assumption) | assumption)) (by have h_ : (x5_1 : Int) < ((x0_1.length : Int) : Int) := of_decide_eq_true (by first | (with_reducible assumption) | assumption); first | exact h_ | (have e_ := (Kd.R_reads' HO_0.out).1; omega) | simpa using h_) (seg := [.int .i64 (wrap64 ((wrap64 (x1_1 + 1)) + 1))]) (j := 2) hcl13 hcc13 (show 3 ≤ 3 from by decide) (x' := (⟨(rd_T137 y575 x5_1).f0, (rd_T137 y575 x5_1).f1, wrap64 ((wrap64 (x1_1 + 1)) + 1)⟩ : S137)) (k137_mkM _ _ _ (⟨(rd_T137 y575 x5_1).f0, (rd_T137 y575 x5_1).f1, wrap64 ((wrap64 (x1_1 + 1)) + 1)⟩ : S137) ) (fun _ hk => hk); have hx13_2 := hcc13 2 _ rfl; (try simp only [show (k137).sz = 3 from rfl, Nat.mul_one, Nat.add_zero] at hx13_2); have hf13_2 := hfr13 2; (try simp only [show (k137).sz = 3 from rfl, Nat.mul_one, Nat.add_zero] at hf13_2); clear hcl13 hcc13 hfr13 hM13) | ((with_reducible refine gate_store (t := 2) (p := 31) rfl ?_); refine store_event (t := 2) (p := 31) (v := ?vo_w14) (w1 := (w12.setCell ⟨go5, (x5_1 : Int).toNat * 3 + 2, none⟩ (.int .i64 (wrap64 ((wrap64 (x1_1 + 1)) + 1))))) ?hg ?ho ?hn ?hr ?_; (case ho => rfl); (case hg => rfl); (case hn => rfl); (case hr => first | (go_simp; done) | (go_simp; rfl)); intro w14 hw; have hg : w12.grownBy w14 (some go5) := (by rw [hw]; exact HP13.2); have hp_ : Kd.R k137 137 w14 w0.heap.size (fun k_ => (P0_ k_ ∨ w.heap.size ≤ k_)) (.slice (some ⟨go5, 0, none⟩) x0_1.length co8) y576 := (by rw [hw, Ny576.out]; exact HP13.1); clear HP13; have n0_ := Aside0.mk (hp_); have n1_ := Aside0.mk ((by rw [hw]; exact below_set (HB.out) GB5.out : Below w0.heap.size w0 w14)); have n2_ := Aside0.mk (Kept.of_grown (S := (fun k_ => P0_ k_)) hg (by repeat (first | (with_reducible first | exact HK.out | apply Kept.alloc | apply Kept.drewN | apply Kept.drew) | exact HK.out)) (fun k_ e_ => (HO_0.out.1 k_ e_))); clear HO_0; clear HB; clear HK; have HO_0 := n0_; have HB := n1_; have HK := n2_; clear n0_ n1_ n2_; clear hg hw hp_))
          go_roundg k1
          case measure => have := HK1.out; omega
          case rel => exact ⟨(y576), (wrap64 ((wrap64 ((wrap64 (x1_1 + 1)) + 1)) + 1)), (wrap64 (x5_1 + 1)), (by first | rfl | (simp; done) | (simp [*]; done)), (by first | rfl | (simp; done) | (simp [*]; done)), H', ⟨by have := HK1.out; omega⟩, ⟨by (with_reducible repeat (first | apply Kd.R_alloc | apply Kd.R_drewN | apply Kd.R_drew)); exact HO_0.out⟩, ⟨by repeat (first | (with_reducible first | exact HK.out | apply Kept.alloc | apply Kept.drewN | apply Kept.drew) | exact HK.out)⟩, ⟨by repeat (first | (with_reducible first | exact HB.out | apply below_alloc | apply pw_below_drewN | apply below_drew1) | exact HB.out)⟩⟩
        · rw [if_neg c4] at H
          exact absurd H (by simp)
      · rw [if_neg c3] at H
        have c3b0 : decide (x5_1 < (x0_1.length : Int)) = false := decide_eq_false c3
        clear c3
        simp only [Option.some.injEq, Prod.mk.injEq] at H
        obtain ⟨rfl, rfl⟩ := H
        obtain ⟨Ao15, co15, eo15⟩ := Kd.R_slice HO_0.out
        subst eo15
        go_wp2
        go_ret
        exact ⟨by first | rfl | (simp [errW_none, errW_some] <;> rfl) | (simp [*, errW_none, errW_some] <;> rfl), by (with_reducible repeat (first | apply Kd.R_alloc | apply Kd.R_drewN | apply Kd.R_drew)); exact HO_0.out, by repeat (first | (with_reducible first | exact HB.out | apply below_alloc | apply pw_below_drewN | apply below_drew1) | exact HB.out), by repeat (first | (with_reducible first | exact HK.out | apply Kept.alloc | apply Kept.drewN | apply Kept.drew) | exact HK.out)⟩

end Go.Proofs.Ytgpdjpololkhbaa.F

namespace Go.Proofs.Ytgpdjpololkhbaa.Pure
open Go.RowKit Go.Proofs.Ytgpdjpololkhbaa.F Go.Proofs.YtgpdjpololkhbaaW.PrintWords Go.Proofs.YtgpdjpololkhbaaW.PrintLast Go.Proofs.YtgpdjpololkhbaaW.PrintMore Go.Proofs.YtgpdjpololkhbaaB
set_option linter.unusedVariables false
set_option linter.unusedSimpArgs false
/-- The commands behind the marks, from the number a on; the first number behind them is a + 3 * length. -/
def markC (a : Int) : List S137 → List S137
  | [] => []
  | _ :: ys => ⟨a % 256, a + 1, a + 2⟩ :: markC (a + 3) ys
theorem markC_length (a : Int) (l : List S137) : (markC a l).length = l.length := by
  induction l generalizing a with
  | nil => rfl
  | cons y ys ih => simp [markC, ih]
theorem markC_mark (a b : Int) (l : List S137) : markC a (markC b l) = markC a l := by
  induction l generalizing a b with
  | nil => rfl
  | cons y ys ih => simp [markC, ih]
theorem laws_markCommandS_l0 : ∀ (ys : List S137) (m : Nat) (xs : List S137) (a : Int), xs.length ≤ 2147483647 → xs.drop m = ys → 0 ≤ a → a + 3 * ys.length ≤ 4611686018427387904 →
    Ev (fun k => laws_markCommandS.l0 k xs a m) (a + 3 * ys.length, xs.take m ++ markC a ys)
  | [], m, xs, a, hx, h, h0, h1 => by
    have := drop_nil h
    refine ev_step (fun _ => rfl) (ev_neg (by omega) (ev_now ?_))
    rw [List.take_of_length_le this]
    simp [markC]
  | y :: ys, m, xs, a, hx, h, h0, h1 => by
    obtain ⟨hm, _, hd⟩ := drop_cons h
    simp only [List.length_cons] at h1
    refine ev_step (fun _ => rfl) (ev_pos (by omega) (ev_pos (by omega) ?_))
    refine ev_some rfl (ev_some rfl ?_)
    rw [w64 (x := a + 1) (by omega) (by omega), w64 (x := a + 1 + 1) (by omega) (by omega), w64 (x := a + 1 + 1 + 1) (by omega) (by omega), w64 (x := (m : Int) + 1) (by omega) (by omega)]
    simp only [Int.toNat_natCast]
    have hset : ∀ (v u : S137), (rd_T137 (xs.set m v) (m : Int)) = v := fun v u => by simp [rd_T137, hm]
    have hset2 : ∀ (v u : S137), (rd_T137 ((xs.set m v).set m u) (m : Int)) = u := fun v u => by simp [rd_T137, hm]
    rw [hset2, hset _ y, List.set_set, List.set_set]
    have hd' : (xs.set m ⟨a % 256, a + 1, a + 1 + 1⟩).drop (m + 1) = ys := by rw [List.drop_set_of_lt (by omega), hd]
    refine ev_eq (laws_markCommandS_l0 ys (m + 1) _ (a + 1 + 1 + 1) (by rw [List.length_set]; exact hx) hd' (by omega) (by omega)) ?_
    have ht : (xs.set m ⟨a % 256, a + 1, a + 1 + 1⟩).take (m + 1) = xs.take m ++ [⟨a % 256, a + 1, a + 1 + 1⟩] := by
      rw [set_take h, List.take_append, List.take_of_length_le (by rw [List.length_take]; omega), List.length_take, show m + 1 - min m xs.length = 1 by omega]
      rfl
    rw [ht]
    simp only [markC, List.length_cons, List.append_assoc, List.singleton_append, show a + 1 + 1 = a + 2 by omega, show a + 2 + 1 = a + 3 by omega]
    congr 1
    omega
theorem laws_markCommandS_f (xs : List S137) (a : Int) (hx : xs.length ≤ 2147483647) (h0 : 0 ≤ a) (h1 : a + 3 * xs.length ≤ 4611686018427387904) :
    Ev (fun k => laws_markCommandS.f k xs a) (a + 3 * xs.length, markC a xs) := ev_eq (laws_markCommandS_l0 xs 0 xs a hx rfl h0 h1) (by simp)

end Go.Proofs.Ytgpdjpololkhbaa.Pure

namespace Go.Proofs.Ytgpdjpololkhbaa.Pure
open Go.RowKit Go.Proofs.Ytgpdjpololkhbaa.F Go.Proofs.YtgpdjpololkhbaaW.PrintWords Go.Proofs.YtgpdjpololkhbaaW.PrintLast Go.Proofs.YtgpdjpololkhbaaW.PrintMore Go.Proofs.YtgpdjpololkhbaaB
set_option linter.unusedVariables false
set_option linter.unusedSimpArgs false
/-- How many numbers parts of a program hold. -/
def numCC : List (List S137) → Int
  | [] => 0
  | y :: ys => 3 * y.length + numCC ys
def markCC (a : Int) : List (List S137) → List (List S137)
  | [] => []
  | y :: ys => markC a y :: markCC (a + 3 * y.length) ys
theorem markCC_length (a : Int) (l : List (List S137)) : (markCC a l).length = l.length := by
  induction l generalizing a with
  | nil => rfl
  | cons y ys ih => simp [markCC, ih]
theorem numCC_nonneg (l : List (List S137)) : 0 ≤ numCC l := by
  induction l with
  | nil => exact Int.le_refl _
  | cons y ys ih => simp only [numCC]; omega
theorem numCC_le (l : List (List S137)) (h : ∀ y ∈ l, y.length ≤ 400) : numCC l ≤ 1200 * l.length := by
  induction l with
  | nil => exact Int.le_refl _
  | cons y ys ih =>
    have h1 := h y List.mem_cons_self
    have h2 := ih (fun z hz => h z (List.mem_cons_of_mem _ hz))
    simp only [numCC, List.length_cons]
    omega
theorem rdL {xs ys : List (List S137)} {y : List S137} {m : Nat} (h : xs.drop m = y :: ys) : rd_L20 xs (m : Int) = y := by
  show xs.getD (Int.toNat (m : Int)) [] = y
  rw [Int.toNat_natCast]
  exact (drop_cons h).2.1 _

end Go.Proofs.Ytgpdjpololkhbaa.Pure

namespace Go.Proofs.Ytgpdjpololkhbaa.Pure
open Go.RowKit Go.Proofs.Ytgpdjpololkhbaa.F Go.Proofs.YtgpdjpololkhbaaW.PrintWords Go.Proofs.YtgpdjpololkhbaaW.PrintLast Go.Proofs.YtgpdjpololkhbaaW.PrintMore Go.Proofs.YtgpdjpololkhbaaB
set_option linter.unusedVariables false
set_option linter.unusedSimpArgs false
theorem laws_eqCommandSS_l0 (xs : List (List S137)) (hx : xs.length ≤ 9223372036854775807) (hi : ∀ y ∈ xs, y.length ≤ 9223372036854775807) : ∀ (ys : List (List S137)) (m : Nat), xs.drop m = ys →
    Ev (fun k => laws_eqCommandSS.l0 k xs xs m) true
  | [], m, h => by
    have := drop_nil h
    exact ev_step (fun _ => rfl) (ev_neg (by omega) (ev_now rfl))
  | y :: ys, m, h => by
    obtain ⟨hm, _, hd⟩ := drop_cons h
    refine ev_step (fun _ => rfl) (ev_pos (by omega) (ev_pos (by omega) (ev_pos (by omega) ?_)))
    rw [rdL h, w64 (by omega) (by omega)]
    exact ev_bind (laws_eqCommandS_f y (hi y (List.mem_of_mem_drop (by rw [h]; exact List.mem_cons_self)))) (ev_pos rfl (laws_eqCommandSS_l0 xs hx hi ys (m + 1) hd))
theorem laws_eqCommandSS_f (xs : List (List S137)) (hx : xs.length ≤ 9223372036854775807) (hi : ∀ y ∈ xs, y.length ≤ 9223372036854775807) : Ev (fun k => laws_eqCommandSS.f k xs xs) true := ev_pos rfl (laws_eqCommandSS_l0 xs hx hi xs 0 rfl)

end Go.Proofs.Ytgpdjpololkhbaa.Pure

namespace Go.Proofs.Ytgpdjpololkhbaa.F
open Go.RowKit Go.Proofs.YtgpdjpololkhbaaW.PrintWords Go.Proofs.YtgpdjpololkhbaaW.PrintLast Go.Proofs.YtgpdjpololkhbaaW.PrintMore
attribute [local go_sem] max2_int min2_int max_two min_two max_three min_three max_four min_four   -- for this text's walks alone
set_option linter.unusedVariables false
set_option linter.unusedSimpArgs false

/-! ### laws_heldCommandS: function 94 -/
def laws_heldCommandS.l0 : Nat → List (S137) → Int → Int → Option (Int)
  | 0, _, _, _ => none
  | k + 1, x0, x1, x5 => if x5 < (x0.length : Int) then (if 0 ≤ x5 then (if ((rd_T137 x0 x5).f0) = ((x1) % 256) then (if ((rd_T137 x0 x5).f1) = (wrap64 (x1 + 1)) then (if ((rd_T137 x0 x5).f2) = (wrap64 ((wrap64 (x1 + 1)) + 1)) then (laws_heldCommandS.l0 k x0 (wrap64 ((wrap64 ((wrap64 (x1 + 1)) + 1)) + 1)) (wrap64 (x5 + 1))) else (some (-1))) else (some (-1))) else (some (-1))) else (none)) else (some x1)
def laws_heldCommandS.f (k : Nat) (l0 : List (S137)) (a1 : Int) : Option (Int) := laws_heldCommandS.l0 k l0 a1 0
theorem laws_heldCommandS.mono_l : ∀ k, (∀ y0 y1 y2, LeO (laws_heldCommandS.l0 k y0 y1 y2) (laws_heldCommandS.l0 (k + 1) y0 y1 y2))
  | 0 => fun _ _ _ r h => by simp [laws_heldCommandS.l0] at h
  | k + 1 => by
    have ih0 := laws_heldCommandS.mono_l k
    · intro y0 y1 y2
      unfold laws_heldCommandS.l0
      repeat' first
      | (with_reducible exact ih0 _ _ _)
      | (with_reducible exact LeO.refl _)
      | (with_reducible exact LeO.none _)
      | (with_reducible refine LeO.ite ?_ ?_)
      | (with_reducible refine LeO.bind ?_ (fun _ => ?_))
      | exact ih0 _ _ _
      | exact LeO.none _
      | refine LeO.ite ?_ ?_
      | refine LeO.bind ?_ (fun _ => ?_)
theorem laws_heldCommandS.mono : ∀ a0 a1 k, LeO (laws_heldCommandS.f k a0 a1) (laws_heldCommandS.f (k + 1) a0 a1) := by
  intro a0 a1 k
  have ih0 := laws_heldCommandS.mono_l k
  unfold laws_heldCommandS.f
  repeat' first
      | (with_reducible exact ih0 _ _ _)
      | (with_reducible exact LeO.refl _)
      | (with_reducible exact LeO.none _)
      | (with_reducible refine LeO.ite ?_ ?_)
      | (with_reducible refine LeO.bind ?_ (fun _ => ?_))
      | exact ih0 _ _ _
      | exact LeO.none _
      | refine LeO.ite ?_ ?_
      | refine LeO.bind ?_ (fun _ => ?_)
set_option maxHeartbeats 8000000 in
set_option maxRecDepth 100000 in
theorem laws_heldCommandS.calls (k : Nat) (A0 : Option Addr) (c0 : Nat) (l0 : List (S137)) (a1 : Int) (r : Int) (w : World) (hr0 : Kd.C k137 w A0 l0.length l0) (hc0 : l0.length ≤ c0) (h : laws_heldCommandS.f k l0 a1 = some r) :
    Calls Try.prog 94 #[.slice A0 l0.length c0, .int .i64 a1] w fun e w' => e = .returned (.int .i64 r) ∧ Drawn0 w w' := by
  have HR0 := Aside0.mk hr0
  have HC0 := Aside0.mk hc0
  clear hr0 hc0
  have H : (laws_heldCommandS.l0 k l0 a1 0) = some r := h
  clear h
  have H' := Aside0.mk H
  clear H
  go_enter Try.func94, Try.ntmps94
  go_wp2
  go_loopg [1, 5] k (fun kq v1 v5 w' => ∃ (x1_1 : Int) (x5_1 : Int), v1 = .int .i64 x1_1 ∧ v5 = .int .i64 x5_1 ∧ Aside0 (laws_heldCommandS.l0 kq l0 x1_1 x5_1 = some r) ∧ Aside0 (kq ≤ k) ∧ Drawn0 w w')
  case atStart => exact ⟨(a1), (0), (by first | rfl | (simp; done) | (simp [*]; done)), (by first | rfl | (simp; done) | (simp [*]; done)), H', ⟨Nat.le_refl _⟩, by repeat (first | exact Drawn0.refl _ | apply Drawn0.step)⟩
  case round =>
    clear H'
    try clear p2
    obtain ⟨x1_1, x5_1, rfl, rfl, HA, HK1, ⟨m1, rfl⟩⟩ := hrel
    cases gk with
    | zero => exact absurd HA.out (by simp [laws_heldCommandS.l0])
    | succ k1 =>
      have H := HA.out
      clear HA
      simp only [laws_heldCommandS.l0] at H
      by_cases c3 : x5_1 < (l0.length : Int)
      · rw [if_pos c3] at H
        have c3b0 : decide (x5_1 < (l0.length : Int)) = true := decide_eq_true c3
        clear c3
        by_cases c4 : 0 ≤ x5_1
        · rw [if_pos c4] at H
          have c4b0 : decide (0 ≤ x5_1) = true := decide_eq_true c4
          clear c4
          by_cases c5 : ((rd_T137 l0 x5_1).f0) = ((x1_1) % 256)
          · rw [if_pos c5] at H
            have c5b0 : (((rd_T137 l0 x5_1).f0) == ((x1_1) % 256)) = true := beq_iff_eq.mpr c5
            have c5b1 : (((rd_T137 l0 x5_1).f0) != ((x1_1) % 256)) = false := bne_eq_false_iff_eq.mpr c5
            clear c5
            by_cases c6 : ((rd_T137 l0 x5_1).f1) = (wrap64 (x1_1 + 1))
            · rw [if_pos c6] at H
              have c6b0 : (((rd_T137 l0 x5_1).f1) == (wrap64 (x1_1 + 1))) = true := beq_iff_eq.mpr c6
              have c6b1 : (((rd_T137 l0 x5_1).f1) != (wrap64 (x1_1 + 1))) = false := bne_eq_false_iff_eq.mpr c6
              clear c6
              by_cases c7 : ((rd_T137 l0 x5_1).f2) = (wrap64 ((wrap64 (x1_1 + 1)) + 1))
              · rw [if_pos c7] at H
                have c7b0 : (((rd_T137 l0 x5_1).f2) == (wrap64 ((wrap64 (x1_1 + 1)) + 1))) = true := beq_iff_eq.mpr c7
                have c7b1 : (((rd_T137 l0 x5_1).f2) != (wrap64 ((wrap64 (x1_1 + 1)) + 1))) = false := bne_eq_false_iff_eq.mpr c7
                clear c7
                have H' := Aside0.mk H
                clear H
                have p578 : 0 ≤ (x5_1 : Int) := of_decide_eq_true (by first | (with_reducible assumption) | assumption)
                have q578 : x5_1 < (l0.length : Int) := of_decide_eq_true (by first | (with_reducible assumption) | assumption)
                obtain ⟨ad578, e578, hx578_0, hx578_1, hx578_2⟩ := at_T137 HR0.out x5_1 p578 q578
                cases e578
                replace p578 := eq_true p578
                replace q578 := eq_true q578
                have p579 : 0 ≤ (x5_1 : Int) := of_decide_eq_true (by first | (with_reducible assumption) | assumption)
                have q579 : x5_1 < (l0.length : Int) := of_decide_eq_true (by first | (with_reducible assumption) | assumption)
                obtain ⟨ad579, e579, hx579_0, hx579_1, hx579_2⟩ := at_T137 HR0.out x5_1 p579 q579
                obtain rfl : ad578 = ad579 := (by injection e579)
                replace p579 := eq_true p579
                replace q579 := eq_true q579
                have p580 : 0 ≤ (x5_1 : Int) := of_decide_eq_true (by first | (with_reducible assumption) | assumption)
                have q580 : x5_1 < (l0.length : Int) := of_decide_eq_true (by first | (with_reducible assumption) | assumption)
                obtain ⟨ad580, e580, hx580_0, hx580_1, hx580_2⟩ := at_T137 HR0.out x5_1 p580 q580
                obtain rfl : ad578 = ad580 := (by injection e580)
                replace p580 := eq_true p580
                replace q580 := eq_true q580
                go_wp2
                go_roundg k1
                case measure => have := HK1.out; omega
                case rel => exact ⟨(wrap64 ((wrap64 ((wrap64 (x1_1 + 1)) + 1)) + 1)), (wrap64 (x5_1 + 1)), (by first | rfl | (simp; done) | (simp [*]; done)), (by first | rfl | (simp; done) | (simp [*]; done)), H', ⟨by have := HK1.out; omega⟩, by repeat (first | exact Drawn0.refl _ | apply Drawn0.step)⟩
              · rw [if_neg c7] at H
                have c7b0 : (((rd_T137 l0 x5_1).f2) == (wrap64 ((wrap64 (x1_1 + 1)) + 1))) = false := beq_eq_false_iff_ne.mpr c7
                have c7b1 : (((rd_T137 l0 x5_1).f2) != (wrap64 ((wrap64 (x1_1 + 1)) + 1))) = true := bne_iff_ne.mpr c7
                obtain rfl := Option.some.inj H
                have p578 : 0 ≤ (x5_1 : Int) := of_decide_eq_true (by first | (with_reducible assumption) | assumption)
                have q578 : x5_1 < (l0.length : Int) := of_decide_eq_true (by first | (with_reducible assumption) | assumption)
                obtain ⟨ad578, e578, hx578_0, hx578_1, hx578_2⟩ := at_T137 HR0.out x5_1 p578 q578
                cases e578
                replace p578 := eq_true p578
                replace q578 := eq_true q578
                have p579 : 0 ≤ (x5_1 : Int) := of_decide_eq_true (by first | (with_reducible assumption) | assumption)
                have q579 : x5_1 < (l0.length : Int) := of_decide_eq_true (by first | (with_reducible assumption) | assumption)
                obtain ⟨ad579, e579, hx579_0, hx579_1, hx579_2⟩ := at_T137 HR0.out x5_1 p579 q579
                obtain rfl : ad578 = ad579 := (by injection e579)
                replace p579 := eq_true p579
                replace q579 := eq_true q579
                have p580 : 0 ≤ (x5_1 : Int) := of_decide_eq_true (by first | (with_reducible assumption) | assumption)
                have q580 : x5_1 < (l0.length : Int) := of_decide_eq_true (by first | (with_reducible assumption) | assumption)
                obtain ⟨ad580, e580, hx580_0, hx580_1, hx580_2⟩ := at_T137 HR0.out x5_1 p580 q580
                obtain rfl : ad578 = ad580 := (by injection e580)
                replace p580 := eq_true p580
                replace q580 := eq_true q580
                go_wp2
                go_ret
                exact ⟨by first | rfl | (simp; done) | (simp [*]; done), by repeat (first | exact Drawn0.refl _ | apply Drawn0.step)⟩
            · rw [if_neg c6] at H
              have c6b0 : (((rd_T137 l0 x5_1).f1) == (wrap64 (x1_1 + 1))) = false := beq_eq_false_iff_ne.mpr c6
              have c6b1 : (((rd_T137 l0 x5_1).f1) != (wrap64 (x1_1 + 1))) = true := bne_iff_ne.mpr c6
              obtain rfl := Option.some.inj H
              have p578 : 0 ≤ (x5_1 : Int) := of_decide_eq_true (by first | (with_reducible assumption) | assumption)
              have q578 : x5_1 < (l0.length : Int) := of_decide_eq_true (by first | (with_reducible assumption) | assumption)
              obtain ⟨ad578, e578, hx578_0, hx578_1, hx578_2⟩ := at_T137 HR0.out x5_1 p578 q578
              cases e578
              replace p578 := eq_true p578
              replace q578 := eq_true q578
              have p579 : 0 ≤ (x5_1 : Int) := of_decide_eq_true (by first | (with_reducible assumption) | assumption)
              have q579 : x5_1 < (l0.length : Int) := of_decide_eq_true (by first | (with_reducible assumption) | assumption)
              obtain ⟨ad579, e579, hx579_0, hx579_1, hx579_2⟩ := at_T137 HR0.out x5_1 p579 q579
              obtain rfl : ad578 = ad579 := (by injection e579)
              replace p579 := eq_true p579
              replace q579 := eq_true q579
              go_wp2
              go_ret
              exact ⟨by first | rfl | (simp; done) | (simp [*]; done), by repeat (first | exact Drawn0.refl _ | apply Drawn0.step)⟩
          · rw [if_neg c5] at H
            have c5b0 : (((rd_T137 l0 x5_1).f0) == ((x1_1) % 256)) = false := beq_eq_false_iff_ne.mpr c5
            have c5b1 : (((rd_T137 l0 x5_1).f0) != ((x1_1) % 256)) = true := bne_iff_ne.mpr c5
            obtain rfl := Option.some.inj H
            have p578 : 0 ≤ (x5_1 : Int) := of_decide_eq_true (by first | (with_reducible assumption) | assumption)
            have q578 : x5_1 < (l0.length : Int) := of_decide_eq_true (by first | (with_reducible assumption) | assumption)
            obtain ⟨ad578, e578, hx578_0, hx578_1, hx578_2⟩ := at_T137 HR0.out x5_1 p578 q578
            cases e578
            replace p578 := eq_true p578
            replace q578 := eq_true q578
            go_wp2
            go_ret
            exact ⟨by first | rfl | (simp; done) | (simp [*]; done), by repeat (first | exact Drawn0.refl _ | apply Drawn0.step)⟩
        · rw [if_neg c4] at H
          exact absurd H (by simp)
      · rw [if_neg c3] at H
        have c3b0 : decide (x5_1 < (l0.length : Int)) = false := decide_eq_false c3
        clear c3
        obtain rfl := Option.some.inj H
        go_wp2
        go_ret
        exact ⟨by first | rfl | (simp; done) | (simp [*]; done), by repeat (first | exact Drawn0.refl _ | apply Drawn0.step)⟩

end Go.Proofs.Ytgpdjpololkhbaa.F

namespace Go.Proofs.Ytgpdjpololkhbaa.F
open Go.RowKit Go.Proofs.YtgpdjpololkhbaaW.PrintWords Go.Proofs.YtgpdjpololkhbaaW.PrintLast Go.Proofs.YtgpdjpololkhbaaW.PrintMore
attribute [local go_sem] max2_int min2_int max_two min_two max_three min_three max_four min_four   -- for this text's walks alone
set_option linter.unusedVariables false
set_option linter.unusedSimpArgs false

/-! ### laws_heldCommandSS: function 38 -/
def laws_heldCommandSS.l0 : Nat → List (List (S137)) → Int → Int → Option (Int)
  | 0, _, _, _ => none
  | k + 1, x0, x1, x5 => if x5 < (x0.length : Int) then (if 0 ≤ x5 then ((laws_heldCommandS.f k (rd_L20 x0 x5) x1).bind fun t582 => (if t582 < 0 then (some (-1)) else (laws_heldCommandSS.l0 k x0 t582 (wrap64 (x5 + 1))))) else (none)) else (some x1)
def laws_heldCommandSS.f (k : Nat) (l0 : List (List (S137))) (a1 : Int) : Option (Int) := laws_heldCommandSS.l0 k l0 a1 0
theorem laws_heldCommandSS.mono_l : ∀ k, (∀ y0 y1 y2, LeO (laws_heldCommandSS.l0 k y0 y1 y2) (laws_heldCommandSS.l0 (k + 1) y0 y1 y2))
  | 0 => fun _ _ _ r h => by simp [laws_heldCommandSS.l0] at h
  | k + 1 => by
    have ih0 := laws_heldCommandSS.mono_l k
    · intro y0 y1 y2
      unfold laws_heldCommandSS.l0
      repeat' first
      | (with_reducible exact ih0 _ _ _)
      | (with_reducible exact laws_heldCommandS.mono _ _ _)
      | (with_reducible exact LeO.refl _)
      | (with_reducible exact LeO.none _)
      | (with_reducible refine LeO.ite ?_ ?_)
      | (with_reducible refine LeO.bind ?_ (fun _ => ?_))
      | exact ih0 _ _ _
      | exact laws_heldCommandS.mono _ _ _
      | exact LeO.none _
      | refine LeO.ite ?_ ?_
      | refine LeO.bind ?_ (fun _ => ?_)
theorem laws_heldCommandSS.mono : ∀ a0 a1 k, LeO (laws_heldCommandSS.f k a0 a1) (laws_heldCommandSS.f (k + 1) a0 a1) := by
  intro a0 a1 k
  have ih0 := laws_heldCommandSS.mono_l k
  unfold laws_heldCommandSS.f
  repeat' first
      | (with_reducible exact ih0 _ _ _)
      | (with_reducible exact laws_heldCommandS.mono _ _ _)
      | (with_reducible exact LeO.refl _)
      | (with_reducible exact LeO.none _)
      | (with_reducible refine LeO.ite ?_ ?_)
      | (with_reducible refine LeO.bind ?_ (fun _ => ?_))
      | exact ih0 _ _ _
      | exact laws_heldCommandS.mono _ _ _
      | exact LeO.none _
      | refine LeO.ite ?_ ?_
      | refine LeO.bind ?_ (fun _ => ?_)
set_option maxHeartbeats 8000000 in
set_option maxRecDepth 100000 in
theorem laws_heldCommandSS.calls (k : Nat) (A0 : Option Addr) (c0 : Nat) (l0 : List (List (S137))) (a1 : Int) (r : Int) (w : World) (hr0 : Kd.C (Kd.slice 137 k137) w A0 l0.length l0) (hc0 : l0.length ≤ c0) (h : laws_heldCommandSS.f k l0 a1 = some r) :
    Calls Try.prog 38 #[.slice A0 l0.length c0, .int .i64 a1] w fun e w' => e = .returned (.int .i64 r) ∧ Drawn0 w w' := by
  have HR0 := Aside0.mk hr0
  have HC0 := Aside0.mk hc0
  clear hr0 hc0
  have H : (laws_heldCommandSS.l0 k l0 a1 0) = some r := h
  clear h
  have H' := Aside0.mk H
  clear H
  go_enter Try.func38, Try.ntmps38
  go_wp2
  go_loopg [1, 5] k (fun kq v1 v5 w' => ∃ (x1_1 : Int) (x5_1 : Int), v1 = .int .i64 x1_1 ∧ v5 = .int .i64 x5_1 ∧ Aside0 (laws_heldCommandSS.l0 kq l0 x1_1 x5_1 = some r) ∧ Aside0 (kq ≤ k) ∧ Drawn0 w w')
  case atStart => exact ⟨(a1), (0), (by first | rfl | (simp; done) | (simp [*]; done)), (by first | rfl | (simp; done) | (simp [*]; done)), H', ⟨Nat.le_refl _⟩, by repeat (first | exact Drawn0.refl _ | apply Drawn0.step)⟩
  case round =>
    clear H'
    try clear p2
    obtain ⟨x1_1, x5_1, rfl, rfl, HA, HK1, ⟨m1, rfl⟩⟩ := hrel
    cases gk with
    | zero => exact absurd HA.out (by simp [laws_heldCommandSS.l0])
    | succ k1 =>
      have H := HA.out
      clear HA
      simp only [laws_heldCommandSS.l0] at H
      by_cases c3 : x5_1 < (l0.length : Int)
      · rw [if_pos c3] at H
        have c3b0 : decide (x5_1 < (l0.length : Int)) = true := decide_eq_true c3
        clear c3
        by_cases c4 : 0 ≤ x5_1
        · rw [if_pos c4] at H
          have c4b0 : decide (0 ≤ x5_1) = true := decide_eq_true c4
          clear c4
          replace H := Option.bind_eq_some_iff.mp H
          obtain ⟨t582, A50, H⟩ := H
          replace H : (if t582 < 0 then (some (-1)) else (laws_heldCommandSS.l0 k1 l0 t582 (wrap64 (x5_1 + 1)))) = some r := H
          have A5 := Aside0.mk A50
          clear A50
          by_cases c6 : t582 < 0
          · rw [if_pos c6] at H
            have c6b0 : decide (t582 < 0) = true := decide_eq_true c6
            clear c6
            obtain rfl := Option.some.inj H
            have p581 : 0 ≤ (x5_1 : Int) := of_decide_eq_true (by first | (with_reducible assumption) | assumption)
            have q581 : x5_1 < (l0.length : Int) := of_decide_eq_true (by first | (with_reducible assumption) | assumption)
            obtain ⟨ad581, A581_0, c581_0, e581, hx581_0, hl581_0, hi581_0⟩ := at_L20 HR0.out x5_1 p581 q581
            cases e581
            have HR581_0 := Aside0.mk hi581_0
            have HC581_0 := Aside0.mk hl581_0
            clear hi581_0 hl581_0
            replace p581 := eq_true p581
            replace q581 := eq_true q581
            go_wp2_with (first | ((with_reducible refine gate_callee (f := 94) rfl ?_); refine goesL_ (some 17) rfl rfl Try.func94 (by kernel_rfl) rfl #[.slice A581_0 (rd_L20 l0 x5_1).length c581_0, .int .i64 x1_1] rfl (by (try simp only [List.map_toArray, List.map_cons, List.map_nil]); first | done | rfl | (simp only [List.length_drop, List.length_take]; rfl)) ?_; (with_reducible refine (laws_heldCommandS.calls k1 _ _ (rd_L20 l0 x5_1) x1_1 t582 _ ?side1 ?side2 A5.out).mono ?_); (case side1 => repeat (first | exact HR581_0.out | (with_reducible refine Kd.C_alloc ?_ _) | (with_reducible refine Kd.C_drewN ?_ _) | (with_reducible refine Kd.C_drew ?_))); (case side2 => exact HC581_0.out); rintro e w' ⟨rfl, ⟨nd, rfl⟩⟩; refine ⟨_, rfl, ?_⟩))
            go_ret
            exact ⟨by first | rfl | (simp; done) | (simp [*]; done), by repeat (first | exact Drawn0.refl _ | apply Drawn0.step)⟩
          · rw [if_neg c6] at H
            have c6b0 : decide (t582 < 0) = false := decide_eq_false c6
            clear c6
            have H' := Aside0.mk H
            clear H
            have p581 : 0 ≤ (x5_1 : Int) := of_decide_eq_true (by first | (with_reducible assumption) | assumption)
            have q581 : x5_1 < (l0.length : Int) := of_decide_eq_true (by first | (with_reducible assumption) | assumption)
            obtain ⟨ad581, A581_0, c581_0, e581, hx581_0, hl581_0, hi581_0⟩ := at_L20 HR0.out x5_1 p581 q581
            cases e581
            have HR581_0 := Aside0.mk hi581_0
            have HC581_0 := Aside0.mk hl581_0
            clear hi581_0 hl581_0
            replace p581 := eq_true p581
            replace q581 := eq_true q581
            go_wp2_with (first | ((with_reducible refine gate_callee (f := 94) rfl ?_); refine goesL_ (some 17) rfl rfl Try.func94 (by kernel_rfl) rfl #[.slice A581_0 (rd_L20 l0 x5_1).length c581_0, .int .i64 x1_1] rfl (by (try simp only [List.map_toArray, List.map_cons, List.map_nil]); first | done | rfl | (simp only [List.length_drop, List.length_take]; rfl)) ?_; (with_reducible refine (laws_heldCommandS.calls k1 _ _ (rd_L20 l0 x5_1) x1_1 t582 _ ?side1 ?side2 A5.out).mono ?_); (case side1 => repeat (first | exact HR581_0.out | (with_reducible refine Kd.C_alloc ?_ _) | (with_reducible refine Kd.C_drewN ?_ _) | (with_reducible refine Kd.C_drew ?_))); (case side2 => exact HC581_0.out); rintro e w' ⟨rfl, ⟨nd, rfl⟩⟩; refine ⟨_, rfl, ?_⟩))
            go_roundg k1
            case measure => have := HK1.out; omega
            case rel => exact ⟨(t582), (wrap64 (x5_1 + 1)), (by first | rfl | (simp; done) | (simp [*]; done)), (by first | rfl | (simp; done) | (simp [*]; done)), H', ⟨by have := HK1.out; omega⟩, by repeat (first | exact Drawn0.refl _ | apply Drawn0.step)⟩
        · rw [if_neg c4] at H
          exact absurd H (by simp)
      · rw [if_neg c3] at H
        have c3b0 : decide (x5_1 < (l0.length : Int)) = false := decide_eq_false c3
        clear c3
        obtain rfl := Option.some.inj H
        go_wp2
        go_ret
        exact ⟨by first | rfl | (simp; done) | (simp [*]; done), by repeat (first | exact Drawn0.refl _ | apply Drawn0.step)⟩

end Go.Proofs.Ytgpdjpololkhbaa.F

namespace Go.Proofs.Ytgpdjpololkhbaa.Pure
open Go.RowKit Go.Proofs.Ytgpdjpololkhbaa.F Go.Proofs.YtgpdjpololkhbaaW.PrintWords Go.Proofs.YtgpdjpololkhbaaW.PrintLast Go.Proofs.YtgpdjpololkhbaaW.PrintMore Go.Proofs.YtgpdjpololkhbaaB
set_option linter.unusedVariables false
set_option linter.unusedSimpArgs false
theorem laws_heldCommandS_l0 (xs : List S137) (hx : xs.length ≤ 2147483647) : ∀ (ys : List S137) (m : Nat) (a : Int), xs.drop m = markC a ys → 0 ≤ a → a + 3 * ys.length ≤ 4611686018427387904 →
    Ev (fun k => laws_heldCommandS.l0 k xs a m) (a + 3 * ys.length)
  | [], m, a, h, h0, h1 => by
    have := drop_nil h
    exact ev_step (fun _ => rfl) (ev_neg (by omega) (ev_now (by simp)))
  | y :: ys, m, a, h, h0, h1 => by
    simp only [markC] at h
    obtain ⟨hm, _, hd⟩ := drop_cons h
    simp only [List.length_cons] at h1
    refine ev_step (fun _ => rfl) (ev_pos (by omega) (ev_pos (by omega) ?_))
    rw [rdC h, w64 (x := a + 1) (by omega) (by omega), w64 (x := a + 1 + 1) (by omega) (by omega), w64 (x := a + 1 + 1 + 1) (by omega) (by omega), w64 (x := (m : Int) + 1) (by omega) (by omega)]
    refine ev_pos rfl (ev_pos rfl (ev_pos (by show a + 2 = a + 1 + 1; omega) ?_))
    rw [show a + 1 + 1 + 1 = a + 3 by omega]
    exact ev_eq (laws_heldCommandS_l0 xs hx ys (m + 1) (a + 3) hd (by omega) (by omega)) (by simp only [List.length_cons]; omega)
theorem laws_heldCommandS_f (xs : List S137) (a : Int) (hx : xs.length ≤ 2147483647) (h0 : 0 ≤ a) (h1 : a + 3 * xs.length ≤ 4611686018427387904) :
    Ev (fun k => laws_heldCommandS.f k (markC a xs) a) (a + 3 * xs.length) := laws_heldCommandS_l0 (markC a xs) (by rw [markC_length]; exact hx) xs 0 a rfl h0 h1

end Go.Proofs.Ytgpdjpololkhbaa.Pure

namespace Go.Proofs.Ytgpdjpololkhbaa.Pure
open Go.RowKit Go.Proofs.Ytgpdjpololkhbaa.F Go.Proofs.YtgpdjpololkhbaaW.PrintWords Go.Proofs.YtgpdjpololkhbaaW.PrintLast Go.Proofs.YtgpdjpololkhbaaW.PrintMore Go.Proofs.YtgpdjpololkhbaaB
set_option linter.unusedVariables false
set_option linter.unusedSimpArgs false
theorem laws_heldCommandSS_l0 (xs : List (List S137)) (hx : xs.length ≤ 2147483647) : ∀ (ys : List (List S137)) (m : Nat) (a : Int), xs.drop m = markCC a ys → (∀ y ∈ ys, y.length ≤ 2147483647) → 0 ≤ a → a + numCC ys ≤ 4611686018427387904 →
    Ev (fun k => laws_heldCommandSS.l0 k xs a m) (a + numCC ys)
  | [], m, a, h, hi, h0, h1 => by
    have := drop_nil h
    exact ev_step (fun _ => rfl) (ev_neg (by omega) (ev_now (by simp [numCC])))
  | y :: ys, m, a, h, hi, h0, h1 => by
    simp only [markCC] at h
    obtain ⟨hm, _, hd⟩ := drop_cons h
    have hn := numCC_nonneg ys
    have hy := hi y List.mem_cons_self
    simp only [numCC] at h1
    refine ev_step (fun _ => rfl) (ev_pos (by omega) (ev_pos (by omega) ?_))
    rw [rdL h, w64 (x := (m : Int) + 1) (by omega) (by omega)]
    refine ev_bind (laws_heldCommandS_f y a hy h0 (by omega)) (ev_neg (by omega) ?_)
    exact ev_eq (laws_heldCommandSS_l0 xs hx ys (m + 1) _ hd (fun z hz => hi z (List.mem_cons_of_mem _ hz)) (by omega) (by omega)) (by simp only [numCC]; omega)
theorem laws_heldCommandSS_f (xs : List (List S137)) (a : Int) (hx : xs.length ≤ 2147483647) (hi : ∀ y ∈ xs, y.length ≤ 2147483647) (h0 : 0 ≤ a) (h1 : a + numCC xs ≤ 4611686018427387904) :
    Ev (fun k => laws_heldCommandSS.f k (markCC a xs) a) (a + numCC xs) := laws_heldCommandSS_l0 (markCC a xs) (by rw [markCC_length]; exact hx) xs 0 a rfl hi h0 h1

end Go.Proofs.Ytgpdjpololkhbaa.Pure

namespace Go.Proofs.Ytgpdjpololkhbaa.F
open Go.RowKit Go.Proofs.YtgpdjpololkhbaaW.PrintWords Go.Proofs.YtgpdjpololkhbaaW.PrintLast Go.Proofs.YtgpdjpololkhbaaW.PrintMore
attribute [local go_sem] max2_int min2_int max_two min_two max_three min_three max_four min_four   -- for this text's walks alone
set_option linter.unusedVariables false
set_option linter.unusedSimpArgs false

/-! ### laws_szCommandS: function 30 -/
def laws_szCommandS.f (l0 : List (S139)) (a1 : Int) : Option (Int) := if (wrap64 (a1 - (l0.length : Int))) < 0 then (some (-1)) else (some (wrap64 (a1 - (l0.length : Int))))
set_option maxHeartbeats 8000000 in
set_option maxRecDepth 100000 in
theorem laws_szCommandS.calls (A0 : Option Addr) (c0 : Nat) (l0 : List (S139)) (a1 : Int) (r : Int) (w : World) (hr0 : Kd.C k139 w A0 l0.length l0) (hc0 : l0.length ≤ c0) (h : laws_szCommandS.f l0 a1 = some r) :
    Calls Try.prog 30 #[.slice A0 l0.length c0, .int .i64 a1] w fun e w' => e = .returned (.int .i64 r) ∧ Drawn0 w w' := by
  have HR0 := Aside0.mk hr0
  have HC0 := Aside0.mk hc0
  clear hr0 hc0
  have H : (if (wrap64 (a1 - (l0.length : Int))) < 0 then (some (-1)) else (some (wrap64 (a1 - (l0.length : Int))))) = some r := h
  clear h
  by_cases c3 : (wrap64 (a1 - (l0.length : Int))) < 0
  · rw [if_pos c3] at H
    have c3b0 : decide ((wrap64 (a1 - (l0.length : Int))) < 0) = true := decide_eq_true c3
    clear c3
    obtain rfl := Option.some.inj H
    go_enter Try.func30, Try.ntmps30
    go_wp2
    go_ret
    exact ⟨by first | rfl | (simp; done) | (simp [*]; done), by repeat (first | exact Drawn0.refl _ | apply Drawn0.step)⟩
  · rw [if_neg c3] at H
    have c3b0 : decide ((wrap64 (a1 - (l0.length : Int))) < 0) = false := decide_eq_false c3
    clear c3
    obtain rfl := Option.some.inj H
    go_enter Try.func30, Try.ntmps30
    go_wp2
    go_ret
    exact ⟨by first | rfl | (simp; done) | (simp [*]; done), by repeat (first | exact Drawn0.refl _ | apply Drawn0.step)⟩

end Go.Proofs.Ytgpdjpololkhbaa.F

namespace Go.Proofs.Ytgpdjpololkhbaa.Pure
open Go.RowKit Go.Proofs.Ytgpdjpololkhbaa.F Go.Proofs.YtgpdjpololkhbaaW.PrintWords Go.Proofs.YtgpdjpololkhbaaW.PrintLast Go.Proofs.YtgpdjpololkhbaaW.PrintMore Go.Proofs.YtgpdjpololkhbaaB
set_option linter.unusedVariables false
set_option linter.unusedSimpArgs false
theorem laws_szCommandS_f (xs : List S139) (a : Int) (h0 : 0 ≤ a) (h1 : a ≤ 1048576) (hx : xs.length ≤ 9223372036854775807) : laws_szCommandS.f xs a = some (if a < xs.length then -1 else a - xs.length) := by
  unfold laws_szCommandS.f
  rw [w64 (by omega) (by omega)]
  by_cases h : a < xs.length
  · rw [if_pos (by omega), if_pos h]
  · rw [if_neg (by omega), if_neg h]

end Go.Proofs.Ytgpdjpololkhbaa.Pure

namespace Go.Proofs.Ytgpdjpololkhbaa.F
open Go.RowKit Go.Proofs.YtgpdjpololkhbaaW.PrintWords Go.Proofs.YtgpdjpololkhbaaW.PrintLast Go.Proofs.YtgpdjpololkhbaaW.PrintMore
attribute [local go_sem] max2_int min2_int max_two min_two max_three min_three max_four min_four   -- for this text's walks alone
set_option linter.unusedVariables false
set_option linter.unusedSimpArgs false

/-! ### laws_toCommand: function 90 -/
def laws_toCommand.f (a0_0 : Int) (a0_1 : Int) (a0_2 : Int) : Option (Int × Int × Int) := some (a0_0, a0_1, a0_2)
set_option maxHeartbeats 8000000 in
set_option maxRecDepth 100000 in
theorem laws_toCommand.calls (a0_0 : Int) (a0_1 : Int) (a0_2 : Int) (r1 : Int) (r2 : Int) (r3 : Int) (w : World) (h : laws_toCommand.f a0_0 a0_1 a0_2 = some (r1, r2, r3)) :
    Calls Try.prog 90 #[.agg #[.int .u8 a0_0, .int .i64 a0_1, .int .i64 a0_2]] w fun e w' => e = .returned (.agg #[.int .u8 r1, .int .i64 r2, .int .i64 r3]) ∧ Below w.heap.size w w' := by
  have hu139 := Try.underlying139
  have hu137 := Try.underlying137
  have HB := Aside0.mk (Below.refl w.heap.size w)
  have H : (some (a0_0, a0_1, a0_2)) = some (r1, r2, r3) := h
  clear h
  simp only [Option.some.injEq, Prod.mk.injEq] at H
  obtain ⟨rfl, rfl, rfl⟩ := H
  go_enter Try.func90, Try.ntmps90
  go_wp2_with (first | ((with_reducible refine gate_dst (N := 1) rfl ?_); refine box_event ?hg (N := 1) ?hd (cs := #[.int .u8 a0_0, .int .i64 a0_1, .int .i64 a0_2]) (t := 139) ?hr ?_; (case hd => rfl); (case hg => rfl); (case hr => first | (go_simp; done) | (go_simp; rfl)); intro gb523 hg w2 hbox hb; have n0_ := Aside0.mk (below_step (by repeat (first | (with_reducible first | exact HB.out | apply below_alloc | apply pw_below_drewN | apply below_drew1) | exact HB.out)) hb); have n1_ := Aside0.mk (hbox); have n2_ := Aside0.mk ((by rw [hg]; exact (below_size (by repeat (first | (with_reducible first | exact HB.out | apply below_alloc | apply pw_below_drewN | apply below_drew1) | exact HB.out))) : w.heap.size ≤ gb523)); have n3_ := Aside0.mk ((by rw [hg]; exact (below_size (by repeat (first | (with_reducible first | exact HB.out | apply below_alloc | apply pw_below_drewN | apply below_drew1) | exact HB.out))) : w.heap.size ≤ gb523)); clear HB; have HB := n0_; have BK523 := n1_; have GW523 := n2_; have GE523 := n3_; clear n0_ n1_ n2_ n3_; clear hb hbox hg) | ((with_reducible refine gate_dst (N := 2) rfl ?_); refine box_event ?hg (N := 2) ?hd (cs := #[.int .u8 0, .int .i64 0, .int .i64 0]) (t := 137) ?hr ?_; (case hd => rfl); (case hg => rfl); (case hr => first | (go_simp; done) | (go_simp; rfl)); intro gb524 hg w3 hbox hb; have n0_ := Aside0.mk (blk_below (g := gb523) (o := .cells #[.int .u8 a0_0, .int .i64 a0_1, .int .i64 a0_2] 139 (0, 0)) (by (with_reducible repeat (first | refine blk_drewN ?_ _ | refine blk_drew ?_ | refine blk_alloc ?_ _)); exact BK523.out) hb); have n1_ := Aside0.mk (below_step (by repeat (first | (with_reducible first | exact HB.out | apply below_alloc | apply pw_below_drewN | apply below_drew1 | refine below_set ?_ GE523.out) | exact HB.out)) hb); have n2_ := Aside0.mk (hbox); have n3_ := Aside0.mk ((by rw [hg]; exact (below_size (by repeat (first | (with_reducible first | exact HB.out | apply below_alloc | apply pw_below_drewN | apply below_drew1 | refine below_set ?_ GE523.out) | exact HB.out))) : w.heap.size ≤ gb524)); have n4_ := Aside0.mk ((by rw [hg]; exact (below_size (by repeat (first | (with_reducible first | exact HB.out | apply below_alloc | apply pw_below_drewN | apply below_drew1 | refine below_set ?_ GE523.out) | exact HB.out))) : w.heap.size ≤ gb524)); have n5_ := Aside0.mk ((by rw [hg]; exact Nat.ne_of_lt (blk_lt (g := gb523) (o := .cells #[.int .u8 a0_0, .int .i64 a0_1, .int .i64 a0_2] 139 (0, 0)) (by (with_reducible repeat (first | refine blk_drewN ?_ _ | refine blk_drew ?_ | refine blk_alloc ?_ _)); exact BK523.out)) : gb523 ≠ gb524)); have n6_ := Aside0.mk ((by rw [hg]; exact Nat.ne_of_gt (blk_lt (g := gb523) (o := .cells #[.int .u8 a0_0, .int .i64 a0_1, .int .i64 a0_2] 139 (0, 0)) (by (with_reducible repeat (first | refine blk_drewN ?_ _ | refine blk_drew ?_ | refine blk_alloc ?_ _)); exact BK523.out)) : gb524 ≠ gb523)); clear BK523; clear HB; have BK523 := n0_; have HB := n1_; have BK524 := n2_; have GW524 := n3_; have GE524 := n4_; have NB523_524 := n5_; have NB524_523 := n6_; clear n0_ n1_ n2_ n3_ n4_ n5_ n6_; clear hb hbox hg) | ((with_reducible refine gate_dst (N := 3) rfl ?_); refine box_event ?hg (N := 3) ?hd (cs := #[.int .u8 0, .int .i64 0, .int .i64 0]) (t := 137) ?hr ?_; (case hd => rfl); (case hg => rfl); (case hr => first | (go_simp; done) | (go_simp; rfl)); intro gb525 hg w4 hbox hb; have n0_ := Aside0.mk (blk_below (g := gb523) (o := .cells #[.int .u8 a0_0, .int .i64 a0_1, .int .i64 a0_2] 139 (0, 0)) (by (with_reducible repeat (first | refine blk_drewN ?_ _ | refine blk_drew ?_ | refine blk_alloc ?_ _)); exact BK523.out) hb); have n1_ := Aside0.mk (blk_below (g := gb524) (o := .cells #[.int .u8 0, .int .i64 0, .int .i64 0] 137 (0, 0)) (by (with_reducible repeat (first | refine blk_drewN ?_ _ | refine blk_drew ?_ | refine blk_alloc ?_ _)); exact BK524.out) hb); have n2_ := Aside0.mk (below_step (by repeat (first | (with_reducible first | exact HB.out | apply below_alloc | apply pw_below_drewN | apply below_drew1 | refine below_set ?_ GE523.out | refine below_set ?_ GE524.out) | exact HB.out)) hb); have n3_ := Aside0.mk (hbox); have n4_ := Aside0.mk ((by rw [hg]; exact (below_size (by repeat (first | (with_reducible first | exact HB.out | apply below_alloc | apply pw_below_drewN | apply below_drew1 | refine below_set ?_ GE523.out | refine below_set ?_ GE524.out) | exact HB.out))) : w.heap.size ≤ gb525)); have n5_ := Aside0.mk ((by rw [hg]; exact (below_size (by repeat (first | (with_reducible first | exact HB.out | apply below_alloc | apply pw_below_drewN | apply below_drew1 | refine below_set ?_ GE523.out | refine below_set ?_ GE524.out) | exact HB.out))) : w.heap.size ≤ gb525)); have n6_ := Aside0.mk ((by rw [hg]; exact Nat.ne_of_lt (blk_lt (g := gb523) (o := .cells #[.int .u8 a0_0, .int .i64 a0_1, .int .i64 a0_2] 139 (0, 0)) (by (with_reducible repeat (first | refine blk_drewN ?_ _ | refine blk_drew ?_ | refine blk_alloc ?_ _)); exact BK523.out)) : gb523 ≠ gb525)); have n7_ := Aside0.mk ((by rw [hg]; exact Nat.ne_of_gt (blk_lt (g := gb523) (o := .cells #[.int .u8 a0_0, .int .i64 a0_1, .int .i64 a0_2] 139 (0, 0)) (by (with_reducible repeat (first | refine blk_drewN ?_ _ | refine blk_drew ?_ | refine blk_alloc ?_ _)); exact BK523.out)) : gb525 ≠ gb523)); have n8_ := Aside0.mk ((by rw [hg]; exact Nat.ne_of_lt (blk_lt (g := gb524) (o := .cells #[.int .u8 0, .int .i64 0, .int .i64 0] 137 (0, 0)) (by (with_reducible repeat (first | refine blk_drewN ?_ _ | refine blk_drew ?_ | refine blk_alloc ?_ _)); exact BK524.out)) : gb524 ≠ gb525)); have n9_ := Aside0.mk ((by rw [hg]; exact Nat.ne_of_gt (blk_lt (g := gb524) (o := .cells #[.int .u8 0, .int .i64 0, .int .i64 0] 137 (0, 0)) (by (with_reducible repeat (first | refine blk_drewN ?_ _ | refine blk_drew ?_ | refine blk_alloc ?_ _)); exact BK524.out)) : gb525 ≠ gb524)); clear BK523; clear BK524; clear HB; have BK523 := n0_; have BK524 := n1_; have HB := n2_; have BK525 := n3_; have GW525 := n4_; have GE525 := n5_; have NB523_525 := n6_; have NB525_523 := n7_; have NB524_525 := n8_; have NB525_524 := n9_; clear n0_ n1_ n2_ n3_ n4_ n5_ n6_ n7_ n8_ n9_; clear hb hbox hg; have hnb5 := NB523_524.out; have hnc5 := NB524_523.out; have hnb6 := NB523_525.out; have hnc6 := NB525_523.out; have hcz7_0 : w4.cell? ⟨gb523, 0, none⟩ = some (.int .u8 a0_0) := (blk_cell BK523.out 0).trans rfl; have hcz7_1 : w4.cell? ⟨gb523, 1, none⟩ = some (.int .i64 a0_1) := (blk_cell BK523.out 1).trans rfl; have hcz7_2 : w4.cell? ⟨gb523, 2, none⟩ = some (.int .i64 a0_2) := (blk_cell BK523.out 2).trans rfl; have hfz7_0 := blk_frozen BK523.out 0; have hfz7_1 := blk_frozen BK523.out 1; have hfz7_2 := blk_frozen BK523.out 2; have hnb8 := NB525_524.out; have hnc8 := NB524_525.out; have hcz9_0 : w4.cell? ⟨gb525, 0, none⟩ = some (.int .u8 0) := (blk_cell BK525.out 0).trans rfl; have hcz9_1 : w4.cell? ⟨gb525, 1, none⟩ = some (.int .i64 0) := (blk_cell BK525.out 1).trans rfl; have hcz9_2 : w4.cell? ⟨gb525, 2, none⟩ = some (.int .i64 0) := (blk_cell BK525.out 2).trans rfl; have hfz9_0 := blk_frozen BK525.out 0; have hfz9_1 := blk_frozen BK525.out 1; have hfz9_2 := blk_frozen BK525.out 2; have hcz10_0 : w4.cell? ⟨gb524, 0, none⟩ = some (.int .u8 0) := (blk_cell BK524.out 0).trans rfl; have hcz10_1 : w4.cell? ⟨gb524, 1, none⟩ = some (.int .i64 0) := (blk_cell BK524.out 1).trans rfl; have hcz10_2 : w4.cell? ⟨gb524, 2, none⟩ = some (.int .i64 0) := (blk_cell BK524.out 2).trans rfl; have hfz10_0 := blk_frozen BK524.out 0; have hfz10_1 := blk_frozen BK524.out 1; have hfz10_2 := blk_frozen BK524.out 2))
  refine bodyPost_ret (results_cell_row rfl _ _ gb524 137 #[.int .u8 a0_0, .int .i64 a0_1, .int .i64 a0_2] (0, 0) _ rfl (by (with_reducible repeat (first | refine blk_drewN ?_ _ | refine blk_drew ?_ | refine blk_alloc ?_ _)); refine blk_put (cs := #[.int .u8 a0_0, .int .i64 a0_1, .int .i64 0]) ?_ 2 _ rfl; (with_reducible repeat (first | refine blk_drewN ?_ _ | refine blk_drew ?_ | refine blk_alloc ?_ _)); refine blk_put (cs := #[.int .u8 a0_0, .int .i64 0, .int .i64 0]) ?_ 1 _ rfl; (with_reducible repeat (first | refine blk_drewN ?_ _ | refine blk_drew ?_ | refine blk_alloc ?_ _)); refine blk_put (cs := #[.int .u8 0, .int .i64 0, .int .i64 0]) ?_ 0 _ rfl; (with_reducible repeat (first | refine blk_drewN ?_ _ | refine blk_drew ?_ | refine blk_alloc ?_ _)); refine blk_far ?_ NB524_525.out _; (with_reducible repeat (first | refine blk_drewN ?_ _ | refine blk_drew ?_ | refine blk_alloc ?_ _)); refine blk_far ?_ NB524_525.out _; (with_reducible repeat (first | refine blk_drewN ?_ _ | refine blk_drew ?_ | refine blk_alloc ?_ _)); refine blk_far ?_ NB524_525.out _; (with_reducible repeat (first | refine blk_drewN ?_ _ | refine blk_drew ?_ | refine blk_alloc ?_ _)); exact BK524.out) Try.underlying137 rfl (by kernel_rfl)) rfl ?_
  exact ⟨by first | rfl | (simp [errW_none, errW_some] <;> rfl) | (simp [*, errW_none, errW_some] <;> rfl), by repeat (first | (with_reducible first | exact HB.out | apply below_alloc | apply pw_below_drewN | apply below_drew1 | refine below_set ?_ GE523.out | refine below_set ?_ GE524.out | refine below_set ?_ GE525.out) | exact HB.out)⟩

end Go.Proofs.Ytgpdjpololkhbaa.F

namespace Go.Proofs.Ytgpdjpololkhbaa.F
open Go.RowKit Go.Proofs.YtgpdjpololkhbaaW.PrintWords Go.Proofs.YtgpdjpololkhbaaW.PrintLast Go.Proofs.YtgpdjpololkhbaaW.PrintMore
attribute [local go_sem] max2_int min2_int max_two min_two max_three min_three max_four min_four   -- for this text's walks alone
set_option linter.unusedVariables false
set_option linter.unusedSimpArgs false

/-! ### laws_toCommandS: function 32 -/
def laws_toCommandS.l0 : Nat → List (S139) → List (S137) → Int → Option ((List (S137)))
  | 0, _, _, _ => none
  | k + 1, x0, x3, x4 => if x4 < (x0.length : Int) then (if 0 ≤ x4 then ((laws_toCommand.f ((rd_T139 x0 x4).f0) ((rd_T139 x0 x4).f1) ((rd_T139 x0 x4).f2)).bind fun bt530 => (if x4 < (x3.length : Int) then (laws_toCommandS.l0 k x0 (x3.set (x4 : Int).toNat (⟨bt530.1, bt530.2.1, bt530.2.2⟩ : S137)) (wrap64 (x4 + 1))) else (none))) else (none)) else (some x3)
def laws_toCommandS.f (k : Nat) (l0 : List (S139)) : Option ((List (S137))) := if 0 ≤ (l0.length : Int) then (if ((l0.length : Int) : Int).toNat ≤ 11728124029610 then (laws_toCommandS.l0 k l0 (List.replicate ((l0.length : Int) : Int).toNat z137) 0) else (none)) else (none)
theorem laws_toCommandS.mono_l : ∀ k, (∀ y0 y1 y2, LeO (laws_toCommandS.l0 k y0 y1 y2) (laws_toCommandS.l0 (k + 1) y0 y1 y2))
  | 0 => fun _ _ _ r h => by simp [laws_toCommandS.l0] at h
  | k + 1 => by
    have ih0 := laws_toCommandS.mono_l k
    · intro y0 y1 y2
      unfold laws_toCommandS.l0
      repeat' first
      | (with_reducible exact ih0 _ _ _)
      | (with_reducible exact LeO.refl _)
      | (with_reducible exact LeO.none _)
      | (with_reducible refine LeO.ite ?_ ?_)
      | (with_reducible refine LeO.bind ?_ (fun _ => ?_))
      | exact ih0 _ _ _
      | exact LeO.none _
      | refine LeO.ite ?_ ?_
      | refine LeO.bind ?_ (fun _ => ?_)
theorem laws_toCommandS.mono : ∀ a0 k, LeO (laws_toCommandS.f k a0) (laws_toCommandS.f (k + 1) a0) := by
  intro a0 k
  have ih0 := laws_toCommandS.mono_l k
  unfold laws_toCommandS.f
  repeat' first
      | (with_reducible exact ih0 _ _ _)
      | (with_reducible exact LeO.refl _)
      | (with_reducible exact LeO.none _)
      | (with_reducible refine LeO.ite ?_ ?_)
      | (with_reducible refine LeO.bind ?_ (fun _ => ?_))
      | exact ih0 _ _ _
      | exact LeO.none _
      | refine LeO.ite ?_ ?_
      | refine LeO.bind ?_ (fun _ => ?_)
set_option maxHeartbeats 8000000 in
set_option maxRecDepth 100000 in
theorem laws_toCommandS.calls (k : Nat) (A0 : Option Addr) (c0 : Nat) (l0 : List (S139)) (r : List (S137)) (w : World) (hr0 : Kd.C k139 w A0 l0.length l0) (hc0 : l0.length ≤ c0) (h : laws_toCommandS.f k l0 = some r) :
    Calls Try.prog 32 #[.slice A0 l0.length c0] w fun e w' => ∃ v0_ : Value, e = .returned (v0_) ∧ Kd.R k137 137 w' w.heap.size (fun _ => True) v0_ r ∧ Below w.heap.size w w' := by
  have hu139 := Try.underlying139
  have hu137 := Try.underlying137
  have HR0 := Aside0.mk hr0
  have HC0 := Aside0.mk hc0
  clear hr0 hc0
  have HB := Aside0.mk (Below.refl w.heap.size w)
  have H : (if 0 ≤ (l0.length : Int) then (if ((l0.length : Int) : Int).toNat ≤ 11728124029610 then (laws_toCommandS.l0 k l0 (List.replicate ((l0.length : Int) : Int).toNat z137) 0) else (none)) else (none)) = some r := h
  clear h
  by_cases c2 : 0 ≤ (l0.length : Int)
  · rw [if_pos c2] at H
    have c2b0 := eq_true c2
    have c2b1 : decide (0 ≤ (l0.length : Int)) = true := decide_eq_true c2
    clear c2
    by_cases c3 : ((l0.length : Int) : Int).toNat ≤ 11728124029610
    · rw [if_pos c3] at H
      have c3b0 := eq_true c3
      have c3b1 : decide (((l0.length : Int) : Int).toNat ≤ 11728124029610) = true := decide_eq_true c3
      clear c3
      obtain ⟨y526, hy526⟩ : ∃ y_ : List (S137), y_ = (List.replicate ((l0.length : Int) : Int).toNat z137) := ⟨_, rfl⟩
      replace H : (laws_toCommandS.l0 k l0 y526 0) = some r := by first | (rw [hy526]; with_reducible exact H) | (have H2_ := (Option.bind_some _ _).symm.trans H; rw [hy526]; with_reducible exact H2_) | (have H2_ := (Option.bind_some _ _).symm.trans H; with_reducible exact H2_) | with_reducible exact H | (rw [hy526]; exact H) | exact H
      have Ny526 := Aside0.mk hy526
      clear hy526
      have H' := Aside0.mk H
      clear H
      go_enter Try.func32, Try.ntmps32
      go_wp2_with (first | ((with_reducible refine gate_dst (N := 7) rfl ?_); refine Kd.R_make k137 _ 137 rfl (N := 7) rfl 47 _ _ rfl (l0.length : Int) rfl rfl Try.underlying47 (.agg #[(.int .u8 0), (.int .i64 0), (.int .i64 0)]) 24 info137 rfl (by decide) (by omega) z137 (ok := fun _ => True) (okp := fun _ => True) (k137_mkM _ _ _ z137 ) (fun _ hk => hk) trivial (of_decide_eq_true (by first | (with_reducible assumption) | assumption)) (Nat.le_trans (Nat.mul_le_mul_right _ (of_decide_eq_true (by first | (with_reducible assumption) | assumption) : (l0.length : Int).toNat ≤ 11728124029610)) (by omega)) (Below.refl _ _) (Nat.le_refl _) ?_; intro v527 w4 ho5 hb hg_ hnew_; clear hg_ hnew_; (first | rw [← Ny526.out] at ho5 | (simp only [Int.reduceToNat] at ho5; rw [← Ny526.out] at ho5)); have n0_ := Aside0.mk (Kd.R_lower ho5 (below_size (by repeat (first | (with_reducible first | exact HB.out | apply below_alloc | apply pw_below_drewN | apply below_drew1) | exact HB.out)))); have n1_ := Aside0.mk (below_step (by repeat (first | (with_reducible first | exact HB.out | apply below_alloc | apply pw_below_drewN | apply below_drew1) | exact HB.out)) hb); clear HB; have HO528 := n0_; have HB := n1_; clear n0_ n1_; clear hb ho5))
      go_loopg [4] k (fun kq v4 w' => ∃ (x3_1 : List (S137)) (x4_1 : Int), v4 = .int .i64 x4_1 ∧ Aside0 (laws_toCommandS.l0 kq l0 x3_1 x4_1 = some r) ∧ Aside0 (kq ≤ k) ∧ Aside0 (Kd.R k137 137 w' w.heap.size (fun _ => True) v527 x3_1) ∧ Aside0 (Below w.heap.size w w'))
      case atStart => exact ⟨(y526), (0), (by first | rfl | (simp; done) | (simp [*]; done)), H', ⟨Nat.le_refl _⟩, ⟨by (with_reducible repeat (first | apply Kd.R_alloc | apply Kd.R_drewN | apply Kd.R_drew)); exact HO528.out⟩, ⟨by repeat (first | (with_reducible first | exact HB.out | apply below_alloc | apply pw_below_drewN | apply below_drew1) | exact HB.out)⟩⟩
      case round =>
        clear H'
        try clear c2
        try clear c2b0
        try clear c2b1
        try clear p2
        try clear c3
        try clear c3b0
        try clear c3b1
        obtain ⟨x3_1, x4_1, rfl, HA, HK1, HO_3, HB⟩ := hrel
        cases gk with
        | zero => exact absurd HA.out (by simp [laws_toCommandS.l0])
        | succ k1 =>
          have H := HA.out
          clear HA
          simp only [laws_toCommandS.l0] at H
          by_cases c6 : x4_1 < (l0.length : Int)
          · rw [if_pos c6] at H
            have c6b0 : decide (x4_1 < (l0.length : Int)) = true := decide_eq_true c6
            clear c6
            by_cases c7 : 0 ≤ x4_1
            · rw [if_pos c7] at H
              have c7b0 : decide (0 ≤ x4_1) = true := decide_eq_true c7
              clear c7
              replace H := Option.bind_eq_some_iff.mp H
              obtain ⟨⟨t530, t531, t532⟩, A80, H⟩ := H
              replace H : (if x4_1 < (x3_1.length : Int) then (laws_toCommandS.l0 k1 l0 (x3_1.set (x4_1 : Int).toNat (⟨t530, t531, t532⟩ : S137)) (wrap64 (x4_1 + 1))) else (none)) = some r := H
              have A8 := Aside0.mk A80
              clear A80
              by_cases c9 : x4_1 < (x3_1.length : Int)
              · rw [if_pos c9] at H
                have c9b0 : decide (x4_1 < (x3_1.length : Int)) = true := decide_eq_true c9
                clear c9
                obtain ⟨y533, hy533⟩ : ∃ y_ : List (S137), y_ = (x3_1.set (x4_1 : Int).toNat (⟨t530, t531, t532⟩ : S137)) := ⟨_, rfl⟩
                replace H : (laws_toCommandS.l0 k1 l0 y533 (wrap64 (x4_1 + 1))) = some r := by first | (rw [hy533]; with_reducible exact H) | (have H2_ := (Option.bind_some _ _).symm.trans H; rw [hy533]; with_reducible exact H2_) | (have H2_ := (Option.bind_some _ _).symm.trans H; with_reducible exact H2_) | with_reducible exact H | (rw [hy533]; exact H) | exact H
                have Ny533 := Aside0.mk hy533
                clear hy533
                have H' := Aside0.mk H
                clear H
                have p529 : 0 ≤ (x4_1 : Int) := of_decide_eq_true (by first | (with_reducible assumption) | assumption)
                have q529 : x4_1 < (l0.length : Int) := of_decide_eq_true (by first | (with_reducible assumption) | assumption)
                obtain ⟨ad529, e529, hx529_0, hx529_1, hx529_2⟩ := at_T139 HR0.out x4_1 p529 q529
                cases e529
                replace hx529_0 := (HB.out.cell (World.block_lt_of_cell? w _ hx529_0)).trans hx529_0
                replace hx529_1 := (HB.out.cell (World.block_lt_of_cell? w _ hx529_1)).trans hx529_1
                replace hx529_2 := (HB.out.cell (World.block_lt_of_cell? w _ hx529_2)).trans hx529_2
                replace p529 := eq_true p529
                replace q529 := eq_true q529
                go_wp2_with (first | ((with_reducible refine gate_callee (f := 90) rfl ?_); refine goesL_ (some 20) rfl rfl Try.func90 (by kernel_rfl) rfl #[.agg #[.int .u8 ((rd_T139 l0 x4_1).f0), .int .i64 ((rd_T139 l0 x4_1).f1), .int .i64 ((rd_T139 l0 x4_1).f2)]] rfl (by (try simp only [List.map_toArray, List.map_cons, List.map_nil]); first | done | rfl | (simp only [List.length_drop, List.length_take]; rfl)) ?_; (with_reducible refine (laws_toCommand.calls ((rd_T139 l0 x4_1).f0) ((rd_T139 l0 x4_1).f1) ((rd_T139 l0 x4_1).f2) t530 t531 t532 _ A8.out).mono ?_); rintro e w11 ⟨rfl, hb⟩; refine ⟨_, rfl, ?_⟩; have n0_ := Aside0.mk (Kd.R_below (by (with_reducible repeat (first | apply Kd.R_alloc | apply Kd.R_drewN | apply Kd.R_drew)); exact HO_3.out) hb); have n1_ := Aside0.mk (below_step (by repeat (first | (with_reducible first | exact HB.out | apply below_alloc | apply pw_below_drewN | apply below_drew1) | exact HB.out)) hb); clear HO_3; clear HB; have HO_3 := n0_; have HB := n1_; clear n0_ n1_; (try clear hb); (try clear hb2); (try clear hk); (try clear hi); have p10 : 0 ≤ (x4_1 : Int) := of_decide_eq_true (by first | (with_reducible assumption) | assumption); have q10 : (x4_1 : Int) < ((x3_1.length : Int) : Int) := of_decide_eq_true (by first | (with_reducible assumption) | assumption); obtain ⟨go10, co10, eo10, gb10, gl10, cl10, HG10⟩ := Kd.R_form HO_3.out (by omega); (first | cases eo10 | (injection eo10 with ea_ en_ ec_; (first | subst ea_ | (injection ea_ with ea_; subst ea_)); subst ec_; clear en_)); have GB10 := Aside0.mk gb10; have GG10 := Aside0.mk HG10; clear gb10 gl10 HG10; obtain ⟨ce10, hcl10, hM10, hcc10, hfr10⟩ := Kd.R_elem HO_3.out z137 (x4_1 : Int) p10 q10; obtain rfl := k137_openM hM10; have hx10_0 : w11.cell? ⟨go10, (x4_1 : Int).toNat * 3, none⟩ = some (.int .u8 ((rd_T137 x3_1 x4_1).f0)) := hcc10 0 _ rfl; have hx10_1 : w11.cell? ⟨go10, (x4_1 : Int).toNat * 3 + 1, none⟩ = some (.int .i64 ((rd_T137 x3_1 x4_1).f1)) := hcc10 1 _ rfl; have hx10_2 : w11.cell? ⟨go10, (x4_1 : Int).toNat * 3 + 2, none⟩ = some (.int .i64 ((rd_T137 x3_1 x4_1).f2)) := hcc10 2 _ rfl; have hf10_0 : w11.frozen? ⟨go10, (x4_1 : Int).toNat * 3, none⟩ = false := hfr10 0; have hf10_1 : w11.frozen? ⟨go10, (x4_1 : Int).toNat * 3 + 1, none⟩ = false := hfr10 1; have hf10_2 : w11.frozen? ⟨go10, (x4_1 : Int).toNat * 3 + 2, none⟩ = false := hfr10 2; clear hcl10 hcc10 hfr10 hM10; replace p10 := eq_true p10; replace q10 := eq_true q10; have HX12 := Aside0.mk (show Kd.R k137 137 w11 w.heap.size (fun _ => True) (.slice (some ⟨go10, 0, none⟩) x3_1.length co10) x3_1 from (by (with_reducible repeat (first | apply Kd.R_alloc | apply Kd.R_drewN | apply Kd.R_drew)); exact HO_3.out)); obtain ⟨ce12, hcl12, hM12, hcc12, hfr12⟩ := Kd.R_elem HX12.out z137 (x4_1 : Int) (of_decide_eq_true (by first | (with_reducible assumption) | assumption)) (by have h_ : (x4_1 : Int) < ((x3_1.length : Int) : Int) := of_decide_eq_true (by first | (with_reducible assumption) | assumption); first | exact h_ | (have e_ := (Kd.R_reads' HO_3.out).1; omega) | simpa using h_); obtain rfl := k137_openM hM12; have HP12 := Kd.R_seg HX12.out (x4_1 : Int) (of_decide_eq_true (by first | (with_reducible assumption) | assumption)) (by have h_ : (x4_1 : Int) < ((x3_1.length : Int) : Int) := of_decide_eq_true (by first | (with_reducible assumption) | assumption); first | exact h_ | (have e_ := (Kd.R_reads' HO_3.out).1; omega) | simpa using h_) (seg := [.int .u8 t530, .int .i64 t531, .int .i64 t532]) (j := 0) hcl12 hcc12 (show 3 ≤ 3 from by decide) (x' := (⟨t530, t531, t532⟩ : S137)) (k137_mkM _ _ _ (⟨t530, t531, t532⟩ : S137) ) (fun _ hk => hk); have hx12_0 := hcc12 0 _ rfl; (try simp only [show (k137).sz = 3 from rfl, Nat.mul_one, Nat.add_zero] at hx12_0); have hf12_0 := hfr12 0; (try simp only [show (k137).sz = 3 from rfl, Nat.mul_one, Nat.add_zero] at hf12_0); have hx12_1 := hcc12 1 _ rfl; (try simp only [show (k137).sz = 3 from rfl, Nat.mul_one, Nat.add_zero] at hx12_1); have hf12_1 := hfr12 1; (try simp only [show (k137).sz = 3 from rfl, Nat.mul_one, Nat.add_zero] at hf12_1); have hx12_2 := hcc12 2 _ rfl; (try simp only [show (k137).sz = 3 from rfl, Nat.mul_one, Nat.add_zero] at hx12_2); have hf12_2 := hfr12 2; (try simp only [show (k137).sz = 3 from rfl, Nat.mul_one, Nat.add_zero] at hf12_2); clear hcl12 hcc12 hfr12 hM12) | ((with_reducible refine gate_store (t := 137) (p := 21) rfl ?_); refine store_event (t := 137) (p := 21) (v := ?vo_w13) (w1 := (((w11.setCell ⟨go10, (x4_1 : Int).toNat * 3, none⟩ (.int .u8 t530)).setCell ⟨go10, (x4_1 : Int).toNat * 3 + 1, none⟩ (.int .i64 t531)).setCell ⟨go10, (x4_1 : Int).toNat * 3 + 2, none⟩ (.int .i64 t532))) ?hg ?ho ?hn ?hr ?_; (case ho => rfl); (case hg => rfl); (case hn => rfl); (case hr => first | (go_simp; done) | (go_simp; rfl)); intro w13 hw; have hg : w11.grownBy w13 (some go10) := (by rw [hw]; exact HP12.2); have hp_ : Kd.R k137 137 w13 w.heap.size (fun _ => True) (.slice (some ⟨go10, 0, none⟩) x3_1.length co10) y533 := (by rw [hw, Ny533.out]; exact HP12.1); clear HP12; have n0_ := Aside0.mk (hp_); have n1_ := Aside0.mk ((by rw [hw]; exact below_set (below_set (below_set (HB.out) GB10.out) GB10.out) GB10.out : Below w.heap.size w w13)); clear HO_3; clear HB; have HO_3 := n0_; have HB := n1_; clear n0_ n1_; clear hg hw hp_))
                go_roundg k1
                case measure => have := HK1.out; omega
                case rel => exact ⟨(y533), (wrap64 (x4_1 + 1)), (by first | rfl | (simp; done) | (simp [*]; done)), H', ⟨by have := HK1.out; omega⟩, ⟨by (with_reducible repeat (first | apply Kd.R_alloc | apply Kd.R_drewN | apply Kd.R_drew)); exact HO_3.out⟩, ⟨by repeat (first | (with_reducible first | exact HB.out | apply below_alloc | apply pw_below_drewN | apply below_drew1) | exact HB.out)⟩⟩
              · rw [if_neg c9] at H
                exact absurd H (by simp)
            · rw [if_neg c7] at H
              exact absurd H (by simp)
          · rw [if_neg c6] at H
            have c6b0 : decide (x4_1 < (l0.length : Int)) = false := decide_eq_false c6
            clear c6
            obtain rfl := Option.some.inj H
            go_wp2
            go_ret
            exact ⟨_, by first | rfl | (simp [errW_none, errW_some] <;> rfl) | (simp [*, errW_none, errW_some] <;> rfl), by (with_reducible repeat (first | apply Kd.R_alloc | apply Kd.R_drewN | apply Kd.R_drew)); exact HO_3.out, by repeat (first | (with_reducible first | exact HB.out | apply below_alloc | apply pw_below_drewN | apply below_drew1) | exact HB.out)⟩
    · rw [if_neg c3] at H
      exact absurd H (by simp)
  · rw [if_neg c2] at H
    exact absurd H (by simp)

end Go.Proofs.Ytgpdjpololkhbaa.F

namespace Go.Proofs.Ytgpdjpololkhbaa.Pure
open Go.RowKit Go.Proofs.Ytgpdjpololkhbaa.F Go.Proofs.YtgpdjpololkhbaaW.PrintWords Go.Proofs.YtgpdjpololkhbaaW.PrintLast Go.Proofs.YtgpdjpololkhbaaW.PrintMore Go.Proofs.YtgpdjpololkhbaaB
set_option linter.unusedVariables false
set_option linter.unusedSimpArgs false
def toC (x : S139) : S137 := ⟨x.f0, x.f1, x.f2⟩
theorem rdLC {xs ys : List S139} {y : S139} {m : Nat} (h : xs.drop m = y :: ys) : rd_T139 xs (m : Int) = y := (drop_cons h).2.1 _
theorem laws_toCommandS_l0 (xs : List S139) (hx : xs.length ≤ 9223372036854775807) : ∀ (ys : List S139) (m : Nat) (out : List S137), xs.drop m = ys → out.length = xs.length → out.take m = (xs.take m).map toC →
    Ev (fun k => laws_toCommandS.l0 k xs out m) (xs.map toC)
  | [], m, out, h, hl, ht => by
    have := drop_nil h
    refine ev_step (fun _ => rfl) (ev_neg (by omega) (ev_now ?_))
    rw [List.take_of_length_le (by omega), List.take_of_length_le this] at ht
    rw [ht]
  | y :: ys, m, out, h, hl, ht => by
    obtain ⟨hm, _, hd⟩ := drop_cons h
    refine ev_step (fun _ => rfl) (ev_pos (by omega) (ev_pos (by omega) ?_))
    rw [rdLC h, w64 (by omega) (by omega)]
    refine ev_some (a := (y.f0, y.f1, y.f2)) rfl (ev_pos (by omega) ?_)
    refine laws_toCommandS_l0 xs hx ys (m + 1) _ hd (by rw [List.length_set, hl]) ?_
    rw [take_snoc h, List.map_append, ← ht, Int.toNat_natCast, List.set_eq_take_append_cons_drop, if_pos (by omega), List.take_append, List.take_of_length_le (by rw [List.length_take]; omega), List.length_take, show m + 1 - min m out.length = 1 by omega]
    rfl
theorem laws_toCommandS_f (xs : List S139) (hx : xs.length ≤ 1048576) : Ev (fun k => laws_toCommandS.f k xs) (xs.map toC) := by
  refine ev_pos (by omega) (ev_pos (by omega) ?_)
  exact laws_toCommandS_l0 xs (by omega) xs 0 _ rfl (by simp) rfl

end Go.Proofs.Ytgpdjpololkhbaa.Pure

namespace Go.Proofs.Ytgpdjpololkhbaa.F
open Go.RowKit Go.Proofs.YtgpdjpololkhbaaW.PrintWords Go.Proofs.YtgpdjpololkhbaaW.PrintLast Go.Proofs.YtgpdjpololkhbaaW.PrintMore
attribute [local go_sem] max2_int min2_int max_two min_two max_three min_three max_four min_four   -- for this text's walks alone
set_option linter.unusedVariables false
set_option linter.unusedSimpArgs false

/-! ### spec_l01In: function 89 -/
def spec_l01In.f (a0 : Int) (a1 : Int) (a2 : Int) : Option (Bool) := if a0 ≥ a1 then (some (decide (a0 ≤ a2))) else (some false)
set_option maxHeartbeats 8000000 in
set_option maxRecDepth 100000 in
theorem spec_l01In.calls (a0 : Int) (a1 : Int) (a2 : Int) (r : Bool) (w : World) (h : spec_l01In.f a0 a1 a2 = some r) :
    Calls Try.prog 89 #[.int .i64 a0, .int .i64 a1, .int .i64 a2] w fun e w' => e = .returned (.bool r) ∧ Drawn0 w w' := by
  have H : (if a0 ≥ a1 then (some (decide (a0 ≤ a2))) else (some false)) = some r := h
  clear h
  by_cases c4 : a0 ≥ a1
  · rw [if_pos c4] at H
    have c4b0 : decide (a1 ≤ a0) = true := decide_eq_true c4
    clear c4
    obtain rfl := Option.some.inj H
    go_enter Try.func89, Try.ntmps89
    go_wp2
    go_ret
    exact ⟨by first | rfl | (simp; done) | (simp [*]; done), by repeat (first | exact Drawn0.refl _ | apply Drawn0.step)⟩
  · rw [if_neg c4] at H
    have c4b0 : decide (a1 ≤ a0) = false := decide_eq_false c4
    clear c4
    obtain rfl := Option.some.inj H
    go_enter Try.func89, Try.ntmps89
    go_wp2
    go_ret
    exact ⟨by first | rfl | (simp; done) | (simp [*]; done), by repeat (first | exact Drawn0.refl _ | apply Drawn0.step)⟩

end Go.Proofs.Ytgpdjpololkhbaa.F

namespace Go.Proofs.Ytgpdjpololkhbaa.F
open Go.RowKit Go.Proofs.YtgpdjpololkhbaaW.PrintWords Go.Proofs.YtgpdjpololkhbaaW.PrintLast Go.Proofs.YtgpdjpololkhbaaW.PrintMore
attribute [local go_sem] max2_int min2_int max_two min_two max_three min_three max_four min_four   -- for this text's walks alone
set_option linter.unusedVariables false
set_option linter.unusedSimpArgs false

/-! ### spec_l28Pen: function 144 -/
def spec_l28Pen.f (a0 : Int) : Option (Bool) := (spec_l01In.f a0 1 8).bind fun t105 => (some t105)
set_option maxHeartbeats 8000000 in
set_option maxRecDepth 100000 in
theorem spec_l28Pen.calls (a0 : Int) (r : Bool) (w : World) (h : spec_l28Pen.f a0 = some r) :
    Calls Try.prog 144 #[.int .i64 a0] w fun e w' => e = .returned (.bool r) ∧ Drawn0 w w' := by
  have H : ((spec_l01In.f a0 1 8).bind fun t105 => (some t105)) = some r := h
  clear h
  replace H := Option.bind_eq_some_iff.mp H
  obtain ⟨t105, A20, H⟩ := H
  replace H : (some t105) = some r := H
  have A2 := Aside0.mk A20
  clear A20
  obtain rfl := Option.some.inj H
  go_enter Try.func144, Try.ntmps144
  go_wp2_with (first | ((with_reducible refine gate_callee (f := 89) rfl ?_); refine goesL_ (some 4) rfl rfl Try.func89 (by kernel_rfl) rfl #[.int .i64 a0, .int .i64 1, .int .i64 8] rfl (by (try simp only [List.map_toArray, List.map_cons, List.map_nil]); first | done | rfl | (simp only [List.length_drop, List.length_take]; rfl)) ?_; (with_reducible refine (spec_l01In.calls a0 1 8 t105 _ A2.out).mono ?_); rintro e w' ⟨rfl, ⟨nd, rfl⟩⟩; refine ⟨_, rfl, ?_⟩))
  go_ret
  exact ⟨by first | rfl | (simp; done) | (simp [*]; done), by repeat (first | exact Drawn0.refl _ | apply Drawn0.step)⟩

end Go.Proofs.Ytgpdjpololkhbaa.F

namespace Go.Proofs.Ytgpdjpololkhbaa.F
open Go.RowKit Go.Proofs.YtgpdjpololkhbaaW.PrintWords Go.Proofs.YtgpdjpololkhbaaW.PrintLast Go.Proofs.YtgpdjpololkhbaaW.PrintMore
attribute [local go_sem] max2_int min2_int max_two min_two max_three min_three max_four min_four   -- for this text's walks alone
set_option linter.unusedVariables false
set_option linter.unusedSimpArgs false

/-! ### spec_l14Point: function 96 -/
def spec_l14Point.f (a0 : Int) (a1 : Int) : Option (Bool) := (spec_l01In.f a0 (-1000000) 1000000).bind fun t106 => (if t106 = true then ((spec_l01In.f a1 (-1000000) 1000000).bind fun t107 => (some t107)) else (some false))
set_option maxHeartbeats 8000000 in
set_option maxRecDepth 100000 in
theorem spec_l14Point.calls (a0 : Int) (a1 : Int) (r : Bool) (w : World) (h : spec_l14Point.f a0 a1 = some r) :
    Calls Try.prog 96 #[.int .i64 a0, .int .i64 a1] w fun e w' => e = .returned (.bool r) ∧ Drawn0 w w' := by
  have H : ((spec_l01In.f a0 (-1000000) 1000000).bind fun t106 => (if t106 = true then ((spec_l01In.f a1 (-1000000) 1000000).bind fun t107 => (some t107)) else (some false))) = some r := h
  clear h
  replace H := Option.bind_eq_some_iff.mp H
  obtain ⟨t106, A30, H⟩ := H
  replace H : (if t106 = true then ((spec_l01In.f a1 (-1000000) 1000000).bind fun t107 => (some t107)) else (some false)) = some r := H
  have A3 := Aside0.mk A30
  clear A30
  by_cases c4 : t106 = true
  · subst c4
    have H1 : ((spec_l01In.f a1 (-1000000) 1000000).bind fun t107 => (some t107)) = some r := by rw [if_pos rfl] at H; exact H
    clear H
    have H := H1
    clear H1
    replace H := Option.bind_eq_some_iff.mp H
    obtain ⟨t107, A50, H⟩ := H
    replace H : (some t107) = some r := H
    have A5 := Aside0.mk A50
    clear A50
    obtain rfl := Option.some.inj H
    go_enter Try.func96, Try.ntmps96
    go_wp2_with (first | ((with_reducible refine gate_callee (f := 89) rfl ?_); refine goesL_ (some 6) rfl rfl Try.func89 (by kernel_rfl) rfl #[.int .i64 a0, .int .i64 (-1000000), .int .i64 1000000] rfl (by (try simp only [List.map_toArray, List.map_cons, List.map_nil]); first | done | rfl | (simp only [List.length_drop, List.length_take]; rfl)) ?_; (with_reducible refine (spec_l01In.calls a0 (-1000000) 1000000 true _ A3.out).mono ?_); rintro e w' ⟨rfl, ⟨nd, rfl⟩⟩; refine ⟨_, rfl, ?_⟩) | (go_at_call 89; (with_reducible refine (spec_l01In.calls a1 (-1000000) 1000000 t107 _ A5.out).mono ?_); rintro e w' ⟨rfl, ⟨nd, rfl⟩⟩))
    go_ret
    exact ⟨by first | rfl | (simp; done) | (simp [*]; done), by repeat (first | exact Drawn0.refl _ | apply Drawn0.step)⟩
  · replace c4 := Bool.eq_false_iff.mpr c4
    subst c4
    have H1 : (some false) = some r := by rw [if_neg (show ¬ (false = true) by decide)] at H; exact H
    clear H
    have H := H1
    clear H1
    obtain rfl := Option.some.inj H
    go_enter Try.func96, Try.ntmps96
    go_wp2_with (first | ((with_reducible refine gate_callee (f := 89) rfl ?_); refine goesL_ (some 6) rfl rfl Try.func89 (by kernel_rfl) rfl #[.int .i64 a0, .int .i64 (-1000000), .int .i64 1000000] rfl (by (try simp only [List.map_toArray, List.map_cons, List.map_nil]); first | done | rfl | (simp only [List.length_drop, List.length_take]; rfl)) ?_; (with_reducible refine (spec_l01In.calls a0 (-1000000) 1000000 false _ A3.out).mono ?_); rintro e w' ⟨rfl, ⟨nd, rfl⟩⟩; refine ⟨_, rfl, ?_⟩))
    go_ret
    exact ⟨by first | rfl | (simp; done) | (simp [*]; done), by repeat (first | exact Drawn0.refl _ | apply Drawn0.step)⟩

end Go.Proofs.Ytgpdjpololkhbaa.F

namespace Go.Proofs.Ytgpdjpololkhbaa.F
open Go.RowKit Go.Proofs.YtgpdjpololkhbaaW.PrintWords Go.Proofs.YtgpdjpololkhbaaW.PrintLast Go.Proofs.YtgpdjpololkhbaaW.PrintMore
attribute [local go_sem] max2_int min2_int max_two min_two max_three min_three max_four min_four   -- for this text's walks alone
set_option linter.unusedVariables false
set_option linter.unusedSimpArgs false

/-! ### spec_l29Is: function 142 -/
def spec_l29Is.f (a0_0 : Int) (a0_1 : Int) (a0_2 : Int) : Option (Bool) := if a0_0 = 80 then ((spec_l28Pen.f a0_1).bind fun t500 => (if t500 = true then (some (a0_2 == 0)) else (some false))) else (if a0_0 = 85 then ((spec_l14Point.f a0_1 a0_2).bind fun t501 => (some t501)) else (if a0_0 = 68 then ((spec_l14Point.f a0_1 a0_2).bind fun t502 => (some t502)) else (some false)))
set_option maxHeartbeats 8000000 in
set_option maxRecDepth 100000 in
theorem spec_l29Is.calls (a0_0 : Int) (a0_1 : Int) (a0_2 : Int) (r : Bool) (w : World) (h : spec_l29Is.f a0_0 a0_1 a0_2 = some r) :
    Calls Try.prog 142 #[.agg #[.int .u8 a0_0, .int .i64 a0_1, .int .i64 a0_2]] w fun e w' => e = .returned (.bool r) ∧ Below w.heap.size w w' := by
  have hu137 := Try.underlying137
  have HB := Aside0.mk (Below.refl w.heap.size w)
  have H : (if a0_0 = 80 then ((spec_l28Pen.f a0_1).bind fun t500 => (if t500 = true then (some (a0_2 == 0)) else (some false))) else (if a0_0 = 85 then ((spec_l14Point.f a0_1 a0_2).bind fun t501 => (some t501)) else (if a0_0 = 68 then ((spec_l14Point.f a0_1 a0_2).bind fun t502 => (some t502)) else (some false)))) = some r := h
  clear h
  by_cases c2 : a0_0 = 80
  · rw [if_pos c2] at H
    have c2b0 : (a0_0 == 80) = true := beq_iff_eq.mpr c2
    have c2b1 : (a0_0 != 80) = false := bne_eq_false_iff_eq.mpr c2
    clear c2
    replace H := Option.bind_eq_some_iff.mp H
    obtain ⟨t500, A30, H⟩ := H
    replace H : (if t500 = true then (some (a0_2 == 0)) else (some false)) = some r := H
    have A3 := Aside0.mk A30
    clear A30
    by_cases c4 : t500 = true
    · subst c4
      have H1 : (some (a0_2 == 0)) = some r := by rw [if_pos rfl] at H; exact H
      clear H
      have H := H1
      clear H1
      obtain rfl := Option.some.inj H
      go_enter Try.func142, Try.ntmps142
      go_wp2_with (first | ((with_reducible refine gate_dst (N := 1) rfl ?_); refine box_event ?hg (N := 1) ?hd (cs := #[.int .u8 a0_0, .int .i64 a0_1, .int .i64 a0_2]) (t := 137) ?hr ?_; (case hd => rfl); (case hg => rfl); (case hr => first | (go_simp; done) | (go_simp; rfl)); intro gb499 hg w5 hbox hb; have n0_ := Aside0.mk (below_step (by repeat (first | (with_reducible first | exact HB.out | apply below_alloc | apply pw_below_drewN | apply below_drew1) | exact HB.out)) hb); have n1_ := Aside0.mk (hbox); have n2_ := Aside0.mk ((by rw [hg]; exact (below_size (by repeat (first | (with_reducible first | exact HB.out | apply below_alloc | apply pw_below_drewN | apply below_drew1) | exact HB.out))) : w.heap.size ≤ gb499)); have n3_ := Aside0.mk ((by rw [hg]; exact (below_size (by repeat (first | (with_reducible first | exact HB.out | apply below_alloc | apply pw_below_drewN | apply below_drew1) | exact HB.out))) : w.heap.size ≤ gb499)); clear HB; have HB := n0_; have BK499 := n1_; have GW499 := n2_; have GE499 := n3_; clear n0_ n1_ n2_ n3_; clear hb hbox hg; have hcz6_0 : w5.cell? ⟨gb499, 0, none⟩ = some (.int .u8 a0_0) := (blk_cell BK499.out 0).trans rfl; have hcz6_1 : w5.cell? ⟨gb499, 1, none⟩ = some (.int .i64 a0_1) := (blk_cell BK499.out 1).trans rfl; have hcz6_2 : w5.cell? ⟨gb499, 2, none⟩ = some (.int .i64 a0_2) := (blk_cell BK499.out 2).trans rfl; have hfz6_0 := blk_frozen BK499.out 0; have hfz6_1 := blk_frozen BK499.out 1; have hfz6_2 := blk_frozen BK499.out 2) | ((with_reducible refine gate_callee (f := 144) rfl ?_); refine goesL_ (some 9) rfl rfl Try.func144 (by kernel_rfl) rfl #[.int .i64 a0_1] rfl (by (try simp only [List.map_toArray, List.map_cons, List.map_nil]); first | done | rfl | (simp only [List.length_drop, List.length_take]; rfl)) ?_; (with_reducible refine (spec_l28Pen.calls a0_1 true _ A3.out).mono ?_); rintro e w' ⟨rfl, ⟨nd, rfl⟩⟩; refine ⟨_, rfl, ?_⟩))
      go_ret
      exact ⟨by first | rfl | (simp [errW_none, errW_some] <;> rfl) | (simp [*, errW_none, errW_some] <;> rfl), by repeat (first | (with_reducible first | exact HB.out | apply below_alloc | apply pw_below_drewN | apply below_drew1 | refine below_set ?_ GE499.out) | exact HB.out)⟩
    · replace c4 := Bool.eq_false_iff.mpr c4
      subst c4
      have H1 : (some false) = some r := by rw [if_neg (show ¬ (false = true) by decide)] at H; exact H
      clear H
      have H := H1
      clear H1
      obtain rfl := Option.some.inj H
      go_enter Try.func142, Try.ntmps142
      go_wp2_with (first | ((with_reducible refine gate_dst (N := 1) rfl ?_); refine box_event ?hg (N := 1) ?hd (cs := #[.int .u8 a0_0, .int .i64 a0_1, .int .i64 a0_2]) (t := 137) ?hr ?_; (case hd => rfl); (case hg => rfl); (case hr => first | (go_simp; done) | (go_simp; rfl)); intro gb499 hg w7 hbox hb; have n0_ := Aside0.mk (below_step (by repeat (first | (with_reducible first | exact HB.out | apply below_alloc | apply pw_below_drewN | apply below_drew1) | exact HB.out)) hb); have n1_ := Aside0.mk (hbox); have n2_ := Aside0.mk ((by rw [hg]; exact (below_size (by repeat (first | (with_reducible first | exact HB.out | apply below_alloc | apply pw_below_drewN | apply below_drew1) | exact HB.out))) : w.heap.size ≤ gb499)); have n3_ := Aside0.mk ((by rw [hg]; exact (below_size (by repeat (first | (with_reducible first | exact HB.out | apply below_alloc | apply pw_below_drewN | apply below_drew1) | exact HB.out))) : w.heap.size ≤ gb499)); clear HB; have HB := n0_; have BK499 := n1_; have GW499 := n2_; have GE499 := n3_; clear n0_ n1_ n2_ n3_; clear hb hbox hg; have hcz8_0 : w7.cell? ⟨gb499, 0, none⟩ = some (.int .u8 a0_0) := (blk_cell BK499.out 0).trans rfl; have hcz8_1 : w7.cell? ⟨gb499, 1, none⟩ = some (.int .i64 a0_1) := (blk_cell BK499.out 1).trans rfl; have hcz8_2 : w7.cell? ⟨gb499, 2, none⟩ = some (.int .i64 a0_2) := (blk_cell BK499.out 2).trans rfl; have hfz8_0 := blk_frozen BK499.out 0; have hfz8_1 := blk_frozen BK499.out 1; have hfz8_2 := blk_frozen BK499.out 2) | ((with_reducible refine gate_callee (f := 144) rfl ?_); refine goesL_ (some 9) rfl rfl Try.func144 (by kernel_rfl) rfl #[.int .i64 a0_1] rfl (by (try simp only [List.map_toArray, List.map_cons, List.map_nil]); first | done | rfl | (simp only [List.length_drop, List.length_take]; rfl)) ?_; (with_reducible refine (spec_l28Pen.calls a0_1 false _ A3.out).mono ?_); rintro e w' ⟨rfl, ⟨nd, rfl⟩⟩; refine ⟨_, rfl, ?_⟩))
      go_ret
      exact ⟨by first | rfl | (simp [errW_none, errW_some] <;> rfl) | (simp [*, errW_none, errW_some] <;> rfl), by repeat (first | (with_reducible first | exact HB.out | apply below_alloc | apply pw_below_drewN | apply below_drew1 | refine below_set ?_ GE499.out) | exact HB.out)⟩
  · rw [if_neg c2] at H
    have c2b0 : (a0_0 == 80) = false := beq_eq_false_iff_ne.mpr c2
    have c2b1 : (a0_0 != 80) = true := bne_iff_ne.mpr c2
    by_cases c9 : a0_0 = 85
    · rw [if_pos c9] at H
      have c9b0 : (a0_0 == 85) = true := beq_iff_eq.mpr c9
      have c9b1 : (a0_0 != 85) = false := bne_eq_false_iff_eq.mpr c9
      clear c9
      replace H := Option.bind_eq_some_iff.mp H
      obtain ⟨t501, A100, H⟩ := H
      replace H : (some t501) = some r := H
      have A10 := Aside0.mk A100
      clear A100
      obtain rfl := Option.some.inj H
      go_enter Try.func142, Try.ntmps142
      go_wp2_with (first | ((with_reducible refine gate_dst (N := 1) rfl ?_); refine box_event ?hg (N := 1) ?hd (cs := #[.int .u8 a0_0, .int .i64 a0_1, .int .i64 a0_2]) (t := 137) ?hr ?_; (case hd => rfl); (case hg => rfl); (case hr => first | (go_simp; done) | (go_simp; rfl)); intro gb499 hg w11 hbox hb; have n0_ := Aside0.mk (below_step (by repeat (first | (with_reducible first | exact HB.out | apply below_alloc | apply pw_below_drewN | apply below_drew1) | exact HB.out)) hb); have n1_ := Aside0.mk (hbox); have n2_ := Aside0.mk ((by rw [hg]; exact (below_size (by repeat (first | (with_reducible first | exact HB.out | apply below_alloc | apply pw_below_drewN | apply below_drew1) | exact HB.out))) : w.heap.size ≤ gb499)); have n3_ := Aside0.mk ((by rw [hg]; exact (below_size (by repeat (first | (with_reducible first | exact HB.out | apply below_alloc | apply pw_below_drewN | apply below_drew1) | exact HB.out))) : w.heap.size ≤ gb499)); clear HB; have HB := n0_; have BK499 := n1_; have GW499 := n2_; have GE499 := n3_; clear n0_ n1_ n2_ n3_; clear hb hbox hg; have hcz12_0 : w11.cell? ⟨gb499, 0, none⟩ = some (.int .u8 a0_0) := (blk_cell BK499.out 0).trans rfl; have hcz12_1 : w11.cell? ⟨gb499, 1, none⟩ = some (.int .i64 a0_1) := (blk_cell BK499.out 1).trans rfl; have hcz12_2 : w11.cell? ⟨gb499, 2, none⟩ = some (.int .i64 a0_2) := (blk_cell BK499.out 2).trans rfl; have hfz12_0 := blk_frozen BK499.out 0; have hfz12_1 := blk_frozen BK499.out 1; have hfz12_2 := blk_frozen BK499.out 2) | ((with_reducible refine gate_callee (f := 96) rfl ?_); refine goesL_ (some 22) rfl rfl Try.func96 (by kernel_rfl) rfl #[.int .i64 a0_1, .int .i64 a0_2] rfl (by (try simp only [List.map_toArray, List.map_cons, List.map_nil]); first | done | rfl | (simp only [List.length_drop, List.length_take]; rfl)) ?_; (with_reducible refine (spec_l14Point.calls a0_1 a0_2 t501 _ A10.out).mono ?_); rintro e w' ⟨rfl, ⟨nd, rfl⟩⟩; refine ⟨_, rfl, ?_⟩))
      go_ret
      exact ⟨by first | rfl | (simp [errW_none, errW_some] <;> rfl) | (simp [*, errW_none, errW_some] <;> rfl), by repeat (first | (with_reducible first | exact HB.out | apply below_alloc | apply pw_below_drewN | apply below_drew1 | refine below_set ?_ GE499.out) | exact HB.out)⟩
    · rw [if_neg c9] at H
      have c9b0 : (a0_0 == 85) = false := beq_eq_false_iff_ne.mpr c9
      have c9b1 : (a0_0 != 85) = true := bne_iff_ne.mpr c9
      by_cases c13 : a0_0 = 68
      · rw [if_pos c13] at H
        have c13b0 : (a0_0 == 68) = true := beq_iff_eq.mpr c13
        have c13b1 : (a0_0 != 68) = false := bne_eq_false_iff_eq.mpr c13
        clear c13
        replace H := Option.bind_eq_some_iff.mp H
        obtain ⟨t502, A140, H⟩ := H
        replace H : (some t502) = some r := H
        have A14 := Aside0.mk A140
        clear A140
        obtain rfl := Option.some.inj H
        go_enter Try.func142, Try.ntmps142
        go_wp2_with (first | ((with_reducible refine gate_dst (N := 1) rfl ?_); refine box_event ?hg (N := 1) ?hd (cs := #[.int .u8 a0_0, .int .i64 a0_1, .int .i64 a0_2]) (t := 137) ?hr ?_; (case hd => rfl); (case hg => rfl); (case hr => first | (go_simp; done) | (go_simp; rfl)); intro gb499 hg w15 hbox hb; have n0_ := Aside0.mk (below_step (by repeat (first | (with_reducible first | exact HB.out | apply below_alloc | apply pw_below_drewN | apply below_drew1) | exact HB.out)) hb); have n1_ := Aside0.mk (hbox); have n2_ := Aside0.mk ((by rw [hg]; exact (below_size (by repeat (first | (with_reducible first | exact HB.out | apply below_alloc | apply pw_below_drewN | apply below_drew1) | exact HB.out))) : w.heap.size ≤ gb499)); have n3_ := Aside0.mk ((by rw [hg]; exact (below_size (by repeat (first | (with_reducible first | exact HB.out | apply below_alloc | apply pw_below_drewN | apply below_drew1) | exact HB.out))) : w.heap.size ≤ gb499)); clear HB; have HB := n0_; have BK499 := n1_; have GW499 := n2_; have GE499 := n3_; clear n0_ n1_ n2_ n3_; clear hb hbox hg; have hcz16_0 : w15.cell? ⟨gb499, 0, none⟩ = some (.int .u8 a0_0) := (blk_cell BK499.out 0).trans rfl; have hcz16_1 : w15.cell? ⟨gb499, 1, none⟩ = some (.int .i64 a0_1) := (blk_cell BK499.out 1).trans rfl; have hcz16_2 : w15.cell? ⟨gb499, 2, none⟩ = some (.int .i64 a0_2) := (blk_cell BK499.out 2).trans rfl; have hfz16_0 := blk_frozen BK499.out 0; have hfz16_1 := blk_frozen BK499.out 1; have hfz16_2 := blk_frozen BK499.out 2) | ((with_reducible refine gate_callee (f := 96) rfl ?_); refine goesL_ (some 22) rfl rfl Try.func96 (by kernel_rfl) rfl #[.int .i64 a0_1, .int .i64 a0_2] rfl (by (try simp only [List.map_toArray, List.map_cons, List.map_nil]); first | done | rfl | (simp only [List.length_drop, List.length_take]; rfl)) ?_; (with_reducible refine (spec_l14Point.calls a0_1 a0_2 t502 _ A14.out).mono ?_); rintro e w' ⟨rfl, ⟨nd, rfl⟩⟩; refine ⟨_, rfl, ?_⟩))
        go_ret
        exact ⟨by first | rfl | (simp [errW_none, errW_some] <;> rfl) | (simp [*, errW_none, errW_some] <;> rfl), by repeat (first | (with_reducible first | exact HB.out | apply below_alloc | apply pw_below_drewN | apply below_drew1 | refine below_set ?_ GE499.out) | exact HB.out)⟩
      · rw [if_neg c13] at H
        have c13b0 : (a0_0 == 68) = false := beq_eq_false_iff_ne.mpr c13
        have c13b1 : (a0_0 != 68) = true := bne_iff_ne.mpr c13
        obtain rfl := Option.some.inj H
        go_enter Try.func142, Try.ntmps142
        go_wp2_with (first | ((with_reducible refine gate_dst (N := 1) rfl ?_); refine box_event ?hg (N := 1) ?hd (cs := #[.int .u8 a0_0, .int .i64 a0_1, .int .i64 a0_2]) (t := 137) ?hr ?_; (case hd => rfl); (case hg => rfl); (case hr => first | (go_simp; done) | (go_simp; rfl)); intro gb499 hg w17 hbox hb; have n0_ := Aside0.mk (below_step (by repeat (first | (with_reducible first | exact HB.out | apply below_alloc | apply pw_below_drewN | apply below_drew1) | exact HB.out)) hb); have n1_ := Aside0.mk (hbox); have n2_ := Aside0.mk ((by rw [hg]; exact (below_size (by repeat (first | (with_reducible first | exact HB.out | apply below_alloc | apply pw_below_drewN | apply below_drew1) | exact HB.out))) : w.heap.size ≤ gb499)); have n3_ := Aside0.mk ((by rw [hg]; exact (below_size (by repeat (first | (with_reducible first | exact HB.out | apply below_alloc | apply pw_below_drewN | apply below_drew1) | exact HB.out))) : w.heap.size ≤ gb499)); clear HB; have HB := n0_; have BK499 := n1_; have GW499 := n2_; have GE499 := n3_; clear n0_ n1_ n2_ n3_; clear hb hbox hg; have hcz18_0 : w17.cell? ⟨gb499, 0, none⟩ = some (.int .u8 a0_0) := (blk_cell BK499.out 0).trans rfl; have hcz18_1 : w17.cell? ⟨gb499, 1, none⟩ = some (.int .i64 a0_1) := (blk_cell BK499.out 1).trans rfl; have hcz18_2 : w17.cell? ⟨gb499, 2, none⟩ = some (.int .i64 a0_2) := (blk_cell BK499.out 2).trans rfl; have hfz18_0 := blk_frozen BK499.out 0; have hfz18_1 := blk_frozen BK499.out 1; have hfz18_2 := blk_frozen BK499.out 2))
        go_ret
        exact ⟨by first | rfl | (simp [errW_none, errW_some] <;> rfl) | (simp [*, errW_none, errW_some] <;> rfl), by repeat (first | (with_reducible first | exact HB.out | apply below_alloc | apply pw_below_drewN | apply below_drew1 | refine below_set ?_ GE499.out) | exact HB.out)⟩

end Go.Proofs.Ytgpdjpololkhbaa.F

namespace Go.Proofs.Ytgpdjpololkhbaa.F
open Go.RowKit Go.Proofs.YtgpdjpololkhbaaW.PrintWords Go.Proofs.YtgpdjpololkhbaaW.PrintLast Go.Proofs.YtgpdjpololkhbaaW.PrintMore
attribute [local go_sem] max2_int min2_int max_two min_two max_three min_three max_four min_four   -- for this text's walks alone
set_option linter.unusedVariables false
set_option linter.unusedSimpArgs false

/-! ### spec_l29Code: function 88 -/
def spec_l29Code.l0 : Nat → List (S137) → Int → Option (Int)
  | 0, _, _ => none
  | k + 1, x0, x3 => if x3 < (x0.length : Int) then (if 0 ≤ x3 then ((spec_l29Is.f ((rd_T137 x0 x3).f0) ((rd_T137 x0 x3).f1) ((rd_T137 x0 x3).f2)).bind fun t504 => (if t504 = true then (spec_l29Code.l0 k x0 (wrap64 (x3 + 1))) else (some 1))) else (none)) else (if (x0.length : Int) > 400 then (some 3) else (some 0))
def spec_l29Code.f (k : Nat) (l0 : List (S137)) : Option (Int) := spec_l29Code.l0 k l0 0
theorem spec_l29Code.mono_l : ∀ k, (∀ y0 y1, LeO (spec_l29Code.l0 k y0 y1) (spec_l29Code.l0 (k + 1) y0 y1))
  | 0 => fun _ _ r h => by simp [spec_l29Code.l0] at h
  | k + 1 => by
    have ih0 := spec_l29Code.mono_l k
    · intro y0 y1
      unfold spec_l29Code.l0
      repeat' first
      | (with_reducible exact ih0 _ _)
      | (with_reducible exact LeO.refl _)
      | (with_reducible exact LeO.none _)
      | (with_reducible refine LeO.ite ?_ ?_)
      | (with_reducible refine LeO.bind ?_ (fun _ => ?_))
      | exact ih0 _ _
      | exact LeO.none _
      | refine LeO.ite ?_ ?_
      | refine LeO.bind ?_ (fun _ => ?_)
theorem spec_l29Code.mono : ∀ a0 k, LeO (spec_l29Code.f k a0) (spec_l29Code.f (k + 1) a0) := by
  intro a0 k
  have ih0 := spec_l29Code.mono_l k
  unfold spec_l29Code.f
  repeat' first
      | (with_reducible exact ih0 _ _)
      | (with_reducible exact LeO.refl _)
      | (with_reducible exact LeO.none _)
      | (with_reducible refine LeO.ite ?_ ?_)
      | (with_reducible refine LeO.bind ?_ (fun _ => ?_))
      | exact ih0 _ _
      | exact LeO.none _
      | refine LeO.ite ?_ ?_
      | refine LeO.bind ?_ (fun _ => ?_)
set_option maxHeartbeats 8000000 in
set_option maxRecDepth 100000 in
theorem spec_l29Code.calls (k : Nat) (A0 : Option Addr) (c0 : Nat) (l0 : List (S137)) (r : Int) (w : World) (hr0 : Kd.C k137 w A0 l0.length l0) (hc0 : l0.length ≤ c0) (h : spec_l29Code.f k l0 = some r) :
    Calls Try.prog 88 #[.slice A0 l0.length c0] w fun e w' => e = .returned (.int .i64 r) ∧ Below w.heap.size w w' := by
  have hu137 := Try.underlying137
  have HR0 := Aside0.mk hr0
  have HC0 := Aside0.mk hc0
  clear hr0 hc0
  have HB := Aside0.mk (Below.refl w.heap.size w)
  have H : (spec_l29Code.l0 k l0 0) = some r := h
  clear h
  have H' := Aside0.mk H
  clear H
  go_enter Try.func88, Try.ntmps88
  go_wp2
  go_loopg [3] k (fun kq v3 w' => ∃ (x3_1 : Int), v3 = .int .i64 x3_1 ∧ Aside0 (spec_l29Code.l0 kq l0 x3_1 = some r) ∧ Aside0 (kq ≤ k) ∧ Aside0 (Below w.heap.size w w'))
  case atStart => exact ⟨(0), (by first | rfl | (simp; done) | (simp [*]; done)), H', ⟨Nat.le_refl _⟩, ⟨by repeat (first | (with_reducible first | exact HB.out | apply below_alloc | apply pw_below_drewN | apply below_drew1) | exact HB.out)⟩⟩
  case round =>
    clear H'
    obtain ⟨x3_1, rfl, HA, HK1, HB⟩ := hrel
    cases gk with
    | zero => exact absurd HA.out (by simp [spec_l29Code.l0])
    | succ k1 =>
      have H := HA.out
      clear HA
      simp only [spec_l29Code.l0] at H
      by_cases c2 : x3_1 < (l0.length : Int)
      · rw [if_pos c2] at H
        have c2b0 : decide (x3_1 < (l0.length : Int)) = true := decide_eq_true c2
        clear c2
        by_cases c3 : 0 ≤ x3_1
        · rw [if_pos c3] at H
          have c3b0 : decide (0 ≤ x3_1) = true := decide_eq_true c3
          clear c3
          replace H := Option.bind_eq_some_iff.mp H
          obtain ⟨t504, A40, H⟩ := H
          replace H : (if t504 = true then (spec_l29Code.l0 k1 l0 (wrap64 (x3_1 + 1))) else (some 1)) = some r := H
          have A4 := Aside0.mk A40
          clear A40
          by_cases c5 : t504 = true
          · subst c5
            have H1 : (spec_l29Code.l0 k1 l0 (wrap64 (x3_1 + 1))) = some r := by rw [if_pos rfl] at H; exact H
            clear H
            have H := H1
            clear H1
            have H' := Aside0.mk H
            clear H
            have p503 : 0 ≤ (x3_1 : Int) := of_decide_eq_true (by first | (with_reducible assumption) | assumption)
            have q503 : x3_1 < (l0.length : Int) := of_decide_eq_true (by first | (with_reducible assumption) | assumption)
            obtain ⟨ad503, e503, hx503_0, hx503_1, hx503_2⟩ := at_T137 HR0.out x3_1 p503 q503
            cases e503
            replace hx503_0 := (HB.out.cell (World.block_lt_of_cell? w _ hx503_0)).trans hx503_0
            replace hx503_1 := (HB.out.cell (World.block_lt_of_cell? w _ hx503_1)).trans hx503_1
            replace hx503_2 := (HB.out.cell (World.block_lt_of_cell? w _ hx503_2)).trans hx503_2
            replace p503 := eq_true p503
            replace q503 := eq_true q503
            go_wp2_with (first | ((with_reducible refine gate_callee (f := 142) rfl ?_); refine goesL_ (some 14) rfl rfl Try.func142 (by kernel_rfl) rfl #[.agg #[.int .u8 ((rd_T137 l0 x3_1).f0), .int .i64 ((rd_T137 l0 x3_1).f1), .int .i64 ((rd_T137 l0 x3_1).f2)]] rfl (by (try simp only [List.map_toArray, List.map_cons, List.map_nil]); first | done | rfl | (simp only [List.length_drop, List.length_take]; rfl)) ?_; (with_reducible refine (spec_l29Is.calls ((rd_T137 l0 x3_1).f0) ((rd_T137 l0 x3_1).f1) ((rd_T137 l0 x3_1).f2) true _ A4.out).mono ?_); rintro e w6 ⟨rfl, hb⟩; refine ⟨_, rfl, ?_⟩; have n0_ := Aside0.mk (below_step (by repeat (first | (with_reducible first | exact HB.out | apply below_alloc | apply pw_below_drewN | apply below_drew1) | exact HB.out)) hb); clear HB; have HB := n0_; clear n0_; (try clear hb); (try clear hb2); (try clear hk); (try clear hi)))
            go_roundg k1
            case measure => have := HK1.out; omega
            case rel => exact ⟨(wrap64 (x3_1 + 1)), (by first | rfl | (simp; done) | (simp [*]; done)), H', ⟨by have := HK1.out; omega⟩, ⟨by repeat (first | (with_reducible first | exact HB.out | apply below_alloc | apply pw_below_drewN | apply below_drew1) | exact HB.out)⟩⟩
          · replace c5 := Bool.eq_false_iff.mpr c5
            subst c5
            have H1 : (some 1) = some r := by rw [if_neg (show ¬ (false = true) by decide)] at H; exact H
            clear H
            have H := H1
            clear H1
            obtain rfl := Option.some.inj H
            have p503 : 0 ≤ (x3_1 : Int) := of_decide_eq_true (by first | (with_reducible assumption) | assumption)
            have q503 : x3_1 < (l0.length : Int) := of_decide_eq_true (by first | (with_reducible assumption) | assumption)
            obtain ⟨ad503, e503, hx503_0, hx503_1, hx503_2⟩ := at_T137 HR0.out x3_1 p503 q503
            cases e503
            replace hx503_0 := (HB.out.cell (World.block_lt_of_cell? w _ hx503_0)).trans hx503_0
            replace hx503_1 := (HB.out.cell (World.block_lt_of_cell? w _ hx503_1)).trans hx503_1
            replace hx503_2 := (HB.out.cell (World.block_lt_of_cell? w _ hx503_2)).trans hx503_2
            replace p503 := eq_true p503
            replace q503 := eq_true q503
            go_wp2_with (first | ((with_reducible refine gate_callee (f := 142) rfl ?_); refine goesL_ (some 14) rfl rfl Try.func142 (by kernel_rfl) rfl #[.agg #[.int .u8 ((rd_T137 l0 x3_1).f0), .int .i64 ((rd_T137 l0 x3_1).f1), .int .i64 ((rd_T137 l0 x3_1).f2)]] rfl (by (try simp only [List.map_toArray, List.map_cons, List.map_nil]); first | done | rfl | (simp only [List.length_drop, List.length_take]; rfl)) ?_; (with_reducible refine (spec_l29Is.calls ((rd_T137 l0 x3_1).f0) ((rd_T137 l0 x3_1).f1) ((rd_T137 l0 x3_1).f2) false _ A4.out).mono ?_); rintro e w7 ⟨rfl, hb⟩; refine ⟨_, rfl, ?_⟩; have n0_ := Aside0.mk (below_step (by repeat (first | (with_reducible first | exact HB.out | apply below_alloc | apply pw_below_drewN | apply below_drew1) | exact HB.out)) hb); clear HB; have HB := n0_; clear n0_; (try clear hb); (try clear hb2); (try clear hk); (try clear hi)))
            go_ret
            exact ⟨by first | rfl | (simp [errW_none, errW_some] <;> rfl) | (simp [*, errW_none, errW_some] <;> rfl), by repeat (first | (with_reducible first | exact HB.out | apply below_alloc | apply pw_below_drewN | apply below_drew1) | exact HB.out)⟩
        · rw [if_neg c3] at H
          exact absurd H (by simp)
      · rw [if_neg c2] at H
        have c2b0 : decide (x3_1 < (l0.length : Int)) = false := decide_eq_false c2
        clear c2
        by_cases c8 : (l0.length : Int) > 400
        · rw [if_pos c8] at H
          have c8b0 : decide (400 < (l0.length : Int)) = true := decide_eq_true c8
          have c8b1 : decide (400 < l0.length) = true := decide_eq_true (by omega)
          clear c8
          obtain rfl := Option.some.inj H
          go_wp2
          go_ret
          exact ⟨by first | rfl | (simp [errW_none, errW_some] <;> rfl) | (simp [*, errW_none, errW_some] <;> rfl), by repeat (first | (with_reducible first | exact HB.out | apply below_alloc | apply pw_below_drewN | apply below_drew1) | exact HB.out)⟩
        · rw [if_neg c8] at H
          have c8b0 : decide (400 < (l0.length : Int)) = false := decide_eq_false c8
          have c8b1 : decide (400 < l0.length) = false := decide_eq_false (by omega)
          clear c8
          obtain rfl := Option.some.inj H
          go_wp2
          go_ret
          exact ⟨by first | rfl | (simp [errW_none, errW_some] <;> rfl) | (simp [*, errW_none, errW_some] <;> rfl), by repeat (first | (with_reducible first | exact HB.out | apply below_alloc | apply pw_below_drewN | apply below_drew1) | exact HB.out)⟩

end Go.Proofs.Ytgpdjpololkhbaa.F
