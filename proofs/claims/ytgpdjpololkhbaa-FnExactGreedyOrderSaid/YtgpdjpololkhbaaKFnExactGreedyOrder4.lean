/-
  A part of the proof of FnExactGreedyOrder: contracts of the Go functions that it reaches, and plain statements on what they come to; each says its own conditions.
-/
import Derived.Test.YtgpdjpololkhbaaKFnExactGreedyOrder3

namespace Go.Proofs.Ytgpdjpololkhbaa.F
open Go.RowKit Go.Proofs.YtgpdjpololkhbaaW.PrintWords Go.Proofs.YtgpdjpololkhbaaW.PrintLast Go.Proofs.YtgpdjpololkhbaaW.PrintMore
attribute [local go_sem] max2_int min2_int max_two min_two max_three min_three max_four min_four   -- for this text's walks alone
set_option linter.unusedVariables false
set_option linter.unusedSimpArgs false

/-! ### impl_GreedyOrder: function 18 -/
mutual
def impl_GreedyOrder.l0 : Nat → Int → List (S110) → List Bool → List Int → Int → Int → Int → Int → Int → Option (List Int × Int)
  | 0, _, _, _, _, _, _, _, _, _ => none
  | k + 1, x1, x7, x8, x9, x30, x31, x265000, x265001, x265002 => if x31 < x30 then (impl_GreedyOrder.l1 k x1 x7 x8 x9 (-1) 0 x30 x31 x7 (x7.length : Int) 0 x265000 x265001 x265002) else (some (x9, 0))
def impl_GreedyOrder.l1 : Nat → Int → List (S110) → List Bool → List Int → Int → Int → Int → Int → List (S110) → Int → Int → Int → Int → Int → Option (List Int × Int)
  | 0, _, _, _, _, _, _, _, _, _, _, _, _, _, _ => none
  | k + 1, x1, x7, x8, x9, x11, x12, x30, x31, x33, x34, x35, x265000, x265001, x265002 => if x35 < x34 then (if 0 ≤ x35 then (if x35 < (x33.length : Int) then (if 0 ≤ (wrap64 (Int.tdiv x35 2)) then (if (wrap64 (Int.tdiv x35 2)) < (x8.length : Int) then (if rdOf false x8 (wrap64 (Int.tdiv x35 2)) = true then (impl_GreedyOrder.l1 k x1 x7 x8 x9 x11 x12 x30 x31 x33 x34 (wrap64 (x35 + 1)) x265000 x265001 x265002) else ((impl_place_cost.f k x265000 x265001 x265002 ((rd_T110 x33 x35).f0) ((rd_T110 x33 x35).f1) x1).bind fun t276 => (if x11 < 0 then (impl_GreedyOrder.l1 k x1 x7 x8 x9 x35 t276 x30 x31 x33 x34 (wrap64 (x35 + 1)) x265000 x265001 x265002) else (if t276 < x12 then (impl_GreedyOrder.l1 k x1 x7 x8 x9 x35 t276 x30 x31 x33 x34 (wrap64 (x35 + 1)) x265000 x265001 x265002) else (impl_GreedyOrder.l1 k x1 x7 x8 x9 x11 x12 x30 x31 x33 x34 (wrap64 (x35 + 1)) x265000 x265001 x265002))))) else (none)) else (none)) else (none)) else (none)) else (if 0 ≤ (wrap64 (Int.tdiv x11 2)) then (if (wrap64 (Int.tdiv x11 2)) < (x8.length : Int) then (if x9.length < 17592186044416 then (if 0 ≤ x11 then (if x11 < (x7.length : Int) then ((impl_Stroke_last.f ((rd_T110 x7 x11).f0) ((rd_T110 x7 x11).f1)).bind fun bt270 => (impl_GreedyOrder.l0 k x1 x7 (x8.set ((wrap64 (Int.tdiv x11 2)) : Int).toNat true) (x9 ++ [x11]) x30 (wrap64 (x31 + 1)) bt270.1 bt270.2 ((rd_T110 x7 x11).f0))) else (none)) else (none)) else (none)) else (none)) else (none))
end
def impl_GreedyOrder.f (k : Nat) (l0 : List (S110)) (a1 : Int) : Option (List Int × Int) := (impl_changing.f k l0 a1).bind fun t254 => (if t254 = 0 then ((impl_both.f k l0).bind fun t255 => (if 0 ≤ (l0.length : Int) then (if ((l0.length : Int) : Int).toNat ≤ 281474976710656 then (impl_GreedyOrder.l0 k a1 t255 (List.replicate ((l0.length : Int) : Int).toNat false) (([] : List Int)) (l0.length : Int) 0 0 0 0) else (none)) else (none))) else (some (([] : List Int), t254)))
theorem impl_GreedyOrder.mono_l : ∀ k, (∀ y0 y1 y2 y3 y4 y5 y6 y7 y8, LeO (impl_GreedyOrder.l0 k y0 y1 y2 y3 y4 y5 y6 y7 y8) (impl_GreedyOrder.l0 (k + 1) y0 y1 y2 y3 y4 y5 y6 y7 y8)) ∧ (∀ y0 y1 y2 y3 y4 y5 y6 y7 y8 y9 y10 y11 y12 y13, LeO (impl_GreedyOrder.l1 k y0 y1 y2 y3 y4 y5 y6 y7 y8 y9 y10 y11 y12 y13) (impl_GreedyOrder.l1 (k + 1) y0 y1 y2 y3 y4 y5 y6 y7 y8 y9 y10 y11 y12 y13))
  | 0 => ⟨fun _ _ _ _ _ _ _ _ _ r h => by simp [impl_GreedyOrder.l0] at h, fun _ _ _ _ _ _ _ _ _ _ _ _ _ _ r h => by simp [impl_GreedyOrder.l1] at h⟩
  | k + 1 => by
    obtain ⟨ih0, ih1⟩ := impl_GreedyOrder.mono_l k
    refine ⟨?_, ?_⟩
    · intro y0 y1 y2 y3 y4 y5 y6 y7 y8
      unfold impl_GreedyOrder.l0
      repeat' first
      | (with_reducible exact ih0 _ _ _ _ _ _ _ _ _)
      | (with_reducible exact ih1 _ _ _ _ _ _ _ _ _ _ _ _ _ _)
      | (with_reducible exact impl_both.mono _ _)
      | (with_reducible exact impl_changing.mono _ _ _)
      | (with_reducible exact impl_place_cost.mono _ _ _ _ _ _ _)
      | (with_reducible exact LeO.refl _)
      | (with_reducible exact LeO.none _)
      | (with_reducible refine LeO.ite ?_ ?_)
      | (with_reducible refine LeO.bind ?_ (fun _ => ?_))
      | exact ih0 _ _ _ _ _ _ _ _ _
      | exact ih1 _ _ _ _ _ _ _ _ _ _ _ _ _ _
      | exact impl_both.mono _ _
      | exact impl_changing.mono _ _ _
      | exact impl_place_cost.mono _ _ _ _ _ _ _
      | exact LeO.none _
      | refine LeO.ite ?_ ?_
      | refine LeO.bind ?_ (fun _ => ?_)
    · intro y0 y1 y2 y3 y4 y5 y6 y7 y8 y9 y10 y11 y12 y13
      unfold impl_GreedyOrder.l1
      repeat' first
      | (with_reducible exact ih0 _ _ _ _ _ _ _ _ _)
      | (with_reducible exact ih1 _ _ _ _ _ _ _ _ _ _ _ _ _ _)
      | (with_reducible exact impl_both.mono _ _)
      | (with_reducible exact impl_changing.mono _ _ _)
      | (with_reducible exact impl_place_cost.mono _ _ _ _ _ _ _)
      | (with_reducible exact LeO.refl _)
      | (with_reducible exact LeO.none _)
      | (with_reducible refine LeO.ite ?_ ?_)
      | (with_reducible refine LeO.bind ?_ (fun _ => ?_))
      | exact ih0 _ _ _ _ _ _ _ _ _
      | exact ih1 _ _ _ _ _ _ _ _ _ _ _ _ _ _
      | exact impl_both.mono _ _
      | exact impl_changing.mono _ _ _
      | exact impl_place_cost.mono _ _ _ _ _ _ _
      | exact LeO.none _
      | refine LeO.ite ?_ ?_
      | refine LeO.bind ?_ (fun _ => ?_)
theorem impl_GreedyOrder.mono : ∀ a0 a1 k, LeO (impl_GreedyOrder.f k a0 a1) (impl_GreedyOrder.f (k + 1) a0 a1) := by
  intro a0 a1 k
  obtain ⟨ih0, ih1⟩ := impl_GreedyOrder.mono_l k
  unfold impl_GreedyOrder.f
  repeat' first
      | (with_reducible exact ih0 _ _ _ _ _ _ _ _ _)
      | (with_reducible exact ih1 _ _ _ _ _ _ _ _ _ _ _ _ _ _)
      | (with_reducible exact impl_both.mono _ _)
      | (with_reducible exact impl_changing.mono _ _ _)
      | (with_reducible exact impl_place_cost.mono _ _ _ _ _ _ _)
      | (with_reducible exact LeO.refl _)
      | (with_reducible exact LeO.none _)
      | (with_reducible refine LeO.ite ?_ ?_)
      | (with_reducible refine LeO.bind ?_ (fun _ => ?_))
      | exact ih0 _ _ _ _ _ _ _ _ _
      | exact ih1 _ _ _ _ _ _ _ _ _ _ _ _ _ _
      | exact impl_both.mono _ _
      | exact impl_changing.mono _ _ _
      | exact impl_place_cost.mono _ _ _ _ _ _ _
      | exact LeO.none _
      | refine LeO.ite ?_ ?_
      | refine LeO.bind ?_ (fun _ => ?_)
def impl_GreedyOrder.T19 : Bool × List (List Nat × List Nat) := (true, [([], []), ([], []), ([0, 1], [0, 1]), ([2], [2]), ([3], [3]), ([], []), ([], []), ([5, 6], [5, 6]), ([7], [7]), ([8], [8]), ([4, 9], [4, 9]), ([10, 4, 0, 1, 2, 3, 4, 5, 6, 7, 8, 9, 10], [10])])
def impl_GreedyOrder.B19 : List Nat := [0, 0, 3, 7, 15, 0, 0, 96, 224, 480, 1023, 2047]
theorem impl_GreedyOrder.tab19 : rtab .any (opsOf Try.f18 19) = impl_GreedyOrder.T19 := by kernel_rfl
theorem impl_GreedyOrder.bits19 : waitsOk impl_GreedyOrder.T19.2 impl_GreedyOrder.B19 = true := by kernel_rfl
set_option maxHeartbeats 8000000 in
set_option maxRecDepth 100000 in
theorem impl_GreedyOrder.calls (k : Nat) (A0 : Option Addr) (c0 : Nat) (l0 : List (S110)) (a1 : Int) (r1 : List Int) (r2 : Int) (w : World) (hr0 : Kd.C k110 w A0 l0.length l0) (hc0 : l0.length ≤ c0) (h : impl_GreedyOrder.f k l0 a1 = some (r1, r2)) :
    Calls Try.prog 18 #[.slice A0 l0.length c0, .int .i64 a1] w fun e w' => ∃ v0_ : Value, e = .returned (.tuple #[v0_, .int .i64 r2]) ∧ Kd.R (Kd.int .i64) 2 w' w.heap.size (fun _ => True) v0_ r1 ∧ Below w.heap.size w w' := by
  have hu119 := Try.underlying119
  have hu110 := Try.underlying110
  have HR0 := Aside0.mk hr0
  have HC0 := Aside0.mk hc0
  clear hr0 hc0
  have HB := Aside0.mk (Below.refl w.heap.size w)
  have H : ((impl_changing.f k l0 a1).bind fun t254 => (if t254 = 0 then ((impl_both.f k l0).bind fun t255 => (if 0 ≤ (l0.length : Int) then (if ((l0.length : Int) : Int).toNat ≤ 281474976710656 then (impl_GreedyOrder.l0 k a1 t255 (List.replicate ((l0.length : Int) : Int).toNat false) (([] : List Int)) (l0.length : Int) 0 0 0 0) else (none)) else (none))) else (some (([] : List Int), t254)))) = some (r1, r2) := h
  clear h
  replace H := Option.bind_eq_some_iff.mp H
  obtain ⟨t254, A30, H⟩ := H
  replace H : (if t254 = 0 then ((impl_both.f k l0).bind fun t255 => (if 0 ≤ (l0.length : Int) then (if ((l0.length : Int) : Int).toNat ≤ 281474976710656 then (impl_GreedyOrder.l0 k a1 t255 (List.replicate ((l0.length : Int) : Int).toNat false) (([] : List Int)) (l0.length : Int) 0 0 0 0) else (none)) else (none))) else (some (([] : List Int), t254))) = some (r1, r2) := H
  have A3 := Aside0.mk A30
  clear A30
  by_cases c4 : t254 = 0
  · rw [if_pos c4] at H
    have c4b0 : (t254 == 0) = true := beq_iff_eq.mpr c4
    have c4b1 : (t254 != 0) = false := bne_eq_false_iff_eq.mpr c4
    clear c4
    replace H := Option.bind_eq_some_iff.mp H
    obtain ⟨t255, A50, H⟩ := H
    replace H : (if 0 ≤ (l0.length : Int) then (if ((l0.length : Int) : Int).toNat ≤ 281474976710656 then (impl_GreedyOrder.l0 k a1 t255 (List.replicate ((l0.length : Int) : Int).toNat false) (([] : List Int)) (l0.length : Int) 0 0 0 0) else (none)) else (none)) = some (r1, r2) := H
    have A5 := Aside0.mk A50
    clear A50
    by_cases c6 : 0 ≤ (l0.length : Int)
    · rw [if_pos c6] at H
      have c6b0 := eq_true c6
      have c6b1 : decide (0 ≤ (l0.length : Int)) = true := decide_eq_true c6
      clear c6
      by_cases c7 : ((l0.length : Int) : Int).toNat ≤ 281474976710656
      · rw [if_pos c7] at H
        have c7b0 := eq_true c7
        have c7b1 : decide (((l0.length : Int) : Int).toNat ≤ 281474976710656) = true := decide_eq_true c7
        clear c7
        obtain ⟨y258, hy258⟩ : ∃ y_ : List Bool, y_ = (List.replicate ((l0.length : Int) : Int).toNat false) := ⟨_, rfl⟩
        replace H : (impl_GreedyOrder.l0 k a1 t255 y258 (([] : List Int)) (l0.length : Int) 0 0 0 0) = some (r1, r2) := by first | (rw [hy258]; with_reducible exact H) | (have H2_ := (Option.bind_some _ _).symm.trans H; rw [hy258]; with_reducible exact H2_) | (have H2_ := (Option.bind_some _ _).symm.trans H; with_reducible exact H2_) | with_reducible exact H | (rw [hy258]; exact H) | exact H
        have Ny258 := Aside0.mk hy258
        clear hy258
        obtain ⟨y261, hy261⟩ : ∃ y_ : List Int, y_ = (([] : List Int)) := ⟨_, rfl⟩
        replace H : (impl_GreedyOrder.l0 k a1 t255 y258 y261 (l0.length : Int) 0 0 0 0) = some (r1, r2) := by first | (rw [hy261]; with_reducible exact H) | (have H2_ := (Option.bind_some _ _).symm.trans H; rw [hy261]; with_reducible exact H2_) | (have H2_ := (Option.bind_some _ _).symm.trans H; with_reducible exact H2_) | with_reducible exact H | (rw [hy261]; exact H) | exact H
        have Ny261 := Aside0.mk hy261
        clear hy261
        have H' := Aside0.mk H
        clear H
        go_enter Try.func18, Try.ntmps18
        try go_wp2_with (first | ((with_reducible refine gate_callee (f := 75) rfl ?_); refine goesL_ (some 18) rfl rfl Try.func75 (by kernel_rfl) rfl #[.slice A0 l0.length c0, .int .i64 a1] rfl (by (try simp only [List.map_toArray, List.map_cons, List.map_nil]); first | done | rfl | (simp only [List.length_drop, List.length_take]; rfl)) ?_; (with_reducible refine (impl_changing.calls k _ _ l0 a1 t254 _ ?side1 ?side2 A3.out).mono ?_); (case side1 => repeat (first | exact HR0.out | (with_reducible refine Kd.C_alloc ?_ _) | (with_reducible refine Kd.C_drewN ?_ _) | (with_reducible refine Kd.C_drew ?_))); (case side2 => exact HC0.out); rintro e w8 ⟨rfl, hb⟩; refine ⟨_, rfl, ?_⟩; have n0_ := Aside0.mk (below_step (by repeat (first | (with_reducible first | exact HB.out | apply below_alloc | apply pw_below_drewN | apply below_drew1) | exact HB.out)) hb); clear HB; have HB := n0_; clear n0_; (try clear hb); (try clear hb2); (try clear hk); (try clear hi)))
        have n0_ := Aside0.mk (below_drew1 HB.out)
        clear HB
        have HB := n0_
        clear n0_
        refine start_ (n := 7) (S := fun w' => True) (ds := []) #[false, false, false, false, false, false, false] (by kernel_rfl) rfl rfl trivial (fun hHeld => ?_)
        generalize w8.drew = w9 at HB hHeld ⊢
        refine pure_ (i := 0) (N := some 22) (v := ?_) (a' := ?_) #[true, false, false, false, false, false, false] rfl rfl (by kernel_rfl) (fun _ _ _ h => h) (Or.inl ⟨by rfl, ?_⟩) ?_ ?_
        rotate_left
        · intro w'
          go_simp
          with_reducible rfl
        rotate_left
        · simp only [Act.put, List.setIfInBounds_toArray, List.set_cons_zero, List.set_cons_succ, i64_w, i32_w]
          rfl
        refine pure_ (i := 2) (N := some 24) (v := ?_) (a' := ?_) #[true, false, true, false, false, false, false] rfl rfl (by kernel_rfl) (fun _ _ _ h => h) (Or.inl ⟨by rfl, ?_⟩) ?_ ?_
        rotate_left
        · intro w'
          go_simp
          with_reducible rfl
        rotate_left
        · simp only [Act.put, List.setIfInBounds_toArray, List.set_cons_zero, List.set_cons_succ, i64_w, i32_w]
          rfl
        refine pure_ (i := 3) (N := some 25) (v := ?_) (a' := ?_) #[true, false, true, true, false, false, false] rfl rfl (by kernel_rfl) (fun _ _ _ h => h) (Or.inl ⟨by rfl, ?_⟩) ?_ ?_
        rotate_left
        · intro w'
          go_simp
          with_reducible rfl
        rotate_left
        · simp only [Act.put, List.setIfInBounds_toArray, List.set_cons_zero, List.set_cons_succ, i64_w, i32_w]
          rfl
        refine join_ (σ := Value × Value) 1 #[true, true, true, true, true, true, false] (fun s_ => [(23, s_.1), (26, s_.2), (7, s_.1)]) (fun s_ w' => (Kd.N k110 110 w' w.heap.size (fun k_ => some k_ ≠ (s_.2 : Value).ownBlock) s_.1 t255) ∧ (Kd.R Kd.bool 4 w' w.heap.size (fun _ => True) s_.2 y258) ∧ (Below w.heap.size w w')) ?_ ?_
        rotate_left
        · intro hCont
          refine two_ (i := 1) (j := 4) (Ni := some 23) (Nj := some 26) #[true, true, true, true, false, false, false] #[true, false, true, true, true, false, false] rfl rfl rfl rfl (by kernel_rfl) (by decide) (by decide) (fun K hK => ?_) (fun K hK => ?_)
          · skip
            refine goes_ Try.func76 (by kernel_rfl) rfl #[.slice A0 l0.length c0] (by rfl) rfl rfl (by (try simp only [List.map_toArray, List.map_cons, List.map_nil]); first | done | rfl | (simp only [List.length_drop, List.length_take]; rfl)) ?_
            with_reducible refine (impl_both.calls k (fun k_ => k_ < w.heap.size) _ _ l0 t255 _ ?side1 A5.out).mono ?_
            (case side1 => exact Kd.V_mk HC0.out (Kd.F_below (Kd.C_F k110_heap HR0.out) (by repeat (first | (with_reducible first | exact HB.out | apply below_alloc | apply pw_below_drewN | apply below_drew1) | exact HB.out))))
            rintro e w10 ⟨v256, rfl, ho0, hb⟩
            refine ⟨_, rfl, ?_⟩
            have n0_ := Aside0.mk (Kd.N_lower (Kd.N_mono (ok' := fun k_ => True) ho0 (fun k_ hk_ => trivial)) (below_size (by repeat (first | (with_reducible first | exact HB.out | apply below_alloc | apply pw_below_drewN | apply below_drew1) | exact HB.out))))
            have n1_ := Aside0.mk (below_step (by repeat (first | (with_reducible first | exact HB.out | apply below_alloc | apply pw_below_drewN | apply below_drew1) | exact HB.out)) hb)
            clear HB
            have HO257 := n0_
            have HB := n1_
            clear n0_ n1_
            (try clear hb)
            (try clear hb2)
            (try clear hk)
            (try clear hi)
            (try clear ho0)
            refine hK.out _ _ trivial (fun hHeld => ?_)
            clear hK K
            refine norm_ (a' := ?_) ?_ ?_
            rotate_left
            · show Act.put _ (some 23) _ = _
              simp only [Act.put, List.setIfInBounds_toArray, List.set_cons_zero, List.set_cons_succ, i64_w, i32_w]
              rfl
            refine pure_ (i := 5) (N := some 7) (v := ?_) (a' := ?_) #[true, true, true, true, false, true, false] rfl rfl (by kernel_rfl) (fun _ _ _ h => h) (Or.inl ⟨by rfl, ?_⟩) ?_ ?_
            rotate_left
            · intro w'
              go_simp
              with_reducible rfl
            rotate_left
            · simp only [Act.put, List.setIfInBounds_toArray, List.set_cons_zero, List.set_cons_succ, i64_w, i32_w]
              rfl
            refine one_ (i := 4) (N := some 26) #[true, true, true, true, true, true, false] rfl rfl (by kernel_rfl) (by decide) (fun K hK => ?_)
            refine Kd.R_make_step Kd.bool _ 4 (by rfl) (N := 26) rfl 117 _ _ rfl (l0.length : Int) rfl rfl Try.underlying117 (.bool false) 1 info4 rfl (by decide) (by omega) false (ok := fun _ => True) (okp := fun _ => True) rfl (fun _ hk => hk) trivial (of_decide_eq_true (by first | (with_reducible assumption) | assumption)) (Nat.le_trans (Nat.mul_le_mul_right _ (of_decide_eq_true (by first | (with_reducible assumption) | assumption) : (l0.length : Int).toNat ≤ 281474976710656)) (by omega)) (Below.refl _ _) (Nat.le_refl _) ?_
            intro v259 w11 ho12 hb hg_ hnew_
            clear hg_ hnew_
            (first | rw [← Ny258.out] at ho12 | (simp only [Int.reduceToNat] at ho12; rw [← Ny258.out] at ho12))
            have n0_ := Aside0.mk (Kd.N_elder' (by (with_reducible repeat (first | apply Kd.N_alloc | apply Kd.N_drewN | apply Kd.N_drew)); exact HO257.out) (Kd.R_base ho12) hb)
            have n1_ := Aside0.mk (Kd.R_lower ho12 (below_size (by repeat (first | (with_reducible first | exact HB.out | apply below_alloc | apply pw_below_drewN | apply below_drew1) | exact HB.out))))
            have n2_ := Aside0.mk (below_step (by repeat (first | (with_reducible first | exact HB.out | apply below_alloc | apply pw_below_drewN | apply below_drew1) | exact HB.out)) hb)
            clear HO257
            clear HB
            have HO257 := n0_
            have HO260 := n1_
            have HB := n2_
            clear n0_ n1_ n2_
            clear hb ho12
            refine hK.out _ _ trivial (fun hHeld => ?_)
            clear hK K
            refine norm_ (a' := ?_) ?_ ?_
            rotate_left
            · show Act.put _ (some 26) _ = _
              simp only [Act.put, List.setIfInBounds_toArray, List.set_cons_zero, List.set_cons_succ, i64_w, i32_w]
              rfl
            exact norm_ (by simp only [putAll, Act.put, List.setIfInBounds_toArray, List.set_cons_zero, List.set_cons_succ]) (hCont (v256, v259) _ ⟨(by (with_reducible repeat (first | apply Kd.N_alloc | apply Kd.N_drewN | apply Kd.N_drew)); exact Kd.N_mono HO257.out (fun _ hk => hk.2)), (by (with_reducible repeat (first | apply Kd.R_alloc | apply Kd.R_drewN | apply Kd.R_drew)); exact HO260.out), (by repeat (first | (with_reducible first | exact HB.out | apply below_alloc | apply pw_below_drewN | apply below_drew1) | exact HB.out))⟩)
          · skip
            refine Kd.R_make_step Kd.bool _ 4 (by rfl) (N := 26) rfl 117 _ _ rfl (l0.length : Int) rfl rfl Try.underlying117 (.bool false) 1 info4 rfl (by decide) (by omega) false (ok := fun _ => True) (okp := fun _ => True) rfl (fun _ hk => hk) trivial (of_decide_eq_true (by first | (with_reducible assumption) | assumption)) (Nat.le_trans (Nat.mul_le_mul_right _ (of_decide_eq_true (by first | (with_reducible assumption) | assumption) : (l0.length : Int).toNat ≤ 281474976710656)) (by omega)) (Below.refl _ _) (Nat.le_refl _) ?_
            intro v259 w10 ho11 hb hg_ hnew_
            clear hg_ hnew_
            (first | rw [← Ny258.out] at ho11 | (simp only [Int.reduceToNat] at ho11; rw [← Ny258.out] at ho11))
            have n0_ := Aside0.mk (Kd.R_lower ho11 (below_size (by repeat (first | (with_reducible first | exact HB.out | apply below_alloc | apply pw_below_drewN | apply below_drew1) | exact HB.out))))
            have n1_ := Aside0.mk (below_step (by repeat (first | (with_reducible first | exact HB.out | apply below_alloc | apply pw_below_drewN | apply below_drew1) | exact HB.out)) hb)
            clear HB
            have HO260 := n0_
            have HB := n1_
            clear n0_ n1_
            clear hb ho11
            refine hK.out _ _ trivial (fun hHeld => ?_)
            clear hK K
            refine norm_ (a' := ?_) ?_ ?_
            rotate_left
            · show Act.put _ (some 26) _ = _
              simp only [Act.put, List.setIfInBounds_toArray, List.set_cons_zero, List.set_cons_succ, i64_w, i32_w]
              rfl
            refine one_ (i := 1) (N := some 23) #[true, true, true, true, true, false, false] rfl rfl (by kernel_rfl) (by decide) (fun K hK => ?_)
            refine goes_ Try.func76 (by kernel_rfl) rfl #[.slice A0 l0.length c0] (by rfl) rfl rfl (by (try simp only [List.map_toArray, List.map_cons, List.map_nil]); first | done | rfl | (simp only [List.length_drop, List.length_take]; rfl)) ?_
            with_reducible refine (impl_both.calls k (fun k_ => k_ < w.heap.size) _ _ l0 t255 _ ?side1 A5.out).mono ?_
            (case side1 => exact Kd.V_mk HC0.out (Kd.F_below (Kd.C_F k110_heap HR0.out) (by repeat (first | (with_reducible first | exact HB.out | apply below_alloc | apply pw_below_drewN | apply below_drew1) | exact HB.out))))
            rintro e w12 ⟨v256, rfl, ho0, hb⟩
            refine ⟨_, rfl, ?_⟩
            have n0_ := Aside0.mk (Kd.R_below (by (with_reducible repeat (first | apply Kd.R_alloc | apply Kd.R_drewN | apply Kd.R_drew)); exact HO260.out) hb)
            have n1_ := Aside0.mk (Kd.N_lower (Kd.N_mono (ok' := fun k_ => some k_ ≠ (v259 : Value).ownBlock) ho0 (fun k_ hk_ => Or.elim hk_ (fun hs_ => fun e_ => Nat.not_le.2 hs_ (Kd.R_base HO260.out k_ e_.symm)) (fun hn_ => (Kd.fresh' (Kd.R_lt (by (with_reducible repeat (first | apply Kd.R_alloc | apply Kd.R_drewN | apply Kd.R_drew)); exact HO260.out)) k_ hn_)))) (below_size (by repeat (first | (with_reducible first | exact HB.out | apply below_alloc | apply pw_below_drewN | apply below_drew1) | exact HB.out))))
            have n2_ := Aside0.mk (below_step (by repeat (first | (with_reducible first | exact HB.out | apply below_alloc | apply pw_below_drewN | apply below_drew1) | exact HB.out)) hb)
            clear HO260
            clear HB
            have HO260 := n0_
            have HO257 := n1_
            have HB := n2_
            clear n0_ n1_ n2_
            (try clear hb)
            (try clear hb2)
            (try clear hk)
            (try clear hi)
            (try clear ho0)
            refine hK.out _ _ trivial (fun hHeld => ?_)
            clear hK K
            refine norm_ (a' := ?_) ?_ ?_
            rotate_left
            · show Act.put _ (some 23) _ = _
              simp only [Act.put, List.setIfInBounds_toArray, List.set_cons_zero, List.set_cons_succ, i64_w, i32_w]
              rfl
            refine pure_ (i := 5) (N := some 7) (v := ?_) (a' := ?_) #[true, true, true, true, true, true, false] rfl rfl (by kernel_rfl) (fun _ _ _ h => h) (Or.inl ⟨by rfl, ?_⟩) ?_ ?_
            rotate_left
            · intro w'
              go_simp
              with_reducible rfl
            rotate_left
            · simp only [Act.put, List.setIfInBounds_toArray, List.set_cons_zero, List.set_cons_succ, i64_w, i32_w]
              rfl
            exact norm_ (by simp only [putAll, Act.put, List.setIfInBounds_toArray, List.set_cons_zero, List.set_cons_succ]) (hCont (v256, v259) _ ⟨(by (with_reducible repeat (first | apply Kd.N_alloc | apply Kd.N_drewN | apply Kd.N_drew)); exact HO257.out), (by (with_reducible repeat (first | apply Kd.R_alloc | apply Kd.R_drewN | apply Kd.R_drew)); exact HO260.out), (by repeat (first | (with_reducible first | exact HB.out | apply below_alloc | apply pw_below_drewN | apply below_drew1) | exact HB.out))⟩)
        rintro ⟨v256, v259⟩ w13 ⟨h0_, h1_, h2_⟩
        have n0_ : Aside0 (Kd.N k110 110 w13 w.heap.size (fun k_ => some k_ ≠ (v259 : Value).ownBlock) v256 t255) := ⟨h0_⟩
        have n1_ : Aside0 (Kd.R Kd.bool 4 w13 w.heap.size (fun _ => True) v259 y258) := ⟨h1_⟩
        have n2_ : Aside0 (Below w.heap.size w w13) := ⟨h2_⟩
        clear HB
        clear h0_ h1_ h2_
        have HO257 := n0_
        have HO260 := n1_
        have HB := n2_
        clear n0_ n1_ n2_
        have hHeld := trivial
        refine norm_ (a' := ?_) ?_ ?_
        rotate_left
        · simp only [putAll, Act.put, List.setIfInBounds_toArray, List.set_cons_zero, List.set_cons_succ]
          rfl
        refine pure_ (i := 6) (N := some 8) (v := ?_) (a' := ?_) #[true, true, true, true, true, true, true] rfl rfl (by kernel_rfl) (fun _ _ _ h => h) (Or.inl ⟨by rfl, ?_⟩) ?_ ?_
        rotate_left
        · intro w'
          go_simp
          with_reducible rfl
        rotate_left
        · simp only [Act.put, List.setIfInBounds_toArray, List.set_cons_zero, List.set_cons_succ, i64_w, i32_w]
          rfl
        refine done_ (by kernel_rfl) ?_
        try go_wp2_with (first | ((with_reducible refine gate_dst (N := 27) rfl ?_); refine Kd.R_lit (Kd.int .i64) _ 2 ?hg (N := 27) ?hd (xs := ([] : List Int)) (inner := []) (ok := fun _ => True) (okp := fun _ => True) ?hr ?hp (fun _ hk => hk) trivial (Below.refl _ _) (Nat.le_refl _) (by simp) ?_; (case hd => rfl); (case hg => rfl); (case hr => first | (go_simp; done) | (go_simp; rfl)); (case hp => exact (Reps.none _ _)); intro v262 w14 ho15 hb hg_ hnew_; clear hg_ hnew_; (first | rw [← Ny261.out] at ho15 | (simp only [Int.reduceToNat] at ho15; rw [← Ny261.out] at ho15)); have n0_ := Aside0.mk (Kd.N_elder' (by (with_reducible repeat (first | apply Kd.N_alloc | apply Kd.N_drewN | apply Kd.N_drew)); exact HO257.out) (Kd.R_base ho15) hb); have n1_ := Aside0.mk (Kd.R_below (by (with_reducible repeat (first | apply Kd.R_alloc | apply Kd.R_drewN | apply Kd.R_drew)); exact HO260.out) hb); have n2_ := Aside0.mk (Kd.R_lower ho15 (below_size (by repeat (first | (with_reducible first | exact HB.out | apply below_alloc | apply pw_below_drewN | apply below_drew1) | exact HB.out)))); have n3_ := Aside0.mk (below_step (by repeat (first | (with_reducible first | exact HB.out | apply below_alloc | apply pw_below_drewN | apply below_drew1) | exact HB.out)) hb); clear HO257; clear HO260; clear HB; have HO257 := n0_; have HO260 := n1_; have HO263 := n2_; have HB := n3_; clear n0_ n1_ n2_ n3_; clear hb ho15) | ((with_reducible refine gate_dst (N := 10) rfl ?_); refine box_event ?hg (N := 10) ?hd (cs := #[.int .i64 0, .int .i64 0, .int .i64 0]) (t := 119) ?hr ?_; (case hd => rfl); (case hg => rfl); (case hr => first | (go_simp; done) | (go_simp; rfl)); intro gb264 hg w16 hbox hb; have n0_ := Aside0.mk (Kd.N_below (Kd.N_elderB (by (with_reducible repeat (first | apply Kd.N_alloc | apply Kd.N_drewN | apply Kd.N_drew)); exact HO257.out) gb264 (Nat.le_of_eq hg.symm)) hb); have n1_ := Aside0.mk (Kd.R_below (by (with_reducible repeat (first | apply Kd.R_alloc | apply Kd.R_drewN | apply Kd.R_drew)); exact HO260.out) hb); have n2_ := Aside0.mk (Kd.R_below (by (with_reducible repeat (first | apply Kd.R_alloc | apply Kd.R_drewN | apply Kd.R_drew)); exact HO263.out) hb); have n3_ := Aside0.mk (below_step (by repeat (first | (with_reducible first | exact HB.out | apply below_alloc | apply pw_below_drewN | apply below_drew1) | exact HB.out)) hb); have n4_ := Aside0.mk (hbox); have n5_ := Aside0.mk ((by rw [hg]; exact (below_size (by repeat (first | (with_reducible first | exact HB.out | apply below_alloc | apply pw_below_drewN | apply below_drew1) | exact HB.out))) : w.heap.size ≤ gb264)); have n6_ := Aside0.mk ((by rw [hg]; exact (below_size (by repeat (first | (with_reducible first | exact HB.out | apply below_alloc | apply pw_below_drewN | apply below_drew1) | exact HB.out))) : w.heap.size ≤ gb264)); clear HO257; clear HO260; clear HO263; clear HB; have HO257 := n0_; have HO260 := n1_; have HO263 := n2_; have HB := n3_; have BK264 := n4_; have GW264 := n5_; have GE264 := n6_; clear n0_ n1_ n2_ n3_ n4_ n5_ n6_; clear hb hbox hg; have hcz17_0 : w16.cell? ⟨gb264, 0, none⟩ = some (.int .i64 0) := (blk_cell BK264.out 0).trans rfl; have hcz17_1 : w16.cell? ⟨gb264, 1, none⟩ = some (.int .i64 0) := (blk_cell BK264.out 1).trans rfl; have hcz17_2 : w16.cell? ⟨gb264, 2, none⟩ = some (.int .i64 0) := (blk_cell BK264.out 2).trans rfl; have hfz17_0 := blk_frozen BK264.out 0; have hfz17_1 := blk_frozen BK264.out 1; have hfz17_2 := blk_frozen BK264.out 2))
        go_loopg [9, 31] k (fun kq v9 v31 w' => ∃ (x8_1 : List Bool) (x9_1 : List Int) (x31_1 : Int) (x265000_1 : Int) (x265001_1 : Int) (x265002_1 : Int), v31 = .int .i64 x31_1 ∧ Aside0 (impl_GreedyOrder.l0 kq a1 t255 x8_1 x9_1 (l0.length : Int) x31_1 x265000_1 x265001_1 x265002_1 = some (r1, r2)) ∧ Aside0 (kq ≤ k) ∧ Aside0 (Kd.N k110 110 w' w.heap.size (fun k_ => some k_ ≠ (v259 : Value).ownBlock ∧ some k_ ≠ (v9 : Value).ownBlock ∧ k_ ≠ gb264) v256 t255) ∧ Aside0 (Kd.R Kd.bool 4 w' w.heap.size (fun _ => True) v259 x8_1) ∧ Aside0 (Kd.R (Kd.int .i64) 2 w' w.heap.size (fun _ => True) v9 x9_1) ∧ Aside0 (w'.heap[gb264]? = some (.cells #[.int .i64 x265000_1, .int .i64 x265001_1, .int .i64 x265002_1] 119 (0, 0))) ∧ Aside0 (Below w.heap.size w w'))
        case atStart => exact ⟨(y258), (y261), (0), (0), (0), (0), (by first | rfl | (simp; done) | (simp [*]; done)), H', ⟨Nat.le_refl _⟩, ⟨by (with_reducible repeat (first | apply Kd.N_alloc | apply Kd.N_drewN | apply Kd.N_drew)); exact Kd.N_mono (Kd.N_far (p := ⟨gb264, 2, none⟩) (Kd.N_far (p := ⟨gb264, 1, none⟩) (Kd.N_far (p := ⟨gb264, 0, none⟩) (Kd.N_mono HO257.out (fun k_ hk => (⟨hk, hk.2⟩ : _ ∧ k_ ≠ gb264))) (fun _ hk => hk.2) (.int .i64 0)) (fun _ hk => hk.2) (.int .i64 0)) (fun _ hk => hk.2) (.int .i64 0)) (fun _ hk => ⟨hk.1.1.1, ⟨hk.1.1.2, hk.1.2⟩⟩)⟩, ⟨by (with_reducible repeat (first | apply Kd.R_alloc | apply Kd.R_drewN | apply Kd.R_drew)); exact Kd.R_mono (Kd.R_far (p := ⟨gb264, 2, none⟩) (Kd.R_far (p := ⟨gb264, 1, none⟩) (Kd.R_far (p := ⟨gb264, 0, none⟩) (Kd.R_types HO260.out BK264.out (by decide)) (fun _ hk => hk.2) (.int .i64 0)) (fun _ hk => hk.2) (.int .i64 0)) (fun _ hk => hk.2) (.int .i64 0)) (fun _ hk => trivial)⟩, ⟨by (with_reducible repeat (first | apply Kd.R_alloc | apply Kd.R_drewN | apply Kd.R_drew)); exact Kd.R_mono (Kd.R_far (p := ⟨gb264, 2, none⟩) (Kd.R_far (p := ⟨gb264, 1, none⟩) (Kd.R_far (p := ⟨gb264, 0, none⟩) (Kd.R_types HO263.out BK264.out (by decide)) (fun _ hk => hk.2) (.int .i64 0)) (fun _ hk => hk.2) (.int .i64 0)) (fun _ hk => hk.2) (.int .i64 0)) (fun _ hk => trivial)⟩, ⟨by (with_reducible repeat (first | refine blk_drewN ?_ _ | refine blk_drew ?_ | refine blk_alloc ?_ _)); refine blk_put (cs := #[.int .i64 0, .int .i64 0, .int .i64 0]) ?_ 2 _ rfl; (with_reducible repeat (first | refine blk_drewN ?_ _ | refine blk_drew ?_ | refine blk_alloc ?_ _)); refine blk_put (cs := #[.int .i64 0, .int .i64 0, .int .i64 0]) ?_ 1 _ rfl; (with_reducible repeat (first | refine blk_drewN ?_ _ | refine blk_drew ?_ | refine blk_alloc ?_ _)); refine blk_put (cs := #[.int .i64 0, .int .i64 0, .int .i64 0]) ?_ 0 _ rfl; (with_reducible repeat (first | refine blk_drewN ?_ _ | refine blk_drew ?_ | refine blk_alloc ?_ _)); exact BK264.out⟩, ⟨by repeat (first | (with_reducible first | exact HB.out | apply below_alloc | apply pw_below_drewN | apply below_drew1 | refine below_set ?_ GE264.out) | exact HB.out)⟩⟩
        case round =>
          clear H'
          try clear c1
          try clear p2
          try clear c4
          try clear c4b0
          try clear c4b1
          try clear c6
          try clear c6b0
          try clear c6b1
          try clear c7
          try clear c7b0
          try clear c7b1
          try clear hcz17_0
          try clear hcz17_1
          try clear hcz17_2
          try clear hfz17_0
          try clear hfz17_1
          try clear hfz17_2
          obtain ⟨x8_1, x9_1, x31_1, x265000_1, x265001_1, x265002_1, rfl, HA, HK1, HO_7, HO_8, HO_9, BK264, HB⟩ := hrel
          cases gk with
          | zero => exact absurd HA.out (by simp [impl_GreedyOrder.l0])
          | succ k1 =>
            have H := HA.out
            clear HA
            simp only [impl_GreedyOrder.l0] at H
            by_cases c18 : x31_1 < (l0.length : Int)
            · rw [if_pos c18] at H
              have c18b0 : decide (x31_1 < (l0.length : Int)) = true := decide_eq_true c18
              clear c18
              have H' := Aside0.mk H
              clear H
              obtain ⟨Ao19, co19, eo19⟩ := Kd.N_slice HO_7.out
              subst eo19
              go_wp2
              go_loopg [11, 12, 35] k1 (fun kq v11 v12 v35 w' => ∃ (x11_2 : Int) (x12_2 : Int) (x35_2 : Int), v11 = .int .i64 x11_2 ∧ v12 = .int .i64 x12_2 ∧ v35 = .int .i64 x35_2 ∧ Aside0 (impl_GreedyOrder.l1 kq a1 t255 x8_1 x9_1 x11_2 x12_2 (l0.length : Int) x31_1 t255 (t255.length : Int) x35_2 x265000_1 x265001_1 x265002_1 = some (r1, r2)) ∧ Aside0 (kq ≤ k1) ∧ Aside0 (Kd.N k110 110 w' w.heap.size (fun k_ => some k_ ≠ (v259 : Value).ownBlock ∧ some k_ ≠ (u9 : Value).ownBlock ∧ k_ ≠ gb264) (.slice Ao19 t255.length co19) t255) ∧ Aside0 (Kd.R Kd.bool 4 w' w.heap.size (fun _ => True) v259 x8_1) ∧ Aside0 (Kd.R (Kd.int .i64) 2 w' w.heap.size (fun _ => True) u9 x9_1) ∧ Aside0 (Kd.N k110 110 w' w.heap.size (fun k_ => some k_ ≠ (v259 : Value).ownBlock ∧ some k_ ≠ (u9 : Value).ownBlock ∧ k_ ≠ gb264) (.slice Ao19 t255.length co19) t255) ∧ Aside0 (w'.heap[gb264]? = some (.cells #[.int .i64 x265000_1, .int .i64 x265001_1, .int .i64 x265002_1] 119 (0, 0))) ∧ Aside0 (Below w.heap.size w w'))
              case atStart => exact ⟨((-1)), (0), (0), (by first | rfl | (simp; done) | (simp [*]; done)), (by first | rfl | (simp; done) | (simp [*]; done)), (by first | rfl | (simp; done) | (simp [*]; done)), H', ⟨Nat.le_refl _⟩, ⟨by (with_reducible repeat (first | apply Kd.N_alloc | apply Kd.N_drewN | apply Kd.N_drew)); exact HO_7.out⟩, ⟨by (with_reducible repeat (first | apply Kd.R_alloc | apply Kd.R_drewN | apply Kd.R_drew)); exact HO_8.out⟩, ⟨by (with_reducible repeat (first | apply Kd.R_alloc | apply Kd.R_drewN | apply Kd.R_drew)); exact HO_9.out⟩, ⟨by (with_reducible repeat (first | apply Kd.N_alloc | apply Kd.N_drewN | apply Kd.N_drew)); exact HO_7.out⟩, ⟨by (with_reducible repeat (first | refine blk_drewN ?_ _ | refine blk_drew ?_ | refine blk_alloc ?_ _)); exact BK264.out⟩, ⟨by repeat (first | (with_reducible first | exact HB.out | apply below_alloc | apply pw_below_drewN | apply below_drew1 | refine below_set ?_ GE264.out) | exact HB.out)⟩⟩
              case round =>
                clear H'
                try clear c1
                try clear p2
                try clear c4
                try clear c4b0
                try clear c4b1
                try clear c6
                try clear c6b0
                try clear c6b1
                try clear c7
                try clear c7b0
                try clear c7b1
                try clear c18
                try clear c18b0
                try clear hcz17_0
                try clear hcz17_1
                try clear hcz17_2
                try clear hfz17_0
                try clear hfz17_1
                try clear hfz17_2
                try clear p2
                obtain ⟨x11_2, x12_2, x35_2, rfl, rfl, rfl, HA, HK2, HO_7, HO_8, HO_9, HO_33, BK264, HB⟩ := hrel
                cases gk with
                | zero => exact absurd HA.out (by simp [impl_GreedyOrder.l1])
                | succ k2 =>
                  have H := HA.out
                  clear HA
                  simp only [impl_GreedyOrder.l1] at H
                  by_cases c20 : x35_2 < (t255.length : Int)
                  · rw [if_pos c20] at H
                    have c20b0 : decide (x35_2 < (t255.length : Int)) = true := decide_eq_true c20
                    clear c20
                    by_cases c21 : 0 ≤ x35_2
                    · rw [if_pos c21] at H
                      have c21b0 : decide (0 ≤ x35_2) = true := decide_eq_true c21
                      clear c21
                      by_cases c22 : x35_2 < (t255.length : Int)
                      · rw [if_pos c22] at H
                        have c22b0 : decide (x35_2 < (t255.length : Int)) = true := decide_eq_true c22
                        clear c22
                        obtain ⟨ji23, hji23⟩ : ∃ j_ : Int, (wrap64 (Int.tdiv x35_2 2)) = j_ := ⟨_, rfl⟩
                        replace H : (if 0 ≤ (ji23) then (if (ji23) < (x8_1.length : Int) then (if rdOf false x8_1 (ji23) = true then (impl_GreedyOrder.l1 k2 a1 t255 x8_1 x9_1 x11_2 x12_2 (l0.length : Int) x31_1 t255 (t255.length : Int) (wrap64 (x35_2 + 1)) x265000_1 x265001_1 x265002_1) else ((impl_place_cost.f k2 x265000_1 x265001_1 x265002_1 ((rd_T110 t255 x35_2).f0) ((rd_T110 t255 x35_2).f1) a1).bind fun t276 => (if x11_2 < 0 then (impl_GreedyOrder.l1 k2 a1 t255 x8_1 x9_1 x35_2 t276 (l0.length : Int) x31_1 t255 (t255.length : Int) (wrap64 (x35_2 + 1)) x265000_1 x265001_1 x265002_1) else (if t276 < x12_2 then (impl_GreedyOrder.l1 k2 a1 t255 x8_1 x9_1 x35_2 t276 (l0.length : Int) x31_1 t255 (t255.length : Int) (wrap64 (x35_2 + 1)) x265000_1 x265001_1 x265002_1) else (impl_GreedyOrder.l1 k2 a1 t255 x8_1 x9_1 x11_2 x12_2 (l0.length : Int) x31_1 t255 (t255.length : Int) (wrap64 (x35_2 + 1)) x265000_1 x265001_1 x265002_1))))) else (none)) else (none)) = some (r1, r2) := by first | (rw [hji23] at H; exact H) | (simp only [hji23] at H ⊢; exact H)
                        have hji23w : (IntKind.i64.wrap (Int.tdiv x35_2 2)) = ji23 := (i64_w _).trans hji23
                        by_cases c24 : 0 ≤ (ji23)
                        · rw [if_pos c24] at H
                          have c24b0 : decide (0 ≤ (ji23)) = true := decide_eq_true c24
                          clear c24
                          by_cases c25 : (ji23) < (x8_1.length : Int)
                          · rw [if_pos c25] at H
                            have c25b0 : decide ((ji23) < (x8_1.length : Int)) = true := decide_eq_true c25
                            clear c25
                            obtain ⟨bq26, hbq26⟩ : ∃ b_ : Bool, b_ = (rdOf false x8_1 (ji23)) := ⟨_, rfl⟩
                            replace H : (if bq26 = true then (impl_GreedyOrder.l1 k2 a1 t255 x8_1 x9_1 x11_2 x12_2 (l0.length : Int) x31_1 t255 (t255.length : Int) (wrap64 (x35_2 + 1)) x265000_1 x265001_1 x265002_1) else ((impl_place_cost.f k2 x265000_1 x265001_1 x265002_1 ((rd_T110 t255 x35_2).f0) ((rd_T110 t255 x35_2).f1) a1).bind fun t276 => (if x11_2 < 0 then (impl_GreedyOrder.l1 k2 a1 t255 x8_1 x9_1 x35_2 t276 (l0.length : Int) x31_1 t255 (t255.length : Int) (wrap64 (x35_2 + 1)) x265000_1 x265001_1 x265002_1) else (if t276 < x12_2 then (impl_GreedyOrder.l1 k2 a1 t255 x8_1 x9_1 x35_2 t276 (l0.length : Int) x31_1 t255 (t255.length : Int) (wrap64 (x35_2 + 1)) x265000_1 x265001_1 x265002_1) else (impl_GreedyOrder.l1 k2 a1 t255 x8_1 x9_1 x11_2 x12_2 (l0.length : Int) x31_1 t255 (t255.length : Int) (wrap64 (x35_2 + 1)) x265000_1 x265001_1 x265002_1))))) = some (r1, r2) := by rw [← hbq26] at H; exact H
                            have Nbq26 := Aside0.mk hbq26
                            clear hbq26
                            by_cases c27 : bq26 = true
                            · subst c27
                              have H1 : (impl_GreedyOrder.l1 k2 a1 t255 x8_1 x9_1 x11_2 x12_2 (l0.length : Int) x31_1 t255 (t255.length : Int) (wrap64 (x35_2 + 1)) x265000_1 x265001_1 x265002_1) = some (r1, r2) := by rw [if_pos rfl] at H; exact H
                              clear H
                              have H := H1
                              clear H1
                              have H' := Aside0.mk H
                              clear H
                              have p273 : 0 ≤ (x35_2 : Int) := of_decide_eq_true (by first | (with_reducible assumption) | assumption)
                              have q273 : x35_2 < (t255.length : Int) := of_decide_eq_true (by first | (with_reducible assumption) | assumption)
                              obtain ⟨ad273, A273_1, c273_1, e273, hx273_0, hx273_1, hl273_1, hi273_1⟩ := at_T110 (Kd.N_reads' HO_33.out).2.2 x35_2 p273 q273
                              cases e273
                              obtain ⟨ce273, hce273, hMe273, hcc273⟩ := Kd.N_get HO_33.out z110 x35_2 p273 (by first | exact q273 | exact of_decide_eq_true (by first | (with_reducible assumption) | assumption) | (have e_ := (Kd.N_reads' HO_33.out).1; omega))
                              obtain ⟨ua273_1, uc273_1, rfl, ul273_1, ge273_1⟩ := k110_openF hMe273
                              have hv273_1 := hcc273 1 _ rfl
                              rw [add_field _ _ 1 (by omega)] at hv273_1
                              replace hv273_1 := Option.some.inj (hv273_1.symm.trans hx273_1)
                              injection hv273_1 with hva_ hvn_ hvc_
                              rw [hva_] at ge273_1
                              rw [hvc_] at ul273_1
                              have HL273_1 := Aside0.mk (show Kd.V k90 90 _ w.heap.size _ _ ((rd_T110 t255 x35_2).f1) from Kd.V_mk ul273_1 ge273_1)
                              clear hva_ hvn_ hvc_ ge273_1 ul273_1
                              clear hcc273 hce273
                              have HR273_1 := Aside0.mk hi273_1
                              have HC273_1 := Aside0.mk hl273_1
                              clear hi273_1 hl273_1
                              replace p273 := eq_true p273
                              replace q273 := eq_true q273
                              go_wp2_with (first | ((with_reducible refine gate_dst (N := 14) rfl ?_); refine box_event ?hg (N := 14) ?hd (cs := #[.int .i64 0, .slice none 0 0]) (t := 110) ?hr ?_; (case hd => rfl); (case hg => rfl); (case hr => first | (go_simp; done) | (go_simp; rfl)); intro gb274 hg w28 hbox hb; have n0_ := Aside0.mk (Kd.N_below (Kd.N_elderB (by (with_reducible repeat (first | apply Kd.N_alloc | apply Kd.N_drewN | apply Kd.N_drew)); exact HO_7.out) gb274 (Nat.le_of_eq hg.symm)) hb); have n1_ := Aside0.mk (Kd.R_below (by (with_reducible repeat (first | apply Kd.R_alloc | apply Kd.R_drewN | apply Kd.R_drew)); exact HO_8.out) hb); have n2_ := Aside0.mk (Kd.R_below (by (with_reducible repeat (first | apply Kd.R_alloc | apply Kd.R_drewN | apply Kd.R_drew)); exact HO_9.out) hb); have n3_ := Aside0.mk (Kd.N_below (Kd.N_elderB (by (with_reducible repeat (first | apply Kd.N_alloc | apply Kd.N_drewN | apply Kd.N_drew)); exact HO_33.out) gb274 (Nat.le_of_eq hg.symm)) hb); have n4_ := Aside0.mk (Kd.V_below (Kd.V_elderB (by (with_reducible repeat (first | apply Kd.V_alloc | apply Kd.V_drewN | apply Kd.V_drew)); exact HL273_1.out) gb274 (Nat.le_of_eq hg.symm)) hb); have n5_ := Aside0.mk (blk_below (g := gb264) (o := .cells #[.int .i64 x265000_1, .int .i64 x265001_1, .int .i64 x265002_1] 119 (0, 0)) (by (with_reducible repeat (first | refine blk_drewN ?_ _ | refine blk_drew ?_ | refine blk_alloc ?_ _)); exact BK264.out) hb); have n6_ := Aside0.mk (Kd.C_below (by repeat (first | (with_reducible exact HR273_1.out) | (with_reducible refine Kd.C_alloc ?_ _) | (with_reducible refine Kd.C_drewN ?_ _) | (with_reducible refine Kd.C_drew ?_) | exact HR273_1.out)) hb); have n7_ := Aside0.mk (below_step (by repeat (first | (with_reducible first | exact HB.out | apply below_alloc | apply pw_below_drewN | apply below_drew1 | refine below_set ?_ GE264.out) | exact HB.out)) hb); have n8_ := Aside0.mk (hbox); have n9_ := Aside0.mk ((by rw [hg]; exact (below_size (by repeat (first | (with_reducible first | exact HB.out | apply below_alloc | apply pw_below_drewN | apply below_drew1 | refine below_set ?_ GE264.out) | exact HB.out))) : w.heap.size ≤ gb274)); have n10_ := Aside0.mk ((by rw [hg]; exact (below_size (by repeat (first | (with_reducible first | exact HB.out | apply below_alloc | apply pw_below_drewN | apply below_drew1 | refine below_set ?_ GE264.out) | exact HB.out))) : w.heap.size ≤ gb274)); have n11_ := Aside0.mk ((by rw [hg]; exact Nat.ne_of_lt (blk_lt (g := gb264) (o := .cells #[.int .i64 x265000_1, .int .i64 x265001_1, .int .i64 x265002_1] 119 (0, 0)) (by (with_reducible repeat (first | refine blk_drewN ?_ _ | refine blk_drew ?_ | refine blk_alloc ?_ _)); exact BK264.out)) : gb264 ≠ gb274)); have n12_ := Aside0.mk ((by rw [hg]; exact Nat.ne_of_gt (blk_lt (g := gb264) (o := .cells #[.int .i64 x265000_1, .int .i64 x265001_1, .int .i64 x265002_1] 119 (0, 0)) (by (with_reducible repeat (first | refine blk_drewN ?_ _ | refine blk_drew ?_ | refine blk_alloc ?_ _)); exact BK264.out)) : gb274 ≠ gb264)); clear HO_7; clear HO_8; clear HO_9; clear HO_33; clear HL273_1; clear BK264; clear HR273_1; clear HB; have HO_7 := n0_; have HO_8 := n1_; have HO_9 := n2_; have HO_33 := n3_; have HL273_1 := n4_; have BK264 := n5_; have HR273_1 := n6_; have HB := n7_; have BK274 := n8_; have GW274 := n9_; have GE274 := n10_; have NB264_274 := n11_; have NB274_264 := n12_; clear n0_ n1_ n2_ n3_ n4_ n5_ n6_ n7_ n8_ n9_ n10_ n11_ n12_; clear hb hbox hg; have hnb29 := NB274_264.out; have hnc29 := NB264_274.out; have hcz30_0 : w28.cell? ⟨gb274, 0, none⟩ = some (.int .i64 0) := (blk_cell BK274.out 0).trans rfl; have hcz30_1 : w28.cell? ⟨gb274, 1, none⟩ = some (.slice none 0 0) := (blk_cell BK274.out 1).trans rfl; have hfz30_0 := blk_frozen BK274.out 0; have hfz30_1 := blk_frozen BK274.out 1; obtain ⟨Ao31, co31, eo31⟩ := Kd.R_slice HO_8.out; subst eo31; have p275 : 0 ≤ ((ji23) : Int) := of_decide_eq_true (by first | (with_reducible assumption) | assumption); have q275 : (ji23) < (x8_1.length : Int) := of_decide_eq_true (by first | (with_reducible assumption) | assumption); obtain ⟨ad275, e275, hx275_0⟩ := Kd.at_bool (Kd.R_reads' HO_8.out).2.2 (ji23) p275 q275; (try rw [← Nbq26.out] at hx275_0); cases e275; have hn275_0 : ad275.block ≠ gb274 := Kd.own_blk (Kd.R_ne HO_8.out BK274.out (by decide)); have hn275_1 : ad275.block ≠ gb274 := Kd.own_blk (Kd.R_ne HO_8.out BK274.out (by decide)); replace hx275_0 := (cell_far (p := ⟨gb274, 0, none⟩) (by first | (rw [add_block]; exact hn275_0) | (show (Addr.add _ _).block ≠ _; rw [add_block]; exact hn275_0) | exact hn275_0) (.int .i64 ((rd_T110 t255 x35_2).f0))).trans hx275_0; replace hx275_0 := (cell_far (p := ⟨gb274, 1, none⟩) (by first | (rw [add_block]; exact hn275_1) | (show (Addr.add _ _).block ≠ _; rw [add_block]; exact hn275_1) | exact hn275_1) (.slice A273_1 ((rd_T110 t255 x35_2).f1).length c273_1)).trans hx275_0; clear hn275_0; clear hn275_1; replace p275 := eq_true p275; replace q275 := eq_true q275))
                              go_roundg k2
                              case measure => have := HK1.out; have := HK2.out; omega
                              case rel => exact ⟨(x11_2), (x12_2), (wrap64 (x35_2 + 1)), (by first | rfl | (simp; done) | (simp [*]; done)), (by first | rfl | (simp; done) | (simp [*]; done)), (by first | rfl | (simp; done) | (simp [*]; done)), H', ⟨by have := HK1.out; have := HK2.out; omega⟩, ⟨by (with_reducible repeat (first | apply Kd.N_alloc | apply Kd.N_drewN | apply Kd.N_drew)); exact Kd.N_mono (Kd.N_far (p := ⟨gb274, 1, none⟩) (Kd.N_far (p := ⟨gb274, 0, none⟩) (Kd.N_mono HO_7.out (fun k_ hk => (⟨hk, hk.2⟩ : _ ∧ k_ ≠ gb274))) (fun _ hk => hk.2) (.int .i64 ((rd_T110 t255 x35_2).f0))) (fun _ hk => hk.2) (.slice A273_1 ((rd_T110 t255 x35_2).f1).length c273_1)) (fun _ hk => ⟨hk.1.1.1, ⟨hk.1.1.2.1, hk.1.1.2.2⟩⟩)⟩, ⟨by (with_reducible repeat (first | apply Kd.R_alloc | apply Kd.R_drewN | apply Kd.R_drew)); exact Kd.R_mono (Kd.R_far (p := ⟨gb274, 1, none⟩) (Kd.R_far (p := ⟨gb274, 0, none⟩) (Kd.R_types HO_8.out BK274.out (by decide)) (fun _ hk => hk.2) (.int .i64 ((rd_T110 t255 x35_2).f0))) (fun _ hk => hk.2) (.slice A273_1 ((rd_T110 t255 x35_2).f1).length c273_1)) (fun _ hk => trivial)⟩, ⟨by (with_reducible repeat (first | apply Kd.R_alloc | apply Kd.R_drewN | apply Kd.R_drew)); exact Kd.R_mono (Kd.R_far (p := ⟨gb274, 1, none⟩) (Kd.R_far (p := ⟨gb274, 0, none⟩) (Kd.R_types HO_9.out BK274.out (by decide)) (fun _ hk => hk.2) (.int .i64 ((rd_T110 t255 x35_2).f0))) (fun _ hk => hk.2) (.slice A273_1 ((rd_T110 t255 x35_2).f1).length c273_1)) (fun _ hk => trivial)⟩, ⟨by (with_reducible repeat (first | apply Kd.N_alloc | apply Kd.N_drewN | apply Kd.N_drew)); exact Kd.N_mono (Kd.N_far (p := ⟨gb274, 1, none⟩) (Kd.N_far (p := ⟨gb274, 0, none⟩) (Kd.N_mono HO_33.out (fun k_ hk => (⟨hk, hk.2⟩ : _ ∧ k_ ≠ gb274))) (fun _ hk => hk.2) (.int .i64 ((rd_T110 t255 x35_2).f0))) (fun _ hk => hk.2) (.slice A273_1 ((rd_T110 t255 x35_2).f1).length c273_1)) (fun _ hk => ⟨hk.1.1.1, ⟨hk.1.1.2.1, hk.1.1.2.2⟩⟩)⟩, ⟨by (with_reducible repeat (first | refine blk_drewN ?_ _ | refine blk_drew ?_ | refine blk_alloc ?_ _)); refine blk_far ?_ NB264_274.out _; (with_reducible repeat (first | refine blk_drewN ?_ _ | refine blk_drew ?_ | refine blk_alloc ?_ _)); refine blk_far ?_ NB264_274.out _; (with_reducible repeat (first | refine blk_drewN ?_ _ | refine blk_drew ?_ | refine blk_alloc ?_ _)); exact BK264.out⟩, ⟨by repeat (first | (with_reducible first | exact HB.out | apply below_alloc | apply pw_below_drewN | apply below_drew1 | refine below_set ?_ GE264.out | refine below_set ?_ GE274.out) | exact HB.out)⟩⟩
                            · replace c27 := Bool.eq_false_iff.mpr c27
                              subst c27
                              have H1 : ((impl_place_cost.f k2 x265000_1 x265001_1 x265002_1 ((rd_T110 t255 x35_2).f0) ((rd_T110 t255 x35_2).f1) a1).bind fun t276 => (if x11_2 < 0 then (impl_GreedyOrder.l1 k2 a1 t255 x8_1 x9_1 x35_2 t276 (l0.length : Int) x31_1 t255 (t255.length : Int) (wrap64 (x35_2 + 1)) x265000_1 x265001_1 x265002_1) else (if t276 < x12_2 then (impl_GreedyOrder.l1 k2 a1 t255 x8_1 x9_1 x35_2 t276 (l0.length : Int) x31_1 t255 (t255.length : Int) (wrap64 (x35_2 + 1)) x265000_1 x265001_1 x265002_1) else (impl_GreedyOrder.l1 k2 a1 t255 x8_1 x9_1 x11_2 x12_2 (l0.length : Int) x31_1 t255 (t255.length : Int) (wrap64 (x35_2 + 1)) x265000_1 x265001_1 x265002_1)))) = some (r1, r2) := by rw [if_neg (show ¬ (false = true) by decide)] at H; exact H
                              clear H
                              have H := H1
                              clear H1
                              replace H := Option.bind_eq_some_iff.mp H
                              obtain ⟨t276, A320, H⟩ := H
                              replace H : (if x11_2 < 0 then (impl_GreedyOrder.l1 k2 a1 t255 x8_1 x9_1 x35_2 t276 (l0.length : Int) x31_1 t255 (t255.length : Int) (wrap64 (x35_2 + 1)) x265000_1 x265001_1 x265002_1) else (if t276 < x12_2 then (impl_GreedyOrder.l1 k2 a1 t255 x8_1 x9_1 x35_2 t276 (l0.length : Int) x31_1 t255 (t255.length : Int) (wrap64 (x35_2 + 1)) x265000_1 x265001_1 x265002_1) else (impl_GreedyOrder.l1 k2 a1 t255 x8_1 x9_1 x11_2 x12_2 (l0.length : Int) x31_1 t255 (t255.length : Int) (wrap64 (x35_2 + 1)) x265000_1 x265001_1 x265002_1))) = some (r1, r2) := H
                              have A32 := Aside0.mk A320
                              clear A320
                              by_cases c33 : x11_2 < 0
                              · rw [if_pos c33] at H
                                have c33b0 : decide (x11_2 < 0) = true := decide_eq_true c33
                                clear c33
                                have H' := Aside0.mk H
                                clear H
                                have p273 : 0 ≤ (x35_2 : Int) := of_decide_eq_true (by first | (with_reducible assumption) | assumption)
                                have q273 : x35_2 < (t255.length : Int) := of_decide_eq_true (by first | (with_reducible assumption) | assumption)
                                obtain ⟨ad273, A273_1, c273_1, e273, hx273_0, hx273_1, hl273_1, hi273_1⟩ := at_T110 (Kd.N_reads' HO_33.out).2.2 x35_2 p273 q273
                                cases e273
                                obtain ⟨ce273, hce273, hMe273, hcc273⟩ := Kd.N_get HO_33.out z110 x35_2 p273 (by first | exact q273 | exact of_decide_eq_true (by first | (with_reducible assumption) | assumption) | (have e_ := (Kd.N_reads' HO_33.out).1; omega))
                                obtain ⟨ua273_1, uc273_1, rfl, ul273_1, ge273_1⟩ := k110_openF hMe273
                                have hv273_1 := hcc273 1 _ rfl
                                rw [add_field _ _ 1 (by omega)] at hv273_1
                                replace hv273_1 := Option.some.inj (hv273_1.symm.trans hx273_1)
                                injection hv273_1 with hva_ hvn_ hvc_
                                rw [hva_] at ge273_1
                                rw [hvc_] at ul273_1
                                have HL273_1 := Aside0.mk (show Kd.V k90 90 _ w.heap.size _ _ ((rd_T110 t255 x35_2).f1) from Kd.V_mk ul273_1 ge273_1)
                                clear hva_ hvn_ hvc_ ge273_1 ul273_1
                                clear hcc273 hce273
                                have HR273_1 := Aside0.mk hi273_1
                                have HC273_1 := Aside0.mk hl273_1
                                clear hi273_1 hl273_1
                                replace p273 := eq_true p273
                                replace q273 := eq_true q273
                                go_wp2_with (first | ((with_reducible refine gate_dst (N := 14) rfl ?_); refine box_event ?hg (N := 14) ?hd (cs := #[.int .i64 0, .slice none 0 0]) (t := 110) ?hr ?_; (case hd => rfl); (case hg => rfl); (case hr => first | (go_simp; done) | (go_simp; rfl)); intro gb274 hg w34 hbox hb; have n0_ := Aside0.mk (Kd.N_below (Kd.N_elderB (by (with_reducible repeat (first | apply Kd.N_alloc | apply Kd.N_drewN | apply Kd.N_drew)); exact HO_7.out) gb274 (Nat.le_of_eq hg.symm)) hb); have n1_ := Aside0.mk (Kd.R_below (by (with_reducible repeat (first | apply Kd.R_alloc | apply Kd.R_drewN | apply Kd.R_drew)); exact HO_8.out) hb); have n2_ := Aside0.mk (Kd.R_below (by (with_reducible repeat (first | apply Kd.R_alloc | apply Kd.R_drewN | apply Kd.R_drew)); exact HO_9.out) hb); have n3_ := Aside0.mk (Kd.N_below (Kd.N_elderB (by (with_reducible repeat (first | apply Kd.N_alloc | apply Kd.N_drewN | apply Kd.N_drew)); exact HO_33.out) gb274 (Nat.le_of_eq hg.symm)) hb); have n4_ := Aside0.mk (Kd.V_below (Kd.V_elderB (by (with_reducible repeat (first | apply Kd.V_alloc | apply Kd.V_drewN | apply Kd.V_drew)); exact HL273_1.out) gb274 (Nat.le_of_eq hg.symm)) hb); have n5_ := Aside0.mk (blk_below (g := gb264) (o := .cells #[.int .i64 x265000_1, .int .i64 x265001_1, .int .i64 x265002_1] 119 (0, 0)) (by (with_reducible repeat (first | refine blk_drewN ?_ _ | refine blk_drew ?_ | refine blk_alloc ?_ _)); exact BK264.out) hb); have n6_ := Aside0.mk (Kd.C_below (by repeat (first | (with_reducible exact HR273_1.out) | (with_reducible refine Kd.C_alloc ?_ _) | (with_reducible refine Kd.C_drewN ?_ _) | (with_reducible refine Kd.C_drew ?_) | exact HR273_1.out)) hb); have n7_ := Aside0.mk (below_step (by repeat (first | (with_reducible first | exact HB.out | apply below_alloc | apply pw_below_drewN | apply below_drew1 | refine below_set ?_ GE264.out) | exact HB.out)) hb); have n8_ := Aside0.mk (hbox); have n9_ := Aside0.mk ((by rw [hg]; exact (below_size (by repeat (first | (with_reducible first | exact HB.out | apply below_alloc | apply pw_below_drewN | apply below_drew1 | refine below_set ?_ GE264.out) | exact HB.out))) : w.heap.size ≤ gb274)); have n10_ := Aside0.mk ((by rw [hg]; exact (below_size (by repeat (first | (with_reducible first | exact HB.out | apply below_alloc | apply pw_below_drewN | apply below_drew1 | refine below_set ?_ GE264.out) | exact HB.out))) : w.heap.size ≤ gb274)); have n11_ := Aside0.mk ((by rw [hg]; exact Nat.ne_of_lt (blk_lt (g := gb264) (o := .cells #[.int .i64 x265000_1, .int .i64 x265001_1, .int .i64 x265002_1] 119 (0, 0)) (by (with_reducible repeat (first | refine blk_drewN ?_ _ | refine blk_drew ?_ | refine blk_alloc ?_ _)); exact BK264.out)) : gb264 ≠ gb274)); have n12_ := Aside0.mk ((by rw [hg]; exact Nat.ne_of_gt (blk_lt (g := gb264) (o := .cells #[.int .i64 x265000_1, .int .i64 x265001_1, .int .i64 x265002_1] 119 (0, 0)) (by (with_reducible repeat (first | refine blk_drewN ?_ _ | refine blk_drew ?_ | refine blk_alloc ?_ _)); exact BK264.out)) : gb274 ≠ gb264)); clear HO_7; clear HO_8; clear HO_9; clear HO_33; clear HL273_1; clear BK264; clear HR273_1; clear HB; have HO_7 := n0_; have HO_8 := n1_; have HO_9 := n2_; have HO_33 := n3_; have HL273_1 := n4_; have BK264 := n5_; have HR273_1 := n6_; have HB := n7_; have BK274 := n8_; have GW274 := n9_; have GE274 := n10_; have NB264_274 := n11_; have NB274_264 := n12_; clear n0_ n1_ n2_ n3_ n4_ n5_ n6_ n7_ n8_ n9_ n10_ n11_ n12_; clear hb hbox hg; have hnb35 := NB274_264.out; have hnc35 := NB264_274.out; have hcz36_0 : w34.cell? ⟨gb274, 0, none⟩ = some (.int .i64 0) := (blk_cell BK274.out 0).trans rfl; have hcz36_1 : w34.cell? ⟨gb274, 1, none⟩ = some (.slice none 0 0) := (blk_cell BK274.out 1).trans rfl; have hfz36_0 := blk_frozen BK274.out 0; have hfz36_1 := blk_frozen BK274.out 1; obtain ⟨Ao37, co37, eo37⟩ := Kd.R_slice HO_8.out; subst eo37; have p275 : 0 ≤ ((ji23) : Int) := of_decide_eq_true (by first | (with_reducible assumption) | assumption); have q275 : (ji23) < (x8_1.length : Int) := of_decide_eq_true (by first | (with_reducible assumption) | assumption); obtain ⟨ad275, e275, hx275_0⟩ := Kd.at_bool (Kd.R_reads' HO_8.out).2.2 (ji23) p275 q275; (try rw [← Nbq26.out] at hx275_0); cases e275; have hn275_0 : ad275.block ≠ gb274 := Kd.own_blk (Kd.R_ne HO_8.out BK274.out (by decide)); have hn275_1 : ad275.block ≠ gb274 := Kd.own_blk (Kd.R_ne HO_8.out BK274.out (by decide)); replace hx275_0 := (cell_far (p := ⟨gb274, 0, none⟩) (by first | (rw [add_block]; exact hn275_0) | (show (Addr.add _ _).block ≠ _; rw [add_block]; exact hn275_0) | exact hn275_0) (.int .i64 ((rd_T110 t255 x35_2).f0))).trans hx275_0; replace hx275_0 := (cell_far (p := ⟨gb274, 1, none⟩) (by first | (rw [add_block]; exact hn275_1) | (show (Addr.add _ _).block ≠ _; rw [add_block]; exact hn275_1) | exact hn275_1) (.slice A273_1 ((rd_T110 t255 x35_2).f1).length c273_1)).trans hx275_0; clear hn275_0; clear hn275_1; replace p275 := eq_true p275; replace q275 := eq_true q275; have hcz38_0 : w34.cell? ⟨gb264, 0, none⟩ = some (.int .i64 x265000_1) := (blk_cell BK264.out 0).trans rfl; have hcz38_1 : w34.cell? ⟨gb264, 1, none⟩ = some (.int .i64 x265001_1) := (blk_cell BK264.out 1).trans rfl; have hcz38_2 : w34.cell? ⟨gb264, 2, none⟩ = some (.int .i64 x265002_1) := (blk_cell BK264.out 2).trans rfl; have hfz38_0 := blk_frozen BK264.out 0; have hfz38_1 := blk_frozen BK264.out 1; have hfz38_2 := blk_frozen BK264.out 2) | ((with_reducible refine gate_callee (f := 77) rfl ?_); refine goesL_ (some 48) rfl rfl Try.func77 (by kernel_rfl) rfl #[.agg #[.int .i64 x265000_1, .int .i64 x265001_1, .int .i64 x265002_1], .agg #[.int .i64 ((rd_T110 t255 x35_2).f0), .slice A273_1 ((rd_T110 t255 x35_2).f1).length c273_1], .int .i64 a1] rfl (by (try simp only [List.map_toArray, List.map_cons, List.map_nil]); first | done | rfl | (simp only [List.length_drop, List.length_take]; rfl)) ?_; (with_reducible refine (impl_place_cost.calls k2 x265000_1 x265001_1 x265002_1 ((rd_T110 t255 x35_2).f0) _ _ ((rd_T110 t255 x35_2).f1) a1 t276 _ ?side1 ?side2 A32.out).mono ?_); (case side1 => repeat (first | exact ((Kd.V_reads' (by (with_reducible repeat (first | apply Kd.V_alloc | apply Kd.V_drewN | apply Kd.V_drew)); exact (Kd.V_mono (Kd.V_far (p := ⟨gb274, 1, none⟩) (Kd.V_far (p := ⟨gb274, 0, none⟩) (Kd.V_mono HL273_1.out (fun k_ hk => (⟨hk, hk.2⟩ : _ ∧ k_ ≠ gb274))) (fun _ hk => hk.2) (.int .i64 ((rd_T110 t255 x35_2).f0))) (fun _ hk => hk.2) (.slice A273_1 ((rd_T110 t255 x35_2).f1).length c273_1)) (fun _ h_ => h_.1)))).2.2) | (with_reducible refine Kd.C_alloc ?_ _) | (with_reducible refine Kd.C_drewN ?_ _) | (with_reducible refine Kd.C_drew ?_))); (case side2 => exact HC273_1.out); rintro e w39 ⟨rfl, hb⟩; refine ⟨_, rfl, ?_⟩; have n0_ := Aside0.mk (Kd.N_below (by (with_reducible repeat (first | apply Kd.N_alloc | apply Kd.N_drewN | apply Kd.N_drew)); exact (Kd.N_mono (Kd.N_far (p := ⟨gb274, 1, none⟩) (Kd.N_far (p := ⟨gb274, 0, none⟩) (Kd.N_mono HO_7.out (fun k_ hk => (⟨hk, hk.2⟩ : _ ∧ k_ ≠ gb274))) (fun _ hk => hk.2) (.int .i64 ((rd_T110 t255 x35_2).f0))) (fun _ hk => hk.2) (.slice A273_1 ((rd_T110 t255 x35_2).f1).length c273_1)) (fun _ h_ => h_.1))) hb); have n1_ := Aside0.mk (Kd.R_below (by (with_reducible repeat (first | apply Kd.R_alloc | apply Kd.R_drewN | apply Kd.R_drew)); exact (Kd.R_mono (Kd.R_far (p := ⟨gb274, 1, none⟩) (Kd.R_far (p := ⟨gb274, 0, none⟩) (Kd.R_types HO_8.out BK274.out (by decide)) (fun _ hk => hk.2) (.int .i64 ((rd_T110 t255 x35_2).f0))) (fun _ hk => hk.2) (.slice A273_1 ((rd_T110 t255 x35_2).f1).length c273_1)) (fun _ h_ => h_.1))) hb); have n2_ := Aside0.mk (Kd.R_below (by (with_reducible repeat (first | apply Kd.R_alloc | apply Kd.R_drewN | apply Kd.R_drew)); exact (Kd.R_mono (Kd.R_far (p := ⟨gb274, 1, none⟩) (Kd.R_far (p := ⟨gb274, 0, none⟩) (Kd.R_types HO_9.out BK274.out (by decide)) (fun _ hk => hk.2) (.int .i64 ((rd_T110 t255 x35_2).f0))) (fun _ hk => hk.2) (.slice A273_1 ((rd_T110 t255 x35_2).f1).length c273_1)) (fun _ h_ => h_.1))) hb); have n3_ := Aside0.mk (Kd.N_below (by (with_reducible repeat (first | apply Kd.N_alloc | apply Kd.N_drewN | apply Kd.N_drew)); exact (Kd.N_mono (Kd.N_far (p := ⟨gb274, 1, none⟩) (Kd.N_far (p := ⟨gb274, 0, none⟩) (Kd.N_mono HO_33.out (fun k_ hk => (⟨hk, hk.2⟩ : _ ∧ k_ ≠ gb274))) (fun _ hk => hk.2) (.int .i64 ((rd_T110 t255 x35_2).f0))) (fun _ hk => hk.2) (.slice A273_1 ((rd_T110 t255 x35_2).f1).length c273_1)) (fun _ h_ => h_.1))) hb); have n4_ := Aside0.mk (Kd.V_below (by (with_reducible repeat (first | apply Kd.V_alloc | apply Kd.V_drewN | apply Kd.V_drew)); exact (Kd.V_mono (Kd.V_far (p := ⟨gb274, 1, none⟩) (Kd.V_far (p := ⟨gb274, 0, none⟩) (Kd.V_mono HL273_1.out (fun k_ hk => (⟨hk, hk.2⟩ : _ ∧ k_ ≠ gb274))) (fun _ hk => hk.2) (.int .i64 ((rd_T110 t255 x35_2).f0))) (fun _ hk => hk.2) (.slice A273_1 ((rd_T110 t255 x35_2).f1).length c273_1)) (fun _ h_ => h_.1))) hb); have n5_ := Aside0.mk (blk_below (g := gb264) (o := .cells #[.int .i64 x265000_1, .int .i64 x265001_1, .int .i64 x265002_1] 119 (0, 0)) (by (with_reducible repeat (first | refine blk_drewN ?_ _ | refine blk_drew ?_ | refine blk_alloc ?_ _)); refine blk_far ?_ NB264_274.out _; (with_reducible repeat (first | refine blk_drewN ?_ _ | refine blk_drew ?_ | refine blk_alloc ?_ _)); refine blk_far ?_ NB264_274.out _; (with_reducible repeat (first | refine blk_drewN ?_ _ | refine blk_drew ?_ | refine blk_alloc ?_ _)); exact BK264.out) hb); have n6_ := Aside0.mk (Kd.C_below ((Kd.V_reads' (by (with_reducible repeat (first | apply Kd.V_alloc | apply Kd.V_drewN | apply Kd.V_drew)); exact (Kd.V_mono (Kd.V_far (p := ⟨gb274, 1, none⟩) (Kd.V_far (p := ⟨gb274, 0, none⟩) (Kd.V_mono HL273_1.out (fun k_ hk => (⟨hk, hk.2⟩ : _ ∧ k_ ≠ gb274))) (fun _ hk => hk.2) (.int .i64 ((rd_T110 t255 x35_2).f0))) (fun _ hk => hk.2) (.slice A273_1 ((rd_T110 t255 x35_2).f1).length c273_1)) (fun _ h_ => h_.1)))).2.2) hb); have n7_ := Aside0.mk (blk_below (g := gb274) (o := .cells #[.int .i64 ((rd_T110 t255 x35_2).f0), .slice A273_1 ((rd_T110 t255 x35_2).f1).length c273_1] 110 (0, 0)) (by (with_reducible repeat (first | refine blk_drewN ?_ _ | refine blk_drew ?_ | refine blk_alloc ?_ _)); refine blk_put (cs := #[.int .i64 ((rd_T110 t255 x35_2).f0), .slice none 0 0]) ?_ 1 _ rfl; (with_reducible repeat (first | refine blk_drewN ?_ _ | refine blk_drew ?_ | refine blk_alloc ?_ _)); refine blk_put (cs := #[.int .i64 0, .slice none 0 0]) ?_ 0 _ rfl; (with_reducible repeat (first | refine blk_drewN ?_ _ | refine blk_drew ?_ | refine blk_alloc ?_ _)); exact BK274.out) hb); have n8_ := Aside0.mk (below_step (by repeat (first | (with_reducible first | exact HB.out | apply below_alloc | apply pw_below_drewN | apply below_drew1 | refine below_set ?_ GE264.out | refine below_set ?_ GE274.out) | exact HB.out)) hb); clear HO_7; clear HO_8; clear HO_9; clear HO_33; clear HL273_1; clear BK264; clear HR273_1; clear BK274; clear HB; have HO_7 := n0_; have HO_8 := n1_; have HO_9 := n2_; have HO_33 := n3_; have HL273_1 := n4_; have BK264 := n5_; have HR273_1 := n6_; have BK274 := n7_; have HB := n8_; clear n0_ n1_ n2_ n3_ n4_ n5_ n6_ n7_ n8_; (try clear hb); (try clear hb2); (try clear hk); (try clear hi)))
                                go_roundg k2
                                case measure => have := HK1.out; have := HK2.out; omega
                                case rel => exact ⟨(x35_2), (t276), (wrap64 (x35_2 + 1)), (by first | rfl | (simp; done) | (simp [*]; done)), (by first | rfl | (simp; done) | (simp [*]; done)), (by first | rfl | (simp; done) | (simp [*]; done)), H', ⟨by have := HK1.out; have := HK2.out; omega⟩, ⟨by (with_reducible repeat (first | apply Kd.N_alloc | apply Kd.N_drewN | apply Kd.N_drew)); exact Kd.N_mono HO_7.out (fun _ hk => ⟨hk.1.1, ⟨hk.1.2.1, hk.1.2.2⟩⟩)⟩, ⟨by (with_reducible repeat (first | apply Kd.R_alloc | apply Kd.R_drewN | apply Kd.R_drew)); exact HO_8.out⟩, ⟨by (with_reducible repeat (first | apply Kd.R_alloc | apply Kd.R_drewN | apply Kd.R_drew)); exact HO_9.out⟩, ⟨by (with_reducible repeat (first | apply Kd.N_alloc | apply Kd.N_drewN | apply Kd.N_drew)); exact Kd.N_mono HO_33.out (fun _ hk => ⟨hk.1.1, ⟨hk.1.2.1, hk.1.2.2⟩⟩)⟩, ⟨by (with_reducible repeat (first | refine blk_drewN ?_ _ | refine blk_drew ?_ | refine blk_alloc ?_ _)); exact BK264.out⟩, ⟨by repeat (first | (with_reducible first | exact HB.out | apply below_alloc | apply pw_below_drewN | apply below_drew1 | refine below_set ?_ GE264.out | refine below_set ?_ GE274.out) | exact HB.out)⟩⟩
                              · rw [if_neg c33] at H
                                have c33b0 : decide (x11_2 < 0) = false := decide_eq_false c33
                                clear c33
                                by_cases c40 : t276 < x12_2
                                · rw [if_pos c40] at H
                                  have c40b0 : decide (t276 < x12_2) = true := decide_eq_true c40
                                  clear c40
                                  have H' := Aside0.mk H
                                  clear H
                                  have p273 : 0 ≤ (x35_2 : Int) := of_decide_eq_true (by first | (with_reducible assumption) | assumption)
                                  have q273 : x35_2 < (t255.length : Int) := of_decide_eq_true (by first | (with_reducible assumption) | assumption)
                                  obtain ⟨ad273, A273_1, c273_1, e273, hx273_0, hx273_1, hl273_1, hi273_1⟩ := at_T110 (Kd.N_reads' HO_33.out).2.2 x35_2 p273 q273
                                  cases e273
                                  obtain ⟨ce273, hce273, hMe273, hcc273⟩ := Kd.N_get HO_33.out z110 x35_2 p273 (by first | exact q273 | exact of_decide_eq_true (by first | (with_reducible assumption) | assumption) | (have e_ := (Kd.N_reads' HO_33.out).1; omega))
                                  obtain ⟨ua273_1, uc273_1, rfl, ul273_1, ge273_1⟩ := k110_openF hMe273
                                  have hv273_1 := hcc273 1 _ rfl
                                  rw [add_field _ _ 1 (by omega)] at hv273_1
                                  replace hv273_1 := Option.some.inj (hv273_1.symm.trans hx273_1)
                                  injection hv273_1 with hva_ hvn_ hvc_
                                  rw [hva_] at ge273_1
                                  rw [hvc_] at ul273_1
                                  have HL273_1 := Aside0.mk (show Kd.V k90 90 _ w.heap.size _ _ ((rd_T110 t255 x35_2).f1) from Kd.V_mk ul273_1 ge273_1)
                                  clear hva_ hvn_ hvc_ ge273_1 ul273_1
                                  clear hcc273 hce273
                                  have HR273_1 := Aside0.mk hi273_1
                                  have HC273_1 := Aside0.mk hl273_1
                                  clear hi273_1 hl273_1
                                  replace p273 := eq_true p273
                                  replace q273 := eq_true q273
                                  go_wp2_with (first | ((with_reducible refine gate_dst (N := 14) rfl ?_); refine box_event ?hg (N := 14) ?hd (cs := #[.int .i64 0, .slice none 0 0]) (t := 110) ?hr ?_; (case hd => rfl); (case hg => rfl); (case hr => first | (go_simp; done) | (go_simp; rfl)); intro gb274 hg w41 hbox hb; have n0_ := Aside0.mk (Kd.N_below (Kd.N_elderB (by (with_reducible repeat (first | apply Kd.N_alloc | apply Kd.N_drewN | apply Kd.N_drew)); exact HO_7.out) gb274 (Nat.le_of_eq hg.symm)) hb); have n1_ := Aside0.mk (Kd.R_below (by (with_reducible repeat (first | apply Kd.R_alloc | apply Kd.R_drewN | apply Kd.R_drew)); exact HO_8.out) hb); have n2_ := Aside0.mk (Kd.R_below (by (with_reducible repeat (first | apply Kd.R_alloc | apply Kd.R_drewN | apply Kd.R_drew)); exact HO_9.out) hb); have n3_ := Aside0.mk (Kd.N_below (Kd.N_elderB (by (with_reducible repeat (first | apply Kd.N_alloc | apply Kd.N_drewN | apply Kd.N_drew)); exact HO_33.out) gb274 (Nat.le_of_eq hg.symm)) hb); have n4_ := Aside0.mk (Kd.V_below (Kd.V_elderB (by (with_reducible repeat (first | apply Kd.V_alloc | apply Kd.V_drewN | apply Kd.V_drew)); exact HL273_1.out) gb274 (Nat.le_of_eq hg.symm)) hb); have n5_ := Aside0.mk (blk_below (g := gb264) (o := .cells #[.int .i64 x265000_1, .int .i64 x265001_1, .int .i64 x265002_1] 119 (0, 0)) (by (with_reducible repeat (first | refine blk_drewN ?_ _ | refine blk_drew ?_ | refine blk_alloc ?_ _)); exact BK264.out) hb); have n6_ := Aside0.mk (Kd.C_below (by repeat (first | (with_reducible exact HR273_1.out) | (with_reducible refine Kd.C_alloc ?_ _) | (with_reducible refine Kd.C_drewN ?_ _) | (with_reducible refine Kd.C_drew ?_) | exact HR273_1.out)) hb); have n7_ := Aside0.mk (below_step (by repeat (first | (with_reducible first | exact HB.out | apply below_alloc | apply pw_below_drewN | apply below_drew1 | refine below_set ?_ GE264.out) | exact HB.out)) hb); have n8_ := Aside0.mk (hbox); have n9_ := Aside0.mk ((by rw [hg]; exact (below_size (by repeat (first | (with_reducible first | exact HB.out | apply below_alloc | apply pw_below_drewN | apply below_drew1 | refine below_set ?_ GE264.out) | exact HB.out))) : w.heap.size ≤ gb274)); have n10_ := Aside0.mk ((by rw [hg]; exact (below_size (by repeat (first | (with_reducible first | exact HB.out | apply below_alloc | apply pw_below_drewN | apply below_drew1 | refine below_set ?_ GE264.out) | exact HB.out))) : w.heap.size ≤ gb274)); have n11_ := Aside0.mk ((by rw [hg]; exact Nat.ne_of_lt (blk_lt (g := gb264) (o := .cells #[.int .i64 x265000_1, .int .i64 x265001_1, .int .i64 x265002_1] 119 (0, 0)) (by (with_reducible repeat (first | refine blk_drewN ?_ _ | refine blk_drew ?_ | refine blk_alloc ?_ _)); exact BK264.out)) : gb264 ≠ gb274)); have n12_ := Aside0.mk ((by rw [hg]; exact Nat.ne_of_gt (blk_lt (g := gb264) (o := .cells #[.int .i64 x265000_1, .int .i64 x265001_1, .int .i64 x265002_1] 119 (0, 0)) (by (with_reducible repeat (first | refine blk_drewN ?_ _ | refine blk_drew ?_ | refine blk_alloc ?_ _)); exact BK264.out)) : gb274 ≠ gb264)); clear HO_7; clear HO_8; clear HO_9; clear HO_33; clear HL273_1; clear BK264; clear HR273_1; clear HB; have HO_7 := n0_; have HO_8 := n1_; have HO_9 := n2_; have HO_33 := n3_; have HL273_1 := n4_; have BK264 := n5_; have HR273_1 := n6_; have HB := n7_; have BK274 := n8_; have GW274 := n9_; have GE274 := n10_; have NB264_274 := n11_; have NB274_264 := n12_; clear n0_ n1_ n2_ n3_ n4_ n5_ n6_ n7_ n8_ n9_ n10_ n11_ n12_; clear hb hbox hg; have hnb42 := NB274_264.out; have hnc42 := NB264_274.out; have hcz43_0 : w41.cell? ⟨gb274, 0, none⟩ = some (.int .i64 0) := (blk_cell BK274.out 0).trans rfl; have hcz43_1 : w41.cell? ⟨gb274, 1, none⟩ = some (.slice none 0 0) := (blk_cell BK274.out 1).trans rfl; have hfz43_0 := blk_frozen BK274.out 0; have hfz43_1 := blk_frozen BK274.out 1; obtain ⟨Ao44, co44, eo44⟩ := Kd.R_slice HO_8.out; subst eo44; have p275 : 0 ≤ ((ji23) : Int) := of_decide_eq_true (by first | (with_reducible assumption) | assumption); have q275 : (ji23) < (x8_1.length : Int) := of_decide_eq_true (by first | (with_reducible assumption) | assumption); obtain ⟨ad275, e275, hx275_0⟩ := Kd.at_bool (Kd.R_reads' HO_8.out).2.2 (ji23) p275 q275; (try rw [← Nbq26.out] at hx275_0); cases e275; have hn275_0 : ad275.block ≠ gb274 := Kd.own_blk (Kd.R_ne HO_8.out BK274.out (by decide)); have hn275_1 : ad275.block ≠ gb274 := Kd.own_blk (Kd.R_ne HO_8.out BK274.out (by decide)); replace hx275_0 := (cell_far (p := ⟨gb274, 0, none⟩) (by first | (rw [add_block]; exact hn275_0) | (show (Addr.add _ _).block ≠ _; rw [add_block]; exact hn275_0) | exact hn275_0) (.int .i64 ((rd_T110 t255 x35_2).f0))).trans hx275_0; replace hx275_0 := (cell_far (p := ⟨gb274, 1, none⟩) (by first | (rw [add_block]; exact hn275_1) | (show (Addr.add _ _).block ≠ _; rw [add_block]; exact hn275_1) | exact hn275_1) (.slice A273_1 ((rd_T110 t255 x35_2).f1).length c273_1)).trans hx275_0; clear hn275_0; clear hn275_1; replace p275 := eq_true p275; replace q275 := eq_true q275; have hcz45_0 : w41.cell? ⟨gb264, 0, none⟩ = some (.int .i64 x265000_1) := (blk_cell BK264.out 0).trans rfl; have hcz45_1 : w41.cell? ⟨gb264, 1, none⟩ = some (.int .i64 x265001_1) := (blk_cell BK264.out 1).trans rfl; have hcz45_2 : w41.cell? ⟨gb264, 2, none⟩ = some (.int .i64 x265002_1) := (blk_cell BK264.out 2).trans rfl; have hfz45_0 := blk_frozen BK264.out 0; have hfz45_1 := blk_frozen BK264.out 1; have hfz45_2 := blk_frozen BK264.out 2) | ((with_reducible refine gate_callee (f := 77) rfl ?_); refine goesL_ (some 48) rfl rfl Try.func77 (by kernel_rfl) rfl #[.agg #[.int .i64 x265000_1, .int .i64 x265001_1, .int .i64 x265002_1], .agg #[.int .i64 ((rd_T110 t255 x35_2).f0), .slice A273_1 ((rd_T110 t255 x35_2).f1).length c273_1], .int .i64 a1] rfl (by (try simp only [List.map_toArray, List.map_cons, List.map_nil]); first | done | rfl | (simp only [List.length_drop, List.length_take]; rfl)) ?_; (with_reducible refine (impl_place_cost.calls k2 x265000_1 x265001_1 x265002_1 ((rd_T110 t255 x35_2).f0) _ _ ((rd_T110 t255 x35_2).f1) a1 t276 _ ?side1 ?side2 A32.out).mono ?_); (case side1 => repeat (first | exact ((Kd.V_reads' (by (with_reducible repeat (first | apply Kd.V_alloc | apply Kd.V_drewN | apply Kd.V_drew)); exact (Kd.V_mono (Kd.V_far (p := ⟨gb274, 1, none⟩) (Kd.V_far (p := ⟨gb274, 0, none⟩) (Kd.V_mono HL273_1.out (fun k_ hk => (⟨hk, hk.2⟩ : _ ∧ k_ ≠ gb274))) (fun _ hk => hk.2) (.int .i64 ((rd_T110 t255 x35_2).f0))) (fun _ hk => hk.2) (.slice A273_1 ((rd_T110 t255 x35_2).f1).length c273_1)) (fun _ h_ => h_.1)))).2.2) | (with_reducible refine Kd.C_alloc ?_ _) | (with_reducible refine Kd.C_drewN ?_ _) | (with_reducible refine Kd.C_drew ?_))); (case side2 => exact HC273_1.out); rintro e w46 ⟨rfl, hb⟩; refine ⟨_, rfl, ?_⟩; have n0_ := Aside0.mk (Kd.N_below (by (with_reducible repeat (first | apply Kd.N_alloc | apply Kd.N_drewN | apply Kd.N_drew)); exact (Kd.N_mono (Kd.N_far (p := ⟨gb274, 1, none⟩) (Kd.N_far (p := ⟨gb274, 0, none⟩) (Kd.N_mono HO_7.out (fun k_ hk => (⟨hk, hk.2⟩ : _ ∧ k_ ≠ gb274))) (fun _ hk => hk.2) (.int .i64 ((rd_T110 t255 x35_2).f0))) (fun _ hk => hk.2) (.slice A273_1 ((rd_T110 t255 x35_2).f1).length c273_1)) (fun _ h_ => h_.1))) hb); have n1_ := Aside0.mk (Kd.R_below (by (with_reducible repeat (first | apply Kd.R_alloc | apply Kd.R_drewN | apply Kd.R_drew)); exact (Kd.R_mono (Kd.R_far (p := ⟨gb274, 1, none⟩) (Kd.R_far (p := ⟨gb274, 0, none⟩) (Kd.R_types HO_8.out BK274.out (by decide)) (fun _ hk => hk.2) (.int .i64 ((rd_T110 t255 x35_2).f0))) (fun _ hk => hk.2) (.slice A273_1 ((rd_T110 t255 x35_2).f1).length c273_1)) (fun _ h_ => h_.1))) hb); have n2_ := Aside0.mk (Kd.R_below (by (with_reducible repeat (first | apply Kd.R_alloc | apply Kd.R_drewN | apply Kd.R_drew)); exact (Kd.R_mono (Kd.R_far (p := ⟨gb274, 1, none⟩) (Kd.R_far (p := ⟨gb274, 0, none⟩) (Kd.R_types HO_9.out BK274.out (by decide)) (fun _ hk => hk.2) (.int .i64 ((rd_T110 t255 x35_2).f0))) (fun _ hk => hk.2) (.slice A273_1 ((rd_T110 t255 x35_2).f1).length c273_1)) (fun _ h_ => h_.1))) hb); have n3_ := Aside0.mk (Kd.N_below (by (with_reducible repeat (first | apply Kd.N_alloc | apply Kd.N_drewN | apply Kd.N_drew)); exact (Kd.N_mono (Kd.N_far (p := ⟨gb274, 1, none⟩) (Kd.N_far (p := ⟨gb274, 0, none⟩) (Kd.N_mono HO_33.out (fun k_ hk => (⟨hk, hk.2⟩ : _ ∧ k_ ≠ gb274))) (fun _ hk => hk.2) (.int .i64 ((rd_T110 t255 x35_2).f0))) (fun _ hk => hk.2) (.slice A273_1 ((rd_T110 t255 x35_2).f1).length c273_1)) (fun _ h_ => h_.1))) hb); have n4_ := Aside0.mk (Kd.V_below (by (with_reducible repeat (first | apply Kd.V_alloc | apply Kd.V_drewN | apply Kd.V_drew)); exact (Kd.V_mono (Kd.V_far (p := ⟨gb274, 1, none⟩) (Kd.V_far (p := ⟨gb274, 0, none⟩) (Kd.V_mono HL273_1.out (fun k_ hk => (⟨hk, hk.2⟩ : _ ∧ k_ ≠ gb274))) (fun _ hk => hk.2) (.int .i64 ((rd_T110 t255 x35_2).f0))) (fun _ hk => hk.2) (.slice A273_1 ((rd_T110 t255 x35_2).f1).length c273_1)) (fun _ h_ => h_.1))) hb); have n5_ := Aside0.mk (blk_below (g := gb264) (o := .cells #[.int .i64 x265000_1, .int .i64 x265001_1, .int .i64 x265002_1] 119 (0, 0)) (by (with_reducible repeat (first | refine blk_drewN ?_ _ | refine blk_drew ?_ | refine blk_alloc ?_ _)); refine blk_far ?_ NB264_274.out _; (with_reducible repeat (first | refine blk_drewN ?_ _ | refine blk_drew ?_ | refine blk_alloc ?_ _)); refine blk_far ?_ NB264_274.out _; (with_reducible repeat (first | refine blk_drewN ?_ _ | refine blk_drew ?_ | refine blk_alloc ?_ _)); exact BK264.out) hb); have n6_ := Aside0.mk (Kd.C_below ((Kd.V_reads' (by (with_reducible repeat (first | apply Kd.V_alloc | apply Kd.V_drewN | apply Kd.V_drew)); exact (Kd.V_mono (Kd.V_far (p := ⟨gb274, 1, none⟩) (Kd.V_far (p := ⟨gb274, 0, none⟩) (Kd.V_mono HL273_1.out (fun k_ hk => (⟨hk, hk.2⟩ : _ ∧ k_ ≠ gb274))) (fun _ hk => hk.2) (.int .i64 ((rd_T110 t255 x35_2).f0))) (fun _ hk => hk.2) (.slice A273_1 ((rd_T110 t255 x35_2).f1).length c273_1)) (fun _ h_ => h_.1)))).2.2) hb); have n7_ := Aside0.mk (blk_below (g := gb274) (o := .cells #[.int .i64 ((rd_T110 t255 x35_2).f0), .slice A273_1 ((rd_T110 t255 x35_2).f1).length c273_1] 110 (0, 0)) (by (with_reducible repeat (first | refine blk_drewN ?_ _ | refine blk_drew ?_ | refine blk_alloc ?_ _)); refine blk_put (cs := #[.int .i64 ((rd_T110 t255 x35_2).f0), .slice none 0 0]) ?_ 1 _ rfl; (with_reducible repeat (first | refine blk_drewN ?_ _ | refine blk_drew ?_ | refine blk_alloc ?_ _)); refine blk_put (cs := #[.int .i64 0, .slice none 0 0]) ?_ 0 _ rfl; (with_reducible repeat (first | refine blk_drewN ?_ _ | refine blk_drew ?_ | refine blk_alloc ?_ _)); exact BK274.out) hb); have n8_ := Aside0.mk (below_step (by repeat (first | (with_reducible first | exact HB.out | apply below_alloc | apply pw_below_drewN | apply below_drew1 | refine below_set ?_ GE264.out | refine below_set ?_ GE274.out) | exact HB.out)) hb); clear HO_7; clear HO_8; clear HO_9; clear HO_33; clear HL273_1; clear BK264; clear HR273_1; clear BK274; clear HB; have HO_7 := n0_; have HO_8 := n1_; have HO_9 := n2_; have HO_33 := n3_; have HL273_1 := n4_; have BK264 := n5_; have HR273_1 := n6_; have BK274 := n7_; have HB := n8_; clear n0_ n1_ n2_ n3_ n4_ n5_ n6_ n7_ n8_; (try clear hb); (try clear hb2); (try clear hk); (try clear hi)))
                                  go_roundg k2
                                  case measure => have := HK1.out; have := HK2.out; omega
                                  case rel => exact ⟨(x35_2), (t276), (wrap64 (x35_2 + 1)), (by first | rfl | (simp; done) | (simp [*]; done)), (by first | rfl | (simp; done) | (simp [*]; done)), (by first | rfl | (simp; done) | (simp [*]; done)), H', ⟨by have := HK1.out; have := HK2.out; omega⟩, ⟨by (with_reducible repeat (first | apply Kd.N_alloc | apply Kd.N_drewN | apply Kd.N_drew)); exact Kd.N_mono HO_7.out (fun _ hk => ⟨hk.1.1, ⟨hk.1.2.1, hk.1.2.2⟩⟩)⟩, ⟨by (with_reducible repeat (first | apply Kd.R_alloc | apply Kd.R_drewN | apply Kd.R_drew)); exact HO_8.out⟩, ⟨by (with_reducible repeat (first | apply Kd.R_alloc | apply Kd.R_drewN | apply Kd.R_drew)); exact HO_9.out⟩, ⟨by (with_reducible repeat (first | apply Kd.N_alloc | apply Kd.N_drewN | apply Kd.N_drew)); exact Kd.N_mono HO_33.out (fun _ hk => ⟨hk.1.1, ⟨hk.1.2.1, hk.1.2.2⟩⟩)⟩, ⟨by (with_reducible repeat (first | refine blk_drewN ?_ _ | refine blk_drew ?_ | refine blk_alloc ?_ _)); exact BK264.out⟩, ⟨by repeat (first | (with_reducible first | exact HB.out | apply below_alloc | apply pw_below_drewN | apply below_drew1 | refine below_set ?_ GE264.out | refine below_set ?_ GE274.out) | exact HB.out)⟩⟩
                                · rw [if_neg c40] at H
                                  have c40b0 : decide (t276 < x12_2) = false := decide_eq_false c40
                                  clear c40
                                  have H' := Aside0.mk H
                                  clear H
                                  have p273 : 0 ≤ (x35_2 : Int) := of_decide_eq_true (by first | (with_reducible assumption) | assumption)
                                  have q273 : x35_2 < (t255.length : Int) := of_decide_eq_true (by first | (with_reducible assumption) | assumption)
                                  obtain ⟨ad273, A273_1, c273_1, e273, hx273_0, hx273_1, hl273_1, hi273_1⟩ := at_T110 (Kd.N_reads' HO_33.out).2.2 x35_2 p273 q273
                                  cases e273
                                  obtain ⟨ce273, hce273, hMe273, hcc273⟩ := Kd.N_get HO_33.out z110 x35_2 p273 (by first | exact q273 | exact of_decide_eq_true (by first | (with_reducible assumption) | assumption) | (have e_ := (Kd.N_reads' HO_33.out).1; omega))
                                  obtain ⟨ua273_1, uc273_1, rfl, ul273_1, ge273_1⟩ := k110_openF hMe273
                                  have hv273_1 := hcc273 1 _ rfl
                                  rw [add_field _ _ 1 (by omega)] at hv273_1
                                  replace hv273_1 := Option.some.inj (hv273_1.symm.trans hx273_1)
                                  injection hv273_1 with hva_ hvn_ hvc_
                                  rw [hva_] at ge273_1
                                  rw [hvc_] at ul273_1
                                  have HL273_1 := Aside0.mk (show Kd.V k90 90 _ w.heap.size _ _ ((rd_T110 t255 x35_2).f1) from Kd.V_mk ul273_1 ge273_1)
                                  clear hva_ hvn_ hvc_ ge273_1 ul273_1
                                  clear hcc273 hce273
                                  have HR273_1 := Aside0.mk hi273_1
                                  have HC273_1 := Aside0.mk hl273_1
                                  clear hi273_1 hl273_1
                                  replace p273 := eq_true p273
                                  replace q273 := eq_true q273
                                  go_wp2_with (first | ((with_reducible refine gate_dst (N := 14) rfl ?_); refine box_event ?hg (N := 14) ?hd (cs := #[.int .i64 0, .slice none 0 0]) (t := 110) ?hr ?_; (case hd => rfl); (case hg => rfl); (case hr => first | (go_simp; done) | (go_simp; rfl)); intro gb274 hg w47 hbox hb; have n0_ := Aside0.mk (Kd.N_below (Kd.N_elderB (by (with_reducible repeat (first | apply Kd.N_alloc | apply Kd.N_drewN | apply Kd.N_drew)); exact HO_7.out) gb274 (Nat.le_of_eq hg.symm)) hb); have n1_ := Aside0.mk (Kd.R_below (by (with_reducible repeat (first | apply Kd.R_alloc | apply Kd.R_drewN | apply Kd.R_drew)); exact HO_8.out) hb); have n2_ := Aside0.mk (Kd.R_below (by (with_reducible repeat (first | apply Kd.R_alloc | apply Kd.R_drewN | apply Kd.R_drew)); exact HO_9.out) hb); have n3_ := Aside0.mk (Kd.N_below (Kd.N_elderB (by (with_reducible repeat (first | apply Kd.N_alloc | apply Kd.N_drewN | apply Kd.N_drew)); exact HO_33.out) gb274 (Nat.le_of_eq hg.symm)) hb); have n4_ := Aside0.mk (Kd.V_below (Kd.V_elderB (by (with_reducible repeat (first | apply Kd.V_alloc | apply Kd.V_drewN | apply Kd.V_drew)); exact HL273_1.out) gb274 (Nat.le_of_eq hg.symm)) hb); have n5_ := Aside0.mk (blk_below (g := gb264) (o := .cells #[.int .i64 x265000_1, .int .i64 x265001_1, .int .i64 x265002_1] 119 (0, 0)) (by (with_reducible repeat (first | refine blk_drewN ?_ _ | refine blk_drew ?_ | refine blk_alloc ?_ _)); exact BK264.out) hb); have n6_ := Aside0.mk (Kd.C_below (by repeat (first | (with_reducible exact HR273_1.out) | (with_reducible refine Kd.C_alloc ?_ _) | (with_reducible refine Kd.C_drewN ?_ _) | (with_reducible refine Kd.C_drew ?_) | exact HR273_1.out)) hb); have n7_ := Aside0.mk (below_step (by repeat (first | (with_reducible first | exact HB.out | apply below_alloc | apply pw_below_drewN | apply below_drew1 | refine below_set ?_ GE264.out) | exact HB.out)) hb); have n8_ := Aside0.mk (hbox); have n9_ := Aside0.mk ((by rw [hg]; exact (below_size (by repeat (first | (with_reducible first | exact HB.out | apply below_alloc | apply pw_below_drewN | apply below_drew1 | refine below_set ?_ GE264.out) | exact HB.out))) : w.heap.size ≤ gb274)); have n10_ := Aside0.mk ((by rw [hg]; exact (below_size (by repeat (first | (with_reducible first | exact HB.out | apply below_alloc | apply pw_below_drewN | apply below_drew1 | refine below_set ?_ GE264.out) | exact HB.out))) : w.heap.size ≤ gb274)); have n11_ := Aside0.mk ((by rw [hg]; exact Nat.ne_of_lt (blk_lt (g := gb264) (o := .cells #[.int .i64 x265000_1, .int .i64 x265001_1, .int .i64 x265002_1] 119 (0, 0)) (by (with_reducible repeat (first | refine blk_drewN ?_ _ | refine blk_drew ?_ | refine blk_alloc ?_ _)); exact BK264.out)) : gb264 ≠ gb274)); have n12_ := Aside0.mk ((by rw [hg]; exact Nat.ne_of_gt (blk_lt (g := gb264) (o := .cells #[.int .i64 x265000_1, .int .i64 x265001_1, .int .i64 x265002_1] 119 (0, 0)) (by (with_reducible repeat (first | refine blk_drewN ?_ _ | refine blk_drew ?_ | refine blk_alloc ?_ _)); exact BK264.out)) : gb274 ≠ gb264)); clear HO_7; clear HO_8; clear HO_9; clear HO_33; clear HL273_1; clear BK264; clear HR273_1; clear HB; have HO_7 := n0_; have HO_8 := n1_; have HO_9 := n2_; have HO_33 := n3_; have HL273_1 := n4_; have BK264 := n5_; have HR273_1 := n6_; have HB := n7_; have BK274 := n8_; have GW274 := n9_; have GE274 := n10_; have NB264_274 := n11_; have NB274_264 := n12_; clear n0_ n1_ n2_ n3_ n4_ n5_ n6_ n7_ n8_ n9_ n10_ n11_ n12_; clear hb hbox hg; have hnb48 := NB274_264.out; have hnc48 := NB264_274.out; have hcz49_0 : w47.cell? ⟨gb274, 0, none⟩ = some (.int .i64 0) := (blk_cell BK274.out 0).trans rfl; have hcz49_1 : w47.cell? ⟨gb274, 1, none⟩ = some (.slice none 0 0) := (blk_cell BK274.out 1).trans rfl; have hfz49_0 := blk_frozen BK274.out 0; have hfz49_1 := blk_frozen BK274.out 1; obtain ⟨Ao50, co50, eo50⟩ := Kd.R_slice HO_8.out; subst eo50; have p275 : 0 ≤ ((ji23) : Int) := of_decide_eq_true (by first | (with_reducible assumption) | assumption); have q275 : (ji23) < (x8_1.length : Int) := of_decide_eq_true (by first | (with_reducible assumption) | assumption); obtain ⟨ad275, e275, hx275_0⟩ := Kd.at_bool (Kd.R_reads' HO_8.out).2.2 (ji23) p275 q275; (try rw [← Nbq26.out] at hx275_0); cases e275; have hn275_0 : ad275.block ≠ gb274 := Kd.own_blk (Kd.R_ne HO_8.out BK274.out (by decide)); have hn275_1 : ad275.block ≠ gb274 := Kd.own_blk (Kd.R_ne HO_8.out BK274.out (by decide)); replace hx275_0 := (cell_far (p := ⟨gb274, 0, none⟩) (by first | (rw [add_block]; exact hn275_0) | (show (Addr.add _ _).block ≠ _; rw [add_block]; exact hn275_0) | exact hn275_0) (.int .i64 ((rd_T110 t255 x35_2).f0))).trans hx275_0; replace hx275_0 := (cell_far (p := ⟨gb274, 1, none⟩) (by first | (rw [add_block]; exact hn275_1) | (show (Addr.add _ _).block ≠ _; rw [add_block]; exact hn275_1) | exact hn275_1) (.slice A273_1 ((rd_T110 t255 x35_2).f1).length c273_1)).trans hx275_0; clear hn275_0; clear hn275_1; replace p275 := eq_true p275; replace q275 := eq_true q275; have hcz51_0 : w47.cell? ⟨gb264, 0, none⟩ = some (.int .i64 x265000_1) := (blk_cell BK264.out 0).trans rfl; have hcz51_1 : w47.cell? ⟨gb264, 1, none⟩ = some (.int .i64 x265001_1) := (blk_cell BK264.out 1).trans rfl; have hcz51_2 : w47.cell? ⟨gb264, 2, none⟩ = some (.int .i64 x265002_1) := (blk_cell BK264.out 2).trans rfl; have hfz51_0 := blk_frozen BK264.out 0; have hfz51_1 := blk_frozen BK264.out 1; have hfz51_2 := blk_frozen BK264.out 2) | ((with_reducible refine gate_callee (f := 77) rfl ?_); refine goesL_ (some 48) rfl rfl Try.func77 (by kernel_rfl) rfl #[.agg #[.int .i64 x265000_1, .int .i64 x265001_1, .int .i64 x265002_1], .agg #[.int .i64 ((rd_T110 t255 x35_2).f0), .slice A273_1 ((rd_T110 t255 x35_2).f1).length c273_1], .int .i64 a1] rfl (by (try simp only [List.map_toArray, List.map_cons, List.map_nil]); first | done | rfl | (simp only [List.length_drop, List.length_take]; rfl)) ?_; (with_reducible refine (impl_place_cost.calls k2 x265000_1 x265001_1 x265002_1 ((rd_T110 t255 x35_2).f0) _ _ ((rd_T110 t255 x35_2).f1) a1 t276 _ ?side1 ?side2 A32.out).mono ?_); (case side1 => repeat (first | exact ((Kd.V_reads' (by (with_reducible repeat (first | apply Kd.V_alloc | apply Kd.V_drewN | apply Kd.V_drew)); exact (Kd.V_mono (Kd.V_far (p := ⟨gb274, 1, none⟩) (Kd.V_far (p := ⟨gb274, 0, none⟩) (Kd.V_mono HL273_1.out (fun k_ hk => (⟨hk, hk.2⟩ : _ ∧ k_ ≠ gb274))) (fun _ hk => hk.2) (.int .i64 ((rd_T110 t255 x35_2).f0))) (fun _ hk => hk.2) (.slice A273_1 ((rd_T110 t255 x35_2).f1).length c273_1)) (fun _ h_ => h_.1)))).2.2) | (with_reducible refine Kd.C_alloc ?_ _) | (with_reducible refine Kd.C_drewN ?_ _) | (with_reducible refine Kd.C_drew ?_))); (case side2 => exact HC273_1.out); rintro e w52 ⟨rfl, hb⟩; refine ⟨_, rfl, ?_⟩; have n0_ := Aside0.mk (Kd.N_below (by (with_reducible repeat (first | apply Kd.N_alloc | apply Kd.N_drewN | apply Kd.N_drew)); exact (Kd.N_mono (Kd.N_far (p := ⟨gb274, 1, none⟩) (Kd.N_far (p := ⟨gb274, 0, none⟩) (Kd.N_mono HO_7.out (fun k_ hk => (⟨hk, hk.2⟩ : _ ∧ k_ ≠ gb274))) (fun _ hk => hk.2) (.int .i64 ((rd_T110 t255 x35_2).f0))) (fun _ hk => hk.2) (.slice A273_1 ((rd_T110 t255 x35_2).f1).length c273_1)) (fun _ h_ => h_.1))) hb); have n1_ := Aside0.mk (Kd.R_below (by (with_reducible repeat (first | apply Kd.R_alloc | apply Kd.R_drewN | apply Kd.R_drew)); exact (Kd.R_mono (Kd.R_far (p := ⟨gb274, 1, none⟩) (Kd.R_far (p := ⟨gb274, 0, none⟩) (Kd.R_types HO_8.out BK274.out (by decide)) (fun _ hk => hk.2) (.int .i64 ((rd_T110 t255 x35_2).f0))) (fun _ hk => hk.2) (.slice A273_1 ((rd_T110 t255 x35_2).f1).length c273_1)) (fun _ h_ => h_.1))) hb); have n2_ := Aside0.mk (Kd.R_below (by (with_reducible repeat (first | apply Kd.R_alloc | apply Kd.R_drewN | apply Kd.R_drew)); exact (Kd.R_mono (Kd.R_far (p := ⟨gb274, 1, none⟩) (Kd.R_far (p := ⟨gb274, 0, none⟩) (Kd.R_types HO_9.out BK274.out (by decide)) (fun _ hk => hk.2) (.int .i64 ((rd_T110 t255 x35_2).f0))) (fun _ hk => hk.2) (.slice A273_1 ((rd_T110 t255 x35_2).f1).length c273_1)) (fun _ h_ => h_.1))) hb); have n3_ := Aside0.mk (Kd.N_below (by (with_reducible repeat (first | apply Kd.N_alloc | apply Kd.N_drewN | apply Kd.N_drew)); exact (Kd.N_mono (Kd.N_far (p := ⟨gb274, 1, none⟩) (Kd.N_far (p := ⟨gb274, 0, none⟩) (Kd.N_mono HO_33.out (fun k_ hk => (⟨hk, hk.2⟩ : _ ∧ k_ ≠ gb274))) (fun _ hk => hk.2) (.int .i64 ((rd_T110 t255 x35_2).f0))) (fun _ hk => hk.2) (.slice A273_1 ((rd_T110 t255 x35_2).f1).length c273_1)) (fun _ h_ => h_.1))) hb); have n4_ := Aside0.mk (Kd.V_below (by (with_reducible repeat (first | apply Kd.V_alloc | apply Kd.V_drewN | apply Kd.V_drew)); exact (Kd.V_mono (Kd.V_far (p := ⟨gb274, 1, none⟩) (Kd.V_far (p := ⟨gb274, 0, none⟩) (Kd.V_mono HL273_1.out (fun k_ hk => (⟨hk, hk.2⟩ : _ ∧ k_ ≠ gb274))) (fun _ hk => hk.2) (.int .i64 ((rd_T110 t255 x35_2).f0))) (fun _ hk => hk.2) (.slice A273_1 ((rd_T110 t255 x35_2).f1).length c273_1)) (fun _ h_ => h_.1))) hb); have n5_ := Aside0.mk (blk_below (g := gb264) (o := .cells #[.int .i64 x265000_1, .int .i64 x265001_1, .int .i64 x265002_1] 119 (0, 0)) (by (with_reducible repeat (first | refine blk_drewN ?_ _ | refine blk_drew ?_ | refine blk_alloc ?_ _)); refine blk_far ?_ NB264_274.out _; (with_reducible repeat (first | refine blk_drewN ?_ _ | refine blk_drew ?_ | refine blk_alloc ?_ _)); refine blk_far ?_ NB264_274.out _; (with_reducible repeat (first | refine blk_drewN ?_ _ | refine blk_drew ?_ | refine blk_alloc ?_ _)); exact BK264.out) hb); have n6_ := Aside0.mk (Kd.C_below ((Kd.V_reads' (by (with_reducible repeat (first | apply Kd.V_alloc | apply Kd.V_drewN | apply Kd.V_drew)); exact (Kd.V_mono (Kd.V_far (p := ⟨gb274, 1, none⟩) (Kd.V_far (p := ⟨gb274, 0, none⟩) (Kd.V_mono HL273_1.out (fun k_ hk => (⟨hk, hk.2⟩ : _ ∧ k_ ≠ gb274))) (fun _ hk => hk.2) (.int .i64 ((rd_T110 t255 x35_2).f0))) (fun _ hk => hk.2) (.slice A273_1 ((rd_T110 t255 x35_2).f1).length c273_1)) (fun _ h_ => h_.1)))).2.2) hb); have n7_ := Aside0.mk (blk_below (g := gb274) (o := .cells #[.int .i64 ((rd_T110 t255 x35_2).f0), .slice A273_1 ((rd_T110 t255 x35_2).f1).length c273_1] 110 (0, 0)) (by (with_reducible repeat (first | refine blk_drewN ?_ _ | refine blk_drew ?_ | refine blk_alloc ?_ _)); refine blk_put (cs := #[.int .i64 ((rd_T110 t255 x35_2).f0), .slice none 0 0]) ?_ 1 _ rfl; (with_reducible repeat (first | refine blk_drewN ?_ _ | refine blk_drew ?_ | refine blk_alloc ?_ _)); refine blk_put (cs := #[.int .i64 0, .slice none 0 0]) ?_ 0 _ rfl; (with_reducible repeat (first | refine blk_drewN ?_ _ | refine blk_drew ?_ | refine blk_alloc ?_ _)); exact BK274.out) hb); have n8_ := Aside0.mk (below_step (by repeat (first | (with_reducible first | exact HB.out | apply below_alloc | apply pw_below_drewN | apply below_drew1 | refine below_set ?_ GE264.out | refine below_set ?_ GE274.out) | exact HB.out)) hb); clear HO_7; clear HO_8; clear HO_9; clear HO_33; clear HL273_1; clear BK264; clear HR273_1; clear BK274; clear HB; have HO_7 := n0_; have HO_8 := n1_; have HO_9 := n2_; have HO_33 := n3_; have HL273_1 := n4_; have BK264 := n5_; have HR273_1 := n6_; have BK274 := n7_; have HB := n8_; clear n0_ n1_ n2_ n3_ n4_ n5_ n6_ n7_ n8_; (try clear hb); (try clear hb2); (try clear hk); (try clear hi)))
                                  go_roundg k2
                                  case measure => have := HK1.out; have := HK2.out; omega
                                  case rel => exact ⟨(x11_2), (x12_2), (wrap64 (x35_2 + 1)), (by first | rfl | (simp; done) | (simp [*]; done)), (by first | rfl | (simp; done) | (simp [*]; done)), (by first | rfl | (simp; done) | (simp [*]; done)), H', ⟨by have := HK1.out; have := HK2.out; omega⟩, ⟨by (with_reducible repeat (first | apply Kd.N_alloc | apply Kd.N_drewN | apply Kd.N_drew)); exact Kd.N_mono HO_7.out (fun _ hk => ⟨hk.1.1, ⟨hk.1.2.1, hk.1.2.2⟩⟩)⟩, ⟨by (with_reducible repeat (first | apply Kd.R_alloc | apply Kd.R_drewN | apply Kd.R_drew)); exact HO_8.out⟩, ⟨by (with_reducible repeat (first | apply Kd.R_alloc | apply Kd.R_drewN | apply Kd.R_drew)); exact HO_9.out⟩, ⟨by (with_reducible repeat (first | apply Kd.N_alloc | apply Kd.N_drewN | apply Kd.N_drew)); exact Kd.N_mono HO_33.out (fun _ hk => ⟨hk.1.1, ⟨hk.1.2.1, hk.1.2.2⟩⟩)⟩, ⟨by (with_reducible repeat (first | refine blk_drewN ?_ _ | refine blk_drew ?_ | refine blk_alloc ?_ _)); exact BK264.out⟩, ⟨by repeat (first | (with_reducible first | exact HB.out | apply below_alloc | apply pw_below_drewN | apply below_drew1 | refine below_set ?_ GE264.out | refine below_set ?_ GE274.out) | exact HB.out)⟩⟩
                          · rw [if_neg c25] at H
                            exact absurd H (by simp)
                        · rw [if_neg c24] at H
                          exact absurd H (by simp)
                      · rw [if_neg c22] at H
                        exact absurd H (by simp)
                    · rw [if_neg c21] at H
                      exact absurd H (by simp)
                  · rw [if_neg c20] at H
                    have c20b0 : decide (x35_2 < (t255.length : Int)) = false := decide_eq_false c20
                    clear c20
                    obtain ⟨ji53, hji53⟩ : ∃ j_ : Int, (wrap64 (Int.tdiv x11_2 2)) = j_ := ⟨_, rfl⟩
                    replace H : (if 0 ≤ (ji53) then (if (ji53) < (x8_1.length : Int) then (if x9_1.length < 17592186044416 then (if 0 ≤ x11_2 then (if x11_2 < (t255.length : Int) then ((impl_Stroke_last.f ((rd_T110 t255 x11_2).f0) ((rd_T110 t255 x11_2).f1)).bind fun bt270 => (impl_GreedyOrder.l0 k2 a1 t255 (x8_1.set ((ji53) : Int).toNat true) (x9_1 ++ [x11_2]) (l0.length : Int) (wrap64 (x31_1 + 1)) bt270.1 bt270.2 ((rd_T110 t255 x11_2).f0))) else (none)) else (none)) else (none)) else (none)) else (none)) = some (r1, r2) := by first | (rw [hji53] at H; exact H) | (simp only [hji53] at H ⊢; exact H)
                    have hji53w : (IntKind.i64.wrap (Int.tdiv x11_2 2)) = ji53 := (i64_w _).trans hji53
                    by_cases c54 : 0 ≤ (ji53)
                    · rw [if_pos c54] at H
                      have c54b0 : decide (0 ≤ (ji53)) = true := decide_eq_true c54
                      clear c54
                      by_cases c55 : (ji53) < (x8_1.length : Int)
                      · rw [if_pos c55] at H
                        have c55b0 : decide ((ji53) < (x8_1.length : Int)) = true := decide_eq_true c55
                        clear c55
                        obtain ⟨y265, hy265⟩ : ∃ y_ : List Bool, y_ = (x8_1.set ((ji53) : Int).toNat true) := ⟨_, rfl⟩
                        replace H : (if x9_1.length < 17592186044416 then (if 0 ≤ x11_2 then (if x11_2 < (t255.length : Int) then ((impl_Stroke_last.f ((rd_T110 t255 x11_2).f0) ((rd_T110 t255 x11_2).f1)).bind fun bt270 => (impl_GreedyOrder.l0 k2 a1 t255 y265 (x9_1 ++ [x11_2]) (l0.length : Int) (wrap64 (x31_1 + 1)) bt270.1 bt270.2 ((rd_T110 t255 x11_2).f0))) else (none)) else (none)) else (none)) = some (r1, r2) := by first | (rw [hy265]; with_reducible exact H) | (have H2_ := (Option.bind_some _ _).symm.trans H; rw [hy265]; with_reducible exact H2_) | (have H2_ := (Option.bind_some _ _).symm.trans H; with_reducible exact H2_) | with_reducible exact H | (rw [hy265]; exact H) | exact H
                        have Ny265 := Aside0.mk hy265
                        clear hy265
                        by_cases c57 : x9_1.length < 17592186044416
                        · rw [if_pos c57] at H
                          have LMc57 := Aside0.mk c57
                          clear c57
                          obtain ⟨y266, hy266⟩ : ∃ y_ : List Int, y_ = (x9_1 ++ [x11_2]) := ⟨_, rfl⟩
                          replace H : (if 0 ≤ x11_2 then (if x11_2 < (t255.length : Int) then ((impl_Stroke_last.f ((rd_T110 t255 x11_2).f0) ((rd_T110 t255 x11_2).f1)).bind fun bt270 => (impl_GreedyOrder.l0 k2 a1 t255 y265 y266 (l0.length : Int) (wrap64 (x31_1 + 1)) bt270.1 bt270.2 ((rd_T110 t255 x11_2).f0))) else (none)) else (none)) = some (r1, r2) := by first | (rw [hy266]; with_reducible exact H) | (have H2_ := (Option.bind_some _ _).symm.trans H; rw [hy266]; with_reducible exact H2_) | (have H2_ := (Option.bind_some _ _).symm.trans H; with_reducible exact H2_) | with_reducible exact H | (rw [hy266]; exact H) | exact H
                          have Ny266 := Aside0.mk hy266
                          clear hy266
                          by_cases c58 : 0 ≤ x11_2
                          · rw [if_pos c58] at H
                            have c58b0 : decide (0 ≤ x11_2) = true := decide_eq_true c58
                            clear c58
                            by_cases c59 : x11_2 < (t255.length : Int)
                            · rw [if_pos c59] at H
                              have c59b0 : decide (x11_2 < (t255.length : Int)) = true := decide_eq_true c59
                              clear c59
                              replace H := Option.bind_eq_some_iff.mp H
                              obtain ⟨⟨t270, t271⟩, A600, H⟩ := H
                              replace H : (impl_GreedyOrder.l0 k2 a1 t255 y265 y266 (l0.length : Int) (wrap64 (x31_1 + 1)) t270 t271 ((rd_T110 t255 x11_2).f0)) = some (r1, r2) := H
                              have A60 := Aside0.mk A600
                              clear A600
                              have H' := Aside0.mk H
                              clear H
                              have p56 : 0 ≤ ((ji53) : Int) := of_decide_eq_true (by first | (with_reducible assumption) | assumption)
                              have q56 : ((ji53) : Int) < ((x8_1.length : Int) : Int) := of_decide_eq_true (by first | (with_reducible assumption) | assumption)
                              obtain ⟨go56, co56, eo56, gb56, gl56, cl56, HG56⟩ := Kd.R_form HO_8.out (by omega)
                              (first | cases eo56 | (injection eo56 with ea_ en_ ec_; (first | subst ea_ | (injection ea_ with ea_; subst ea_)); subst ec_; clear en_))
                              have GB56 := Aside0.mk gb56
                              have GG56 := Aside0.mk HG56
                              clear gb56 gl56 HG56
                              obtain ⟨hx56_0, hf56_0⟩ := Kd.R_celln false HO_8.out ((ji53) : Int) p56 q56
                              replace p56 := eq_true p56
                              replace q56 := eq_true q56
                              have HP61 := Kd.R_putg HO_8.out ((ji53) : Int) true
                              try go_wp2_with (first | ((with_reducible refine gate_store (t := 4) (p := 62) rfl ?_); refine store_event (t := 4) (p := 62) (v := ?vo_w62) (w1 := (wr.setCell ⟨go56, ((ji53) : Int).toNat, none⟩ (.bool true))) ?hg ?ho ?hn ?hr ?_; (case ho => rfl); (case hg => rfl); (case hn => rfl); (case hr => first | (go_simp; done) | (go_simp; rfl)); intro w62 hw; have hg : wr.grownBy w62 (some go56) := (by rw [hw]; exact HP61.2); have hp_ : Kd.R Kd.bool 4 w62 w.heap.size (fun _ => True) (.slice (some ⟨go56, 0, none⟩) x8_1.length co56) y265 := (by rw [hw, Ny265.out]; exact HP61.1); clear HP61; have n0_ := Aside0.mk (Kd.N_afterv (v := (.slice (some ⟨go56, 0, none⟩) x8_1.length co56)) (v1 := (.slice (some ⟨go56, 0, none⟩) x8_1.length co56)) (ok := (fun k_ => some k_ ≠ (u9 : Value).ownBlock ∧ k_ ≠ gb264)) (by (with_reducible repeat (first | apply Kd.N_alloc | apply Kd.N_drewN | apply Kd.N_drew)); exact Kd.N_mono HO_7.out (fun _ hk => ⟨⟨hk.2.1, hk.2.2⟩, hk.1⟩)) hg (.inl rfl)); have n1_ := Aside0.mk (hp_); have n2_ := Aside0.mk (Kd.R_over' (v := (.slice (some ⟨go56, 0, none⟩) x8_1.length co56)) (by (with_reducible repeat (first | apply Kd.R_alloc | apply Kd.R_drewN | apply Kd.R_drew)); exact HO_9.out) (Kd.R_typed HO_8.out) (by decide) hg); have n3_ := Aside0.mk (Kd.N_afterv (v := (.slice (some ⟨go56, 0, none⟩) x8_1.length co56)) (v1 := (.slice (some ⟨go56, 0, none⟩) x8_1.length co56)) (ok := (fun k_ => some k_ ≠ (u9 : Value).ownBlock ∧ k_ ≠ gb264)) (by (with_reducible repeat (first | apply Kd.N_alloc | apply Kd.N_drewN | apply Kd.N_drew)); exact Kd.N_mono HO_33.out (fun _ hk => ⟨⟨hk.2.1, hk.2.2⟩, hk.1⟩)) hg (.inl rfl)); have n4_ := Aside0.mk (blk_grown (g := gb264) (o := .cells #[.int .i64 x265000_1, .int .i64 x265001_1, .int .i64 x265002_1] 119 (0, 0)) (by (with_reducible repeat (first | refine blk_drewN ?_ _ | refine blk_drew ?_ | refine blk_alloc ?_ _)); exact BK264.out) hg (Kd.R_ne HO_8.out BK264.out (by decide))); have n5_ := Aside0.mk ((by rw [hw]; exact below_set (HB.out) GB56.out : Below w.heap.size w w62)); clear HO_7; clear HO_8; clear HO_9; clear HO_33; clear BK264; clear HB; have HO_7 := n0_; have HO_8 := n1_; have HO_9 := n2_; have HO_33 := n3_; have BK264 := n4_; have HB := n5_; clear n0_ n1_ n2_ n3_ n4_ n5_; clear hg hw hp_) | ((with_reducible refine gate_builtin (b := .append) (xs := #[.tmp 63, .tmp 65]) rfl ?_); at_builtin; refine Kd.R_append (Kd.int .i64) (w0 := w) w.heap.size rfl (.tmp 63) (.tmp 65) 24 2 (.int .i64 0) 8 rfl Try.underlying24 info2 rfl (by decide) (by omega) u9 x9_1 x11_2 [.int .i64 x11_2] (fun _ => True) (fun _ => False) rfl rfl ?aP (fun _ hk => hk.elim) ?aF ?aO ?aB ?aS ?aL ?_; (case aP => exact rfl); (case aB => exact (by repeat (first | (with_reducible first | exact HB.out | apply below_alloc | apply pw_below_drewN | apply below_drew1 | refine below_set ?_ GE264.out) | exact HB.out))); (case aF => exact (fun _ _ => trivial)); (case aO => exact (by (with_reducible repeat (first | apply Kd.R_alloc | apply Kd.R_drewN | apply Kd.R_drew)); exact HO_9.out)); (case aS => exact (below_size (by repeat (first | (with_reducible first | exact HB.out | apply below_alloc | apply pw_below_drewN | apply below_drew1 | refine below_set ?_ GE264.out) | exact HB.out)))); (case aL => have := LMc57.out; omega); intro v267 w63 ho hb hg hat; rw [← Ny266.out] at ho; have n0_ := Aside0.mk (Kd.N_afterv (ok := (fun k_ => some k_ ≠ (.slice (some ⟨go56, 0, none⟩) x8_1.length co56 : Value).ownBlock ∧ k_ ≠ gb264)) (by (with_reducible repeat (first | apply Kd.N_alloc | apply Kd.N_drewN | apply Kd.N_drew)); exact Kd.N_mono HO_7.out (fun _ hk => ⟨⟨hk.2, hk.1.2⟩, hk.1.1⟩)) hg hat); have n1_ := Aside0.mk (Kd.R_over' (by (with_reducible repeat (first | apply Kd.R_alloc | apply Kd.R_drewN | apply Kd.R_drew)); exact HO_8.out) (Kd.R_typed (by (with_reducible repeat (first | apply Kd.R_alloc | apply Kd.R_drewN | apply Kd.R_drew)); exact HO_9.out)) (by decide) hg); have n2_ := Aside0.mk (Kd.N_afterv (ok := (fun k_ => some k_ ≠ (.slice (some ⟨go56, 0, none⟩) x8_1.length co56 : Value).ownBlock ∧ k_ ≠ gb264)) (by (with_reducible repeat (first | apply Kd.N_alloc | apply Kd.N_drewN | apply Kd.N_drew)); exact Kd.N_mono HO_33.out (fun _ hk => ⟨⟨hk.2, hk.1.2⟩, hk.1.1⟩)) hg hat); have n3_ := Aside0.mk (blk_grown (g := gb264) (o := .cells #[.int .i64 x265000_1, .int .i64 x265001_1, .int .i64 x265002_1] 119 (0, 0)) (by (with_reducible repeat (first | refine blk_drewN ?_ _ | refine blk_drew ?_ | refine blk_alloc ?_ _)); exact BK264.out) hg (Kd.R_ne HO_9.out BK264.out (by decide))); have n4_ := Aside0.mk (hb); have n5_ := Aside0.mk (ho); clear HO_7; clear HO_8; clear HO_33; clear BK264; clear HB; clear HO_9; have HO_7 := n0_; have HO_8 := n1_; have HO_33 := n2_; have BK264 := n3_; have HB := n4_; have HO268 := n5_; clear n0_ n1_ n2_ n3_ n4_ n5_; clear ho hb hg hat))
                              have n0_ := Aside0.mk (Kd.N_drew HO_7.out)
                              have n1_ := Aside0.mk (Kd.R_drew HO_8.out)
                              have n2_ := Aside0.mk (Kd.N_drew HO_33.out)
                              have n3_ := Aside0.mk (Kd.R_drew HO268.out)
                              have n4_ := Aside0.mk (blk_drew BK264.out)
                              have n5_ := Aside0.mk (below_drew1 HB.out)
                              clear HO_7
                              clear HO_8
                              clear HO_33
                              clear HO268
                              clear BK264
                              clear HB
                              have HO_7 := n0_
                              have HO_8 := n1_
                              have HO_33 := n2_
                              have HO268 := n3_
                              have BK264 := n4_
                              have HB := n5_
                              clear n0_ n1_ n2_ n3_ n4_ n5_
                              have p269 : 0 ≤ (x11_2 : Int) := of_decide_eq_true (by first | (with_reducible assumption) | assumption)
                              have q269 : x11_2 < (t255.length : Int) := of_decide_eq_true (by first | (with_reducible assumption) | assumption)
                              obtain ⟨ad269, A269_1, c269_1, e269, hx269_0, hx269_1, hl269_1, hi269_1⟩ := at_T110 (Kd.N_reads' HO_7.out).2.2 x11_2 p269 q269
                              cases e269
                              obtain ⟨ce269, hce269, hMe269, hcc269⟩ := Kd.N_get HO_7.out z110 x11_2 p269 (by first | exact q269 | exact of_decide_eq_true (by first | (with_reducible assumption) | assumption) | (have e_ := (Kd.N_reads' HO_7.out).1; omega))
                              obtain ⟨ua269_1, uc269_1, rfl, ul269_1, ge269_1⟩ := k110_openF hMe269
                              have hv269_1 := hcc269 1 _ rfl
                              rw [add_field _ _ 1 (by omega)] at hv269_1
                              replace hv269_1 := Option.some.inj (hv269_1.symm.trans hx269_1)
                              injection hv269_1 with hva_ hvn_ hvc_
                              rw [hva_] at ge269_1
                              rw [hvc_] at ul269_1
                              have HL269_1 := Aside0.mk (show Kd.V k90 90 _ w.heap.size _ _ ((rd_T110 t255 x11_2).f1) from Kd.V_mk ul269_1 ge269_1)
                              clear hva_ hvn_ hvc_ ge269_1 ul269_1
                              clear hcc269 hce269
                              have HR269_1 := Aside0.mk hi269_1
                              have HC269_1 := Aside0.mk hl269_1
                              clear hi269_1 hl269_1
                              replace p269 := eq_true p269
                              replace q269 := eq_true q269
                              have p272 : 0 ≤ (x11_2 : Int) := of_decide_eq_true (by first | (with_reducible assumption) | assumption)
                              have q272 : x11_2 < (t255.length : Int) := of_decide_eq_true (by first | (with_reducible assumption) | assumption)
                              obtain ⟨ad272, A272_1, c272_1, e272, hx272_0, hx272_1, hl272_1, hi272_1⟩ := at_T110 (Kd.N_reads' HO_7.out).2.2 x11_2 p272 q272
                              obtain rfl : ad269 = ad272 := (by injection e272)
                              obtain ⟨ce272, hce272, hMe272, hcc272⟩ := Kd.N_get HO_7.out z110 x11_2 p272 (by first | exact q272 | exact of_decide_eq_true (by first | (with_reducible assumption) | assumption) | (have e_ := (Kd.N_reads' HO_7.out).1; omega))
                              obtain ⟨ua272_1, uc272_1, rfl, ul272_1, ge272_1⟩ := k110_openF hMe272
                              have hv272_1 := hcc272 1 _ rfl
                              rw [add_field _ _ 1 (by omega)] at hv272_1
                              replace hv272_1 := Option.some.inj (hv272_1.symm.trans hx272_1)
                              injection hv272_1 with hva_ hvn_ hvc_
                              rw [hva_] at ge272_1
                              rw [hvc_] at ul272_1
                              have HL272_1 := Aside0.mk (show Kd.V k90 90 _ w.heap.size _ _ ((rd_T110 t255 x11_2).f1) from Kd.V_mk ul272_1 ge272_1)
                              clear hva_ hvn_ hvc_ ge272_1 ul272_1
                              clear hcc272 hce272
                              have HR272_1 := Aside0.mk hi272_1
                              have HC272_1 := Aside0.mk hl272_1
                              clear hi272_1 hl272_1
                              replace p272 := eq_true p272
                              replace q272 := eq_true q272
                              have ea_ := Option.some.inj (hx269_1.symm.trans hx272_1)
                              injection ea_ with ea_ en_ ec_
                              subst ea_
                              subst ec_
                              clear en_
                              refine start_ (n := 12) (S := fun w' => w'.cell? (ad269.add ((x11_2).toNat * 2)) = some (.int .i64 ((rd_T110 t255 x11_2).f0)) ∧ w'.cell? ⟨(ad269.add ((x11_2).toNat * 2)).block, (ad269.add ((x11_2).toNat * 2)).off + 1, none⟩ = some (.slice A269_1 ((rd_T110 t255 x11_2).f1).length c269_1) ∧ w'.cell? (ad269.add ((x11_2).toNat * 2)) = some (.int .i64 ((rd_T110 t255 x11_2).f0)) ∧ w'.cell? ⟨(ad269.add ((x11_2).toNat * 2)).block, (ad269.add ((x11_2).toNat * 2)).off + 1, none⟩ = some (.slice A269_1 ((rd_T110 t255 x11_2).f1).length c269_1)) (ds := []) #[false, false, false, false, false, false, false, false, false, false, false, false] (by kernel_rfl) rfl rfl ⟨hx269_0, hx269_1, hx272_0, hx272_1⟩ (fun hHeld => ?_); refine with_tabW impl_GreedyOrder.tab19 impl_GreedyOrder.bits19 (fun HT_ HW_ => ?_)
                              generalize w63.drew = w64 at HO_7 HO_8 HO_33 HO268 BK264 HB HL269_1 HL272_1 HR269_1 HR272_1 hx269_0 hx269_1 hx272_0 hx272_1 hHeld ⊢
                              refine pure_ (i := 0) (N := some 67) (v := ?_) (a' := ?_) #[true, false, false, false, false, false, false, false, false, false, false, false] rfl rfl (any_of HT_.out (by kernel_rfl)) (fun _ _ _ h => h) (Or.inl ⟨by rfl, ?_⟩) ?_ ?_
                              rotate_left
                              · intro w'
                                go_simp
                                with_reducible rfl
                              rotate_left
                              · simp only [Act.put, List.setIfInBounds_toArray, List.set_cons_zero, List.set_cons_succ, i64_w, i32_w]
                                rfl
                              refine pure_ (i := 1) (N := some 68) (v := ?_) (a' := ?_) #[true, true, false, false, false, false, false, false, false, false, false, false] rfl rfl (any_of HT_.out (by kernel_rfl)) (fun _ _ _ h => h) (Or.inl ⟨by rfl, ?_⟩) ?_ ?_
                              rotate_left
                              · intro w'
                                go_simp
                                with_reducible rfl
                              rotate_left
                              · simp only [Act.put, List.setIfInBounds_toArray, List.set_cons_zero, List.set_cons_succ, i64_w, i32_w]
                                rfl
                              refine pure_ (i := 2) (N := some 69) (v := ?_) (a' := ?_) #[true, true, true, false, false, false, false, false, false, false, false, false] rfl rfl (any_of HT_.out (by kernel_rfl)) (fun _ _ _ h => h) (Or.inl ⟨by rfl, ?_⟩) ?_ ?_
                              rotate_left
                              · intro w'
                                go_simp
                                with_reducible rfl
                              rotate_left
                              · simp only [Act.put, List.setIfInBounds_toArray, List.set_cons_zero, List.set_cons_succ, i64_w, i32_w]
                                rfl
                              refine pure_ (i := 5) (N := some 72) (v := ?_) (a' := ?_) #[true, true, true, false, false, true, false, false, false, false, false, false] rfl rfl (any_of HT_.out (by kernel_rfl)) (fun _ _ _ h => h) (Or.inl ⟨by rfl, ?_⟩) ?_ ?_
                              rotate_left
                              · intro w'
                                go_simp
                                with_reducible rfl
                              rotate_left
                              · simp only [Act.put, List.setIfInBounds_toArray, List.set_cons_zero, List.set_cons_succ, i64_w, i32_w]
                                rfl
                              refine pure_ (i := 6) (N := some 73) (v := ?_) (a' := ?_) #[true, true, true, false, false, true, true, false, false, false, false, false] rfl rfl (any_of HT_.out (by kernel_rfl)) (fun _ _ _ h => h) (Or.inl ⟨by rfl, ?_⟩) ?_ ?_
                              rotate_left
                              · intro w'
                                go_simp
                                with_reducible rfl
                              rotate_left
                              · simp only [Act.put, List.setIfInBounds_toArray, List.set_cons_zero, List.set_cons_succ, i64_w, i32_w]
                                rfl
                              refine pure_ (i := 7) (N := some 74) (v := ?_) (a' := ?_) #[true, true, true, false, false, true, true, true, false, false, false, false] rfl rfl (any_of HT_.out (by kernel_rfl)) (fun _ _ _ h => h) (Or.inl ⟨by rfl, ?_⟩) ?_ ?_
                              rotate_left
                              · intro w'
                                go_simp
                                with_reducible rfl
                              rotate_left
                              · simp only [Act.put, List.setIfInBounds_toArray, List.set_cons_zero, List.set_cons_succ, i64_w, i32_w]
                                rfl
                              refine pure_ (i := 8) (N := some 75) (v := ?_) (a' := ?_) #[true, true, true, false, false, true, true, true, true, false, false, false] rfl rfl (any_of HT_.out (by kernel_rfl)) (fun _ _ _ h => h) (Or.inl ⟨by rfl, ?_⟩) ?_ ?_
                              rotate_left
                              · intro w'
                                go_simp
                                with_reducible rfl
                              rotate_left
                              · simp only [Act.put, List.setIfInBounds_toArray, List.set_cons_zero, List.set_cons_succ, i64_w, i32_w]
                                rfl
                              refine take_ (i := 3) (N := some 70) (v := ?_) (a' := ?_) #[true, true, true, true, false, true, true, true, true, false, false, false] rfl rfl (take_ofW HT_.out HW_.out (by kernel_rfl)) (fun _ _ _ h => h) (Or.inl ⟨by rfl, ?_⟩) hHeld ?_ ?_
                              rotate_left
                              · rintro w' ⟨s0, s1, s2, s3⟩
                                go_simp
                                with_reducible rfl
                              rotate_left
                              · simp only [Act.put, List.setIfInBounds_toArray, List.set_cons_zero, List.set_cons_succ, i64_w, i32_w]
                                rfl
                              refine take_ (i := 9) (N := some 76) (v := ?_) (a' := ?_) #[true, true, true, true, false, true, true, true, true, true, false, false] rfl rfl (take_ofW HT_.out HW_.out (by kernel_rfl)) (fun _ _ _ h => h) (Or.inl ⟨by rfl, ?_⟩) hHeld ?_ ?_
                              rotate_left
                              · rintro w' ⟨s0, s1, s2, s3⟩
                                go_simp
                                with_reducible rfl
                              rotate_left
                              · simp only [Act.put, List.setIfInBounds_toArray, List.set_cons_zero, List.set_cons_succ, i64_w, i32_w]
                                rfl
                              refine one_ (i := 4) (N := some 71) #[true, true, true, true, true, true, true, true, true, true, false, false] rfl rfl (one_of HT_.out (by kernel_rfl)) (by decide) (fun K hK => ?_)
                              refine goes_ Try.func78 (by kernel_rfl) rfl #[.agg #[.int .i64 ((rd_T110 t255 x11_2).f0), .slice A269_1 ((rd_T110 t255 x11_2).f1).length c269_1]] (by rfl) rfl rfl (by (try simp only [List.map_toArray, List.map_cons, List.map_nil]); first | done | rfl | (simp only [List.length_drop, List.length_take]; rfl)) ?_
                              with_reducible refine (impl_Stroke_last.calls ((rd_T110 t255 x11_2).f0) _ _ ((rd_T110 t255 x11_2).f1) t270 t271 _ ?side1 ?side2 A60.out).mono ?_
                              (case side1 => repeat (first | exact (by repeat (first | (with_reducible exact HR269_1.out) | (with_reducible refine Kd.C_alloc ?_ _) | (with_reducible refine Kd.C_drewN ?_ _) | (with_reducible refine Kd.C_drew ?_) | exact HR269_1.out)) | (with_reducible refine Kd.C_alloc ?_ _) | (with_reducible refine Kd.C_drewN ?_ _) | (with_reducible refine Kd.C_drew ?_)))
                              (case side2 => exact HC269_1.out)
                              rintro e w65 ⟨rfl, hb⟩
                              have HS0_ := (hb.cell (World.block_lt_of_cell? _ _ (hHeld.1))).trans (hHeld.1)
                              have HS1_ := (hb.cell (World.block_lt_of_cell? _ _ (hHeld.2.1))).trans (hHeld.2.1)
                              have HS2_ := (hb.cell (World.block_lt_of_cell? _ _ (hHeld.2.2.1))).trans (hHeld.2.2.1)
                              have HS3_ := (hb.cell (World.block_lt_of_cell? _ _ (hHeld.2.2.2))).trans (hHeld.2.2.2)
                              refine ⟨_, rfl, ?_⟩
                              have n0_ := Aside0.mk (Kd.N_below (by (with_reducible repeat (first | apply Kd.N_alloc | apply Kd.N_drewN | apply Kd.N_drew)); exact HO_7.out) hb)
                              have n1_ := Aside0.mk (Kd.R_below (by (with_reducible repeat (first | apply Kd.R_alloc | apply Kd.R_drewN | apply Kd.R_drew)); exact HO_8.out) hb)
                              have n2_ := Aside0.mk (Kd.N_below (by (with_reducible repeat (first | apply Kd.N_alloc | apply Kd.N_drewN | apply Kd.N_drew)); exact HO_33.out) hb)
                              have n3_ := Aside0.mk (Kd.R_below (by (with_reducible repeat (first | apply Kd.R_alloc | apply Kd.R_drewN | apply Kd.R_drew)); exact HO268.out) hb)
                              have n4_ := Aside0.mk (Kd.V_below (by (with_reducible repeat (first | apply Kd.V_alloc | apply Kd.V_drewN | apply Kd.V_drew)); exact HL269_1.out) hb)
                              have n5_ := Aside0.mk (Kd.V_below (by (with_reducible repeat (first | apply Kd.V_alloc | apply Kd.V_drewN | apply Kd.V_drew)); exact HL272_1.out) hb)
                              have n6_ := Aside0.mk (blk_below (g := gb264) (o := .cells #[.int .i64 x265000_1, .int .i64 x265001_1, .int .i64 x265002_1] 119 (0, 0)) (by (with_reducible repeat (first | refine blk_drewN ?_ _ | refine blk_drew ?_ | refine blk_alloc ?_ _)); exact BK264.out) hb)
                              have n7_ := Aside0.mk (Kd.C_below (by repeat (first | (with_reducible exact HR269_1.out) | (with_reducible refine Kd.C_alloc ?_ _) | (with_reducible refine Kd.C_drewN ?_ _) | (with_reducible refine Kd.C_drew ?_) | exact HR269_1.out)) hb)
                              have n8_ := Aside0.mk (Kd.C_below (by repeat (first | (with_reducible exact HR272_1.out) | (with_reducible refine Kd.C_alloc ?_ _) | (with_reducible refine Kd.C_drewN ?_ _) | (with_reducible refine Kd.C_drew ?_) | exact HR272_1.out)) hb)
                              have n9_ := Aside0.mk (below_step (by repeat (first | (with_reducible first | exact HB.out | apply below_alloc | apply pw_below_drewN | apply below_drew1 | refine below_set ?_ GE264.out) | exact HB.out)) hb)
                              clear HO_7
                              clear HO_8
                              clear HO_33
                              clear HO268
                              clear HL269_1
                              clear HL272_1
                              clear BK264
                              clear HR269_1
                              clear HR272_1
                              clear HB
                              have HO_7 := n0_
                              have HO_8 := n1_
                              have HO_33 := n2_
                              have HO268 := n3_
                              have HL269_1 := n4_
                              have HL272_1 := n5_
                              have BK264 := n6_
                              have HR269_1 := n7_
                              have HR272_1 := n8_
                              have HB := n9_
                              clear n0_ n1_ n2_ n3_ n4_ n5_ n6_ n7_ n8_ n9_
                              (try clear hb)
                              (try clear hb2)
                              (try clear hk)
                              (try clear hi)
                              refine hK.out _ _ ⟨HS0_, HS1_, HS2_, HS3_⟩ (fun hHeld => ?_)
                              clear hK K
                              refine norm_ (a' := ?_) ?_ ?_
                              rotate_left
                              · show Act.put _ (some 71) _ = _
                                simp only [Act.put, List.setIfInBounds_toArray, List.set_cons_zero, List.set_cons_succ, i64_w, i32_w]
                                rfl
                              refine pure_ (i := 10) (N := some 77) (v := ?_) (a' := ?_) #[true, true, true, true, true, true, true, true, true, true, true, false] rfl rfl (any_of HT_.out (by kernel_rfl)) (fun _ _ _ h => h) (Or.inl ⟨by rfl, ?_⟩) ?_ ?_
                              rotate_left
                              · intro w'
                                go_simp
                                with_reducible rfl
                              rotate_left
                              · simp only [Act.put, List.setIfInBounds_toArray, List.set_cons_zero, List.set_cons_succ, i64_w, i32_w]
                                rfl
                              refine one_ (i := 11) (N := none) #[true, true, true, true, true, true, true, true, true, true, true, true] rfl rfl (one_of HT_.out (by kernel_rfl)) (by decide) (fun K hK => ?_)
                              have hs66 : w65.cell? ⟨gb264, 0, none⟩ = some (.int .i64 x265000_1) := (blk_cell BK264.out 0).trans rfl
                              have hfs66 := blk_frozen BK264.out 0
                              have hs67 : w65.cell? ⟨gb264, 1, none⟩ = some (.int .i64 x265001_1) := (blk_cell BK264.out 1).trans rfl
                              have hfs67 := blk_frozen BK264.out 1
                              have hs68 : w65.cell? ⟨gb264, 2, none⟩ = some (.int .i64 x265002_1) := (blk_cell BK264.out 2).trans rfl
                              have hfs68 := blk_frozen BK264.out 2
                              refine skip_ (w1 := ?_) (by rfl) rfl ?_ ?_
                              rotate_left
                              · go_simp
                                rfl
                              refine hK.out _ _ ⟨((cell_far (p := ⟨gb264, _, none⟩) (by first | exact Kd.own_blk (Kd.N_away HO_7.out (fun _ hk => hk.1.2)) | (rw [add_block]; exact Kd.own_blk (Kd.N_away HO_7.out (fun _ hk => hk.1.2))) | (show (Addr.add _ _).block ≠ _; rw [add_block]; exact Kd.own_blk (Kd.N_away HO_7.out (fun _ hk => hk.1.2))) | (dsimp only; exact Kd.own_blk (Kd.N_away HO_7.out (fun _ hk => hk.1.2)))) _).trans (((cell_far (p := ⟨gb264, _, none⟩) (by first | exact Kd.own_blk (Kd.N_away HO_7.out (fun _ hk => hk.1.2)) | (rw [add_block]; exact Kd.own_blk (Kd.N_away HO_7.out (fun _ hk => hk.1.2))) | (show (Addr.add _ _).block ≠ _; rw [add_block]; exact Kd.own_blk (Kd.N_away HO_7.out (fun _ hk => hk.1.2))) | (dsimp only; exact Kd.own_blk (Kd.N_away HO_7.out (fun _ hk => hk.1.2)))) _).trans (((cell_far (p := ⟨gb264, _, none⟩) (by first | exact Kd.own_blk (Kd.N_away HO_7.out (fun _ hk => hk.1.2)) | (rw [add_block]; exact Kd.own_blk (Kd.N_away HO_7.out (fun _ hk => hk.1.2))) | (show (Addr.add _ _).block ≠ _; rw [add_block]; exact Kd.own_blk (Kd.N_away HO_7.out (fun _ hk => hk.1.2))) | (dsimp only; exact Kd.own_blk (Kd.N_away HO_7.out (fun _ hk => hk.1.2)))) _).trans (hHeld.1)))))), ((cell_far (p := ⟨gb264, _, none⟩) (by first | exact Kd.own_blk (Kd.N_away HO_7.out (fun _ hk => hk.1.2)) | (rw [add_block]; exact Kd.own_blk (Kd.N_away HO_7.out (fun _ hk => hk.1.2))) | (show (Addr.add _ _).block ≠ _; rw [add_block]; exact Kd.own_blk (Kd.N_away HO_7.out (fun _ hk => hk.1.2))) | (dsimp only; exact Kd.own_blk (Kd.N_away HO_7.out (fun _ hk => hk.1.2)))) _).trans (((cell_far (p := ⟨gb264, _, none⟩) (by first | exact Kd.own_blk (Kd.N_away HO_7.out (fun _ hk => hk.1.2)) | (rw [add_block]; exact Kd.own_blk (Kd.N_away HO_7.out (fun _ hk => hk.1.2))) | (show (Addr.add _ _).block ≠ _; rw [add_block]; exact Kd.own_blk (Kd.N_away HO_7.out (fun _ hk => hk.1.2))) | (dsimp only; exact Kd.own_blk (Kd.N_away HO_7.out (fun _ hk => hk.1.2)))) _).trans (((cell_far (p := ⟨gb264, _, none⟩) (by first | exact Kd.own_blk (Kd.N_away HO_7.out (fun _ hk => hk.1.2)) | (rw [add_block]; exact Kd.own_blk (Kd.N_away HO_7.out (fun _ hk => hk.1.2))) | (show (Addr.add _ _).block ≠ _; rw [add_block]; exact Kd.own_blk (Kd.N_away HO_7.out (fun _ hk => hk.1.2))) | (dsimp only; exact Kd.own_blk (Kd.N_away HO_7.out (fun _ hk => hk.1.2)))) _).trans (hHeld.2.1)))))), ((cell_far (p := ⟨gb264, _, none⟩) (by first | exact Kd.own_blk (Kd.N_away HO_7.out (fun _ hk => hk.1.2)) | (rw [add_block]; exact Kd.own_blk (Kd.N_away HO_7.out (fun _ hk => hk.1.2))) | (show (Addr.add _ _).block ≠ _; rw [add_block]; exact Kd.own_blk (Kd.N_away HO_7.out (fun _ hk => hk.1.2))) | (dsimp only; exact Kd.own_blk (Kd.N_away HO_7.out (fun _ hk => hk.1.2)))) _).trans (((cell_far (p := ⟨gb264, _, none⟩) (by first | exact Kd.own_blk (Kd.N_away HO_7.out (fun _ hk => hk.1.2)) | (rw [add_block]; exact Kd.own_blk (Kd.N_away HO_7.out (fun _ hk => hk.1.2))) | (show (Addr.add _ _).block ≠ _; rw [add_block]; exact Kd.own_blk (Kd.N_away HO_7.out (fun _ hk => hk.1.2))) | (dsimp only; exact Kd.own_blk (Kd.N_away HO_7.out (fun _ hk => hk.1.2)))) _).trans (((cell_far (p := ⟨gb264, _, none⟩) (by first | exact Kd.own_blk (Kd.N_away HO_7.out (fun _ hk => hk.1.2)) | (rw [add_block]; exact Kd.own_blk (Kd.N_away HO_7.out (fun _ hk => hk.1.2))) | (show (Addr.add _ _).block ≠ _; rw [add_block]; exact Kd.own_blk (Kd.N_away HO_7.out (fun _ hk => hk.1.2))) | (dsimp only; exact Kd.own_blk (Kd.N_away HO_7.out (fun _ hk => hk.1.2)))) _).trans (hHeld.2.2.1)))))), ((cell_far (p := ⟨gb264, _, none⟩) (by first | exact Kd.own_blk (Kd.N_away HO_7.out (fun _ hk => hk.1.2)) | (rw [add_block]; exact Kd.own_blk (Kd.N_away HO_7.out (fun _ hk => hk.1.2))) | (show (Addr.add _ _).block ≠ _; rw [add_block]; exact Kd.own_blk (Kd.N_away HO_7.out (fun _ hk => hk.1.2))) | (dsimp only; exact Kd.own_blk (Kd.N_away HO_7.out (fun _ hk => hk.1.2)))) _).trans (((cell_far (p := ⟨gb264, _, none⟩) (by first | exact Kd.own_blk (Kd.N_away HO_7.out (fun _ hk => hk.1.2)) | (rw [add_block]; exact Kd.own_blk (Kd.N_away HO_7.out (fun _ hk => hk.1.2))) | (show (Addr.add _ _).block ≠ _; rw [add_block]; exact Kd.own_blk (Kd.N_away HO_7.out (fun _ hk => hk.1.2))) | (dsimp only; exact Kd.own_blk (Kd.N_away HO_7.out (fun _ hk => hk.1.2)))) _).trans (((cell_far (p := ⟨gb264, _, none⟩) (by first | exact Kd.own_blk (Kd.N_away HO_7.out (fun _ hk => hk.1.2)) | (rw [add_block]; exact Kd.own_blk (Kd.N_away HO_7.out (fun _ hk => hk.1.2))) | (show (Addr.add _ _).block ≠ _; rw [add_block]; exact Kd.own_blk (Kd.N_away HO_7.out (fun _ hk => hk.1.2))) | (dsimp only; exact Kd.own_blk (Kd.N_away HO_7.out (fun _ hk => hk.1.2)))) _).trans (hHeld.2.2.2))))))⟩ (fun hHeld => ?_)
                              clear hK K
                              refine done_ (done_of HT_.out (by kernel_rfl)) ?_
                              try go_wp2
                              go_roundg k2
                              case measure => have := HK1.out; have := HK2.out; omega
                              case rel => exact ⟨(y265), (y266), (wrap64 (x31_1 + 1)), (t270), (t271), ((rd_T110 t255 x11_2).f0), (by first | rfl | (simp; done) | (simp [*]; done)), H', ⟨by have := HK1.out; have := HK2.out; omega⟩, ⟨by (with_reducible repeat (first | apply Kd.N_alloc | apply Kd.N_drewN | apply Kd.N_drew)); exact Kd.N_mono (Kd.N_far (p := ⟨gb264, 2, none⟩) (Kd.N_far (p := ⟨gb264, 1, none⟩) (Kd.N_far (p := ⟨gb264, 0, none⟩) (Kd.N_mono HO_7.out (fun k_ hk => (⟨hk, hk.1.2⟩ : _ ∧ k_ ≠ gb264))) (fun _ hk => hk.2) (.int .i64 t270)) (fun _ hk => hk.2) (.int .i64 t271)) (fun _ hk => hk.2) (.int .i64 ((rd_T110 t255 x11_2).f0))) (fun _ hk => ⟨hk.1.1.1, ⟨hk.1.2, hk.1.1.2⟩⟩)⟩, ⟨by (with_reducible repeat (first | apply Kd.R_alloc | apply Kd.R_drewN | apply Kd.R_drew)); exact Kd.R_mono (Kd.R_far (p := ⟨gb264, 2, none⟩) (Kd.R_far (p := ⟨gb264, 1, none⟩) (Kd.R_far (p := ⟨gb264, 0, none⟩) (Kd.R_types HO_8.out BK264.out (by decide)) (fun _ hk => hk.2) (.int .i64 t270)) (fun _ hk => hk.2) (.int .i64 t271)) (fun _ hk => hk.2) (.int .i64 ((rd_T110 t255 x11_2).f0))) (fun _ hk => trivial)⟩, ⟨by (with_reducible repeat (first | apply Kd.R_alloc | apply Kd.R_drewN | apply Kd.R_drew)); exact Kd.R_mono (Kd.R_far (p := ⟨gb264, 2, none⟩) (Kd.R_far (p := ⟨gb264, 1, none⟩) (Kd.R_far (p := ⟨gb264, 0, none⟩) (Kd.R_types HO268.out BK264.out (by decide)) (fun _ hk => hk.2) (.int .i64 t270)) (fun _ hk => hk.2) (.int .i64 t271)) (fun _ hk => hk.2) (.int .i64 ((rd_T110 t255 x11_2).f0))) (fun _ hk => trivial)⟩, ⟨by (with_reducible repeat (first | refine blk_drewN ?_ _ | refine blk_drew ?_ | refine blk_alloc ?_ _)); refine blk_put (cs := #[.int .i64 t270, .int .i64 t271, .int .i64 x265002_1]) ?_ 2 _ rfl; (with_reducible repeat (first | refine blk_drewN ?_ _ | refine blk_drew ?_ | refine blk_alloc ?_ _)); refine blk_put (cs := #[.int .i64 t270, .int .i64 x265001_1, .int .i64 x265002_1]) ?_ 1 _ rfl; (with_reducible repeat (first | refine blk_drewN ?_ _ | refine blk_drew ?_ | refine blk_alloc ?_ _)); refine blk_put (cs := #[.int .i64 x265000_1, .int .i64 x265001_1, .int .i64 x265002_1]) ?_ 0 _ rfl; (with_reducible repeat (first | refine blk_drewN ?_ _ | refine blk_drew ?_ | refine blk_alloc ?_ _)); exact BK264.out⟩, ⟨by repeat (first | (with_reducible first | exact HB.out | apply below_alloc | apply pw_below_drewN | apply below_drew1 | refine below_set ?_ GE264.out) | exact HB.out)⟩⟩
                            · rw [if_neg c59] at H
                              exact absurd H (by simp)
                          · rw [if_neg c58] at H
                            exact absurd H (by simp)
                        · rw [if_neg c57] at H
                          exact absurd H (by simp)
                      · rw [if_neg c55] at H
                        exact absurd H (by simp)
                    · rw [if_neg c54] at H
                      exact absurd H (by simp)
            · rw [if_neg c18] at H
              have c18b0 : decide (x31_1 < (l0.length : Int)) = false := decide_eq_false c18
              clear c18
              simp only [Option.some.injEq, Prod.mk.injEq] at H
              obtain ⟨rfl, rfl⟩ := H
              go_wp2
              go_ret2
              exact ⟨_, by first | rfl | (simp [errW_none, errW_some] <;> rfl) | (simp [*, errW_none, errW_some] <;> rfl), by (with_reducible repeat (first | apply Kd.R_alloc | apply Kd.R_drewN | apply Kd.R_drew)); exact HO_9.out, by repeat (first | (with_reducible first | exact HB.out | apply below_alloc | apply pw_below_drewN | apply below_drew1 | refine below_set ?_ GE264.out) | exact HB.out)⟩
      · rw [if_neg c7] at H
        exact absurd H (by simp)
    · rw [if_neg c6] at H
      exact absurd H (by simp)
  · rw [if_neg c4] at H
    have c4b0 : (t254 == 0) = false := beq_eq_false_iff_ne.mpr c4
    have c4b1 : (t254 != 0) = true := bne_iff_ne.mpr c4
    simp only [Option.some.injEq, Prod.mk.injEq] at H
    obtain ⟨rfl, rfl⟩ := H
    go_enter Try.func18, Try.ntmps18
    go_wp2_with (first | ((with_reducible refine gate_callee (f := 75) rfl ?_); refine goesL_ (some 18) rfl rfl Try.func75 (by kernel_rfl) rfl #[.slice A0 l0.length c0, .int .i64 a1] rfl (by (try simp only [List.map_toArray, List.map_cons, List.map_nil]); first | done | rfl | (simp only [List.length_drop, List.length_take]; rfl)) ?_; (with_reducible refine (impl_changing.calls k _ _ l0 a1 t254 _ ?side1 ?side2 A3.out).mono ?_); (case side1 => repeat (first | exact HR0.out | (with_reducible refine Kd.C_alloc ?_ _) | (with_reducible refine Kd.C_drewN ?_ _) | (with_reducible refine Kd.C_drew ?_))); (case side2 => exact HC0.out); rintro e w69 ⟨rfl, hb⟩; refine ⟨_, rfl, ?_⟩; have n0_ := Aside0.mk (below_step (by repeat (first | (with_reducible first | exact HB.out | apply below_alloc | apply pw_below_drewN | apply below_drew1) | exact HB.out)) hb); clear HB; have HB := n0_; clear n0_; (try clear hb); (try clear hb2); (try clear hk); (try clear hi)))
    go_ret2
    exact ⟨_, by first | rfl | (simp [errW_none, errW_some] <;> rfl) | (simp [*, errW_none, errW_some] <;> rfl), by first | exact Kd.R_nil _ _ _ _ _ | exact Kd.N_nil _ _ _ _ _ | exact Kd.V_nil _ _ _ _ _ | exact Kd.Q_nil _ _ _ _ _ | exact Kd.S_nil _ _ _ _ _, by repeat (first | (with_reducible first | exact HB.out | apply below_alloc | apply pw_below_drewN | apply below_drew1) | exact HB.out)⟩

end Go.Proofs.Ytgpdjpololkhbaa.F

namespace Go.Proofs.Ytgpdjpololkhbaa.Pure
open Go.RowKit Go.Proofs.Ytgpdjpololkhbaa.F Go.Proofs.YtgpdjpololkhbaaW.PrintWords Go.Proofs.YtgpdjpololkhbaaW.PrintLast Go.Proofs.YtgpdjpololkhbaaW.PrintMore Go.Proofs.YtgpdjpololkhbaaB
set_option linter.unusedVariables false
set_option linter.unusedSimpArgs false
theorem impl_Stroke_first_f (p : Int) (l : List S90) (h : 0 < l.length) : impl_Stroke_first.f p l = some ((rd_T90 l 0).f0, (rd_T90 l 0).f1) := by
  unfold impl_Stroke_first.f
  rw [if_pos (by omega)]

end Go.Proofs.Ytgpdjpololkhbaa.Pure

namespace Go.Proofs.Ytgpdjpololkhbaa.Pure
open Go.RowKit Go.Proofs.Ytgpdjpololkhbaa.F Go.Proofs.YtgpdjpololkhbaaW.PrintWords Go.Proofs.YtgpdjpololkhbaaW.PrintLast Go.Proofs.YtgpdjpololkhbaaW.PrintMore Go.Proofs.YtgpdjpololkhbaaB
set_option linter.unusedVariables false
set_option linter.unusedSimpArgs false
theorem impl_Stroke_last_f (p : Int) (l : List S90) (h : 0 < l.length) (hl : l.length ≤ 9223372036854775807) : impl_Stroke_last.f p l = some ((rd_T90 l (l.length - 1)).f0, (rd_T90 l (l.length - 1)).f1) := by
  unfold impl_Stroke_last.f
  rw [w64 (by omega) (by omega), if_pos (by omega), if_pos (by omega)]

end Go.Proofs.Ytgpdjpololkhbaa.Pure
