/-
  FnExactOrderDrawing: the law returns true for every input and leaves its arguments as they were (the last theorem here). No condition.
-/
import Derived.Test.YthdadohmomhchaaRows
import Derived.ProofKit
import Derived.OpenShut
import Derived.ShutString
import Derived.ChangeOld
import Derived.Test.YthdadohmomhchaaKFnExactOrderDrawing5

namespace Go.Proofs.Ythdadohmomhchaa.F
open Go.RowKit Go.Proofs.YthdadohmomhchaaW.PrintWords Go.Proofs.YthdadohmomhchaaW.PrintLast Go.Proofs.YthdadohmomhchaaW.PrintMore
attribute [local go_sem] max2_int min2_int max_two min_two max_three min_three max_four min_four   -- for this text's walks alone
set_option linter.unusedVariables false
set_option linter.unusedSimpArgs false

/-! ### spec_l31Is: function 118 -/
def spec_l31Is.l0 : Nat → List Int → Int → List Bool → Int → Option (Bool)
  | 0, _, _, _, _ => none
  | k + 1, x0, x1, x5, x6 => if x6 < (x0.length : Int) then (if 0 ≤ x6 then ((spec_l01In.f (rd x0 x6) 0 (wrap64 ((wrap64 (2 * x1)) - 1))).bind fun t767 => (if t767 = true then (if 0 ≤ (wrap64 (Int.tdiv (rd x0 x6) 2)) then (if (wrap64 (Int.tdiv (rd x0 x6) 2)) < (x5.length : Int) then (if rdOf false x5 (wrap64 (Int.tdiv (rd x0 x6) 2)) = true then (some false) else (spec_l31Is.l0 k x0 x1 (x5.set ((wrap64 (Int.tdiv (rd x0 x6) 2)) : Int).toNat true) (wrap64 (x6 + 1)))) else (none)) else (none)) else (some false))) else (none)) else (some ((x0.length : Int) == x1))
def spec_l31Is.f (k : Nat) (l0 : List Int) (a1 : Int) : Option (Bool) := if 0 ≤ a1 then (if (a1 : Int).toNat ≤ 281474976710656 then (spec_l31Is.l0 k l0 a1 (List.replicate (a1 : Int).toNat false) 0) else (none)) else (none)
theorem spec_l31Is.mono_l : ∀ k, (∀ y0 y1 y2 y3, LeO (spec_l31Is.l0 k y0 y1 y2 y3) (spec_l31Is.l0 (k + 1) y0 y1 y2 y3))
  | 0 => fun _ _ _ _ r h => by simp [spec_l31Is.l0] at h
  | k + 1 => by
    have ih0 := spec_l31Is.mono_l k
    · intro y0 y1 y2 y3
      unfold spec_l31Is.l0
      repeat' first
      | (with_reducible exact ih0 _ _ _ _)
      | (with_reducible exact LeO.refl _)
      | (with_reducible exact LeO.none _)
      | (with_reducible refine LeO.ite ?_ ?_)
      | (with_reducible refine LeO.bind ?_ (fun _ => ?_))
      | exact ih0 _ _ _ _
      | exact LeO.none _
      | refine LeO.ite ?_ ?_
      | refine LeO.bind ?_ (fun _ => ?_)
theorem spec_l31Is.mono : ∀ a0 a1 k, LeO (spec_l31Is.f k a0 a1) (spec_l31Is.f (k + 1) a0 a1) := by
  intro a0 a1 k
  have ih0 := spec_l31Is.mono_l k
  unfold spec_l31Is.f
  repeat' first
      | (with_reducible exact ih0 _ _ _ _)
      | (with_reducible exact LeO.refl _)
      | (with_reducible exact LeO.none _)
      | (with_reducible refine LeO.ite ?_ ?_)
      | (with_reducible refine LeO.bind ?_ (fun _ => ?_))
      | exact ih0 _ _ _ _
      | exact LeO.none _
      | refine LeO.ite ?_ ?_
      | refine LeO.bind ?_ (fun _ => ?_)
set_option maxHeartbeats 8000000 in
set_option maxRecDepth 100000 in
theorem spec_l31Is.calls (k : Nat) (A0 : Option Addr) (c0 : Nat) (l0 : List Int) (a1 : Int) (r : Bool) (w : World) (hr0 : Kd.C (Kd.int .i64) w A0 l0.length l0) (hc0 : l0.length ≤ c0) (h : spec_l31Is.f k l0 a1 = some r) :
    Calls Try.prog 118 #[.slice A0 l0.length c0, .int .i64 a1] w fun e w' => e = .returned (.bool r) ∧ Below w.heap.size w w' := by
  have HR0 := Aside0.mk hr0
  have HC0 := Aside0.mk hc0
  clear hr0 hc0
  have HB := Aside0.mk (Below.refl w.heap.size w)
  have H : (if 0 ≤ a1 then (if (a1 : Int).toNat ≤ 281474976710656 then (spec_l31Is.l0 k l0 a1 (List.replicate (a1 : Int).toNat false) 0) else (none)) else (none)) = some r := h
  clear h
  by_cases c3 : 0 ≤ a1
  · rw [if_pos c3] at H
    have c3b0 := eq_true c3
    have c3b1 : decide (0 ≤ a1) = true := decide_eq_true c3
    clear c3
    by_cases c4 : (a1 : Int).toNat ≤ 281474976710656
    · rw [if_pos c4] at H
      have c4b0 := eq_true c4
      have c4b1 : decide ((a1 : Int).toNat ≤ 281474976710656) = true := decide_eq_true c4
      clear c4
      obtain ⟨y763, hy763⟩ : ∃ y_ : List Bool, y_ = (List.replicate (a1 : Int).toNat false) := ⟨_, rfl⟩
      replace H : (spec_l31Is.l0 k l0 a1 y763 0) = some r := by first | (rw [hy763]; with_reducible exact H) | (have H2_ := (Option.bind_some _ _).symm.trans H; rw [hy763]; with_reducible exact H2_) | (have H2_ := (Option.bind_some _ _).symm.trans H; with_reducible exact H2_) | with_reducible exact H | (rw [hy763]; exact H) | exact H
      have Ny763 := Aside0.mk hy763
      clear hy763
      have H' := Aside0.mk H
      clear H
      go_enter Try.func118, Try.ntmps118
      go_wp2_with (first | ((with_reducible refine gate_dst (N := 8) rfl ?_); refine Kd.R_make Kd.bool _ 4 rfl (N := 8) rfl 153 _ _ rfl a1 rfl rfl Try.underlying153 (.bool false) 1 info4 rfl (by decide) (by omega) false (ok := fun _ => True) (okp := fun _ => True) rfl (fun _ hk => hk) trivial (of_decide_eq_true (by first | (with_reducible assumption) | assumption)) (Nat.le_trans (Nat.mul_le_mul_right _ (of_decide_eq_true (by first | (with_reducible assumption) | assumption) : a1.toNat ≤ 281474976710656)) (by omega)) (Below.refl _ _) (Nat.le_refl _) ?_; intro v764 w5 ho6 hb hg_ hnew_; clear hg_ hnew_; (first | rw [← Ny763.out] at ho6 | (simp only [Int.reduceToNat] at ho6; rw [← Ny763.out] at ho6)); have n0_ := Aside0.mk (Kd.R_lower ho6 (below_size (by repeat (first | (with_reducible first | exact HB.out | apply below_alloc | apply pw_below_drewN | apply below_drew1) | exact HB.out)))); have n1_ := Aside0.mk (below_step (by repeat (first | (with_reducible first | exact HB.out | apply below_alloc | apply pw_below_drewN | apply below_drew1) | exact HB.out)) hb); clear HB; have HO765 := n0_; have HB := n1_; clear n0_ n1_; clear hb ho6))
      go_loopg [6] k (fun kq v6 w' => ∃ (x5_1 : List Bool) (x6_1 : Int), v6 = .int .i64 x6_1 ∧ Aside0 (spec_l31Is.l0 kq l0 a1 x5_1 x6_1 = some r) ∧ Aside0 (kq ≤ k) ∧ Aside0 (Kd.R Kd.bool 4 w' w.heap.size (fun _ => True) v764 x5_1) ∧ Aside0 (Below w.heap.size w w'))
      case atStart => exact ⟨(y763), (0), (by first | rfl | (simp; done) | (simp [*]; done)), H', ⟨Nat.le_refl _⟩, ⟨by (with_reducible repeat (first | apply Kd.R_alloc | apply Kd.R_drewN | apply Kd.R_drew)); exact HO765.out⟩, ⟨by repeat (first | (with_reducible first | exact HB.out | apply below_alloc | apply pw_below_drewN | apply below_drew1) | exact HB.out)⟩⟩
      case round =>
        clear H'
        try clear c1
        try clear p2
        try clear c3
        try clear c3b0
        try clear c3b1
        try clear c4
        try clear c4b0
        try clear c4b1
        obtain ⟨x5_1, x6_1, rfl, HA, HK1, HO_5, HB⟩ := hrel
        cases gk with
        | zero => exact absurd HA.out (by simp [spec_l31Is.l0])
        | succ k1 =>
          have H := HA.out
          clear HA
          simp only [spec_l31Is.l0] at H
          by_cases c7 : x6_1 < (l0.length : Int)
          · rw [if_pos c7] at H
            have c7b0 : decide (x6_1 < (l0.length : Int)) = true := decide_eq_true c7
            clear c7
            by_cases c8 : 0 ≤ x6_1
            · rw [if_pos c8] at H
              have c8b0 : decide (0 ≤ x6_1) = true := decide_eq_true c8
              clear c8
              replace H := Option.bind_eq_some_iff.mp H
              obtain ⟨t767, A90, H⟩ := H
              replace H : (if t767 = true then (if 0 ≤ (wrap64 (Int.tdiv (rd l0 x6_1) 2)) then (if (wrap64 (Int.tdiv (rd l0 x6_1) 2)) < (x5_1.length : Int) then (if rdOf false x5_1 (wrap64 (Int.tdiv (rd l0 x6_1) 2)) = true then (some false) else (spec_l31Is.l0 k1 l0 a1 (x5_1.set ((wrap64 (Int.tdiv (rd l0 x6_1) 2)) : Int).toNat true) (wrap64 (x6_1 + 1)))) else (none)) else (none)) else (some false)) = some r := H
              have A9 := Aside0.mk A90
              clear A90
              by_cases c10 : t767 = true
              · subst c10
                have H1 : (if 0 ≤ (wrap64 (Int.tdiv (rd l0 x6_1) 2)) then (if (wrap64 (Int.tdiv (rd l0 x6_1) 2)) < (x5_1.length : Int) then (if rdOf false x5_1 (wrap64 (Int.tdiv (rd l0 x6_1) 2)) = true then (some false) else (spec_l31Is.l0 k1 l0 a1 (x5_1.set ((wrap64 (Int.tdiv (rd l0 x6_1) 2)) : Int).toNat true) (wrap64 (x6_1 + 1)))) else (none)) else (none)) = some r := by rw [if_pos rfl] at H; exact H
                clear H
                have H := H1
                clear H1
                obtain ⟨ji11, hji11⟩ : ∃ j_ : Int, (wrap64 (Int.tdiv (rd l0 x6_1) 2)) = j_ := ⟨_, rfl⟩
                replace H : (if 0 ≤ (ji11) then (if (ji11) < (x5_1.length : Int) then (if rdOf false x5_1 (ji11) = true then (some false) else (spec_l31Is.l0 k1 l0 a1 (x5_1.set ((ji11) : Int).toNat true) (wrap64 (x6_1 + 1)))) else (none)) else (none)) = some r := by first | (rw [hji11] at H; exact H) | (simp only [hji11] at H ⊢; exact H)
                (try rw [hji11] at A9)
                have hji11w : (IntKind.i64.wrap (Int.tdiv (rd l0 x6_1) 2)) = ji11 := (i64_w _).trans hji11
                by_cases c12 : 0 ≤ (ji11)
                · rw [if_pos c12] at H
                  have c12b0 : decide (0 ≤ (ji11)) = true := decide_eq_true c12
                  clear c12
                  by_cases c13 : (ji11) < (x5_1.length : Int)
                  · rw [if_pos c13] at H
                    have c13b0 : decide ((ji11) < (x5_1.length : Int)) = true := decide_eq_true c13
                    clear c13
                    obtain ⟨bq14, hbq14⟩ : ∃ b_ : Bool, b_ = (rdOf false x5_1 (ji11)) := ⟨_, rfl⟩
                    replace H : (if bq14 = true then (some false) else (spec_l31Is.l0 k1 l0 a1 (x5_1.set ((ji11) : Int).toNat true) (wrap64 (x6_1 + 1)))) = some r := by rw [← hbq14] at H; exact H
                    have Nbq14 := Aside0.mk hbq14
                    clear hbq14
                    by_cases c15 : bq14 = true
                    · subst c15
                      have H1 : (some false) = some r := by rw [if_pos rfl] at H; exact H
                      clear H
                      have H := H1
                      clear H1
                      obtain rfl := Option.some.inj H
                      have p766 : 0 ≤ (x6_1 : Int) := of_decide_eq_true (by first | (with_reducible assumption) | assumption)
                      have q766 : x6_1 < (l0.length : Int) := of_decide_eq_true (by first | (with_reducible assumption) | assumption)
                      obtain ⟨ad766, e766, hx766_0⟩ := Kd.at_int HR0.out x6_1 p766 q766
                      cases e766
                      replace hx766_0 := (HB.out.cell (World.block_lt_of_cell? w _ hx766_0)).trans hx766_0
                      replace p766 := eq_true p766
                      replace q766 := eq_true q766
                      go_wp2_with (first | ((with_reducible refine gate_callee (f := 152) rfl ?_); refine goesL_ (some 22) rfl rfl Try.func152 (by kernel_rfl) rfl #[.int .i64 (rd l0 x6_1), .int .i64 0, .int .i64 (wrap64 ((wrap64 (2 * a1)) - 1))] rfl (by (try simp only [List.map_toArray, List.map_cons, List.map_nil]); first | done | rfl | (simp only [List.length_drop, List.length_take]; rfl)) ?_; (with_reducible refine (spec_l01In.calls (rd l0 x6_1) 0 (wrap64 ((wrap64 (2 * a1)) - 1)) true _ A9.out).mono ?_); rintro e w' ⟨rfl, ⟨nd, rfl⟩⟩; refine ⟨_, rfl, ?_⟩; have p768 : 0 ≤ (x6_1 : Int) := of_decide_eq_true (by first | (with_reducible assumption) | assumption); have q768 : x6_1 < (l0.length : Int) := of_decide_eq_true (by first | (with_reducible assumption) | assumption); obtain ⟨ad768, e768, hx768_0⟩ := Kd.at_int HR0.out x6_1 p768 q768; obtain rfl : ad766 = ad768 := (by injection e768); replace hx768_0 := (HB.out.cell (World.block_lt_of_cell? w _ hx768_0)).trans hx768_0; replace p768 := eq_true p768; replace q768 := eq_true q768; obtain ⟨Ao16, co16, eo16⟩ := Kd.R_slice HO_5.out; subst eo16; have p769 : 0 ≤ ((ji11) : Int) := of_decide_eq_true (by first | (with_reducible assumption) | assumption); have q769 : (ji11) < (x5_1.length : Int) := of_decide_eq_true (by first | (with_reducible assumption) | assumption); obtain ⟨ad769, e769, hx769_0⟩ := Kd.at_bool (Kd.R_reads' HO_5.out).2.2 (ji11) p769 q769; (try rw [← Nbq14.out] at hx769_0); cases e769; replace p769 := eq_true p769; replace q769 := eq_true q769))
                      go_ret
                      exact ⟨by first | rfl | (simp [errW_none, errW_some] <;> rfl) | (simp only [← hji11]; first | rfl | (simp [errW_none, errW_some] <;> rfl)) | (simp [*, errW_none, errW_some] <;> rfl), by repeat (first | (with_reducible first | exact HB.out | apply below_alloc | apply pw_below_drewN | apply below_drew1) | exact HB.out)⟩
                    · replace c15 := Bool.eq_false_iff.mpr c15
                      subst c15
                      have H1 : (spec_l31Is.l0 k1 l0 a1 (x5_1.set ((ji11) : Int).toNat true) (wrap64 (x6_1 + 1))) = some r := by rw [if_neg (show ¬ (false = true) by decide)] at H; exact H
                      clear H
                      have H := H1
                      clear H1
                      obtain ⟨y771, hy771⟩ : ∃ y_ : List Bool, y_ = (x5_1.set ((ji11) : Int).toNat true) := ⟨_, rfl⟩
                      replace H : (spec_l31Is.l0 k1 l0 a1 y771 (wrap64 (x6_1 + 1))) = some r := by first | (rw [hy771]; with_reducible exact H) | (have H2_ := (Option.bind_some _ _).symm.trans H; rw [hy771]; with_reducible exact H2_) | (have H2_ := (Option.bind_some _ _).symm.trans H; with_reducible exact H2_) | with_reducible exact H | (rw [hy771]; exact H) | exact H
                      have Ny771 := Aside0.mk hy771
                      clear hy771
                      have H' := Aside0.mk H
                      clear H
                      have p766 : 0 ≤ (x6_1 : Int) := of_decide_eq_true (by first | (with_reducible assumption) | assumption)
                      have q766 : x6_1 < (l0.length : Int) := of_decide_eq_true (by first | (with_reducible assumption) | assumption)
                      obtain ⟨ad766, e766, hx766_0⟩ := Kd.at_int HR0.out x6_1 p766 q766
                      cases e766
                      replace hx766_0 := (HB.out.cell (World.block_lt_of_cell? w _ hx766_0)).trans hx766_0
                      replace p766 := eq_true p766
                      replace q766 := eq_true q766
                      go_wp2_with (first | ((with_reducible refine gate_callee (f := 152) rfl ?_); refine goesL_ (some 22) rfl rfl Try.func152 (by kernel_rfl) rfl #[.int .i64 (rd l0 x6_1), .int .i64 0, .int .i64 (wrap64 ((wrap64 (2 * a1)) - 1))] rfl (by (try simp only [List.map_toArray, List.map_cons, List.map_nil]); first | done | rfl | (simp only [List.length_drop, List.length_take]; rfl)) ?_; (with_reducible refine (spec_l01In.calls (rd l0 x6_1) 0 (wrap64 ((wrap64 (2 * a1)) - 1)) true _ A9.out).mono ?_); rintro e w' ⟨rfl, ⟨nd, rfl⟩⟩; refine ⟨_, rfl, ?_⟩; (try (rw [drewN_self wr]; generalize hq_ : World.drewN wr _ = wr; have n0_ : Aside0 (Kd.R Kd.bool 4 wr w.heap.size (fun _ => True) v764 x5_1) := ⟨by rw [← hq_]; exact (by (with_reducible repeat (first | apply Kd.R_alloc | apply Kd.R_drewN | apply Kd.R_drew)); exact HO_5.out)⟩; have n1_ : Aside0 (Below w.heap.size w wr) := ⟨by rw [← hq_]; exact (by repeat (first | (with_reducible first | exact HB.out | apply below_alloc | apply pw_below_drewN | apply below_drew1) | exact HB.out))⟩; clear HO_5 HB hq_; have HO_5 := n0_; have HB := n1_; clear n0_ n1_)); have p768 : 0 ≤ (x6_1 : Int) := of_decide_eq_true (by first | (with_reducible assumption) | assumption); have q768 : x6_1 < (l0.length : Int) := of_decide_eq_true (by first | (with_reducible assumption) | assumption); obtain ⟨ad768, e768, hx768_0⟩ := Kd.at_int HR0.out x6_1 p768 q768; obtain rfl : ad766 = ad768 := (by injection e768); replace hx768_0 := (HB.out.cell (World.block_lt_of_cell? w _ hx768_0)).trans hx768_0; replace p768 := eq_true p768; replace q768 := eq_true q768; obtain ⟨Ao18, co18, eo18⟩ := Kd.R_slice HO_5.out; subst eo18; have p769 : 0 ≤ ((ji11) : Int) := of_decide_eq_true (by first | (with_reducible assumption) | assumption); have q769 : (ji11) < (x5_1.length : Int) := of_decide_eq_true (by first | (with_reducible assumption) | assumption); obtain ⟨ad769, e769, hx769_0⟩ := Kd.at_bool (Kd.R_reads' HO_5.out).2.2 (ji11) p769 q769; (try rw [← Nbq14.out] at hx769_0); cases e769; replace p769 := eq_true p769; replace q769 := eq_true q769; have p770 : 0 ≤ (x6_1 : Int) := of_decide_eq_true (by first | (with_reducible assumption) | assumption); have q770 : x6_1 < (l0.length : Int) := of_decide_eq_true (by first | (with_reducible assumption) | assumption); obtain ⟨ad770, e770, hx770_0⟩ := Kd.at_int HR0.out x6_1 p770 q770; obtain rfl : ad766 = ad770 := (by injection e770); replace hx770_0 := (HB.out.cell (World.block_lt_of_cell? w _ hx770_0)).trans hx770_0; replace p770 := eq_true p770; replace q770 := eq_true q770; have p17 : 0 ≤ ((ji11) : Int) := of_decide_eq_true (by first | (with_reducible assumption) | assumption); have q17 : ((ji11) : Int) < ((x5_1.length : Int) : Int) := of_decide_eq_true (by first | (with_reducible assumption) | assumption); obtain ⟨go17, co17, eo17, gb17, gl17, cl17, HG17⟩ := Kd.R_form HO_5.out (by omega); (first | cases eo17 | (injection eo17 with ea_ en_ ec_; (first | subst ea_ | (injection ea_ with ea_; subst ea_)); subst ec_; clear en_)); have GB17 := Aside0.mk gb17; have GG17 := Aside0.mk HG17; clear gb17 gl17 HG17; (first | simp only [add_plain] at hx769_0 | skip); obtain ⟨hx17_0, hf17_0⟩ := Kd.R_celln false HO_5.out ((ji11) : Int) p17 q17; replace p17 := eq_true p17; replace q17 := eq_true q17; obtain ⟨hy19_, hz19_⟩ := Kd.R_celln false HO_5.out ((ji11) : Int) (of_decide_eq_true (by first | (with_reducible assumption) | assumption)) (of_decide_eq_true (by first | (with_reducible assumption) | assumption)); have HP19 := Kd.R_putg HO_5.out ((ji11) : Int) true) | ((with_reducible refine gate_store (t := 4) (p := 40) rfl ?_); refine store_event (t := 4) (p := 40) (v := ?vo_w20) (w1 := (wr.setCell ⟨go17, ((ji11) : Int).toNat, none⟩ (.bool true))) ?hg ?ho ?hn ?hr ?_; (case ho => rfl); (case hg => rfl); (case hn => rfl); (case hr => first | (go_simp; done) | (go_simp; rfl)); intro w20 hw; have hg : wr.grownBy w20 (some go17) := (by rw [hw]; exact HP19.2); have hp_ : Kd.R Kd.bool 4 w20 w.heap.size (fun _ => True) (.slice (some ⟨go17, 0, none⟩) x5_1.length co18) y771 := (by rw [hw, Ny771.out]; exact HP19.1); clear HP19; have n0_ := Aside0.mk (hp_); have n1_ := Aside0.mk ((by rw [hw]; exact below_set (HB.out) GB17.out : Below w.heap.size w w20)); clear HO_5; clear HB; have HO_5 := n0_; have HB := n1_; clear n0_ n1_; clear hg hw hp_))
                      go_roundg k1
                      case measure => have := HK1.out; omega
                      case rel => exact ⟨(y771), (wrap64 (x6_1 + 1)), (by first | rfl | (simp; done) | (simp [*]; done)), H', ⟨by have := HK1.out; omega⟩, ⟨by (with_reducible repeat (first | apply Kd.R_alloc | apply Kd.R_drewN | apply Kd.R_drew)); exact HO_5.out⟩, ⟨by repeat (first | (with_reducible first | exact HB.out | apply below_alloc | apply pw_below_drewN | apply below_drew1) | exact HB.out)⟩⟩
                  · rw [if_neg c13] at H
                    exact absurd H (by simp)
                · rw [if_neg c12] at H
                  exact absurd H (by simp)
              · replace c10 := Bool.eq_false_iff.mpr c10
                subst c10
                have H1 : (some false) = some r := by rw [if_neg (show ¬ (false = true) by decide)] at H; exact H
                clear H
                have H := H1
                clear H1
                obtain rfl := Option.some.inj H
                have p766 : 0 ≤ (x6_1 : Int) := of_decide_eq_true (by first | (with_reducible assumption) | assumption)
                have q766 : x6_1 < (l0.length : Int) := of_decide_eq_true (by first | (with_reducible assumption) | assumption)
                obtain ⟨ad766, e766, hx766_0⟩ := Kd.at_int HR0.out x6_1 p766 q766
                cases e766
                replace hx766_0 := (HB.out.cell (World.block_lt_of_cell? w _ hx766_0)).trans hx766_0
                replace p766 := eq_true p766
                replace q766 := eq_true q766
                go_wp2_with (first | ((with_reducible refine gate_callee (f := 152) rfl ?_); refine goesL_ (some 22) rfl rfl Try.func152 (by kernel_rfl) rfl #[.int .i64 (rd l0 x6_1), .int .i64 0, .int .i64 (wrap64 ((wrap64 (2 * a1)) - 1))] rfl (by (try simp only [List.map_toArray, List.map_cons, List.map_nil]); first | done | rfl | (simp only [List.length_drop, List.length_take]; rfl)) ?_; (with_reducible refine (spec_l01In.calls (rd l0 x6_1) 0 (wrap64 ((wrap64 (2 * a1)) - 1)) false _ A9.out).mono ?_); rintro e w' ⟨rfl, ⟨nd, rfl⟩⟩; refine ⟨_, rfl, ?_⟩))
                go_ret
                exact ⟨by first | rfl | (simp [errW_none, errW_some] <;> rfl) | (simp [*, errW_none, errW_some] <;> rfl), by repeat (first | (with_reducible first | exact HB.out | apply below_alloc | apply pw_below_drewN | apply below_drew1) | exact HB.out)⟩
            · rw [if_neg c8] at H
              exact absurd H (by simp)
          · rw [if_neg c7] at H
            have c7b0 : decide (x6_1 < (l0.length : Int)) = false := decide_eq_false c7
            clear c7
            obtain rfl := Option.some.inj H
            go_wp2
            go_ret
            exact ⟨by first | rfl | (simp [errW_none, errW_some] <;> rfl) | (simp [*, errW_none, errW_some] <;> rfl), by repeat (first | (with_reducible first | exact HB.out | apply below_alloc | apply pw_below_drewN | apply below_drew1) | exact HB.out)⟩
    · rw [if_neg c4] at H
      exact absurd H (by simp)
  · rw [if_neg c3] at H
    exact absurd H (by simp)

end Go.Proofs.Ythdadohmomhchaa.F

namespace Go.Proofs.Ythdadohmomhchaa.F
open Go.RowKit Go.Proofs.YthdadohmomhchaaW.PrintWords Go.Proofs.YthdadohmomhchaaW.PrintLast Go.Proofs.YthdadohmomhchaaW.PrintMore
attribute [local go_sem] max2_int min2_int max_two min_two max_three min_three max_four min_four   -- for this text's walks alone
set_option linter.unusedVariables false
set_option linter.unusedSimpArgs false

/-! ### spec_OrderDrawing: function 41 -/
def spec_OrderDrawing.j0 : Nat → List (S116) → List Int → Int → Bool → Option ((List (S116)) × Int)
  | 0, _, _, _, _ => none
  | k + 1, x0, x1, x6, x17 => if x17 = true then (if 5 = 0 then ((spec_l31Order.f k x0 x1).bind fun t802 => (some (t802, 0))) else (some (([] : List (S116)), 5))) else (if x6 = 0 then ((spec_l31Order.f k x0 x1).bind fun t805 => (some (t805, 0))) else (some (([] : List (S116)), x6)))
def spec_OrderDrawing.f (k : Nat) (l0 : List (S116)) (l1 : List Int) : Option ((List (S116)) × Int) := (spec_l28Code.f k l0).bind fun t800 => (if t800 = 0 then ((spec_l31Is.f k l1 (l0.length : Int)).bind fun t801 => (spec_OrderDrawing.j0 k l0 l1 t800 (!t801))) else (spec_OrderDrawing.j0 k l0 l1 t800 false))
theorem spec_OrderDrawing.mono_l : ∀ k, (∀ y0 y1 y2 y3, LeO (spec_OrderDrawing.j0 k y0 y1 y2 y3) (spec_OrderDrawing.j0 (k + 1) y0 y1 y2 y3))
  | 0 => fun _ _ _ _ r h => by simp [spec_OrderDrawing.j0] at h
  | k + 1 => by
    have ih0 := spec_OrderDrawing.mono_l k
    · intro y0 y1 y2 y3
      unfold spec_OrderDrawing.j0
      repeat' first
      | (with_reducible exact ih0 _ _ _ _)
      | (with_reducible exact spec_l28Code.mono _ _)
      | (with_reducible exact spec_l31Is.mono _ _ _)
      | (with_reducible exact spec_l31Order.mono _ _ _)
      | (with_reducible exact LeO.refl _)
      | (with_reducible exact LeO.none _)
      | (with_reducible refine LeO.ite ?_ ?_)
      | (with_reducible refine LeO.bind ?_ (fun _ => ?_))
      | exact ih0 _ _ _ _
      | exact spec_l28Code.mono _ _
      | exact spec_l31Is.mono _ _ _
      | exact spec_l31Order.mono _ _ _
      | exact LeO.none _
      | refine LeO.ite ?_ ?_
      | refine LeO.bind ?_ (fun _ => ?_)
theorem spec_OrderDrawing.mono : ∀ a0 a1 k, LeO (spec_OrderDrawing.f k a0 a1) (spec_OrderDrawing.f (k + 1) a0 a1) := by
  intro a0 a1 k
  have ih0 := spec_OrderDrawing.mono_l k
  unfold spec_OrderDrawing.f
  repeat' first
      | (with_reducible exact ih0 _ _ _ _)
      | (with_reducible exact spec_l28Code.mono _ _)
      | (with_reducible exact spec_l31Is.mono _ _ _)
      | (with_reducible exact spec_l31Order.mono _ _ _)
      | (with_reducible exact LeO.refl _)
      | (with_reducible exact LeO.none _)
      | (with_reducible refine LeO.ite ?_ ?_)
      | (with_reducible refine LeO.bind ?_ (fun _ => ?_))
      | exact ih0 _ _ _ _
      | exact spec_l28Code.mono _ _
      | exact spec_l31Is.mono _ _ _
      | exact spec_l31Order.mono _ _ _
      | exact LeO.none _
      | refine LeO.ite ?_ ?_
      | refine LeO.bind ?_ (fun _ => ?_)
set_option maxHeartbeats 8000000 in
set_option maxRecDepth 100000 in
theorem spec_OrderDrawing.calls (k : Nat) (P0_ : Nat → Prop) (A0 : Option Addr) (c0 : Nat) (l0 : List (S116)) (A1 : Option Addr) (c1 : Nat) (l1 : List Int) (r1 : List (S116)) (r2 : Int) (w : World) (hs0 : Kd.V k116 116 w w.heap.size (fun k_ => P0_ k_) (.slice A0 l0.length c0) l0) (hr1 : Kd.C (Kd.int .i64) w A1 l1.length l1) (hc1 : l1.length ≤ c1) (h : spec_OrderDrawing.f k l0 l1 = some (r1, r2)) :
    Calls Try.prog 41 #[.slice A0 l0.length c0, .slice A1 l1.length c1] w fun e w' => ∃ v0_ : Value, e = .returned (.tuple #[v0_, .int .i64 r2]) ∧ Kd.N k116 116 w' w.heap.size (fun k_ => (P0_ k_ ∨ w.heap.size ≤ k_)) v0_ r1 ∧ Below w.heap.size w w' := by
  have HO0 := Aside0.mk (show Kd.V k116 116 w w.heap.size (fun k_ => (P0_ k_ ∨ w.heap.size ≤ k_)) (.slice A0 l0.length c0) l0 from Kd.V_mono hs0 (fun k_ hk => .inl hk))
  have HR1 := Aside0.mk hr1
  have HC1 := Aside0.mk hc1
  clear hr1 hc1
  have HB := Aside0.mk (Below.refl w.heap.size w)
  have H : ((spec_l28Code.f k l0).bind fun t800 => (if t800 = 0 then ((spec_l31Is.f k l1 (l0.length : Int)).bind fun t801 => (spec_OrderDrawing.j0 k l0 l1 t800 (!t801))) else (spec_OrderDrawing.j0 k l0 l1 t800 false))) = some (r1, r2) := h
  clear h
  replace H := Option.bind_eq_some_iff.mp H
  obtain ⟨t800, A30, H⟩ := H
  replace H : (if t800 = 0 then ((spec_l31Is.f k l1 (l0.length : Int)).bind fun t801 => (spec_OrderDrawing.j0 k l0 l1 t800 (!t801))) else (spec_OrderDrawing.j0 k l0 l1 t800 false)) = some (r1, r2) := H
  have A3 := Aside0.mk A30
  clear A30
  have HC4 := Aside0.mk H
  clear H
  go_enter Try.func41, Try.ntmps41
  go_upto_region 2 with (first | ((with_reducible refine gate_callee (f := 79) rfl ?_); refine goesL_ (some 8) rfl rfl Try.func79 (by kernel_rfl) rfl #[.slice A0 l0.length c0] rfl (by (try simp only [List.map_toArray, List.map_cons, List.map_nil]); first | done | rfl | (simp only [List.length_drop, List.length_take]; rfl)) ?_; (with_reducible refine (spec_l28Code.calls k _ _ l0 t800 _ ?side1 ?side2 A3.out).mono ?_); (case side1 => repeat (first | exact (Kd.V_reads' HO0.out).2.2 | (with_reducible refine Kd.C_alloc ?_ _) | (with_reducible refine Kd.C_drewN ?_ _) | (with_reducible refine Kd.C_drew ?_))); (case side2 => exact (Kd.V_reads' HO0.out).2.1); rintro e w' ⟨rfl, ⟨nd, rfl⟩⟩; refine ⟨_, rfl, ?_⟩))
  (try simp only [Act.put, List.setIfInBounds_toArray, List.set_cons_zero, List.set_cons_succ])
  go_cut [17] (fun v17 wc => ∃ (kq : Nat) (x17_3 : Bool), v17 = .bool x17_3 ∧ Aside0 (spec_OrderDrawing.j0 kq l0 l1 t800 x17_3 = some (r1, r2)) ∧ Aside0 (kq ≤ k) ∧ Aside0 (Kd.V k116 116 wc w.heap.size (fun k_ => (P0_ k_ ∨ w.heap.size ≤ k_)) (.slice A0 l0.length c0) l0) ∧ Aside0 (Below w.heap.size w wc))
  case first =>
    have H := HC4.out
    clear HC4
    by_cases c5 : t800 = 0
    · rw [if_pos c5] at H
      have c5b0 : (t800 == 0) = true := beq_iff_eq.mpr c5
      have c5b1 : (t800 != 0) = false := bne_eq_false_iff_eq.mpr c5
      clear c5
      (first | rw [c5b0] | (simp only [i64_w, i32_w]; rw [c5b0]) | skip)
      replace H := Option.bind_eq_some_iff.mp H
      obtain ⟨t801, A60, H⟩ := H
      replace H : (spec_OrderDrawing.j0 k l0 l1 t800 (!t801)) = some (r1, r2) := H
      have A6 := Aside0.mk A60
      clear A60
      have H' := Aside0.mk H
      clear H
      go_wp2_with (first | (go_at_call 118; (with_reducible refine (spec_l31Is.calls k _ _ l1 (l0.length : Int) t801 _ ?side1 ?side2 A6.out).mono ?_); (case side1 => repeat (first | exact (Kd.C_below HR1.out HB.out) | (with_reducible refine Kd.C_alloc ?_ _) | (with_reducible refine Kd.C_drewN ?_ _) | (with_reducible refine Kd.C_drew ?_))); (case side2 => exact HC1.out); rintro e w7 ⟨rfl, hb⟩; have n0_ := Aside0.mk (Kd.V_below (by (with_reducible repeat (first | apply Kd.V_alloc | apply Kd.V_drewN | apply Kd.V_drew)); exact HO0.out) hb); have n1_ := Aside0.mk (below_step (by repeat (first | (with_reducible first | exact HB.out | apply below_alloc | apply pw_below_drewN | apply below_drew1) | exact HB.out)) hb); clear HO0; clear HB; have HO0 := n0_; have HB := n1_; clear n0_ n1_; (try clear hb); (try clear hb2); (try clear hk); (try clear hi)))
      go_meet
      case rel => exact ⟨_, (!t801), (by first | rfl | (simp; done) | (simp [*]; done)), H', ⟨by first | omega | exact Nat.le_refl _⟩, ⟨by (with_reducible repeat (first | apply Kd.V_alloc | apply Kd.V_drewN | apply Kd.V_drew)); exact HO0.out⟩, ⟨by repeat (first | (with_reducible first | exact HB.out | apply below_alloc | apply pw_below_drewN | apply below_drew1) | exact HB.out)⟩⟩
    · rw [if_neg c5] at H
      have c5b0 : (t800 == 0) = false := beq_eq_false_iff_ne.mpr c5
      have c5b1 : (t800 != 0) = true := bne_iff_ne.mpr c5
      (first | rw [c5b0] | (simp only [i64_w, i32_w]; rw [c5b0]) | skip)
      have H' := Aside0.mk H
      clear H
      go_wp2
      go_meet
      case rel => exact ⟨_, (false), (by first | rfl | (simp; done) | (simp [*]; done)), H', ⟨by first | omega | exact Nat.le_refl _⟩, ⟨by (with_reducible repeat (first | apply Kd.V_alloc | apply Kd.V_drewN | apply Kd.V_drew)); exact HO0.out⟩, ⟨by repeat (first | (with_reducible first | exact HB.out | apply below_alloc | apply pw_below_drewN | apply below_drew1) | exact HB.out)⟩⟩
  case rest =>
    clear HC4
    try clear c1
    try clear p2
    try clear c4
    try clear c5
    try clear c5b0
    try clear c5b1
    try clear c7
    obtain ⟨kq, x17_3, rfl, HA, HJ3, HO_0, HB⟩ := hcut
    cases kq with
    | zero => exact absurd HA.out (by simp [spec_OrderDrawing.j0])
    | succ kj3 =>
      have H := HA.out
      clear HA
      simp only [spec_OrderDrawing.j0] at H
      by_cases c8 : x17_3 = true
      · subst c8
        have H1 : (if 5 = 0 then ((spec_l31Order.f kj3 l0 l1).bind fun t802 => (some (t802, 0))) else (some (([] : List (S116)), 5))) = some (r1, r2) := by rw [if_pos rfl] at H; exact H
        clear H
        have H := H1
        clear H1
        by_cases c9 : 5 = 0
        · exact absurd c9 (by decide)
        · rw [if_neg c9] at H
          have c9b0 : (5 == 0) = false := beq_eq_false_iff_ne.mpr c9
          have c9b1 : (5 != 0) = true := bne_iff_ne.mpr c9
          simp only [Option.some.injEq, Prod.mk.injEq] at H
          obtain ⟨rfl, rfl⟩ := H
          go_wp2
          go_ret2
          exact ⟨_, by first | rfl | (simp [errW_none, errW_some] <;> rfl) | (simp [*, errW_none, errW_some] <;> rfl), by first | exact Kd.S_nil _ _ _ _ _ | exact Kd.N_nil _ _ _ _ _ | exact Kd.V_nil _ _ _ _ _ | exact Kd.Q_nil _ _ _ _ _ | exact Kd.R_nil _ _ _ _ _, by repeat (first | (with_reducible first | exact HB.out | apply below_alloc | apply pw_below_drewN | apply below_drew1) | exact HB.out)⟩
      · replace c8 := Bool.eq_false_iff.mpr c8
        subst c8
        have H1 : (if t800 = 0 then ((spec_l31Order.f kj3 l0 l1).bind fun t805 => (some (t805, 0))) else (some (([] : List (S116)), t800))) = some (r1, r2) := by rw [if_neg (show ¬ (false = true) by decide)] at H; exact H
        clear H
        have H := H1
        clear H1
        by_cases c12 : t800 = 0
        · rw [if_pos c12] at H
          have c12b0 : (t800 == 0) = true := beq_iff_eq.mpr c12
          have c12b1 : (t800 != 0) = false := bne_eq_false_iff_eq.mpr c12
          clear c12
          replace H := Option.bind_eq_some_iff.mp H
          obtain ⟨t805, A130, H⟩ := H
          replace H : (some (t805, 0)) = some (r1, r2) := H
          have A13 := Aside0.mk A130
          clear A130
          simp only [Option.some.injEq, Prod.mk.injEq] at H
          obtain ⟨rfl, rfl⟩ := H
          go_wp2_with (first | ((with_reducible refine gate_callee (f := 119) rfl ?_); refine goesL_ (some 23) rfl rfl Try.func119 (by kernel_rfl) rfl #[.slice A0 l0.length c0, .slice A1 l1.length c1] rfl (by (try simp only [List.map_toArray, List.map_cons, List.map_nil]); first | done | rfl | (simp only [List.length_drop, List.length_take]; rfl)) ?_; (with_reducible refine (spec_l31Order.calls kj3 (fun k_ => (P0_ k_ ∨ w.heap.size ≤ k_)) _ _ l0 _ _ l1 t805 _ ?side1 ?side2 ?side3 A13.out).mono ?_); (case side1 => exact HO_0.out); (case side2 => repeat (first | exact (Kd.C_below HR1.out HB.out) | (with_reducible refine Kd.C_alloc ?_ _) | (with_reducible refine Kd.C_drewN ?_ _) | (with_reducible refine Kd.C_drew ?_))); (case side3 => exact HC1.out); rintro e w14 ⟨v806, rfl, ho0, hb⟩; refine ⟨_, rfl, ?_⟩; have n0_ := Aside0.mk (Kd.V_elder' (by (with_reducible repeat (first | apply Kd.V_alloc | apply Kd.V_drewN | apply Kd.V_drew)); exact HO_0.out) (Kd.N_base ho0) hb); have n1_ := Aside0.mk (Kd.N_lower (Kd.N_mono (ok' := fun k_ => (P0_ k_ ∨ w.heap.size ≤ k_)) ho0 (fun k_ hk_ => Or.elim hk_ (fun hs_ => hs_) (fun hn_ => (.inr (Nat.le_trans (below_size (by repeat (first | (with_reducible first | exact HB.out | apply below_alloc | apply pw_below_drewN | apply below_drew1) | exact HB.out))) hn_))))) (below_size (by repeat (first | (with_reducible first | exact HB.out | apply below_alloc | apply pw_below_drewN | apply below_drew1) | exact HB.out)))); have n2_ := Aside0.mk (below_step (by repeat (first | (with_reducible first | exact HB.out | apply below_alloc | apply pw_below_drewN | apply below_drew1) | exact HB.out)) hb); clear HO_0; clear HB; have HO_0 := n0_; have HO807 := n1_; have HB := n2_; clear n0_ n1_ n2_; (try clear hb); (try clear hb2); (try clear hk); (try clear hi); (try clear ho0)))
          go_ret2
          exact ⟨_, by first | rfl | (simp [errW_none, errW_some] <;> rfl) | (simp [*, errW_none, errW_some] <;> rfl), by (with_reducible repeat (first | apply Kd.N_alloc | apply Kd.N_drewN | apply Kd.N_drew)); exact HO807.out, by repeat (first | (with_reducible first | exact HB.out | apply below_alloc | apply pw_below_drewN | apply below_drew1) | exact HB.out)⟩
        · rw [if_neg c12] at H
          have c12b0 : (t800 == 0) = false := beq_eq_false_iff_ne.mpr c12
          have c12b1 : (t800 != 0) = true := bne_iff_ne.mpr c12
          simp only [Option.some.injEq, Prod.mk.injEq] at H
          obtain ⟨rfl, rfl⟩ := H
          go_wp2
          go_ret2
          exact ⟨_, by first | rfl | (simp [errW_none, errW_some] <;> rfl) | (simp [*, errW_none, errW_some] <;> rfl), by first | exact Kd.S_nil _ _ _ _ _ | exact Kd.N_nil _ _ _ _ _ | exact Kd.V_nil _ _ _ _ _ | exact Kd.Q_nil _ _ _ _ _ | exact Kd.R_nil _ _ _ _ _, by repeat (first | (with_reducible first | exact HB.out | apply below_alloc | apply pw_below_drewN | apply below_drew1) | exact HB.out)⟩

end Go.Proofs.Ythdadohmomhchaa.F

namespace Go.Proofs.Ythdadohmomhchaa.Pure
open Go.RowKit Go.Proofs.Ythdadohmomhchaa.F Go.Proofs.YthdadohmomhchaaW.PrintWords Go.Proofs.YthdadohmomhchaaW.PrintLast Go.Proofs.YthdadohmomhchaaW.PrintMore Go.Proofs.YthdadohmomhchaaB
set_option linter.unusedVariables false
set_option linter.unusedSimpArgs false
theorem spec_l01In_f (a b c : Int) : spec_l01In.f a b c = some (inB a b c) := inB_if a b c

end Go.Proofs.Ythdadohmomhchaa.Pure

namespace Go.Proofs.Ythdadohmomhchaa.Pure
open Go.RowKit Go.Proofs.Ythdadohmomhchaa.F Go.Proofs.YthdadohmomhchaaW.PrintWords Go.Proofs.YthdadohmomhchaaW.PrintLast Go.Proofs.YthdadohmomhchaaW.PrintMore Go.Proofs.YthdadohmomhchaaB
set_option linter.unusedVariables false
set_option linter.unusedSimpArgs false
theorem spec_l14Point_f (a b : Int) : spec_l14Point.f a b = some (inB a (-1000000) 1000000 && inB b (-1000000) 1000000) := by
  simp only [spec_l14Point.f, spec_l01In_f, Option.bind_some]
  cases inB a (-1000000) 1000000 <;> simp

end Go.Proofs.Ythdadohmomhchaa.Pure

namespace Go.Proofs.Ythdadohmomhchaa.Pure
open Go.RowKit Go.Proofs.Ythdadohmomhchaa.F Go.Proofs.YthdadohmomhchaaW.PrintWords Go.Proofs.YthdadohmomhchaaW.PrintLast Go.Proofs.YthdadohmomhchaaW.PrintMore Go.Proofs.YthdadohmomhchaaB
set_option linter.unusedVariables false
set_option linter.unusedSimpArgs false
theorem spec_l16Points_l0 (xs : List S30) (hx : xs.length ≤ 9223372036854775807) : ∀ (ys : List S30) (m : Nat), xs.drop m = ys → Ev (fun k => spec_l16Points.l0 k xs m) (ys.all ptB)
  | [], m, h => by
    have := drop_nil h
    exact ev_step (fun _ => rfl) (ev_neg (by omega) (ev_now rfl))
  | y :: ys, m, h => by
    obtain ⟨hm, _, hd⟩ := drop_cons h
    refine ev_step (fun _ => rfl) (ev_pos (by omega) (ev_pos (by omega) ?_))
    rw [rdP h, w64 (by omega) (by omega)]
    refine ev_some (spec_l14Point_f _ _) ?_
    rw [List.all_cons, show (inB y.f0 (-1000000) 1000000 && inB y.f1 (-1000000) 1000000) = ptB y from rfl]
    cases ptB y
    · exact ev_neg (by simp) (ev_now (by simp))
    · exact ev_pos rfl (ev_eq (spec_l16Points_l0 xs hx ys (m + 1) hd) (by simp))
theorem spec_l16Points_f (xs : List S30) (hx : xs.length ≤ 9223372036854775807) : Ev (fun k => spec_l16Points.f k xs) (xs.all ptB) := spec_l16Points_l0 xs hx xs 0 rfl

end Go.Proofs.Ythdadohmomhchaa.Pure

namespace Go.Proofs.Ythdadohmomhchaa.Pure
open Go.RowKit Go.Proofs.Ythdadohmomhchaa.F Go.Proofs.YthdadohmomhchaaW.PrintWords Go.Proofs.YthdadohmomhchaaW.PrintLast Go.Proofs.YthdadohmomhchaaW.PrintMore Go.Proofs.YthdadohmomhchaaB
set_option linter.unusedVariables false
set_option linter.unusedSimpArgs false
theorem spec_IsLine_f (l : List S30) : Ev (fun k => spec_IsLine.f k l) (lineB l) := by
  unfold lineB
  by_cases h : l.length ≤ 200
  · rw [decide_eq_true h, Bool.true_and]
    exact ev_pos (by omega) (ev_bind (spec_l16Points_f l (by omega)) (ev_now rfl))
  · rw [decide_eq_false h, Bool.false_and]
    exact ev_neg (by omega) (ev_now rfl)

end Go.Proofs.Ythdadohmomhchaa.Pure

namespace Go.Proofs.Ythdadohmomhchaa.Pure
open Go.RowKit Go.Proofs.Ythdadohmomhchaa.F Go.Proofs.YthdadohmomhchaaW.PrintWords Go.Proofs.YthdadohmomhchaaW.PrintLast Go.Proofs.YthdadohmomhchaaW.PrintMore Go.Proofs.YthdadohmomhchaaB
set_option linter.unusedVariables false
set_option linter.unusedSimpArgs false
theorem spec_l28Pen_f (a : Int) : spec_l28Pen.f a = some (inB a 1 8) := by
  simp only [spec_l28Pen.f, spec_l01In_f, Option.bind_some]

end Go.Proofs.Ythdadohmomhchaa.Pure

namespace Go.Proofs.Ythdadohmomhchaa.Pure
open Go.RowKit Go.Proofs.Ythdadohmomhchaa.F Go.Proofs.YthdadohmomhchaaW.PrintWords Go.Proofs.YthdadohmomhchaaW.PrintLast Go.Proofs.YthdadohmomhchaaW.PrintMore Go.Proofs.YthdadohmomhchaaB
set_option linter.unusedVariables false
set_option linter.unusedSimpArgs false
theorem spec_l28Code_l0 (xs : List S116) (hx : xs.length ≤ 9223372036854775807) : ∀ (ys : List S116) (m : Nat), xs.drop m = ys →
    Ev (fun k => spec_l28Code.l0 k xs m) (if ys.all strokeB = true then (if 40 < xs.length then 3 else 0) else 1)
  | [], m, h => by
    have := drop_nil h
    refine ev_step (fun _ => rfl) (ev_neg (by omega) (ev_now ?_))
    simp only [List.all_nil, if_true]
    by_cases h4 : 40 < xs.length
    · rw [if_pos (by omega), if_pos h4]
    · rw [if_neg (by omega), if_neg h4]
  | y :: ys, m, h => by
    obtain ⟨hm, _, hd⟩ := drop_cons h
    refine ev_step (fun _ => rfl) (ev_pos (by omega) (ev_pos (by omega) ?_))
    rw [rdS h, w64 (by omega) (by omega)]
    refine ev_some (spec_l28Pen_f _) ?_
    have ih := spec_l28Code_l0 xs hx ys (m + 1) hd
    rw [List.all_cons, show strokeB y = (inB y.f0 1 8 && lineB y.f1 && decide (2 ≤ y.f1.length)) from rfl]
    cases inB y.f0 1 8
    · exact ev_neg (by simp) (ev_now (by simp))
    refine ev_pos rfl (ev_bind (spec_IsLine_f y.f1) ?_)
    cases lineB y.f1
    · exact ev_neg (by simp) (ev_now (by simp))
    refine ev_pos rfl (ev_ite (fun h2 => ev_now ?_) (fun h2 => ev_eq ih ?_))
    · rw [decide_eq_false (show ¬ 2 ≤ y.f1.length by omega)]; simp
    · rw [decide_eq_true (show 2 ≤ y.f1.length by omega)]; simp
theorem spec_l28Code_f (xs : List S116) (hx : xs.length ≤ 9223372036854775807) : Ev (fun k => spec_l28Code.f k xs) (codeS xs) := spec_l28Code_l0 xs hx xs 0 rfl

end Go.Proofs.Ythdadohmomhchaa.Pure

namespace Go.Proofs.Ythdadohmomhchaa.Pure
open Go.RowKit Go.Proofs.Ythdadohmomhchaa.F Go.Proofs.YthdadohmomhchaaW.PrintWords Go.Proofs.YthdadohmomhchaaW.PrintLast Go.Proofs.YthdadohmomhchaaW.PrintMore Go.Proofs.YthdadohmomhchaaB
set_option linter.unusedVariables false
set_option linter.unusedSimpArgs false
theorem spec_l31Is_l0 (xs : List Int) (n : Nat) (hn : n ≤ 1048576) (hx : xs.length ≤ 9223372036854775807) : ∀ (ys : List Int) (m : Nat) (used : List Bool), xs.drop m = ys → used.length = n →
    Ev (fun k => spec_l31Is.l0 k xs n used m) (ordB n used ys && decide (xs.length = n))
  | [], m, used, h, hu => by
    have := drop_nil h
    refine ev_step (fun _ => rfl) (ev_neg (by omega) (ev_now ?_))
    by_cases e : xs.length = n <;> simp [ordB, e]
    omega
  | y :: ys, m, used, h, hu => by
    obtain ⟨hm, _, hd⟩ := drop_cons h
    refine ev_step (fun _ => rfl) (ev_pos (by omega) (ev_pos (by omega) ?_))
    rw [rdI h, w64 (x := (m : Int) + 1) (by omega) (by omega), w64 (x := 2 * (n : Int)) (by omega) (by omega), w64 (x := 2 * (n : Int) - 1) (by omega) (by omega)]
    refine ev_some (spec_l01In_f _ _ _) ?_
    rw [ordB_cons]
    cases hb : inB y 0 (2 * n - 1)
    · exact ev_neg (by simp) (ev_now (by simp))
    obtain ⟨g0, g1⟩ := inB_iff hb
    refine ev_pos rfl ?_
    rw [half_w g0 (by omega)]
    refine ev_pos (by omega) (ev_pos (by omega) ?_)
    rw [show rdOf false used (y / 2) = used.getD (y / 2).toNat false from rfl]
    cases used.getD (y / 2).toNat false
    · exact ev_neg (by simp) (ev_eq (spec_l31Is_l0 xs n hn hx ys (m + 1) _ hd (by rw [List.length_set, hu])) (by simp))
    · exact ev_pos rfl (ev_now (by simp))
theorem spec_l31Is_f (xs : List Int) (n : Nat) (hn : n ≤ 1048576) (hx : xs.length ≤ 9223372036854775807) : Ev (fun k => spec_l31Is.f k xs n) (isOrd n xs) := by
  refine ev_pos (by omega) (ev_pos (by omega) ?_)
  exact spec_l31Is_l0 xs n hn hx xs 0 _ rfl (by simp)

end Go.Proofs.Ythdadohmomhchaa.Pure

namespace Go.Proofs.Ythdadohmomhchaa.Pure
open Go.RowKit Go.Proofs.Ythdadohmomhchaa.F Go.Proofs.YthdadohmomhchaaW.PrintWords Go.Proofs.YthdadohmomhchaaW.PrintLast Go.Proofs.YthdadohmomhchaaW.PrintMore Go.Proofs.YthdadohmomhchaaB
set_option linter.unusedVariables false
set_option linter.unusedSimpArgs false
theorem spec_l28Own_l0 (xs : List S116) (hx : smallS xs) : ∀ (ys : List S116) (m : Nat) (out : List S116), xs.drop m = ys → out.length + ys.length ≤ 1048576 →
    Ev (fun k => spec_l28Own.l0 k xs out m) (out ++ ys)
  | [], m, out, h, ho => by
    have := drop_nil h
    exact ev_step (fun _ => rfl) (ev_neg (by omega) (ev_now (by rw [List.append_nil])))
  | y :: ys, m, out, h, ho => by
    obtain ⟨hm, _, hd⟩ := drop_cons h
    have hx1 := hx.1
    have hmem : y ∈ xs := List.mem_of_mem_drop (by rw [h]; exact List.mem_cons_self)
    have hy := hx.2 y hmem
    simp only [List.length_cons] at ho
    refine ev_step (fun _ => rfl) (ev_pos (by omega) (ev_pos (by omega) (ev_some rfl ?_)))
    rw [rdS h, w64 (by omega) (by omega)]
    refine ev_pos (by simp; omega) (ev_pos (by omega) (ev_eq (spec_l28Own_l0 xs hx ys (m + 1) _ hd (by simp; omega)) ?_))
    rw [List.append_assoc]
    rfl
theorem spec_l28Own_f (xs : List S116) (hx : smallS xs) : Ev (fun k => spec_l28Own.f k xs) xs := spec_l28Own_l0 xs hx xs 0 [] rfl (by have := hx.1; simp; omega)

end Go.Proofs.Ythdadohmomhchaa.Pure

namespace Go.Proofs.Ythdadohmomhchaa.Pure
open Go.RowKit Go.Proofs.Ythdadohmomhchaa.F Go.Proofs.YthdadohmomhchaaW.PrintWords Go.Proofs.YthdadohmomhchaaW.PrintLast Go.Proofs.YthdadohmomhchaaW.PrintMore Go.Proofs.YthdadohmomhchaaB
set_option linter.unusedVariables false
set_option linter.unusedSimpArgs false
theorem spec_ReverseLine_l0 (l : List S30) (hl : l.length ≤ 1048576) : ∀ (d : Nat) (out : List S30), d ≤ l.length → out.length + d ≤ l.length →
    Ev (fun k => spec_ReverseLine.l0 k l out ((d : Int) - 1)) (out ++ (l.take d).reverse, 0) := by
  intro d
  induction d with
  | zero =>
    intro out hd ho
    refine ev_step (fun _ => rfl) (ev_neg (by omega) (ev_now ?_))
    simp
  | succ d ih =>
    intro out hd ho
    obtain ⟨y, hy⟩ : ∃ y, l[d]? = some y := ⟨l[d], List.getElem?_eq_getElem (by omega)⟩
    have hdr : l.drop d = y :: l.drop (d + 1) := by
      rw [List.getElem?_eq_getElem (by omega)] at hy
      injection hy with hy
      rw [← hy]
      exact List.drop_eq_getElem_cons (by omega)
    rw [show ((d + 1 : Nat) : Int) - 1 = (d : Int) by omega]
    refine ev_step (fun _ => rfl) (ev_pos (by omega) (ev_pos (by omega) (ev_pos (by omega) (ev_pos (by omega) ?_))))
    rw [rdP hdr, w64 (by omega) (by omega)]
    refine ev_eq (ih _ (by omega) (by simp; omega)) ?_
    rw [take_snoc hdr, List.reverse_append, List.append_assoc]
    rfl
theorem spec_ReverseLine_f (l : List S30) (hl : lineB l = true) : Ev (fun k => spec_ReverseLine.f k l) (l.reverse, 0) := by
  have h2 : l.length ≤ 200 := by
    unfold lineB at hl
    simp only [Bool.and_eq_true, decide_eq_true_eq] at hl
    exact hl.1
  refine ev_bind (spec_IsLine_f l) ?_
  rw [hl]
  refine ev_pos rfl ?_
  rw [w64 (by omega) (by omega)]
  have h := spec_ReverseLine_l0 l (by omega) l.length [] (by omega) (by simp)
  rw [List.take_length] at h
  exact h

end Go.Proofs.Ythdadohmomhchaa.Pure

namespace Go.Proofs.Ythdadohmomhchaa.Pure
open Go.RowKit Go.Proofs.Ythdadohmomhchaa.F Go.Proofs.YthdadohmomhchaaW.PrintWords Go.Proofs.YthdadohmomhchaaW.PrintLast Go.Proofs.YthdadohmomhchaaW.PrintMore Go.Proofs.YthdadohmomhchaaB
set_option linter.unusedVariables false
set_option linter.unusedSimpArgs false
theorem spec_l31Stroke_f (xs : List S116) (h : codeS xs = 0) (a : Int) (h0 : 0 ≤ a) (h1 : a ≤ 2 * xs.length - 1) : Ev (fun k => spec_l31Stroke.f k xs a) ((numS xs a).f0, (numS xs a).f1) := by
  have hz := codeS_zero h
  have hm := rdS_mem (xs := xs) (a := a / 2) (by omega) (by omega)
  have hl := lineB_of h hm
  unfold spec_l31Stroke.f numS
  rw [tmod2 h0, half_w h0 (by omega)]
  refine ev_ite (fun hq => ?_) (fun hq => ?_)
  · rw [if_pos hq]
    refine ev_pos (by omega) (ev_pos (by omega) ?_)
    exact ev_bind (ev_bind (spec_ReverseLine_f _ hl) (ev_now rfl)) (ev_now rfl)
  · rw [if_neg hq]
    exact ev_pos (by omega) (ev_pos (by omega) (ev_now rfl))

end Go.Proofs.Ythdadohmomhchaa.Pure

namespace Go.Proofs.Ythdadohmomhchaa.Pure
open Go.RowKit Go.Proofs.Ythdadohmomhchaa.F Go.Proofs.YthdadohmomhchaaW.PrintWords Go.Proofs.YthdadohmomhchaaW.PrintLast Go.Proofs.YthdadohmomhchaaW.PrintMore Go.Proofs.YthdadohmomhchaaB
set_option linter.unusedVariables false
set_option linter.unusedSimpArgs false
theorem spec_l31Order_l0 (xs : List S116) (hc : codeS xs = 0) (is : List Int) (hi : is.length ≤ 1000) (hb : ∀ y ∈ is, 0 ≤ y ∧ y ≤ 2 * xs.length - 1) : ∀ (ys : List Int) (m : Nat) (out : List S116), is.drop m = ys → out = (is.take m).map (numS xs) →
    Ev (fun k => spec_l31Order.l0 k xs is out m) (is.map (numS xs))
  | [], m, out, h, ho => by
    have := drop_nil h
    rw [List.take_of_length_le this] at ho
    refine ev_step (fun _ => rfl) (ev_neg (by omega) (ev_bind (spec_l28Own_f out ?_) (ev_now (by rw [ho]))))
    subst ho
    refine ⟨by rw [List.length_map]; omega, fun x hx => ?_⟩
    obtain ⟨y, hy, rfl⟩ := List.mem_map.1 hx
    have h1 := hb y hy
    have := numS_len hc h1.1 h1.2
    omega
  | y :: ys, m, out, h, ho => by
    obtain ⟨hm, _, hd⟩ := drop_cons h
    have e : rd is (m : Int) = y := (drop_cons h).2.1 _
    have hy := hb y (List.mem_of_mem_drop (by rw [h]; exact List.mem_cons_self))
    have hol : out.length ≤ 1000 := by rw [ho, List.length_map, List.length_take]; omega
    refine ev_step (fun _ => rfl) (ev_pos (by omega) (ev_pos (by omega) ?_))
    rw [e, w64 (by omega) (by omega)]
    refine ev_bind (spec_l31Stroke_f xs hc y hy.1 hy.2) (ev_pos (by omega) (spec_l31Order_l0 xs hc is hi hb ys (m + 1) _ hd ?_))
    rw [take_snoc h, List.map_append, ← ho]
    rfl
theorem spec_l31Order_f (xs : List S116) (hc : codeS xs = 0) (is : List Int) (hi : is.length ≤ 1000) (hb : ∀ y ∈ is, 0 ≤ y ∧ y ≤ 2 * xs.length - 1) : Ev (fun k => spec_l31Order.f k xs is) (is.map (numS xs)) := spec_l31Order_l0 xs hc is hi hb is 0 [] rfl rfl

end Go.Proofs.Ythdadohmomhchaa.Pure

namespace Go.Proofs.Ythdadohmomhchaa.Pure
open Go.RowKit Go.Proofs.Ythdadohmomhchaa.F Go.Proofs.YthdadohmomhchaaW.PrintWords Go.Proofs.YthdadohmomhchaaW.PrintLast Go.Proofs.YthdadohmomhchaaW.PrintMore Go.Proofs.YthdadohmomhchaaB
set_option linter.unusedVariables false
set_option linter.unusedSimpArgs false
theorem spec_OrderDrawing_j0 (xs : List S116) (is : List Int) (c : Int) (b : Bool) (res : List S116 × Int) (h1 : b = true → res = ([], 5)) (h2 : b = false → c ≠ 0 → res = ([], c)) (h3 : b = false → c = 0 → ∃ l, Ev (fun k => spec_l31Order.f k xs is) l ∧ res = (l, 0)) : Ev (fun k => spec_OrderDrawing.j0 k xs is c b) res := by
  refine ev_step (fun _ => rfl) (ev_ite (fun hb => ev_neg (by omega) (ev_now (by rw [h1 hb]))) (fun hb => ev_ite (fun hc => ?_) (fun hc => ev_now ?_)))
  · obtain ⟨l, hl, hr⟩ := h3 (by simpa using hb) hc
    exact ev_bind hl (ev_now (by rw [hr]))
  · rw [h2 (by simpa using hb) hc]
theorem spec_OrderDrawing_f (xs : List S116) (is : List Int) (hx : xs.length ≤ 1048576) (hi : is.length ≤ 9223372036854775807) : Ev (fun k => spec_OrderDrawing.f k xs is) (resOD xs is) := by
  refine ev_bind (spec_l28Code_f xs (by omega)) ?_
  unfold resOD
  refine ev_ite (fun h => ?_) (fun h => ?_)
  · rw [if_pos h]
    have hz := codeS_zero h
    refine ev_bind (spec_l31Is_f is xs.length hx hi) (spec_OrderDrawing_j0 xs is _ _ _ (fun hb => ?_) (fun _ hn => absurd h hn) (fun hb _ => ?_))
    · rw [if_neg (by simpa using hb)]
    · have hb : isOrd xs.length is = true := by simpa using hb
      obtain ⟨hl, hi⟩ := isOrd_in hb
      exact ⟨_, spec_l31Order_f xs h is (by omega) hi, by rw [if_pos hb]⟩
  · rw [if_neg h]
    exact spec_OrderDrawing_j0 xs is _ _ _ (fun hb => by cases hb) (fun _ _ => rfl) (fun _ hn => absurd hn h)

end Go.Proofs.Ythdadohmomhchaa.Pure

namespace Go.Proofs.Ythdadohmomhchaa.Pure
open Go.RowKit Go.Proofs.Ythdadohmomhchaa.F Go.Proofs.YthdadohmomhchaaW.PrintWords Go.Proofs.YthdadohmomhchaaW.PrintLast Go.Proofs.YthdadohmomhchaaW.PrintMore Go.Proofs.YthdadohmomhchaaB
set_option linter.unusedVariables false
set_option linter.unusedSimpArgs false
theorem EQ_Int64S (A A' : Option Addr) (c c' : Nat) (l : List Int) (w : World) (hr : Kd.C (Kd.int .i64) w A l.length l) (hc : l.length ≤ c) (hr' : Kd.C (Kd.int .i64) w A' l.length l) (hc' : l.length ≤ c') (h : Ev (fun k => laws_eqInt64S.f k l l) true) :
    Calls Try.prog 22 #[.slice A l.length c, .slice A' l.length c'] w fun e w' => e = .returned (.bool true) ∧ Below w.heap.size w w' := by
  obtain ⟨k, h⟩ := h.rounds
  exact (laws_eqInt64S.calls k A c l A' c' l true w hr hc hr' hc' h).mono fun e w' ⟨h1, h2⟩ => ⟨h1, h2.below⟩

end Go.Proofs.Ythdadohmomhchaa.Pure

namespace Go.Proofs.Ythdadohmomhchaa.Pure
open Go.RowKit Go.Proofs.Ythdadohmomhchaa.F Go.Proofs.YthdadohmomhchaaW.PrintWords Go.Proofs.YthdadohmomhchaaW.PrintLast Go.Proofs.YthdadohmomhchaaW.PrintMore Go.Proofs.YthdadohmomhchaaB
set_option linter.unusedVariables false
set_option linter.unusedSimpArgs false
theorem EQ_StrokeS (A A' : Option Addr) (c c' : Nat) (l : List S116) (w : World) (hr : Kd.C k116 w A l.length l) (hc : l.length ≤ c) (hr' : Kd.C k116 w A' l.length l) (hc' : l.length ≤ c') (h : Ev (fun k => laws_eqStrokeS.f k l l) true) :
    Calls Try.prog 19 #[.slice A l.length c, .slice A' l.length c'] w fun e w' => e = .returned (.bool true) ∧ Below w.heap.size w w' := by
  obtain ⟨k, h⟩ := h.rounds
  exact (laws_eqStrokeS.calls k A c l A' c' l true w hr hc hr' hc' h).mono fun e w' ⟨h1, h2⟩ => ⟨h1, h2⟩

end Go.Proofs.Ythdadohmomhchaa.Pure

namespace Go.Proofs.Ythdadohmomhchaa.Pure
open Go.RowKit Go.Proofs.Ythdadohmomhchaa.F Go.Proofs.YthdadohmomhchaaW.PrintWords Go.Proofs.YthdadohmomhchaaW.PrintLast Go.Proofs.YthdadohmomhchaaW.PrintMore Go.Proofs.YthdadohmomhchaaB
set_option linter.unusedVariables false
set_option linter.unusedSimpArgs false
theorem HD_StrokeS (A : Option Addr) (c m : Nat) (l : List S116) (a n : Int) (w : World) (hm : l.length = m) (hr : Kd.C k116 w A l.length l) (hc : l.length ≤ c) (h : Ev (fun k => laws_heldStrokeS.f k l a) n) :
    Calls Try.prog 44 #[.slice A m c, .int .i64 a] w fun e w' => e = .returned (.int .i64 n) ∧ Below w.heap.size w w' := by
  obtain ⟨k, h⟩ := h.rounds
  subst hm
  exact (laws_heldStrokeS.calls k A c l a n w hr hc h).mono fun e w' ⟨h1, h2⟩ => ⟨h1, h2.below⟩

end Go.Proofs.Ythdadohmomhchaa.Pure

namespace Go.Proofs.Ythdadohmomhchaa.Pure
open Go.RowKit Go.Proofs.Ythdadohmomhchaa.F Go.Proofs.YthdadohmomhchaaW.PrintWords Go.Proofs.YthdadohmomhchaaW.PrintLast Go.Proofs.YthdadohmomhchaaW.PrintMore Go.Proofs.YthdadohmomhchaaB
set_option linter.unusedVariables false
set_option linter.unusedSimpArgs false
theorem MK_Int64S (P : Nat → Prop) (A : Option Addr) (c : Nat) (l ys : List Int) (a n : Int) (w0 w : World) (hB : Below w0.heap.size w0 w) (hO : Kd.R (Kd.int .i64) 2 w w0.heap.size P (.slice A l.length c) l) (h : Ev (fun k => laws_markInt64S.f k l a) (n, ys)) :
    Calls Try.prog 24 #[.slice A l.length c, .int .i64 a] w fun e w' => e = .returned (.int .i64 n) ∧ Kd.R (Kd.int .i64) 2 w' w0.heap.size (fun k => P k ∨ w.heap.size ≤ k) (.slice A l.length c) ys ∧ Below w0.heap.size w0 w' ∧ Kept w w' P := by
  obtain ⟨k, h⟩ := h.rounds
  exact laws_markInt64S.calls k P _ l a n ys w0 w hB hO h

end Go.Proofs.Ythdadohmomhchaa.Pure

namespace Go.Proofs.Ythdadohmomhchaa.Pure
open Go.RowKit Go.Proofs.Ythdadohmomhchaa.F Go.Proofs.YthdadohmomhchaaW.PrintWords Go.Proofs.YthdadohmomhchaaW.PrintLast Go.Proofs.YthdadohmomhchaaW.PrintMore Go.Proofs.YthdadohmomhchaaB
set_option linter.unusedVariables false
set_option linter.unusedSimpArgs false
section
variable {α : Type} {d : Kd α} {e : Nat} {w : World} {base : Nat} {ok : Nat → Prop} {A : Option Addr} {n c : Nat} {xs : List α}
theorem Kd.R_now (h : d.R e w base ok (.slice A n c) xs) (hl : xs.length = n) : xs.length ≤ c ∧ d.C w A xs.length xs := by
  obtain ⟨h1, h2, h3⟩ := Kd.R_reads' h
  exact ⟨by omega, h3⟩
theorem Kd.S_now (h : Kd.S d e w base ok (.slice A n c) xs) (hl : xs.length = n) : xs.length ≤ c ∧ d.C w A xs.length xs := by
  obtain ⟨h1, h2, h3⟩ := Kd.S_reads' h
  exact ⟨by omega, h3⟩
end

end Go.Proofs.Ythdadohmomhchaa.Pure

namespace Go.Proofs.Ythdadohmomhchaa.Pure
open Go.RowKit Go.Proofs.Ythdadohmomhchaa.F Go.Proofs.YthdadohmomhchaaW.PrintWords Go.Proofs.YthdadohmomhchaaW.PrintLast Go.Proofs.YthdadohmomhchaaW.PrintMore Go.Proofs.YthdadohmomhchaaB
set_option linter.unusedVariables false
set_option linter.unusedSimpArgs false
theorem SZ_StrokeS (A : Option Addr) (c : Nat) (l : List S109) (a n : Int) (w : World) (hr : Kd.C k109 w A l.length l) (hc : l.length ≤ c) (h : Ev (fun k => laws_szStrokeS.f k l a) n) :
    Calls Try.prog 14 #[.slice A l.length c, .int .i64 a] w fun e w' => e = .returned (.int .i64 n) ∧ Below w.heap.size w w' := by
  obtain ⟨k, h⟩ := h.rounds
  exact (laws_szStrokeS.calls k A c l a n w hr hc h).mono fun e w' ⟨h1, h2⟩ => ⟨h1, h2⟩

end Go.Proofs.Ythdadohmomhchaa.Pure

namespace Go.Proofs.Ythdadohmomhchaa.Pure
open Go.RowKit Go.Proofs.Ythdadohmomhchaa.F Go.Proofs.YthdadohmomhchaaW.PrintWords Go.Proofs.YthdadohmomhchaaW.PrintLast Go.Proofs.YthdadohmomhchaaW.PrintMore Go.Proofs.YthdadohmomhchaaB
set_option linter.unusedVariables false
set_option linter.unusedSimpArgs false
theorem TO_Int64S (A : Option Addr) (c : Nat) (l : List Int) (xs : List Int) (w : World) (hr : Kd.C (Kd.int .i64) w A l.length l) (hc : l.length ≤ c) (h : Ev (fun k => laws_toInt64S.f k l) xs) :
    Calls Try.prog 42 #[.slice A l.length c] w fun e w' => ∃ A' c', e = .returned (.slice A' xs.length c') ∧ Kd.R (Kd.int .i64) 2 w' w.heap.size (fun k => w.heap.size ≤ k ∧ k < w'.heap.size) (.slice A' xs.length c') xs ∧ Below w.heap.size w w' := by
  obtain ⟨k, h⟩ := h.rounds
  refine (laws_toInt64S.calls k A c l xs w hr hc h).mono fun e w' ⟨v, h1, h2, h3⟩ => ?_
  obtain ⟨A', c', rfl⟩ := Kd.R_slice h2
  exact ⟨A', c', h1, Kd.R_mono (Kd.R_bound h2) (fun k hk => ⟨hk.2.1, hk.2.2.1⟩), h3⟩

end Go.Proofs.Ythdadohmomhchaa.Pure

namespace Go.Proofs.Ythdadohmomhchaa.Pure
open Go.RowKit Go.Proofs.Ythdadohmomhchaa.F Go.Proofs.YthdadohmomhchaaW.PrintWords Go.Proofs.YthdadohmomhchaaW.PrintLast Go.Proofs.YthdadohmomhchaaW.PrintMore Go.Proofs.YthdadohmomhchaaB
set_option linter.unusedVariables false
set_option linter.unusedSimpArgs false
theorem TO_StrokeS (A : Option Addr) (c : Nat) (l : List S109) (xs : List S116) (w : World) (hr : Kd.C k109 w A l.length l) (hc : l.length ≤ c) (h : Ev (fun k => laws_toStrokeS.f k l) xs) :
    Calls Try.prog 16 #[.slice A l.length c] w fun e w' => ∃ A' c', e = .returned (.slice A' xs.length c') ∧ Kd.S k116 116 w' w.heap.size (fun k => w.heap.size ≤ k ∧ k < w'.heap.size) (.slice A' xs.length c') xs ∧ Below w.heap.size w w' := by
  obtain ⟨k, h⟩ := h.rounds
  refine (laws_toStrokeS.calls k A c l xs w hr hc h).mono fun e w' ⟨v, h1, h2, h3⟩ => ?_
  obtain ⟨A', c', rfl⟩ := Kd.S_slice h2
  exact ⟨A', c', h1, Kd.S_mono (Kd.S_bound h2) (fun k hk => ⟨hk.2.1, hk.2.2.1⟩), h3⟩

end Go.Proofs.Ythdadohmomhchaa.Pure

namespace Go.Proofs.Ythdadohmomhchaa.Pure
open Go.RowKit Go.Proofs.Ythdadohmomhchaa.F Go.Proofs.YthdadohmomhchaaW.PrintWords Go.Proofs.YthdadohmomhchaaW.PrintLast Go.Proofs.YthdadohmomhchaaW.PrintMore Go.Proofs.YthdadohmomhchaaB
set_option linter.unusedVariables false
set_option linter.unusedSimpArgs false
set_option maxHeartbeats 8000000 in
set_option maxRecDepth 100000 in
theorem flat0_FnExactOrderDrawing (A0 : Option Addr) (c0 : Nat) (l0 : List S109) (A1 : Option Addr) (c1 : Nat) (l1 : List Int) (w : World) (Hb1 : (l1.length : Int) > 1048576) :
    Calls Try.prog 8 #[.slice A0 l0.length c0, .slice A1 l1.length c1] w fun e w' => e = .returned (.bool true) ∧ Below w.heap.size w w' := by
  have HB := Aside0.mk (Below.refl w.heap.size w)
  have hb1_0 := decide_eq_true Hb1
  clear Hb1
  go_enter Try.func8, Try.ntmps8
  go_wp2
  go_ret
  exact ⟨rfl, HB.out⟩
set_option maxHeartbeats 8000000 in
set_option maxRecDepth 100000 in
theorem early0_FnExactOrderDrawing (A0 : Option Addr) (c0 : Nat) (l0 : List S109) (A1 : Option Addr) (c1 : Nat) (l1 : List Int) (n0 : Int) (w : World) (hr0 : Kd.C k109 w A0 l0.length l0) (hc0 : l0.length ≤ c0) (hr1 : Kd.C (Kd.int .i64) w A1 l1.length l1) (hc1 : l1.length ≤ c1) (Hb1 : ¬ (l1.length : Int) > 1048576) (Hsz0 : Ev (fun k => laws_szStrokeS.f k l0 1048576) n0) (Hn0 : n0 < 0) :
    Calls Try.prog 8 #[.slice A0 l0.length c0, .slice A1 l1.length c1] w fun e w' => e = .returned (.bool true) ∧ Below w.heap.size w w' := by
  have HB := Aside0.mk (Below.refl w.heap.size w)
  have HR0 := Aside0.mk hr0
  have HC0 := Aside0.mk hc0
  clear hr0 hc0
  have HR1 := Aside0.mk hr1
  have HC1 := Aside0.mk hc1
  clear hr1 hc1
  have hb1_0 := decide_eq_false Hb1
  clear Hb1
  have QHsz0 := Aside0.mk Hsz0
  clear Hsz0
  go_enter Try.func8, Try.ntmps8
  go_wp2_with fail
  refine (SZ_StrokeS A0 c0 l0 1048576 n0 _ (Kd.C_below HR0.out HB.out) HC0.out QHsz0.out).mono ?_
  rintro e w1 ⟨rfl, hb⟩
  have n_ := Aside0.mk (HB.out.trans (hb.mono HB.out.size))
  clear HB hb
  have HB := n_
  clear n_
  go_wp2
  go_ret
  exact ⟨rfl, HB.out⟩
set_option maxHeartbeats 8000000 in
set_option maxRecDepth 100000 in
theorem walk_FnExactOrderDrawing (A0 : Option Addr) (c0 : Nat) (l0 : List S109) (x0 : List S116) (n0 : Int) (A1 : Option Addr) (c1 : Nat) (l1 : List Int) (x1 : List Int) (r0 : List S116) (r1 : Int) (ya0 : List S116) (ma0 : Int) (ya1 : List Int) (ma1 : Int) (yr0 : List S116) (mr0 : Int) (w : World) (hr0 : Kd.C k109 w A0 l0.length l0) (hc0 : l0.length ≤ c0) (hr1 : Kd.C (Kd.int .i64) w A1 l1.length l1) (hc1 : l1.length ≤ c1) (Hb1 : ¬ (l1.length : Int) > 1048576) (Hsz0 : Ev (fun k => laws_szStrokeS.f k l0 1048576) n0) (Hn0 : 0 ≤ n0) (Ht0 : Ev (fun k => laws_toStrokeS.f k l0) x0) (Hx0 : Ev (fun k => laws_eqStrokeS.f k x0 x0) true) (Ht1 : Ev (fun k => laws_toInt64S.f k l1) x1) (Hx1 : Ev (fun k => laws_eqInt64S.f k x1 x1) true) (Hs : Ev (fun k => spec_OrderDrawing.f k x0 x1) (r0, r1)) (Hi : Ev (fun k => impl_OrderDrawing.f k x0 x1) (r0, r1)) (He0 : Ev (fun k => laws_eqStrokeS.f k r0 r0) true) (Hma0 : MarkSt x0 ya0 1 ma0) (Hmn0 : 0 ≤ ma0) (Hma1 : Ev (fun k => laws_markInt64S.f k x1 ma0) (ma1, ya1)) (Hmn1 : 0 ≤ ma1) (Hmr0 : MarkSt r0 yr0 1 mr0) (Hrn0 : 0 ≤ mr0) (Hl0 : yr0.length = r0.length) (Hh0 : Ev (fun k => laws_heldStrokeS.f k yr0 1) mr0) :
    Calls Try.prog 8 #[.slice A0 l0.length c0, .slice A1 l1.length c1] w fun e w' => e = .returned (.bool true) ∧ Below w.heap.size w w' := by
  have HB := Aside0.mk (Below.refl w.heap.size w)
  have HR0 := Aside0.mk hr0
  have HC0 := Aside0.mk hc0
  clear hr0 hc0
  have HR1 := Aside0.mk hr1
  have HC1 := Aside0.mk hc1
  clear hr1 hc1
  have QHsz0 := Aside0.mk Hsz0
  clear Hsz0
  have QHt0 := Aside0.mk Ht0
  clear Ht0
  have QHx0 := Aside0.mk Hx0
  clear Hx0
  have QHt1 := Aside0.mk Ht1
  clear Ht1
  have QHx1 := Aside0.mk Hx1
  clear Hx1
  have QHs := Aside0.mk Hs
  clear Hs
  have QHi := Aside0.mk Hi
  clear Hi
  have QHe0 := Aside0.mk He0
  clear He0
  have QHma0 := Aside0.mk Hma0
  clear Hma0
  have QHma1 := Aside0.mk Hma1
  clear Hma1
  have QHmr0 := Aside0.mk Hmr0
  clear Hmr0
  have QHl0 := Aside0.mk Hl0
  clear Hl0
  have QHh0 := Aside0.mk Hh0
  clear Hh0
  have hb1_0 := decide_eq_false Hb1
  clear Hb1
  have hcc : ∀ r : Int, (r != r) = false := fun r => by simp
  go_enter Try.func8, Try.ntmps8
  go_wp2_with fail
  refine (SZ_StrokeS A0 c0 l0 1048576 n0 _ (Kd.C_below HR0.out HB.out) HC0.out QHsz0.out).mono ?_
  rintro e w1 ⟨rfl, hb⟩
  have HZ2 := Aside0.mk hb.size
  have n_ := Aside0.mk (HB.out.trans (hb.mono HB.out.size))
  clear HB hb
  have HB := n_
  clear n_
  go_wp2_with fail
  refine (TO_StrokeS A0 c0 l0 x0 _ (Kd.C_below HR0.out HB.out) HC0.out QHt0.out).mono ?_
  rintro e w3 ⟨B4, d4, rfl, hO, hb⟩
  have HZ5 := Aside0.mk hb.size
  have n_ := Aside0.mk (HB.out.trans (hb.mono HB.out.size))
  clear HB hb
  have HB := n_
  clear n_
  have HO4 := Aside0.mk hO
  clear hO
  go_wp2_with fail
  refine (TO_Int64S A1 c1 l1 x1 _ (Kd.C_below HR1.out HB.out) HC1.out QHt1.out).mono ?_
  rintro e w6 ⟨B7, d7, rfl, hO, hb⟩
  have n_ := Aside0.mk (Kd.S_below HO4.out hb)
  clear HO4
  have HO4 := n_
  clear n_
  have HZ8 := Aside0.mk hb.size
  have n_ := Aside0.mk (HB.out.trans (hb.mono HB.out.size))
  clear HB hb
  have HB := n_
  clear n_
  have HO7 := Aside0.mk hO
  clear hO
  go_wp2_with fail
  obtain ⟨kHs10, hHs10⟩ := QHs.out.rounds
  refine (spec_OrderDrawing.calls kHs10 _ B4 d4 x0 B7 d7 x1 r0 r1 _ (Kd.S_V HO4.out) (Kd.R_reads' HO7.out).2.2 (Kd.R_reads' HO7.out).2.1 hHs10).mono ?_
  clear hHs10
  rintro e w9 ⟨v10_0, rfl, ho10_0, hb⟩
  obtain ⟨Bv10_0, dv10_0, rfl⟩ := Kd.N_slice ho10_0
  have HO10 := Aside0.mk (Kd.N_mono (Kd.N_bound ho10_0) (ok' := fun k_ => w1.heap.size ≤ k_ ∧ k_ < w9.heap.size) (fun k_ h_ => ⟨h_.1.elim (fun h3_ => h3_.1) (fun h3_ => by have := HZ2.out; have := HZ5.out; have := HZ8.out; omega), h_.2⟩))
  clear ho10_0
  have n_ := Aside0.mk (Kd.S_below HO4.out hb)
  clear HO4
  have HO4 := n_
  clear n_
  have n_ := Aside0.mk (Kd.R_below HO7.out hb)
  clear HO7
  have HO7 := n_
  clear n_
  have HZ11 := Aside0.mk hb.size
  have n_ := Aside0.mk (HB.out.trans (hb.mono HB.out.size))
  clear HB hb
  have HB := n_
  clear n_
  go_wp2_with fail
  clear HO4
  clear HO7
  refine (TO_StrokeS A0 c0 l0 x0 _ (Kd.C_below HR0.out HB.out) HC0.out QHt0.out).mono ?_
  rintro e w12 ⟨B13, d13, rfl, hO, hb⟩
  have n_ := Aside0.mk (Kd.N_below HO10.out hb)
  clear HO10
  have HO10 := n_
  clear n_
  have HZ14 := Aside0.mk hb.size
  have n_ := Aside0.mk (HB.out.trans (hb.mono HB.out.size))
  clear HB hb
  have HB := n_
  clear n_
  have HO13 := Aside0.mk hO
  clear hO
  go_wp2_with fail
  refine (TO_Int64S A1 c1 l1 x1 _ (Kd.C_below HR1.out HB.out) HC1.out QHt1.out).mono ?_
  rintro e w15 ⟨B16, d16, rfl, hO, hb⟩
  have n_ := Aside0.mk (Kd.N_below HO10.out hb)
  clear HO10
  have HO10 := n_
  clear n_
  have n_ := Aside0.mk (Kd.S_below HO13.out hb)
  clear HO13
  have HO13 := n_
  clear n_
  have HZ17 := Aside0.mk hb.size
  have n_ := Aside0.mk (HB.out.trans (hb.mono HB.out.size))
  clear HB hb
  have HB := n_
  clear n_
  have HO16 := Aside0.mk hO
  clear hO
  go_wp2_with fail
  obtain ⟨kHi19, hHi19⟩ := QHi.out.rounds
  refine (impl_OrderDrawing.calls kHi19 B13 d13 x0 B16 d16 x1 r0 r1 _ (Kd.S_reads' HO13.out).2.2 (Kd.S_reads' HO13.out).2.1 (Kd.R_reads' HO16.out).2.2 (Kd.R_reads' HO16.out).2.1 hHi19).mono ?_
  clear hHi19
  rintro e w18 ⟨v19_0, rfl, ho19_0, hb⟩
  obtain ⟨Bv19_0, dv19_0, rfl⟩ := Kd.S_slice ho19_0
  have HO19 := Aside0.mk (Kd.S_mono (Kd.S_bound ho19_0) (ok' := fun k_ => w15.heap.size ≤ k_ ∧ k_ < w18.heap.size) (fun k_ h_ => ⟨h_.2.1, h_.2.2.1⟩))
  clear ho19_0
  have n_ := Aside0.mk (Kd.N_below HO10.out hb)
  clear HO10
  have HO10 := n_
  clear n_
  have n_ := Aside0.mk (Kd.S_below HO13.out hb)
  clear HO13
  have HO13 := n_
  clear n_
  have n_ := Aside0.mk (Kd.R_below HO16.out hb)
  clear HO16
  have HO16 := n_
  clear n_
  have HZ20 := Aside0.mk hb.size
  have n_ := Aside0.mk (HB.out.trans (hb.mono HB.out.size))
  clear HB hb
  have HB := n_
  clear n_
  go_wp2_with fail
  refine (EQ_StrokeS Bv19_0 Bv10_0 dv19_0 dv10_0 r0 _ (Kd.S_reads' HO19.out).2.2 (Kd.S_reads' HO19.out).2.1 (Kd.N_reads' HO10.out).2.2 (Kd.N_reads' HO10.out).2.1 QHe0.out).mono ?_
  rintro e w21 ⟨rfl, hb⟩
  have n_ := Aside0.mk (Kd.N_below HO10.out hb)
  clear HO10
  have HO10 := n_
  clear n_
  have n_ := Aside0.mk (Kd.S_below HO13.out hb)
  clear HO13
  have HO13 := n_
  clear n_
  have n_ := Aside0.mk (Kd.R_below HO16.out hb)
  clear HO16
  have HO16 := n_
  clear n_
  have n_ := Aside0.mk (Kd.S_below HO19.out hb)
  clear HO19
  have HO19 := n_
  clear n_
  have HZ22 := Aside0.mk hb.size
  have n_ := Aside0.mk (HB.out.trans (hb.mono HB.out.size))
  clear HB hb
  have HB := n_
  clear n_
  go_wp2_with fail
  refine (TO_StrokeS A0 c0 l0 x0 _ (Kd.C_below HR0.out HB.out) HC0.out QHt0.out).mono ?_
  rintro e w23 ⟨B24, d24, rfl, hO, hb⟩
  have n_ := Aside0.mk (Kd.N_below HO10.out hb)
  clear HO10
  have HO10 := n_
  clear n_
  have n_ := Aside0.mk (Kd.S_below HO13.out hb)
  clear HO13
  have HO13 := n_
  clear n_
  have n_ := Aside0.mk (Kd.R_below HO16.out hb)
  clear HO16
  have HO16 := n_
  clear n_
  have n_ := Aside0.mk (Kd.S_below HO19.out hb)
  clear HO19
  have HO19 := n_
  clear n_
  have HZ25 := Aside0.mk hb.size
  have n_ := Aside0.mk (HB.out.trans (hb.mono HB.out.size))
  clear HB hb
  have HB := n_
  clear n_
  have HO24 := Aside0.mk hO
  clear hO
  go_wp2_with fail
  refine (EQ_StrokeS B13 B24 d13 d24 x0 _ (Kd.S_reads' HO13.out).2.2 (Kd.S_reads' HO13.out).2.1 (Kd.S_reads' HO24.out).2.2 (Kd.S_reads' HO24.out).2.1 QHx0.out).mono ?_
  rintro e w26 ⟨rfl, hb⟩
  have n_ := Aside0.mk (Kd.N_below HO10.out hb)
  clear HO10
  have HO10 := n_
  clear n_
  have n_ := Aside0.mk (Kd.S_below HO13.out hb)
  clear HO13
  have HO13 := n_
  clear n_
  have n_ := Aside0.mk (Kd.R_below HO16.out hb)
  clear HO16
  have HO16 := n_
  clear n_
  have n_ := Aside0.mk (Kd.S_below HO19.out hb)
  clear HO19
  have HO19 := n_
  clear n_
  have n_ := Aside0.mk (Kd.S_below HO24.out hb)
  clear HO24
  have HO24 := n_
  clear n_
  have HZ27 := Aside0.mk hb.size
  have n_ := Aside0.mk (HB.out.trans (hb.mono HB.out.size))
  clear HB hb
  have HB := n_
  clear n_
  go_wp2_with fail
  clear HO24
  refine (TO_Int64S A1 c1 l1 x1 _ (Kd.C_below HR1.out HB.out) HC1.out QHt1.out).mono ?_
  rintro e w28 ⟨B29, d29, rfl, hO, hb⟩
  have n_ := Aside0.mk (Kd.N_below HO10.out hb)
  clear HO10
  have HO10 := n_
  clear n_
  have n_ := Aside0.mk (Kd.S_below HO13.out hb)
  clear HO13
  have HO13 := n_
  clear n_
  have n_ := Aside0.mk (Kd.R_below HO16.out hb)
  clear HO16
  have HO16 := n_
  clear n_
  have n_ := Aside0.mk (Kd.S_below HO19.out hb)
  clear HO19
  have HO19 := n_
  clear n_
  have HZ30 := Aside0.mk hb.size
  have n_ := Aside0.mk (HB.out.trans (hb.mono HB.out.size))
  clear HB hb
  have HB := n_
  clear n_
  have HO29 := Aside0.mk hO
  clear hO
  go_wp2_with fail
  refine (EQ_Int64S B16 B29 d16 d29 x1 _ (Kd.R_reads' HO16.out).2.2 (Kd.R_reads' HO16.out).2.1 (Kd.R_reads' HO29.out).2.2 (Kd.R_reads' HO29.out).2.1 QHx1.out).mono ?_
  rintro e w31 ⟨rfl, hb⟩
  have n_ := Aside0.mk (Kd.N_below HO10.out hb)
  clear HO10
  have HO10 := n_
  clear n_
  have n_ := Aside0.mk (Kd.S_below HO13.out hb)
  clear HO13
  have HO13 := n_
  clear n_
  have n_ := Aside0.mk (Kd.R_below HO16.out hb)
  clear HO16
  have HO16 := n_
  clear n_
  have n_ := Aside0.mk (Kd.S_below HO19.out hb)
  clear HO19
  have HO19 := n_
  clear n_
  have n_ := Aside0.mk (Kd.R_below HO29.out hb)
  clear HO29
  have HO29 := n_
  clear n_
  have HZ32 := Aside0.mk hb.size
  have n_ := Aside0.mk (HB.out.trans (hb.mono HB.out.size))
  clear HB hb
  have HB := n_
  clear n_
  go_wp2_with fail
  clear HO29
  refine (MK_StrokeS (fun k_ => w9.heap.size ≤ k_ ∧ k_ < w12.heap.size) B13 d13 x0 ya0 1 ma0 w _ HB.out (Kd.S_lower HO13.out (by have := HZ2.out; have := HZ5.out; have := HZ8.out; have := HZ11.out; have := HZ14.out; have := HZ17.out; have := HZ20.out; have := HZ22.out; have := HZ25.out; have := HZ27.out; have := HZ30.out; have := HZ32.out; omega)) QHma0.out).mono ?_
  rintro e w33 ⟨rfl, hO, hB2, hK⟩
  have n_ := Aside0.mk (Kd.N_kept HO10.out hK (fun k_ h_ h2_ => by have := HZ2.out; have := HZ5.out; have := HZ8.out; have := HZ11.out; have := HZ14.out; have := HZ17.out; have := HZ20.out; have := HZ22.out; have := HZ25.out; have := HZ27.out; have := HZ30.out; have := HZ32.out; obtain ⟨h3_, h4_⟩ := h2_; rcases h_ with h_ <;> omega))
  clear HO10
  have HO10 := n_
  clear n_
  have n_ := Aside0.mk (Kd.R_kept HO16.out hK (fun k_ h_ h2_ => by have := HZ2.out; have := HZ5.out; have := HZ8.out; have := HZ11.out; have := HZ14.out; have := HZ17.out; have := HZ20.out; have := HZ22.out; have := HZ25.out; have := HZ27.out; have := HZ30.out; have := HZ32.out; obtain ⟨h3_, h4_⟩ := h2_; rcases h_ with h_ <;> omega))
  clear HO16
  have HO16 := n_
  clear n_
  have n_ := Aside0.mk (Kd.S_kept HO19.out hK (fun k_ h_ h2_ => by have := HZ2.out; have := HZ5.out; have := HZ8.out; have := HZ11.out; have := HZ14.out; have := HZ17.out; have := HZ20.out; have := HZ22.out; have := HZ25.out; have := HZ27.out; have := HZ30.out; have := HZ32.out; obtain ⟨h3_, h4_⟩ := h2_; rcases h_ with h_ <;> omega))
  clear HO19
  have HO19 := n_
  clear n_
  have HZ34 := Aside0.mk hK.1
  clear HB
  have HB := Aside0.mk hB2
  clear HO13
  clear hO hB2 hK
  go_wp2_with fail
  refine (MK_Int64S (fun k_ => w12.heap.size ≤ k_ ∧ k_ < w15.heap.size) B16 d16 x1 ya1 ma0 ma1 w _ HB.out (Kd.R_lower HO16.out (by have := HZ2.out; have := HZ5.out; have := HZ8.out; have := HZ11.out; have := HZ14.out; have := HZ17.out; have := HZ20.out; have := HZ22.out; have := HZ25.out; have := HZ27.out; have := HZ30.out; have := HZ32.out; have := HZ34.out; omega)) QHma1.out).mono ?_
  rintro e w35 ⟨rfl, hO, hB2, hK⟩
  have n_ := Aside0.mk (Kd.N_kept HO10.out hK (fun k_ h_ h2_ => by have := HZ2.out; have := HZ5.out; have := HZ8.out; have := HZ11.out; have := HZ14.out; have := HZ17.out; have := HZ20.out; have := HZ22.out; have := HZ25.out; have := HZ27.out; have := HZ30.out; have := HZ32.out; have := HZ34.out; obtain ⟨h3_, h4_⟩ := h2_; rcases h_ with h_ <;> omega))
  clear HO10
  have HO10 := n_
  clear n_
  have n_ := Aside0.mk (Kd.S_kept HO19.out hK (fun k_ h_ h2_ => by have := HZ2.out; have := HZ5.out; have := HZ8.out; have := HZ11.out; have := HZ14.out; have := HZ17.out; have := HZ20.out; have := HZ22.out; have := HZ25.out; have := HZ27.out; have := HZ30.out; have := HZ32.out; have := HZ34.out; obtain ⟨h3_, h4_⟩ := h2_; rcases h_ with h_ <;> omega))
  clear HO19
  have HO19 := n_
  clear n_
  have HZ36 := Aside0.mk hK.1
  clear HB
  have HB := Aside0.mk hB2
  clear HO16
  clear hO hB2 hK
  go_wp2_with fail
  refine (EQ_StrokeS Bv19_0 Bv10_0 dv19_0 dv10_0 r0 _ (Kd.S_reads' HO19.out).2.2 (Kd.S_reads' HO19.out).2.1 (Kd.N_reads' HO10.out).2.2 (Kd.N_reads' HO10.out).2.1 QHe0.out).mono ?_
  rintro e w37 ⟨rfl, hb⟩
  have n_ := Aside0.mk (Kd.N_below HO10.out hb)
  clear HO10
  have HO10 := n_
  clear n_
  have n_ := Aside0.mk (Kd.S_below HO19.out hb)
  clear HO19
  have HO19 := n_
  clear n_
  have HZ38 := Aside0.mk hb.size
  have n_ := Aside0.mk (HB.out.trans (hb.mono HB.out.size))
  clear HB hb
  have HB := n_
  clear n_
  go_wp2_with fail
  refine (MK_StrokeS (fun k_ => w15.heap.size ≤ k_ ∧ k_ < w18.heap.size) Bv19_0 dv19_0 r0 yr0 1 mr0 w _ HB.out (Kd.S_lower HO19.out (by have := HZ2.out; have := HZ5.out; have := HZ8.out; have := HZ11.out; have := HZ14.out; have := HZ17.out; have := HZ20.out; have := HZ22.out; have := HZ25.out; have := HZ27.out; have := HZ30.out; have := HZ32.out; have := HZ34.out; have := HZ36.out; have := HZ38.out; omega)) QHmr0.out).mono ?_
  rintro e w39 ⟨rfl, hO, hB2, hK⟩
  have n_ := Aside0.mk (Kd.N_kept HO10.out hK (fun k_ h_ h2_ => by have := HZ2.out; have := HZ5.out; have := HZ8.out; have := HZ11.out; have := HZ14.out; have := HZ17.out; have := HZ20.out; have := HZ22.out; have := HZ25.out; have := HZ27.out; have := HZ30.out; have := HZ32.out; have := HZ34.out; have := HZ36.out; have := HZ38.out; obtain ⟨h3_, h4_⟩ := h2_; rcases h_ with h_ <;> omega))
  clear HO10
  have HO10 := n_
  clear n_
  have HZ40 := Aside0.mk hK.1
  clear HB
  have HB := Aside0.mk hB2
  clear HO19
  have HO19 := Aside0.mk hO
  clear hO hB2 hK
  go_wp2_with fail
  refine (HD_StrokeS Bv19_0 dv19_0 r0.length yr0 1 mr0 _ QHl0.out (Kd.S_now HO19.out QHl0.out).2 (Kd.S_now HO19.out QHl0.out).1 QHh0.out).mono ?_
  rintro e w41 ⟨rfl, hb⟩
  have n_ := Aside0.mk (Kd.N_below HO10.out hb)
  clear HO10
  have HO10 := n_
  clear n_
  have n_ := Aside0.mk (Kd.S_below HO19.out hb)
  clear HO19
  have HO19 := n_
  clear n_
  have HZ42 := Aside0.mk hb.size
  have n_ := Aside0.mk (HB.out.trans (hb.mono HB.out.size))
  clear HB hb
  have HB := n_
  clear n_
  go_wp2_with fail
  refine (TO_StrokeS A0 c0 l0 x0 _ (Kd.C_below HR0.out HB.out) HC0.out QHt0.out).mono ?_
  rintro e w43 ⟨B44, d44, rfl, hO, hb⟩
  have n_ := Aside0.mk (Kd.N_below HO10.out hb)
  clear HO10
  have HO10 := n_
  clear n_
  have n_ := Aside0.mk (Kd.S_below HO19.out hb)
  clear HO19
  have HO19 := n_
  clear n_
  have HZ45 := Aside0.mk hb.size
  have n_ := Aside0.mk (HB.out.trans (hb.mono HB.out.size))
  clear HB hb
  have HB := n_
  clear n_
  have HO44 := Aside0.mk hO
  clear hO
  go_wp2_with fail
  refine (TO_Int64S A1 c1 l1 x1 _ (Kd.C_below HR1.out HB.out) HC1.out QHt1.out).mono ?_
  rintro e w46 ⟨B47, d47, rfl, hO, hb⟩
  have n_ := Aside0.mk (Kd.N_below HO10.out hb)
  clear HO10
  have HO10 := n_
  clear n_
  have n_ := Aside0.mk (Kd.S_below HO19.out hb)
  clear HO19
  have HO19 := n_
  clear n_
  have n_ := Aside0.mk (Kd.S_below HO44.out hb)
  clear HO44
  have HO44 := n_
  clear n_
  have HZ48 := Aside0.mk hb.size
  have n_ := Aside0.mk (HB.out.trans (hb.mono HB.out.size))
  clear HB hb
  have HB := n_
  clear n_
  have HO47 := Aside0.mk hO
  clear hO
  go_wp2_with fail
  obtain ⟨kHi50, hHi50⟩ := QHi.out.rounds
  refine (impl_OrderDrawing.calls kHi50 B44 d44 x0 B47 d47 x1 r0 r1 _ (Kd.S_reads' HO44.out).2.2 (Kd.S_reads' HO44.out).2.1 (Kd.R_reads' HO47.out).2.2 (Kd.R_reads' HO47.out).2.1 hHi50).mono ?_
  clear hHi50
  rintro e w49 ⟨v50_0, rfl, ho50_0, hb⟩
  obtain ⟨Bv50_0, dv50_0, rfl⟩ := Kd.S_slice ho50_0
  have HO50 := Aside0.mk (Kd.S_mono (Kd.S_bound ho50_0) (ok' := fun k_ => w46.heap.size ≤ k_ ∧ k_ < w49.heap.size) (fun k_ h_ => ⟨h_.2.1, h_.2.2.1⟩))
  clear ho50_0
  have n_ := Aside0.mk (Kd.N_below HO10.out hb)
  clear HO10
  have HO10 := n_
  clear n_
  have n_ := Aside0.mk (Kd.S_below HO19.out hb)
  clear HO19
  have HO19 := n_
  clear n_
  have n_ := Aside0.mk (Kd.S_below HO44.out hb)
  clear HO44
  have HO44 := n_
  clear n_
  have n_ := Aside0.mk (Kd.R_below HO47.out hb)
  clear HO47
  have HO47 := n_
  clear n_
  have HZ51 := Aside0.mk hb.size
  have n_ := Aside0.mk (HB.out.trans (hb.mono HB.out.size))
  clear HB hb
  have HB := n_
  clear n_
  go_wp2_with fail
  clear HO44
  clear HO47
  refine (EQ_StrokeS Bv50_0 Bv10_0 dv50_0 dv10_0 r0 _ (Kd.S_reads' HO50.out).2.2 (Kd.S_reads' HO50.out).2.1 (Kd.N_reads' HO10.out).2.2 (Kd.N_reads' HO10.out).2.1 QHe0.out).mono ?_
  rintro e w52 ⟨rfl, hb⟩
  have n_ := Aside0.mk (Kd.N_below HO10.out hb)
  clear HO10
  have HO10 := n_
  clear n_
  have n_ := Aside0.mk (Kd.S_below HO19.out hb)
  clear HO19
  have HO19 := n_
  clear n_
  have n_ := Aside0.mk (Kd.S_below HO50.out hb)
  clear HO50
  have HO50 := n_
  clear n_
  have HZ53 := Aside0.mk hb.size
  have n_ := Aside0.mk (HB.out.trans (hb.mono HB.out.size))
  clear HB hb
  have HB := n_
  clear n_
  go_wp2_with fail
  clear HO50
  refine (HD_StrokeS Bv19_0 dv19_0 r0.length yr0 1 mr0 _ QHl0.out (Kd.S_now HO19.out QHl0.out).2 (Kd.S_now HO19.out QHl0.out).1 QHh0.out).mono ?_
  rintro e w54 ⟨rfl, hb⟩
  have n_ := Aside0.mk (Kd.N_below HO10.out hb)
  clear HO10
  have HO10 := n_
  clear n_
  have n_ := Aside0.mk (Kd.S_below HO19.out hb)
  clear HO19
  have HO19 := n_
  clear n_
  have HZ55 := Aside0.mk hb.size
  have n_ := Aside0.mk (HB.out.trans (hb.mono HB.out.size))
  clear HB hb
  have HB := n_
  clear n_
  try go_wp2
  go_ret
  exact ⟨rfl, HB.out⟩

end Go.Proofs.Ythdadohmomhchaa.Pure

namespace Go.Proofs.Ythdadohmomhchaa.Pure
open Go.RowKit Go.Proofs.Ythdadohmomhchaa.F Go.Proofs.YthdadohmomhchaaW.PrintWords Go.Proofs.YthdadohmomhchaaW.PrintLast Go.Proofs.YthdadohmomhchaaW.PrintMore Go.Proofs.YthdadohmomhchaaB
set_option linter.unusedVariables false
set_option linter.unusedSimpArgs false
theorem walkFnExactOrderDrawing (A0 : Option Addr) (c0 : Nat) (l0 : (List S109)) (A1 : Option Addr) (c1 : Nat) (l1 : (List Int)) (w : World) (hr0 : Kd.C k109 w A0 l0.length l0) (hc0 : l0.length ≤ c0) (hm0 : l0.length ≤ maxLen) (hg0 : ∀ y ∈ l0, g109 y) (hr1 : Kd.C (Kd.int .i64) w A1 l1.length l1) (hc1 : l1.length ≤ c1) (hm1 : l1.length ≤ maxLen) (hg1 : ∀ y ∈ l1, g2 y) :
    Calls Try.prog 8 #[.slice A0 l0.length c0, .slice A1 l1.length c1] w fun e w' => e = .returned (.bool true) ∧ Below w.heap.size w w' := by
  unfold maxLen at hm0 hm1
  by_cases hb : (l1.length : Int) > 1048576
  · exact flat0_FnExactOrderDrawing A0 c0 l0 A1 c1 l1 w hb
  have hi : ∀ x ∈ l0, x.f1.length ≤ 9223372036854775807 := fun x hx => (hg0 x hx).2.1
  have hs := laws_szStrokeS_f l0 1048576 (by omega) (by omega) hm0 hi
  by_cases h : (1048576 : Int) < l0.length + total szStroke l0
  · rw [if_pos h] at hs
    exact early0_FnExactOrderDrawing A0 c0 l0 A1 c1 l1 (-1) w hr0 hc0 hr1 hc1 hb hs (by omega)
  rw [if_neg h] at hs
  obtain ⟨s1, s2⟩ := szStroke_small l0 h
  have t := laws_toStrokeS_f l0 s1 s2
  have sm := toSt_small l0 s2
  have sl : (l0.map toSt).length ≤ 1048576 := by rw [List.length_map]; exact s1
  obtain ⟨mk, mk0, mk1⟩ := markSt_arg l0 1 (by omega) (by omega) h
  have u := laws_toInt64S_f l1 (by omega)
  generalize l0.map toSt = zs at *
  have rs := smallS_order zs l1
  have hS := spec_OrderDrawing_f zs l1 sl hm1
  have hI := impl_OrderDrawing_f zs l1 sl hm1
  generalize resOD zs l1 = r at *
  obtain ⟨r0, r1⟩ := r
  have rs1 := rs.1
  have rs2 := rs.2
  simp only at rs1 rs2
  obtain ⟨mr, mr0, mr1⟩ := markSt_res r0 rs1 rs2
  exact walk_FnExactOrderDrawing A0 c0 l0 zs _ A1 c1 l1 l1 r0 r1 _ _ _ _ _ _ w hr0 hc0 hr1 hc1 hb hs (by omega) t (laws_eqStrokeS_f zs (by omega) (fun x hx => by have := sm x hx; omega)) u (laws_eqInt64S_f l1 hm1) hS hI (laws_eqStrokeS_f r0 (by omega) (fun x hx => by have := rs2 x hx; omega)) mk mk0
    (laws_markInt64S_f l1 _ (by omega) (by omega) (by omega)) (by omega) mr mr0 (markSt_length _ _) (laws_heldStrokeS_f r0 1 (by omega) (fun x hx => by have := rs2 x hx; omega) (by omega) mr1)

end Go.Proofs.Ythdadohmomhchaa.Pure

namespace Go.Proofs.Ythdadohmomhchaa.fnExactOrderDrawing
open Go.ChangeShapes Go.WideShapes Go.ChangeAt Go.RowKit Go.Proofs.YthdadohmomhchaaO Go.Proofs.Ythdadohmomhchaa.F Go.Proofs.YthdadohmomhchaaW.PrintWords
open Go.ChangeMaps (open_string shut_string)
set_option linter.unusedVariables false
theorem own : ownKnob Try.prog.godebug = none := by kernel_rfl
theorem laidOut : laidOutB Try.prog = true := by kernel_rfl
set_option maxRecDepth 100000 in
theorem lifted (os : Os) (started : os.Started) (H : Type) (enc : TypeId × Value → H) :
    ReturnsInHanded {} Try.checked os 8 .any (Rows.fnExactOrderDrawingSpec.pre6 enc Try.prog Try.f8 Rows.fnExactOrderDrawingRow.domain false) (Rows.fnExactOrderDrawingSpec.post enc Try.prog Try.f8 false true false false) := by
  refine returnsInHanded_of_change (C := Try.checked) own started (by kernel_rfl) Try.func8
    (ChangeSpec.witness6 (enc := enc) (C := Try.checked) false ⟨#[], #[.slice none 0 0, .slice none 0 0], []⟩ 8 (by kernel_rfl) (by kernel_rfl) (by kernel_rfl) (by kernel_rfl)) ?_
  intro W base args ds gs before hval0 hW hcnd _
  have hval : ∀ (j : Nat) t v, Try.f8.params[j]? = some t → args[j]? = some v → Value.okWide Try.prog W .any base t v := hval0
  have hW' := hW
  obtain ⟨p, q, hA0, hV, rfl, hfz, hnd⟩ := hW
  have hA : DataW.TrodAll enc Try.prog W 0 (fun _ => true) true Try.f8.params.toList args.toList ds p := hA0
  rw [Try.params8] at hA hval
  obtain ⟨v0, vs0, d0, ds0, p0, q0, hargs, rfl, rfl, h0, r0⟩ := trodAll_cons hA
  obtain ⟨v1, vs1, d1, ds1, p1, q1, rfl, rfl, rfl, h1, r1⟩ := trodAll_cons r0
  obtain ⟨rfl, rfl, rfl⟩ := trodAll_nil r1
  obtain rfl : args = #[v0, v1] := by cases args; simp_all
  obtain ⟨rfl, rfl⟩ := trodVars_none hV
  obtain ⟨a0, len0, cap0, rfl⟩ := okWide_slice Try.underlying22 (hval 0 22 v0 rfl rfl)
  have k0_ := h0
  have lt0 : ∀ x ∈ p0, x.block < W.heap.size := by obtain ⟨m, hm⟩ := k0_; exact DataW.trod_lt m _ _ _ hm
  obtain ⟨fuel0, hf0⟩ := h0
  obtain ⟨A0, l0, c0, hcs0, hc0, hb0, hr0, hg0⟩ := opens_row (d := k109) (G := g109) Try.underlying22 (by kernel_rfl) o109 hf0
  simp [Value.cells] at hcs0
  obtain ⟨rfl, rfl, rfl⟩ := hcs0
  obtain ⟨a1, len1, cap1, rfl⟩ := okWide_slice Try.underlying34 (hval 1 34 v1 rfl rfl)
  have k1_ := h1
  have lt1 : ∀ x ∈ p1, x.block < W.heap.size := by obtain ⟨m, hm⟩ := k1_; exact DataW.trod_lt m _ _ _ hm
  obtain ⟨fuel1, hf1⟩ := h1
  obtain ⟨A1, l1, c1, hcs1, hc1, hb1, hr1, hg1⟩ := opens_row (d := (Kd.int .i64)) (G := g2) Try.underlying34 (by kernel_rfl) (opens_int Try.underlying2) hf1
  simp [Value.cells] at hcs1
  obtain ⟨rfl, rfl, rfl⟩ := hcs1
  clear hA0 hval0
  refine (Pure.walkFnExactOrderDrawing _ _ l0 _ _ l1 W hr0 hc0 (Nat.le_trans hc0 hb0) hg0 hr1 hc1 (Nat.le_trans hc1 hb1) hg1).mono fun e W' ⟨he, bel⟩ => ?_
  subst he
  exact ⟨_, rfl, _, _, _, [], _, [], hW', trodAll_mk1 (shut_bool Try.underlying4 _), (trodAll_cons_mk (Below.trod laidOut (by kernel_rfl) (of_decide_eq_true (by kernel_rfl)) k0_ bel lt0) (trodAll_cons_mk (Below.trod laidOut (by kernel_rfl) (of_decide_eq_true (by kernel_rfl)) k1_ bel lt1) trodAll_mk0)), rfl, bel.frame _, fun h => by cases h⟩
theorem over : Rows.fnExactOrderDrawingRow.holds Try.pinned (OpenSpec.ofChange Rows.fnExactOrderDrawingSpec) :=
  OpenClaim.holds_of_wide 8 Try.f8 rfl rfl rfl rfl rfl rfl rfl ⟨rfl, rfl, rfl, rfl, rfl⟩ rfl rfl rfl rfl rfl (by kernel_rfl) Try.func8 (by kernel_rfl)
    (of_decide_eq_true (by kernel_rfl)) (by unfold Func.isWrapper; first | (rw [if_pos (by decide +kernel)]; kernel_rfl) | (rw [if_neg (by decide +kernel)]; exact ⟨rfl, rfl⟩))
    (fun os started H enc _ => lifted os started H enc)
theorem proved : Rows.FnExactOrderDrawingSaid := over
end Go.Proofs.Ythdadohmomhchaa.fnExactOrderDrawing
namespace Go.Proofs.Ythdadohmomhchaa
/-- The row, under a short name, for the claim. -/
theorem fnExactOrderDrawing_holds : Rows.FnExactOrderDrawingSaid := fnExactOrderDrawing.proved
end Go.Proofs.Ythdadohmomhchaa
#print axioms Go.Proofs.Ythdadohmomhchaa.fnExactOrderDrawing_holds
