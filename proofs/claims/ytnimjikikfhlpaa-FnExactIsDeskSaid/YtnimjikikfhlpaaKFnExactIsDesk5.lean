/-
  A part of the proof of FnExactIsDesk: contracts of the Go functions that it reaches, and plain statements on what they come to; each says its own conditions.
-/
import Derived.Test.YtnimjikikfhlpaaKFnExactIsDesk4

namespace Go.Proofs.Ytnimjikikfhlpaa.F
open Go.RowKit Go.Proofs.YtnimjikikfhlpaaW.PrintWords Go.Proofs.YtnimjikikfhlpaaW.PrintLast Go.Proofs.YtnimjikikfhlpaaW.PrintMore
attribute [local go_sem] max2_int min2_int max_two min_two max_three min_three max_four min_four   -- for this text's walks alone
set_option linter.unusedVariables false
set_option linter.unusedSimpArgs false

attribute [local go_sem high] eqA87
/-! ### impl_IsZone: function 106 -/
def impl_IsZone.f (a0_0 : Int) (a0_1 : Int) (a0_2 : Int) (a0_3 : Int) (a0_4 : Int) : Option (Bool) := (impl_in.f a0_0 (-840) 840).bind fun t926 => (if t926 = true then (if a0_1 = 0 then (some (a0_1 == 0 && (a0_2 == 0 && (a0_3 == 0 && (a0_4 == 0))))) else ((impl_in.f a0_1 1 12).bind fun t927 => (if t927 = true then ((impl_in.f a0_3 1 12).bind fun t928 => (if t928 = true then (if a0_1 = a0_3 then (some false) else ((impl_in.f a0_2 0 4).bind fun t929 => (if t929 = true then ((impl_in.f a0_4 0 4).bind fun t930 => (some t930)) else (some false)))) else (some false))) else (some false)))) else (some false))
set_option maxHeartbeats 8000000 in
set_option maxRecDepth 100000 in
theorem impl_IsZone.calls (a0_0 : Int) (a0_1 : Int) (a0_2 : Int) (a0_3 : Int) (a0_4 : Int) (r : Bool) (w : World) (h : impl_IsZone.f a0_0 a0_1 a0_2 a0_3 a0_4 = some r) :
    Calls Try.prog 106 #[.agg #[.int .i64 a0_0, .int .i64 a0_1, .int .i64 a0_2, .int .i64 a0_3, .int .i64 a0_4]] w fun e w' => e = .returned (.bool r) ∧ Below w.heap.size w w' := by
  have hu87 := Try.underlying87
  have HB := Aside0.mk (Below.refl w.heap.size w)
  have H : ((impl_in.f a0_0 (-840) 840).bind fun t926 => (if t926 = true then (if a0_1 = 0 then (some (a0_1 == 0 && (a0_2 == 0 && (a0_3 == 0 && (a0_4 == 0))))) else ((impl_in.f a0_1 1 12).bind fun t927 => (if t927 = true then ((impl_in.f a0_3 1 12).bind fun t928 => (if t928 = true then (if a0_1 = a0_3 then (some false) else ((impl_in.f a0_2 0 4).bind fun t929 => (if t929 = true then ((impl_in.f a0_4 0 4).bind fun t930 => (some t930)) else (some false)))) else (some false))) else (some false)))) else (some false))) = some r := h
  clear h
  replace H := Option.bind_eq_some_iff.mp H
  obtain ⟨t926, A20, H⟩ := H
  replace H : (if t926 = true then (if a0_1 = 0 then (some (a0_1 == 0 && (a0_2 == 0 && (a0_3 == 0 && (a0_4 == 0))))) else ((impl_in.f a0_1 1 12).bind fun t927 => (if t927 = true then ((impl_in.f a0_3 1 12).bind fun t928 => (if t928 = true then (if a0_1 = a0_3 then (some false) else ((impl_in.f a0_2 0 4).bind fun t929 => (if t929 = true then ((impl_in.f a0_4 0 4).bind fun t930 => (some t930)) else (some false)))) else (some false))) else (some false)))) else (some false)) = some r := H
  have A2 := Aside0.mk A20
  clear A20
  by_cases c3 : t926 = true
  · subst c3
    have H1 : (if a0_1 = 0 then (some (a0_1 == 0 && (a0_2 == 0 && (a0_3 == 0 && (a0_4 == 0))))) else ((impl_in.f a0_1 1 12).bind fun t927 => (if t927 = true then ((impl_in.f a0_3 1 12).bind fun t928 => (if t928 = true then (if a0_1 = a0_3 then (some false) else ((impl_in.f a0_2 0 4).bind fun t929 => (if t929 = true then ((impl_in.f a0_4 0 4).bind fun t930 => (some t930)) else (some false)))) else (some false))) else (some false)))) = some r := by rw [if_pos rfl] at H; exact H
    clear H
    have H := H1
    clear H1
    by_cases c4 : a0_1 = 0
    · rw [if_pos c4] at H
      have c4b0 : (a0_1 == 0) = true := beq_iff_eq.mpr c4
      have c4b1 : (a0_1 != 0) = false := bne_eq_false_iff_eq.mpr c4
      clear c4
      obtain rfl := Option.some.inj H
      go_enter Try.func106, Try.ntmps106
      go_wp2_with (first | ((with_reducible refine gate_dst (N := 1) rfl ?_); refine box_event ?hg (N := 1) ?hd (cs := #[.int .i64 a0_0, .int .i64 a0_1, .int .i64 a0_2, .int .i64 a0_3, .int .i64 a0_4]) (t := 87) ?hr ?_; (case hd => rfl); (case hg => rfl); (case hr => first | (go_simp; done) | (go_simp; rfl)); intro gb925 hg w5 hbox hb; have n0_ := Aside0.mk (below_step (by repeat (first | (with_reducible first | exact HB.out | apply below_alloc | apply pw_below_drewN | apply below_drew1) | exact HB.out)) hb); have n1_ := Aside0.mk (hbox); have n2_ := Aside0.mk ((by rw [hg]; exact (below_size (by repeat (first | (with_reducible first | exact HB.out | apply below_alloc | apply pw_below_drewN | apply below_drew1) | exact HB.out))) : w.heap.size ≤ gb925)); have n3_ := Aside0.mk ((by rw [hg]; exact (below_size (by repeat (first | (with_reducible first | exact HB.out | apply below_alloc | apply pw_below_drewN | apply below_drew1) | exact HB.out))) : w.heap.size ≤ gb925)); clear HB; have HB := n0_; have BK925 := n1_; have GW925 := n2_; have GE925 := n3_; clear n0_ n1_ n2_ n3_; clear hb hbox hg; have hcz6_0 : w5.cell? ⟨gb925, 0, none⟩ = some (.int .i64 a0_0) := (blk_cell BK925.out 0).trans rfl; have hcz6_1 : w5.cell? ⟨gb925, 1, none⟩ = some (.int .i64 a0_1) := (blk_cell BK925.out 1).trans rfl; have hcz6_2 : w5.cell? ⟨gb925, 2, none⟩ = some (.int .i64 a0_2) := (blk_cell BK925.out 2).trans rfl; have hcz6_3 : w5.cell? ⟨gb925, 3, none⟩ = some (.int .i64 a0_3) := (blk_cell BK925.out 3).trans rfl; have hcz6_4 : w5.cell? ⟨gb925, 4, none⟩ = some (.int .i64 a0_4) := (blk_cell BK925.out 4).trans rfl; have hfz6_0 := blk_frozen BK925.out 0; have hfz6_1 := blk_frozen BK925.out 1; have hfz6_2 := blk_frozen BK925.out 2; have hfz6_3 := blk_frozen BK925.out 3; have hfz6_4 := blk_frozen BK925.out 4) | ((with_reducible refine gate_callee (f := 75) rfl ?_); refine goesL_ (some 6) rfl rfl Try.func75 (by kernel_rfl) rfl #[.int .i64 a0_0, .int .i64 (-840), .int .i64 840] rfl (by (try simp only [List.map_toArray, List.map_cons, List.map_nil]); first | done | rfl | (simp only [List.length_drop, List.length_take]; rfl)) ?_; (with_reducible refine (impl_in.calls a0_0 (-840) 840 true _ A2.out).mono ?_); rintro e w' ⟨rfl, ⟨nd, rfl⟩⟩; refine ⟨_, rfl, ?_⟩))
      go_ret
      exact ⟨by first | rfl | (simp [errW_none, errW_some] <;> rfl) | (simp [*, errW_none, errW_some] <;> rfl), by repeat (first | (with_reducible first | exact HB.out | apply below_alloc | apply pw_below_drewN | apply below_drew1 | refine below_set ?_ GE925.out) | exact HB.out)⟩
    · rw [if_neg c4] at H
      have c4b0 : (a0_1 == 0) = false := beq_eq_false_iff_ne.mpr c4
      have c4b1 : (a0_1 != 0) = true := bne_iff_ne.mpr c4
      replace H := Option.bind_eq_some_iff.mp H
      obtain ⟨t927, A70, H⟩ := H
      replace H : (if t927 = true then ((impl_in.f a0_3 1 12).bind fun t928 => (if t928 = true then (if a0_1 = a0_3 then (some false) else ((impl_in.f a0_2 0 4).bind fun t929 => (if t929 = true then ((impl_in.f a0_4 0 4).bind fun t930 => (some t930)) else (some false)))) else (some false))) else (some false)) = some r := H
      have A7 := Aside0.mk A70
      clear A70
      by_cases c8 : t927 = true
      · subst c8
        have H1 : ((impl_in.f a0_3 1 12).bind fun t928 => (if t928 = true then (if a0_1 = a0_3 then (some false) else ((impl_in.f a0_2 0 4).bind fun t929 => (if t929 = true then ((impl_in.f a0_4 0 4).bind fun t930 => (some t930)) else (some false)))) else (some false))) = some r := by rw [if_pos rfl] at H; exact H
        clear H
        have H := H1
        clear H1
        replace H := Option.bind_eq_some_iff.mp H
        obtain ⟨t928, A90, H⟩ := H
        replace H : (if t928 = true then (if a0_1 = a0_3 then (some false) else ((impl_in.f a0_2 0 4).bind fun t929 => (if t929 = true then ((impl_in.f a0_4 0 4).bind fun t930 => (some t930)) else (some false)))) else (some false)) = some r := H
        have A9 := Aside0.mk A90
        clear A90
        by_cases c10 : t928 = true
        · subst c10
          have H1 : (if a0_1 = a0_3 then (some false) else ((impl_in.f a0_2 0 4).bind fun t929 => (if t929 = true then ((impl_in.f a0_4 0 4).bind fun t930 => (some t930)) else (some false)))) = some r := by rw [if_pos rfl] at H; exact H
          clear H
          have H := H1
          clear H1
          by_cases c11 : a0_1 = a0_3
          · rw [if_pos c11] at H
            have c11b0 : (a0_1 == a0_3) = true := beq_iff_eq.mpr c11
            have c11b1 : (a0_1 != a0_3) = false := bne_eq_false_iff_eq.mpr c11
            clear c11
            obtain rfl := Option.some.inj H
            go_enter Try.func106, Try.ntmps106
            go_wp2_with (first | ((with_reducible refine gate_dst (N := 1) rfl ?_); refine box_event ?hg (N := 1) ?hd (cs := #[.int .i64 a0_0, .int .i64 a0_1, .int .i64 a0_2, .int .i64 a0_3, .int .i64 a0_4]) (t := 87) ?hr ?_; (case hd => rfl); (case hg => rfl); (case hr => first | (go_simp; done) | (go_simp; rfl)); intro gb925 hg w12 hbox hb; have n0_ := Aside0.mk (below_step (by repeat (first | (with_reducible first | exact HB.out | apply below_alloc | apply pw_below_drewN | apply below_drew1) | exact HB.out)) hb); have n1_ := Aside0.mk (hbox); have n2_ := Aside0.mk ((by rw [hg]; exact (below_size (by repeat (first | (with_reducible first | exact HB.out | apply below_alloc | apply pw_below_drewN | apply below_drew1) | exact HB.out))) : w.heap.size ≤ gb925)); have n3_ := Aside0.mk ((by rw [hg]; exact (below_size (by repeat (first | (with_reducible first | exact HB.out | apply below_alloc | apply pw_below_drewN | apply below_drew1) | exact HB.out))) : w.heap.size ≤ gb925)); clear HB; have HB := n0_; have BK925 := n1_; have GW925 := n2_; have GE925 := n3_; clear n0_ n1_ n2_ n3_; clear hb hbox hg; have hcz13_0 : w12.cell? ⟨gb925, 0, none⟩ = some (.int .i64 a0_0) := (blk_cell BK925.out 0).trans rfl; have hcz13_1 : w12.cell? ⟨gb925, 1, none⟩ = some (.int .i64 a0_1) := (blk_cell BK925.out 1).trans rfl; have hcz13_2 : w12.cell? ⟨gb925, 2, none⟩ = some (.int .i64 a0_2) := (blk_cell BK925.out 2).trans rfl; have hcz13_3 : w12.cell? ⟨gb925, 3, none⟩ = some (.int .i64 a0_3) := (blk_cell BK925.out 3).trans rfl; have hcz13_4 : w12.cell? ⟨gb925, 4, none⟩ = some (.int .i64 a0_4) := (blk_cell BK925.out 4).trans rfl; have hfz13_0 := blk_frozen BK925.out 0; have hfz13_1 := blk_frozen BK925.out 1; have hfz13_2 := blk_frozen BK925.out 2; have hfz13_3 := blk_frozen BK925.out 3; have hfz13_4 := blk_frozen BK925.out 4) | ((with_reducible refine gate_callee (f := 75) rfl ?_); refine goesL_ (some 6) rfl rfl Try.func75 (by kernel_rfl) rfl #[.int .i64 a0_0, .int .i64 (-840), .int .i64 840] rfl (by (try simp only [List.map_toArray, List.map_cons, List.map_nil]); first | done | rfl | (simp only [List.length_drop, List.length_take]; rfl)) ?_; (with_reducible refine (impl_in.calls a0_0 (-840) 840 true _ A2.out).mono ?_); rintro e w' ⟨rfl, ⟨nd, rfl⟩⟩; refine ⟨_, rfl, ?_⟩) | ((with_reducible refine gate_callee (f := 75) rfl ?_); refine goesL_ (some 18) rfl rfl Try.func75 (by kernel_rfl) rfl #[.int .i64 a0_1, .int .i64 1, .int .i64 12] rfl (by (try simp only [List.map_toArray, List.map_cons, List.map_nil]); first | done | rfl | (simp only [List.length_drop, List.length_take]; rfl)) ?_; (with_reducible refine (impl_in.calls a0_1 1 12 true _ A7.out).mono ?_); rintro e w' ⟨rfl, ⟨nd, rfl⟩⟩; refine ⟨_, rfl, ?_⟩) | (go_at_call 75; (with_reducible refine (impl_in.calls a0_3 1 12 true _ A9.out).mono ?_); rintro e w' ⟨rfl, ⟨nd, rfl⟩⟩))
            go_ret
            exact ⟨by first | rfl | (simp [errW_none, errW_some] <;> rfl) | (simp [*, errW_none, errW_some] <;> rfl), by repeat (first | (with_reducible first | exact HB.out | apply below_alloc | apply pw_below_drewN | apply below_drew1 | refine below_set ?_ GE925.out) | exact HB.out)⟩
          · rw [if_neg c11] at H
            have c11b0 : (a0_1 == a0_3) = false := beq_eq_false_iff_ne.mpr c11
            have c11b1 : (a0_1 != a0_3) = true := bne_iff_ne.mpr c11
            replace H := Option.bind_eq_some_iff.mp H
            obtain ⟨t929, A140, H⟩ := H
            replace H : (if t929 = true then ((impl_in.f a0_4 0 4).bind fun t930 => (some t930)) else (some false)) = some r := H
            have A14 := Aside0.mk A140
            clear A140
            by_cases c15 : t929 = true
            · subst c15
              have H1 : ((impl_in.f a0_4 0 4).bind fun t930 => (some t930)) = some r := by rw [if_pos rfl] at H; exact H
              clear H
              have H := H1
              clear H1
              replace H := Option.bind_eq_some_iff.mp H
              obtain ⟨t930, A160, H⟩ := H
              replace H : (some t930) = some r := H
              have A16 := Aside0.mk A160
              clear A160
              obtain rfl := Option.some.inj H
              go_enter Try.func106, Try.ntmps106
              go_wp2_with (first | ((with_reducible refine gate_dst (N := 1) rfl ?_); refine box_event ?hg (N := 1) ?hd (cs := #[.int .i64 a0_0, .int .i64 a0_1, .int .i64 a0_2, .int .i64 a0_3, .int .i64 a0_4]) (t := 87) ?hr ?_; (case hd => rfl); (case hg => rfl); (case hr => first | (go_simp; done) | (go_simp; rfl)); intro gb925 hg w17 hbox hb; have n0_ := Aside0.mk (below_step (by repeat (first | (with_reducible first | exact HB.out | apply below_alloc | apply pw_below_drewN | apply below_drew1) | exact HB.out)) hb); have n1_ := Aside0.mk (hbox); have n2_ := Aside0.mk ((by rw [hg]; exact (below_size (by repeat (first | (with_reducible first | exact HB.out | apply below_alloc | apply pw_below_drewN | apply below_drew1) | exact HB.out))) : w.heap.size ≤ gb925)); have n3_ := Aside0.mk ((by rw [hg]; exact (below_size (by repeat (first | (with_reducible first | exact HB.out | apply below_alloc | apply pw_below_drewN | apply below_drew1) | exact HB.out))) : w.heap.size ≤ gb925)); clear HB; have HB := n0_; have BK925 := n1_; have GW925 := n2_; have GE925 := n3_; clear n0_ n1_ n2_ n3_; clear hb hbox hg; have hcz18_0 : w17.cell? ⟨gb925, 0, none⟩ = some (.int .i64 a0_0) := (blk_cell BK925.out 0).trans rfl; have hcz18_1 : w17.cell? ⟨gb925, 1, none⟩ = some (.int .i64 a0_1) := (blk_cell BK925.out 1).trans rfl; have hcz18_2 : w17.cell? ⟨gb925, 2, none⟩ = some (.int .i64 a0_2) := (blk_cell BK925.out 2).trans rfl; have hcz18_3 : w17.cell? ⟨gb925, 3, none⟩ = some (.int .i64 a0_3) := (blk_cell BK925.out 3).trans rfl; have hcz18_4 : w17.cell? ⟨gb925, 4, none⟩ = some (.int .i64 a0_4) := (blk_cell BK925.out 4).trans rfl; have hfz18_0 := blk_frozen BK925.out 0; have hfz18_1 := blk_frozen BK925.out 1; have hfz18_2 := blk_frozen BK925.out 2; have hfz18_3 := blk_frozen BK925.out 3; have hfz18_4 := blk_frozen BK925.out 4) | ((with_reducible refine gate_callee (f := 75) rfl ?_); refine goesL_ (some 6) rfl rfl Try.func75 (by kernel_rfl) rfl #[.int .i64 a0_0, .int .i64 (-840), .int .i64 840] rfl (by (try simp only [List.map_toArray, List.map_cons, List.map_nil]); first | done | rfl | (simp only [List.length_drop, List.length_take]; rfl)) ?_; (with_reducible refine (impl_in.calls a0_0 (-840) 840 true _ A2.out).mono ?_); rintro e w' ⟨rfl, ⟨nd, rfl⟩⟩; refine ⟨_, rfl, ?_⟩) | ((with_reducible refine gate_callee (f := 75) rfl ?_); refine goesL_ (some 18) rfl rfl Try.func75 (by kernel_rfl) rfl #[.int .i64 a0_1, .int .i64 1, .int .i64 12] rfl (by (try simp only [List.map_toArray, List.map_cons, List.map_nil]); first | done | rfl | (simp only [List.length_drop, List.length_take]; rfl)) ?_; (with_reducible refine (impl_in.calls a0_1 1 12 true _ A7.out).mono ?_); rintro e w' ⟨rfl, ⟨nd, rfl⟩⟩; refine ⟨_, rfl, ?_⟩) | (go_at_call 75; (with_reducible refine (impl_in.calls a0_3 1 12 true _ A9.out).mono ?_); rintro e w' ⟨rfl, ⟨nd, rfl⟩⟩) | (go_at_call 75; (with_reducible refine (impl_in.calls a0_2 0 4 true _ A14.out).mono ?_); rintro e w' ⟨rfl, ⟨nd, rfl⟩⟩) | (go_at_call 75; (with_reducible refine (impl_in.calls a0_4 0 4 t930 _ A16.out).mono ?_); rintro e w' ⟨rfl, ⟨nd, rfl⟩⟩))
              go_ret
              exact ⟨by first | rfl | (simp [errW_none, errW_some] <;> rfl) | (simp [*, errW_none, errW_some] <;> rfl), by repeat (first | (with_reducible first | exact HB.out | apply below_alloc | apply pw_below_drewN | apply below_drew1 | refine below_set ?_ GE925.out) | exact HB.out)⟩
            · replace c15 := Bool.eq_false_iff.mpr c15
              subst c15
              have H1 : (some false) = some r := by rw [if_neg (show ¬ (false = true) by decide)] at H; exact H
              clear H
              have H := H1
              clear H1
              obtain rfl := Option.some.inj H
              go_enter Try.func106, Try.ntmps106
              go_wp2_with (first | ((with_reducible refine gate_dst (N := 1) rfl ?_); refine box_event ?hg (N := 1) ?hd (cs := #[.int .i64 a0_0, .int .i64 a0_1, .int .i64 a0_2, .int .i64 a0_3, .int .i64 a0_4]) (t := 87) ?hr ?_; (case hd => rfl); (case hg => rfl); (case hr => first | (go_simp; done) | (go_simp; rfl)); intro gb925 hg w19 hbox hb; have n0_ := Aside0.mk (below_step (by repeat (first | (with_reducible first | exact HB.out | apply below_alloc | apply pw_below_drewN | apply below_drew1) | exact HB.out)) hb); have n1_ := Aside0.mk (hbox); have n2_ := Aside0.mk ((by rw [hg]; exact (below_size (by repeat (first | (with_reducible first | exact HB.out | apply below_alloc | apply pw_below_drewN | apply below_drew1) | exact HB.out))) : w.heap.size ≤ gb925)); have n3_ := Aside0.mk ((by rw [hg]; exact (below_size (by repeat (first | (with_reducible first | exact HB.out | apply below_alloc | apply pw_below_drewN | apply below_drew1) | exact HB.out))) : w.heap.size ≤ gb925)); clear HB; have HB := n0_; have BK925 := n1_; have GW925 := n2_; have GE925 := n3_; clear n0_ n1_ n2_ n3_; clear hb hbox hg; have hcz20_0 : w19.cell? ⟨gb925, 0, none⟩ = some (.int .i64 a0_0) := (blk_cell BK925.out 0).trans rfl; have hcz20_1 : w19.cell? ⟨gb925, 1, none⟩ = some (.int .i64 a0_1) := (blk_cell BK925.out 1).trans rfl; have hcz20_2 : w19.cell? ⟨gb925, 2, none⟩ = some (.int .i64 a0_2) := (blk_cell BK925.out 2).trans rfl; have hcz20_3 : w19.cell? ⟨gb925, 3, none⟩ = some (.int .i64 a0_3) := (blk_cell BK925.out 3).trans rfl; have hcz20_4 : w19.cell? ⟨gb925, 4, none⟩ = some (.int .i64 a0_4) := (blk_cell BK925.out 4).trans rfl; have hfz20_0 := blk_frozen BK925.out 0; have hfz20_1 := blk_frozen BK925.out 1; have hfz20_2 := blk_frozen BK925.out 2; have hfz20_3 := blk_frozen BK925.out 3; have hfz20_4 := blk_frozen BK925.out 4) | ((with_reducible refine gate_callee (f := 75) rfl ?_); refine goesL_ (some 6) rfl rfl Try.func75 (by kernel_rfl) rfl #[.int .i64 a0_0, .int .i64 (-840), .int .i64 840] rfl (by (try simp only [List.map_toArray, List.map_cons, List.map_nil]); first | done | rfl | (simp only [List.length_drop, List.length_take]; rfl)) ?_; (with_reducible refine (impl_in.calls a0_0 (-840) 840 true _ A2.out).mono ?_); rintro e w' ⟨rfl, ⟨nd, rfl⟩⟩; refine ⟨_, rfl, ?_⟩) | ((with_reducible refine gate_callee (f := 75) rfl ?_); refine goesL_ (some 18) rfl rfl Try.func75 (by kernel_rfl) rfl #[.int .i64 a0_1, .int .i64 1, .int .i64 12] rfl (by (try simp only [List.map_toArray, List.map_cons, List.map_nil]); first | done | rfl | (simp only [List.length_drop, List.length_take]; rfl)) ?_; (with_reducible refine (impl_in.calls a0_1 1 12 true _ A7.out).mono ?_); rintro e w' ⟨rfl, ⟨nd, rfl⟩⟩; refine ⟨_, rfl, ?_⟩) | (go_at_call 75; (with_reducible refine (impl_in.calls a0_3 1 12 true _ A9.out).mono ?_); rintro e w' ⟨rfl, ⟨nd, rfl⟩⟩) | (go_at_call 75; (with_reducible refine (impl_in.calls a0_2 0 4 false _ A14.out).mono ?_); rintro e w' ⟨rfl, ⟨nd, rfl⟩⟩))
              go_ret
              exact ⟨by first | rfl | (simp [errW_none, errW_some] <;> rfl) | (simp [*, errW_none, errW_some] <;> rfl), by repeat (first | (with_reducible first | exact HB.out | apply below_alloc | apply pw_below_drewN | apply below_drew1 | refine below_set ?_ GE925.out) | exact HB.out)⟩
        · replace c10 := Bool.eq_false_iff.mpr c10
          subst c10
          have H1 : (some false) = some r := by rw [if_neg (show ¬ (false = true) by decide)] at H; exact H
          clear H
          have H := H1
          clear H1
          obtain rfl := Option.some.inj H
          go_enter Try.func106, Try.ntmps106
          go_wp2_with (first | ((with_reducible refine gate_dst (N := 1) rfl ?_); refine box_event ?hg (N := 1) ?hd (cs := #[.int .i64 a0_0, .int .i64 a0_1, .int .i64 a0_2, .int .i64 a0_3, .int .i64 a0_4]) (t := 87) ?hr ?_; (case hd => rfl); (case hg => rfl); (case hr => first | (go_simp; done) | (go_simp; rfl)); intro gb925 hg w21 hbox hb; have n0_ := Aside0.mk (below_step (by repeat (first | (with_reducible first | exact HB.out | apply below_alloc | apply pw_below_drewN | apply below_drew1) | exact HB.out)) hb); have n1_ := Aside0.mk (hbox); have n2_ := Aside0.mk ((by rw [hg]; exact (below_size (by repeat (first | (with_reducible first | exact HB.out | apply below_alloc | apply pw_below_drewN | apply below_drew1) | exact HB.out))) : w.heap.size ≤ gb925)); have n3_ := Aside0.mk ((by rw [hg]; exact (below_size (by repeat (first | (with_reducible first | exact HB.out | apply below_alloc | apply pw_below_drewN | apply below_drew1) | exact HB.out))) : w.heap.size ≤ gb925)); clear HB; have HB := n0_; have BK925 := n1_; have GW925 := n2_; have GE925 := n3_; clear n0_ n1_ n2_ n3_; clear hb hbox hg; have hcz22_0 : w21.cell? ⟨gb925, 0, none⟩ = some (.int .i64 a0_0) := (blk_cell BK925.out 0).trans rfl; have hcz22_1 : w21.cell? ⟨gb925, 1, none⟩ = some (.int .i64 a0_1) := (blk_cell BK925.out 1).trans rfl; have hcz22_2 : w21.cell? ⟨gb925, 2, none⟩ = some (.int .i64 a0_2) := (blk_cell BK925.out 2).trans rfl; have hcz22_3 : w21.cell? ⟨gb925, 3, none⟩ = some (.int .i64 a0_3) := (blk_cell BK925.out 3).trans rfl; have hcz22_4 : w21.cell? ⟨gb925, 4, none⟩ = some (.int .i64 a0_4) := (blk_cell BK925.out 4).trans rfl; have hfz22_0 := blk_frozen BK925.out 0; have hfz22_1 := blk_frozen BK925.out 1; have hfz22_2 := blk_frozen BK925.out 2; have hfz22_3 := blk_frozen BK925.out 3; have hfz22_4 := blk_frozen BK925.out 4) | ((with_reducible refine gate_callee (f := 75) rfl ?_); refine goesL_ (some 6) rfl rfl Try.func75 (by kernel_rfl) rfl #[.int .i64 a0_0, .int .i64 (-840), .int .i64 840] rfl (by (try simp only [List.map_toArray, List.map_cons, List.map_nil]); first | done | rfl | (simp only [List.length_drop, List.length_take]; rfl)) ?_; (with_reducible refine (impl_in.calls a0_0 (-840) 840 true _ A2.out).mono ?_); rintro e w' ⟨rfl, ⟨nd, rfl⟩⟩; refine ⟨_, rfl, ?_⟩) | ((with_reducible refine gate_callee (f := 75) rfl ?_); refine goesL_ (some 18) rfl rfl Try.func75 (by kernel_rfl) rfl #[.int .i64 a0_1, .int .i64 1, .int .i64 12] rfl (by (try simp only [List.map_toArray, List.map_cons, List.map_nil]); first | done | rfl | (simp only [List.length_drop, List.length_take]; rfl)) ?_; (with_reducible refine (impl_in.calls a0_1 1 12 true _ A7.out).mono ?_); rintro e w' ⟨rfl, ⟨nd, rfl⟩⟩; refine ⟨_, rfl, ?_⟩) | (go_at_call 75; (with_reducible refine (impl_in.calls a0_3 1 12 false _ A9.out).mono ?_); rintro e w' ⟨rfl, ⟨nd, rfl⟩⟩))
          go_ret
          exact ⟨by first | rfl | (simp [errW_none, errW_some] <;> rfl) | (simp [*, errW_none, errW_some] <;> rfl), by repeat (first | (with_reducible first | exact HB.out | apply below_alloc | apply pw_below_drewN | apply below_drew1 | refine below_set ?_ GE925.out) | exact HB.out)⟩
      · replace c8 := Bool.eq_false_iff.mpr c8
        subst c8
        have H1 : (some false) = some r := by rw [if_neg (show ¬ (false = true) by decide)] at H; exact H
        clear H
        have H := H1
        clear H1
        obtain rfl := Option.some.inj H
        go_enter Try.func106, Try.ntmps106
        go_wp2_with (first | ((with_reducible refine gate_dst (N := 1) rfl ?_); refine box_event ?hg (N := 1) ?hd (cs := #[.int .i64 a0_0, .int .i64 a0_1, .int .i64 a0_2, .int .i64 a0_3, .int .i64 a0_4]) (t := 87) ?hr ?_; (case hd => rfl); (case hg => rfl); (case hr => first | (go_simp; done) | (go_simp; rfl)); intro gb925 hg w23 hbox hb; have n0_ := Aside0.mk (below_step (by repeat (first | (with_reducible first | exact HB.out | apply below_alloc | apply pw_below_drewN | apply below_drew1) | exact HB.out)) hb); have n1_ := Aside0.mk (hbox); have n2_ := Aside0.mk ((by rw [hg]; exact (below_size (by repeat (first | (with_reducible first | exact HB.out | apply below_alloc | apply pw_below_drewN | apply below_drew1) | exact HB.out))) : w.heap.size ≤ gb925)); have n3_ := Aside0.mk ((by rw [hg]; exact (below_size (by repeat (first | (with_reducible first | exact HB.out | apply below_alloc | apply pw_below_drewN | apply below_drew1) | exact HB.out))) : w.heap.size ≤ gb925)); clear HB; have HB := n0_; have BK925 := n1_; have GW925 := n2_; have GE925 := n3_; clear n0_ n1_ n2_ n3_; clear hb hbox hg; have hcz24_0 : w23.cell? ⟨gb925, 0, none⟩ = some (.int .i64 a0_0) := (blk_cell BK925.out 0).trans rfl; have hcz24_1 : w23.cell? ⟨gb925, 1, none⟩ = some (.int .i64 a0_1) := (blk_cell BK925.out 1).trans rfl; have hcz24_2 : w23.cell? ⟨gb925, 2, none⟩ = some (.int .i64 a0_2) := (blk_cell BK925.out 2).trans rfl; have hcz24_3 : w23.cell? ⟨gb925, 3, none⟩ = some (.int .i64 a0_3) := (blk_cell BK925.out 3).trans rfl; have hcz24_4 : w23.cell? ⟨gb925, 4, none⟩ = some (.int .i64 a0_4) := (blk_cell BK925.out 4).trans rfl; have hfz24_0 := blk_frozen BK925.out 0; have hfz24_1 := blk_frozen BK925.out 1; have hfz24_2 := blk_frozen BK925.out 2; have hfz24_3 := blk_frozen BK925.out 3; have hfz24_4 := blk_frozen BK925.out 4) | ((with_reducible refine gate_callee (f := 75) rfl ?_); refine goesL_ (some 6) rfl rfl Try.func75 (by kernel_rfl) rfl #[.int .i64 a0_0, .int .i64 (-840), .int .i64 840] rfl (by (try simp only [List.map_toArray, List.map_cons, List.map_nil]); first | done | rfl | (simp only [List.length_drop, List.length_take]; rfl)) ?_; (with_reducible refine (impl_in.calls a0_0 (-840) 840 true _ A2.out).mono ?_); rintro e w' ⟨rfl, ⟨nd, rfl⟩⟩; refine ⟨_, rfl, ?_⟩) | ((with_reducible refine gate_callee (f := 75) rfl ?_); refine goesL_ (some 18) rfl rfl Try.func75 (by kernel_rfl) rfl #[.int .i64 a0_1, .int .i64 1, .int .i64 12] rfl (by (try simp only [List.map_toArray, List.map_cons, List.map_nil]); first | done | rfl | (simp only [List.length_drop, List.length_take]; rfl)) ?_; (with_reducible refine (impl_in.calls a0_1 1 12 false _ A7.out).mono ?_); rintro e w' ⟨rfl, ⟨nd, rfl⟩⟩; refine ⟨_, rfl, ?_⟩))
        go_ret
        exact ⟨by first | rfl | (simp [errW_none, errW_some] <;> rfl) | (simp [*, errW_none, errW_some] <;> rfl), by repeat (first | (with_reducible first | exact HB.out | apply below_alloc | apply pw_below_drewN | apply below_drew1 | refine below_set ?_ GE925.out) | exact HB.out)⟩
  · replace c3 := Bool.eq_false_iff.mpr c3
    subst c3
    have H1 : (some false) = some r := by rw [if_neg (show ¬ (false = true) by decide)] at H; exact H
    clear H
    have H := H1
    clear H1
    obtain rfl := Option.some.inj H
    go_enter Try.func106, Try.ntmps106
    go_wp2_with (first | ((with_reducible refine gate_dst (N := 1) rfl ?_); refine box_event ?hg (N := 1) ?hd (cs := #[.int .i64 a0_0, .int .i64 a0_1, .int .i64 a0_2, .int .i64 a0_3, .int .i64 a0_4]) (t := 87) ?hr ?_; (case hd => rfl); (case hg => rfl); (case hr => first | (go_simp; done) | (go_simp; rfl)); intro gb925 hg w25 hbox hb; have n0_ := Aside0.mk (below_step (by repeat (first | (with_reducible first | exact HB.out | apply below_alloc | apply pw_below_drewN | apply below_drew1) | exact HB.out)) hb); have n1_ := Aside0.mk (hbox); have n2_ := Aside0.mk ((by rw [hg]; exact (below_size (by repeat (first | (with_reducible first | exact HB.out | apply below_alloc | apply pw_below_drewN | apply below_drew1) | exact HB.out))) : w.heap.size ≤ gb925)); have n3_ := Aside0.mk ((by rw [hg]; exact (below_size (by repeat (first | (with_reducible first | exact HB.out | apply below_alloc | apply pw_below_drewN | apply below_drew1) | exact HB.out))) : w.heap.size ≤ gb925)); clear HB; have HB := n0_; have BK925 := n1_; have GW925 := n2_; have GE925 := n3_; clear n0_ n1_ n2_ n3_; clear hb hbox hg; have hcz26_0 : w25.cell? ⟨gb925, 0, none⟩ = some (.int .i64 a0_0) := (blk_cell BK925.out 0).trans rfl; have hcz26_1 : w25.cell? ⟨gb925, 1, none⟩ = some (.int .i64 a0_1) := (blk_cell BK925.out 1).trans rfl; have hcz26_2 : w25.cell? ⟨gb925, 2, none⟩ = some (.int .i64 a0_2) := (blk_cell BK925.out 2).trans rfl; have hcz26_3 : w25.cell? ⟨gb925, 3, none⟩ = some (.int .i64 a0_3) := (blk_cell BK925.out 3).trans rfl; have hcz26_4 : w25.cell? ⟨gb925, 4, none⟩ = some (.int .i64 a0_4) := (blk_cell BK925.out 4).trans rfl; have hfz26_0 := blk_frozen BK925.out 0; have hfz26_1 := blk_frozen BK925.out 1; have hfz26_2 := blk_frozen BK925.out 2; have hfz26_3 := blk_frozen BK925.out 3; have hfz26_4 := blk_frozen BK925.out 4) | ((with_reducible refine gate_callee (f := 75) rfl ?_); refine goesL_ (some 6) rfl rfl Try.func75 (by kernel_rfl) rfl #[.int .i64 a0_0, .int .i64 (-840), .int .i64 840] rfl (by (try simp only [List.map_toArray, List.map_cons, List.map_nil]); first | done | rfl | (simp only [List.length_drop, List.length_take]; rfl)) ?_; (with_reducible refine (impl_in.calls a0_0 (-840) 840 false _ A2.out).mono ?_); rintro e w' ⟨rfl, ⟨nd, rfl⟩⟩; refine ⟨_, rfl, ?_⟩))
    go_ret
    exact ⟨by first | rfl | (simp [errW_none, errW_some] <;> rfl) | (simp [*, errW_none, errW_some] <;> rfl), by repeat (first | (with_reducible first | exact HB.out | apply below_alloc | apply pw_below_drewN | apply below_drew1 | refine below_set ?_ GE925.out) | exact HB.out)⟩

end Go.Proofs.Ytnimjikikfhlpaa.F

namespace Go.Proofs.Ytnimjikikfhlpaa.F
open Go.RowKit Go.Proofs.YtnimjikikfhlpaaW.PrintWords Go.Proofs.YtnimjikikfhlpaaW.PrintLast Go.Proofs.YtnimjikikfhlpaaW.PrintMore
attribute [local go_sem] max2_int min2_int max_two min_two max_three min_three max_four min_four   -- for this text's walks alone
set_option linter.unusedVariables false
set_option linter.unusedSimpArgs false

/-! ### impl_daysInMonth: function 170 -/
def impl_daysInMonth.j0 : Nat → Int → Int → Bool → Option (Int)
  | 0, _, _, _ => none
  | k + 1, x0, x5, x6 => if x6 = true then (some 30) else (if x5 = 2 then (if (Int.tmod x0 4) = 0 then (some 29) else (some 28)) else (some 31))
def impl_daysInMonth.f (k : Nat) (a0 : Int) (a1 : Int) : Option (Int) := if a1 = 4 then (impl_daysInMonth.j0 k a0 a1 (a1 == 4)) else (if a1 = 6 then (impl_daysInMonth.j0 k a0 a1 (a1 == 6)) else (if a1 = 9 then (impl_daysInMonth.j0 k a0 a1 (a1 == 9)) else (impl_daysInMonth.j0 k a0 a1 (a1 == 11))))
theorem impl_daysInMonth.mono_l : ∀ k, (∀ y0 y1 y2, LeO (impl_daysInMonth.j0 k y0 y1 y2) (impl_daysInMonth.j0 (k + 1) y0 y1 y2))
  | 0 => fun _ _ _ r h => by simp [impl_daysInMonth.j0] at h
  | k + 1 => by
    have ih0 := impl_daysInMonth.mono_l k
    · intro y0 y1 y2
      unfold impl_daysInMonth.j0
      repeat' first
      | (with_reducible exact ih0 _ _ _)
      | (with_reducible exact LeO.refl _)
      | (with_reducible exact LeO.none _)
      | (with_reducible refine LeO.ite ?_ ?_)
      | (with_reducible refine LeO.bind ?_ (fun _ => ?_))
      | exact ih0 _ _ _
      | exact LeO.none _
      | refine LeO.ite ?_ ?_
      | refine LeO.bind ?_ (fun _ => ?_)
theorem impl_daysInMonth.mono : ∀ a0 a1 k, LeO (impl_daysInMonth.f k a0 a1) (impl_daysInMonth.f (k + 1) a0 a1) := by
  intro a0 a1 k
  have ih0 := impl_daysInMonth.mono_l k
  unfold impl_daysInMonth.f
  repeat' first
      | (with_reducible exact ih0 _ _ _)
      | (with_reducible exact LeO.refl _)
      | (with_reducible exact LeO.none _)
      | (with_reducible refine LeO.ite ?_ ?_)
      | (with_reducible refine LeO.bind ?_ (fun _ => ?_))
      | exact ih0 _ _ _
      | exact LeO.none _
      | refine LeO.ite ?_ ?_
      | refine LeO.bind ?_ (fun _ => ?_)
set_option maxHeartbeats 8000000 in
set_option maxRecDepth 100000 in
theorem impl_daysInMonth.calls (k : Nat) (a0 : Int) (a1 : Int) (r : Int) (w : World) (h : impl_daysInMonth.f k a0 a1 = some r) :
    Calls Try.prog 170 #[.int .i64 a0, .int .i64 a1] w fun e w' => e = .returned (.int .i64 r) ∧ Drawn0 w w' := by
  have H : (if a1 = 4 then (impl_daysInMonth.j0 k a0 a1 (a1 == 4)) else (if a1 = 6 then (impl_daysInMonth.j0 k a0 a1 (a1 == 6)) else (if a1 = 9 then (impl_daysInMonth.j0 k a0 a1 (a1 == 9)) else (impl_daysInMonth.j0 k a0 a1 (a1 == 11))))) = some r := h
  clear h
  have HC3 := Aside0.mk H
  clear H
  go_enter Try.func170, Try.ntmps170
  go_upto_if 6 with (fail)
  go_cut [6] (fun v6 wc => ∃ (kq : Nat) (x6_2 : Bool), v6 = .bool x6_2 ∧ Aside0 (impl_daysInMonth.j0 kq a0 a1 x6_2 = some r) ∧ Aside0 (kq ≤ k) ∧ Drawn0 w wc)
  case first =>
    have H := HC3.out
    clear HC3
    by_cases c4 : a1 = 4
    · rw [if_pos c4] at H
      have c4b0 : (a1 == 4) = true := beq_iff_eq.mpr c4
      have c4b1 : (a1 != 4) = false := bne_eq_false_iff_eq.mpr c4
      clear c4
      (first | rw [c4b0] | (simp only [i64_w, i32_w]; rw [c4b0]) | skip)
      have H' := Aside0.mk H
      clear H
      go_wp2
      go_meet
      case rel => exact ⟨_, ((a1 == 4)), (by first | rfl | (simp; done) | (simp [*]; done)), H', ⟨by first | omega | exact Nat.le_refl _⟩, by repeat (first | exact Drawn0.refl _ | apply Drawn0.step)⟩
    · rw [if_neg c4] at H
      have c4b0 : (a1 == 4) = false := beq_eq_false_iff_ne.mpr c4
      have c4b1 : (a1 != 4) = true := bne_iff_ne.mpr c4
      (first | rw [c4b0] | (simp only [i64_w, i32_w]; rw [c4b0]) | skip)
      by_cases c5 : a1 = 6
      · rw [if_pos c5] at H
        have c5b0 : (a1 == 6) = true := beq_iff_eq.mpr c5
        have c5b1 : (a1 != 6) = false := bne_eq_false_iff_eq.mpr c5
        clear c5
        have H' := Aside0.mk H
        clear H
        go_wp2
        go_meet
        case rel => exact ⟨_, ((a1 == 6)), (by first | rfl | (simp; done) | (simp [*]; done)), H', ⟨by first | omega | exact Nat.le_refl _⟩, by repeat (first | exact Drawn0.refl _ | apply Drawn0.step)⟩
      · rw [if_neg c5] at H
        have c5b0 : (a1 == 6) = false := beq_eq_false_iff_ne.mpr c5
        have c5b1 : (a1 != 6) = true := bne_iff_ne.mpr c5
        by_cases c6 : a1 = 9
        · rw [if_pos c6] at H
          have c6b0 : (a1 == 9) = true := beq_iff_eq.mpr c6
          have c6b1 : (a1 != 9) = false := bne_eq_false_iff_eq.mpr c6
          clear c6
          have H' := Aside0.mk H
          clear H
          go_wp2
          go_meet
          case rel => exact ⟨_, ((a1 == 9)), (by first | rfl | (simp; done) | (simp [*]; done)), H', ⟨by first | omega | exact Nat.le_refl _⟩, by repeat (first | exact Drawn0.refl _ | apply Drawn0.step)⟩
        · rw [if_neg c6] at H
          have c6b0 : (a1 == 9) = false := beq_eq_false_iff_ne.mpr c6
          have c6b1 : (a1 != 9) = true := bne_iff_ne.mpr c6
          have H' := Aside0.mk H
          clear H
          go_wp2
          go_meet
          case rel => exact ⟨_, ((a1 == 11)), (by first | rfl | (simp; done) | (simp [*]; done)), H', ⟨by first | omega | exact Nat.le_refl _⟩, by repeat (first | exact Drawn0.refl _ | apply Drawn0.step)⟩
  case rest =>
    clear HC3
    try clear c1
    try clear p2
    try clear c4
    try clear c4b0
    try clear c4b1
    try clear c5
    try clear c5b0
    try clear c5b1
    try clear c6
    try clear c6b0
    try clear c6b1
    obtain ⟨kq, x6_2, rfl, HA, HJ2, ⟨mc2, rfl⟩⟩ := hcut
    cases kq with
    | zero => exact absurd HA.out (by simp [impl_daysInMonth.j0])
    | succ kj2 =>
      have H := HA.out
      clear HA
      simp only [impl_daysInMonth.j0] at H
      by_cases c7 : x6_2 = true
      · subst c7
        have H1 : (some 30) = some r := by rw [if_pos rfl] at H; exact H
        clear H
        have H := H1
        clear H1
        obtain rfl := Option.some.inj H
        go_wp2
        go_ret
        exact ⟨by first | rfl | (simp; done) | (simp [*]; done), by repeat (first | exact Drawn0.refl _ | apply Drawn0.step)⟩
      · replace c7 := Bool.eq_false_iff.mpr c7
        subst c7
        have H1 : (if a1 = 2 then (if (Int.tmod a0 4) = 0 then (some 29) else (some 28)) else (some 31)) = some r := by rw [if_neg (show ¬ (false = true) by decide)] at H; exact H
        clear H
        have H := H1
        clear H1
        by_cases c8 : a1 = 2
        · rw [if_pos c8] at H
          have c8b0 : (a1 == 2) = true := beq_iff_eq.mpr c8
          have c8b1 : (a1 != 2) = false := bne_eq_false_iff_eq.mpr c8
          clear c8
          by_cases c9 : (Int.tmod a0 4) = 0
          · rw [if_pos c9] at H
            have c9b0 : ((Int.tmod a0 4) == 0) = true := beq_iff_eq.mpr c9
            have c9b1 : ((Int.tmod a0 4) != 0) = false := bne_eq_false_iff_eq.mpr c9
            clear c9
            obtain rfl := Option.some.inj H
            go_wp2
            go_ret
            exact ⟨by first | rfl | (simp; done) | (simp [*]; done), by repeat (first | exact Drawn0.refl _ | apply Drawn0.step)⟩
          · rw [if_neg c9] at H
            have c9b0 : ((Int.tmod a0 4) == 0) = false := beq_eq_false_iff_ne.mpr c9
            have c9b1 : ((Int.tmod a0 4) != 0) = true := bne_iff_ne.mpr c9
            obtain rfl := Option.some.inj H
            go_wp2
            go_ret
            exact ⟨by first | rfl | (simp; done) | (simp [*]; done), by repeat (first | exact Drawn0.refl _ | apply Drawn0.step)⟩
        · rw [if_neg c8] at H
          have c8b0 : (a1 == 2) = false := beq_eq_false_iff_ne.mpr c8
          have c8b1 : (a1 != 2) = true := bne_iff_ne.mpr c8
          obtain rfl := Option.some.inj H
          go_wp2
          go_ret
          exact ⟨by first | rfl | (simp; done) | (simp [*]; done), by repeat (first | exact Drawn0.refl _ | apply Drawn0.step)⟩

end Go.Proofs.Ytnimjikikfhlpaa.F

namespace Go.Proofs.Ytnimjikikfhlpaa.F
open Go.RowKit Go.Proofs.YtnimjikikfhlpaaW.PrintWords Go.Proofs.YtnimjikikfhlpaaW.PrintLast Go.Proofs.YtnimjikikfhlpaaW.PrintMore
attribute [local go_sem] max2_int min2_int max_two min_two max_three min_three max_four min_four   -- for this text's walks alone
set_option linter.unusedVariables false
set_option linter.unusedSimpArgs false

/-! ### impl_dayNumber: function 148 -/
def impl_dayNumber.l0 : Nat → Int → Int → Int → Int → Int → Option (Int)
  | 0, _, _, _, _, _ => none
  | k + 1, x4, x5, x932000, x932001, x932002 => if x5 < x932001 then ((impl_daysInMonth.f k x932000 x5).bind fun t932 => (impl_dayNumber.l0 k (wrap64 (x4 + t932)) (wrap64 (x5 + 1)) x932000 x932001 x932002)) else (some x4)
def impl_dayNumber.f (k : Nat) (a0_0 : Int) (a0_1 : Int) (a0_2 : Int) : Option (Int) := impl_dayNumber.l0 k (wrap64 ((wrap64 ((wrap64 ((wrap64 ((-36159) + (wrap64 (365 * (wrap64 (a0_0 - 1901)))))) + (wrap64 (Int.tdiv (wrap64 (a0_0 - 1901)) 4)))) + a0_2)) - 1)) 1 a0_0 a0_1 a0_2
theorem impl_dayNumber.mono_l : ∀ k, (∀ y0 y1 y2 y3 y4, LeO (impl_dayNumber.l0 k y0 y1 y2 y3 y4) (impl_dayNumber.l0 (k + 1) y0 y1 y2 y3 y4))
  | 0 => fun _ _ _ _ _ r h => by simp [impl_dayNumber.l0] at h
  | k + 1 => by
    have ih0 := impl_dayNumber.mono_l k
    · intro y0 y1 y2 y3 y4
      unfold impl_dayNumber.l0
      repeat' first
      | (with_reducible exact ih0 _ _ _ _ _)
      | (with_reducible exact impl_daysInMonth.mono _ _ _)
      | (with_reducible exact LeO.refl _)
      | (with_reducible exact LeO.none _)
      | (with_reducible refine LeO.ite ?_ ?_)
      | (with_reducible refine LeO.bind ?_ (fun _ => ?_))
      | exact ih0 _ _ _ _ _
      | exact impl_daysInMonth.mono _ _ _
      | exact LeO.none _
      | refine LeO.ite ?_ ?_
      | refine LeO.bind ?_ (fun _ => ?_)
theorem impl_dayNumber.mono : ∀ a0 a1 a2 k, LeO (impl_dayNumber.f k a0 a1 a2) (impl_dayNumber.f (k + 1) a0 a1 a2) := by
  intro a0 a1 a2 k
  have ih0 := impl_dayNumber.mono_l k
  unfold impl_dayNumber.f
  repeat' first
      | (with_reducible exact ih0 _ _ _ _ _)
      | (with_reducible exact impl_daysInMonth.mono _ _ _)
      | (with_reducible exact LeO.refl _)
      | (with_reducible exact LeO.none _)
      | (with_reducible refine LeO.ite ?_ ?_)
      | (with_reducible refine LeO.bind ?_ (fun _ => ?_))
      | exact ih0 _ _ _ _ _
      | exact impl_daysInMonth.mono _ _ _
      | exact LeO.none _
      | refine LeO.ite ?_ ?_
      | refine LeO.bind ?_ (fun _ => ?_)
set_option maxHeartbeats 8000000 in
set_option maxRecDepth 100000 in
theorem impl_dayNumber.calls (k : Nat) (a0_0 : Int) (a0_1 : Int) (a0_2 : Int) (r : Int) (w : World) (h : impl_dayNumber.f k a0_0 a0_1 a0_2 = some r) :
    Calls Try.prog 148 #[.agg #[.int .i64 a0_0, .int .i64 a0_1, .int .i64 a0_2]] w fun e w' => e = .returned (.int .i64 r) ∧ Below w.heap.size w w' := by
  have hu173 := Try.underlying173
  have HB := Aside0.mk (Below.refl w.heap.size w)
  have H : (impl_dayNumber.l0 k (wrap64 ((wrap64 ((wrap64 ((wrap64 ((-36159) + (wrap64 (365 * (wrap64 (a0_0 - 1901)))))) + (wrap64 (Int.tdiv (wrap64 (a0_0 - 1901)) 4)))) + a0_2)) - 1)) 1 a0_0 a0_1 a0_2) = some r := h
  clear h
  have H' := Aside0.mk H
  clear H
  go_enter Try.func148, Try.ntmps148
  go_wp2_with (first | ((with_reducible refine gate_dst (N := 1) rfl ?_); refine box_event ?hg (N := 1) ?hd (cs := #[.int .i64 a0_0, .int .i64 a0_1, .int .i64 a0_2]) (t := 173) ?hr ?_; (case hd => rfl); (case hg => rfl); (case hr => first | (go_simp; done) | (go_simp; rfl)); intro gb931 hg w2 hbox hb; have n0_ := Aside0.mk (below_step (by repeat (first | (with_reducible first | exact HB.out | apply below_alloc | apply pw_below_drewN | apply below_drew1) | exact HB.out)) hb); have n1_ := Aside0.mk (hbox); have n2_ := Aside0.mk ((by rw [hg]; exact (below_size (by repeat (first | (with_reducible first | exact HB.out | apply below_alloc | apply pw_below_drewN | apply below_drew1) | exact HB.out))) : w.heap.size ≤ gb931)); have n3_ := Aside0.mk ((by rw [hg]; exact (below_size (by repeat (first | (with_reducible first | exact HB.out | apply below_alloc | apply pw_below_drewN | apply below_drew1) | exact HB.out))) : w.heap.size ≤ gb931)); clear HB; have HB := n0_; have BK931 := n1_; have GW931 := n2_; have GE931 := n3_; clear n0_ n1_ n2_ n3_; clear hb hbox hg; have hcz3_0 : w2.cell? ⟨gb931, 0, none⟩ = some (.int .i64 a0_0) := (blk_cell BK931.out 0).trans rfl; have hcz3_1 : w2.cell? ⟨gb931, 1, none⟩ = some (.int .i64 a0_1) := (blk_cell BK931.out 1).trans rfl; have hcz3_2 : w2.cell? ⟨gb931, 2, none⟩ = some (.int .i64 a0_2) := (blk_cell BK931.out 2).trans rfl; have hfz3_0 := blk_frozen BK931.out 0; have hfz3_1 := blk_frozen BK931.out 1; have hfz3_2 := blk_frozen BK931.out 2))
  go_loopg [4, 5] k (fun kq v4 v5 w' => ∃ (x4_1 : Int) (x5_1 : Int), v4 = .int .i64 x4_1 ∧ v5 = .int .i64 x5_1 ∧ Aside0 (impl_dayNumber.l0 kq x4_1 x5_1 a0_0 a0_1 a0_2 = some r) ∧ Aside0 (kq ≤ k) ∧ Aside0 (w'.heap[gb931]? = some (.cells #[.int .i64 a0_0, .int .i64 a0_1, .int .i64 a0_2] 173 (0, 0))) ∧ Aside0 (Below w.heap.size w w'))
  case atStart => exact ⟨(wrap64 ((wrap64 ((wrap64 ((wrap64 ((-36159) + (wrap64 (365 * (wrap64 (a0_0 - 1901)))))) + (wrap64 (Int.tdiv (wrap64 (a0_0 - 1901)) 4)))) + a0_2)) - 1)), (1), (by first | rfl | (simp; done) | (simp [*]; done)), (by first | rfl | (simp; done) | (simp [*]; done)), H', ⟨Nat.le_refl _⟩, ⟨by (with_reducible repeat (first | refine blk_drewN ?_ _ | refine blk_drew ?_ | refine blk_alloc ?_ _)); exact BK931.out⟩, ⟨by repeat (first | (with_reducible first | exact HB.out | apply below_alloc | apply pw_below_drewN | apply below_drew1 | refine below_set ?_ GE931.out) | exact HB.out)⟩⟩
  case round =>
    clear H'
    try clear c1
    try clear p2
    try clear hcz3_0
    try clear hcz3_1
    try clear hcz3_2
    try clear hfz3_0
    try clear hfz3_1
    try clear hfz3_2
    obtain ⟨x4_1, x5_1, rfl, rfl, HA, HK1, BK931, HB⟩ := hrel
    cases gk with
    | zero => exact absurd HA.out (by simp [impl_dayNumber.l0])
    | succ k1 =>
      have H := HA.out
      clear HA
      simp only [impl_dayNumber.l0] at H
      by_cases c4 : x5_1 < a0_1
      · rw [if_pos c4] at H
        have c4b0 : decide (x5_1 < a0_1) = true := decide_eq_true c4
        clear c4
        replace H := Option.bind_eq_some_iff.mp H
        obtain ⟨t932, A50, H⟩ := H
        replace H : (impl_dayNumber.l0 k1 (wrap64 (x4_1 + t932)) (wrap64 (x5_1 + 1)) a0_0 a0_1 a0_2) = some r := H
        have A5 := Aside0.mk A50
        clear A50
        have H' := Aside0.mk H
        clear H
        have hcz6_0 : wr.cell? ⟨gb931, 0, none⟩ = some (.int .i64 a0_0) := (blk_cell BK931.out 0).trans rfl
        have hcz6_1 : wr.cell? ⟨gb931, 1, none⟩ = some (.int .i64 a0_1) := (blk_cell BK931.out 1).trans rfl
        have hcz6_2 : wr.cell? ⟨gb931, 2, none⟩ = some (.int .i64 a0_2) := (blk_cell BK931.out 2).trans rfl
        have hfz6_0 := blk_frozen BK931.out 0
        have hfz6_1 := blk_frozen BK931.out 1
        have hfz6_2 := blk_frozen BK931.out 2
        go_wp2_with (first | ((with_reducible refine gate_callee (f := 170) rfl ?_); refine goesL_ (some 29) rfl rfl Try.func170 (by kernel_rfl) rfl #[.int .i64 a0_0, .int .i64 x5_1] rfl (by (try simp only [List.map_toArray, List.map_cons, List.map_nil]); first | done | rfl | (simp only [List.length_drop, List.length_take]; rfl)) ?_; (with_reducible refine (impl_daysInMonth.calls k1 a0_0 x5_1 t932 _ A5.out).mono ?_); rintro e w' ⟨rfl, ⟨nd, rfl⟩⟩; refine ⟨_, rfl, ?_⟩))
        go_roundg k1
        case measure => have := HK1.out; omega
        case rel => exact ⟨(wrap64 (x4_1 + t932)), (wrap64 (x5_1 + 1)), (by first | rfl | (simp; done) | (simp [*]; done)), (by first | rfl | (simp; done) | (simp [*]; done)), H', ⟨by have := HK1.out; omega⟩, ⟨by (with_reducible repeat (first | refine blk_drewN ?_ _ | refine blk_drew ?_ | refine blk_alloc ?_ _)); exact BK931.out⟩, ⟨by repeat (first | (with_reducible first | exact HB.out | apply below_alloc | apply pw_below_drewN | apply below_drew1 | refine below_set ?_ GE931.out) | exact HB.out)⟩⟩
      · rw [if_neg c4] at H
        have c4b0 : decide (x5_1 < a0_1) = false := decide_eq_false c4
        clear c4
        obtain rfl := Option.some.inj H
        have hcz7_0 : wr.cell? ⟨gb931, 0, none⟩ = some (.int .i64 a0_0) := (blk_cell BK931.out 0).trans rfl
        have hcz7_1 : wr.cell? ⟨gb931, 1, none⟩ = some (.int .i64 a0_1) := (blk_cell BK931.out 1).trans rfl
        have hcz7_2 : wr.cell? ⟨gb931, 2, none⟩ = some (.int .i64 a0_2) := (blk_cell BK931.out 2).trans rfl
        have hfz7_0 := blk_frozen BK931.out 0
        have hfz7_1 := blk_frozen BK931.out 1
        have hfz7_2 := blk_frozen BK931.out 2
        go_wp2
        go_ret
        exact ⟨by first | rfl | (simp [errW_none, errW_some] <;> rfl) | (simp [*, errW_none, errW_some] <;> rfl), by repeat (first | (with_reducible first | exact HB.out | apply below_alloc | apply pw_below_drewN | apply below_drew1 | refine below_set ?_ GE931.out) | exact HB.out)⟩

end Go.Proofs.Ytnimjikikfhlpaa.F

namespace Go.Proofs.Ytnimjikikfhlpaa.F
open Go.RowKit Go.Proofs.YtnimjikikfhlpaaW.PrintWords Go.Proofs.YtnimjikikfhlpaaW.PrintLast Go.Proofs.YtnimjikikfhlpaaW.PrintMore
attribute [local go_sem] max2_int min2_int max_two min_two max_three min_three max_four min_four   -- for this text's walks alone
set_option linter.unusedVariables false
set_option linter.unusedSimpArgs false

/-! ### impl_isDayNumber: function 107 -/
def impl_isDayNumber.f (k : Nat) (a0 : Int) : Option (Bool) := (impl_dayNumber.f k 1901 1 1).bind fun t933 => ((impl_dayNumber.f k 2099 12 31).bind fun t934 => ((impl_in.f a0 t933 t934).bind fun t935 => (some t935)))
theorem impl_isDayNumber.mono : ∀ a0 k, LeO (impl_isDayNumber.f k a0) (impl_isDayNumber.f (k + 1) a0) := by
  intro a0 k
  unfold impl_isDayNumber.f
  repeat' first
      | (with_reducible exact impl_dayNumber.mono _ _ _ _)
      | (with_reducible exact LeO.refl _)
      | (with_reducible exact LeO.none _)
      | (with_reducible refine LeO.ite ?_ ?_)
      | (with_reducible refine LeO.bind ?_ (fun _ => ?_))
      | exact impl_dayNumber.mono _ _ _ _
      | exact LeO.none _
      | refine LeO.ite ?_ ?_
      | refine LeO.bind ?_ (fun _ => ?_)
set_option maxHeartbeats 8000000 in
set_option maxRecDepth 100000 in
theorem impl_isDayNumber.calls (k : Nat) (a0 : Int) (r : Bool) (w : World) (h : impl_isDayNumber.f k a0 = some r) :
    Calls Try.prog 107 #[.int .i64 a0] w fun e w' => e = .returned (.bool r) ∧ Below w.heap.size w w' := by
  have hu173 := Try.underlying173
  have HB := Aside0.mk (Below.refl w.heap.size w)
  have H : ((impl_dayNumber.f k 1901 1 1).bind fun t933 => ((impl_dayNumber.f k 2099 12 31).bind fun t934 => ((impl_in.f a0 t933 t934).bind fun t935 => (some t935)))) = some r := h
  clear h
  replace H := Option.bind_eq_some_iff.mp H
  obtain ⟨t933, A20, H⟩ := H
  replace H : ((impl_dayNumber.f k 2099 12 31).bind fun t934 => ((impl_in.f a0 t933 t934).bind fun t935 => (some t935))) = some r := H
  have A2 := Aside0.mk A20
  clear A20
  replace H := Option.bind_eq_some_iff.mp H
  obtain ⟨t934, A30, H⟩ := H
  replace H : ((impl_in.f a0 t933 t934).bind fun t935 => (some t935)) = some r := H
  have A3 := Aside0.mk A30
  clear A30
  replace H := Option.bind_eq_some_iff.mp H
  obtain ⟨t935, A40, H⟩ := H
  replace H : (some t935) = some r := H
  have A4 := Aside0.mk A40
  clear A40
  obtain rfl := Option.some.inj H
  go_enter Try.func107, Try.ntmps107
  go_wp2_with (first | ((with_reducible refine gate_callee (f := 148) rfl ?_); refine goesL_ (some 5) rfl rfl Try.func148 (by kernel_rfl) rfl #[.agg #[.int .i64 1901, .int .i64 1, .int .i64 1]] rfl (by (try simp only [List.map_toArray, List.map_cons, List.map_nil]); first | done | rfl | (simp only [List.length_drop, List.length_take]; rfl)) ?_; (with_reducible refine (impl_dayNumber.calls k 1901 1 1 t933 _ A2.out).mono ?_); rintro e w5 ⟨rfl, hb⟩; refine ⟨_, rfl, ?_⟩; have n0_ := Aside0.mk (below_step (by repeat (first | (with_reducible first | exact HB.out | apply below_alloc | apply pw_below_drewN | apply below_drew1) | exact HB.out)) hb); clear HB; have HB := n0_; clear n0_; (try clear hb); (try clear hb2); (try clear hk); (try clear hi)) | ((with_reducible refine gate_callee (f := 148) rfl ?_); refine goesL_ (some 7) rfl rfl Try.func148 (by kernel_rfl) rfl #[.agg #[.int .i64 2099, .int .i64 12, .int .i64 31]] rfl (by (try simp only [List.map_toArray, List.map_cons, List.map_nil]); first | done | rfl | (simp only [List.length_drop, List.length_take]; rfl)) ?_; (with_reducible refine (impl_dayNumber.calls k 2099 12 31 t934 _ A3.out).mono ?_); rintro e w6 ⟨rfl, hb⟩; refine ⟨_, rfl, ?_⟩; have n0_ := Aside0.mk (below_step (by repeat (first | (with_reducible first | exact HB.out | apply below_alloc | apply pw_below_drewN | apply below_drew1) | exact HB.out)) hb); clear HB; have HB := n0_; clear n0_; (try clear hb); (try clear hb2); (try clear hk); (try clear hi)) | ((with_reducible refine gate_callee (f := 75) rfl ?_); refine goesL_ (some 8) rfl rfl Try.func75 (by kernel_rfl) rfl #[.int .i64 a0, .int .i64 t933, .int .i64 t934] rfl (by (try simp only [List.map_toArray, List.map_cons, List.map_nil]); first | done | rfl | (simp only [List.length_drop, List.length_take]; rfl)) ?_; (with_reducible refine (impl_in.calls a0 t933 t934 t935 _ A4.out).mono ?_); rintro e w' ⟨rfl, ⟨nd, rfl⟩⟩; refine ⟨_, rfl, ?_⟩))
  go_ret
  exact ⟨by first | rfl | (simp [errW_none, errW_some] <;> rfl) | (simp [*, errW_none, errW_some] <;> rfl), by repeat (first | (with_reducible first | exact HB.out | apply below_alloc | apply pw_below_drewN | apply below_drew1) | exact HB.out)⟩

end Go.Proofs.Ytnimjikikfhlpaa.F

namespace Go.Proofs.Ytnimjikikfhlpaa.F
open Go.RowKit Go.Proofs.YtnimjikikfhlpaaW.PrintWords Go.Proofs.YtnimjikikfhlpaaW.PrintLast Go.Proofs.YtnimjikikfhlpaaW.PrintMore
attribute [local go_sem] max2_int min2_int max_two min_two max_three min_three max_four min_four   -- for this text's walks alone
set_option linter.unusedVariables false
set_option linter.unusedSimpArgs false

/-! ### impl_IsDesk: function 54 -/
def impl_IsDesk.f (k : Nat) (a0_0 : Int) (a0_1 : Int) (a0_2 : Int) (a0_3 : Int) (a0_4 : Int) (l0_5 : List Int) (l0_6 : List Int) (a0_7 : Int) (a0_8 : Int) (a0_9 : Int) (a0_10 : Int) (a0_11 : Int) (a0_12 : Int) (a0_13 : Int) : Option (Bool) := (impl_IsProject.f k a0_0 a0_1 a0_2 a0_3 a0_4 l0_5 l0_6).bind fun t937 => (if t937 = true then ((impl_IsZone.f a0_7 a0_8 a0_9 a0_10 a0_11).bind fun t938 => (if t938 = true then ((impl_in.f a0_12 (-648000) 648000).bind fun t939 => (if t939 = true then ((impl_isDayNumber.f k a0_13).bind fun t940 => (some t940)) else (some false))) else (some false))) else (some false))
theorem impl_IsDesk.mono : ∀ a0 a1 a2 a3 a4 a5 a6 a7 a8 a9 a10 a11 a12 a13 k, LeO (impl_IsDesk.f k a0 a1 a2 a3 a4 a5 a6 a7 a8 a9 a10 a11 a12 a13) (impl_IsDesk.f (k + 1) a0 a1 a2 a3 a4 a5 a6 a7 a8 a9 a10 a11 a12 a13) := by
  intro a0 a1 a2 a3 a4 a5 a6 a7 a8 a9 a10 a11 a12 a13 k
  unfold impl_IsDesk.f
  repeat' first
      | (with_reducible exact impl_IsProject.mono _ _ _ _ _ _ _ _)
      | (with_reducible exact impl_isDayNumber.mono _ _)
      | (with_reducible exact LeO.refl _)
      | (with_reducible exact LeO.none _)
      | (with_reducible refine LeO.ite ?_ ?_)
      | (with_reducible refine LeO.bind ?_ (fun _ => ?_))
      | exact impl_IsProject.mono _ _ _ _ _ _ _ _
      | exact impl_isDayNumber.mono _ _
      | exact LeO.none _
      | refine LeO.ite ?_ ?_
      | refine LeO.bind ?_ (fun _ => ?_)
set_option maxHeartbeats 8000000 in
set_option maxRecDepth 100000 in
theorem impl_IsDesk.calls (k : Nat) (a0_0 : Int) (a0_1 : Int) (a0_2 : Int) (a0_3 : Int) (a0_4 : Int) (A0_5 : Option Addr) (c0_5 : Nat) (l0_5 : List Int) (A0_6 : Option Addr) (c0_6 : Nat) (l0_6 : List Int) (a0_7 : Int) (a0_8 : Int) (a0_9 : Int) (a0_10 : Int) (a0_11 : Int) (a0_12 : Int) (a0_13 : Int) (r : Bool) (w : World) (hr0_5 : Kd.C (Kd.int .i64) w A0_5 l0_5.length l0_5) (hc0_5 : l0_5.length ≤ c0_5) (hr0_6 : Kd.C (Kd.int .i64) w A0_6 l0_6.length l0_6) (hc0_6 : l0_6.length ≤ c0_6) (h : impl_IsDesk.f k a0_0 a0_1 a0_2 a0_3 a0_4 l0_5 l0_6 a0_7 a0_8 a0_9 a0_10 a0_11 a0_12 a0_13 = some r) :
    Calls Try.prog 54 #[.agg #[.int .i64 a0_0, .int .i64 a0_1, .int .i64 a0_2, .int .i64 a0_3, .int .i64 a0_4, .slice A0_5 l0_5.length c0_5, .slice A0_6 l0_6.length c0_6, .int .i64 a0_7, .int .i64 a0_8, .int .i64 a0_9, .int .i64 a0_10, .int .i64 a0_11, .int .i64 a0_12, .int .i64 a0_13]] w fun e w' => e = .returned (.bool r) ∧ Below w.heap.size w w' := by
  have hu89 := Try.underlying89
  have hu70 := Try.underlying70
  have hu87 := Try.underlying87
  have HR0_5 := Aside0.mk hr0_5
  have HC0_5 := Aside0.mk hc0_5
  clear hr0_5 hc0_5
  have HR0_6 := Aside0.mk hr0_6
  have HC0_6 := Aside0.mk hc0_6
  clear hr0_6 hc0_6
  have HB := Aside0.mk (Below.refl w.heap.size w)
  have H : ((impl_IsProject.f k a0_0 a0_1 a0_2 a0_3 a0_4 l0_5 l0_6).bind fun t937 => (if t937 = true then ((impl_IsZone.f a0_7 a0_8 a0_9 a0_10 a0_11).bind fun t938 => (if t938 = true then ((impl_in.f a0_12 (-648000) 648000).bind fun t939 => (if t939 = true then ((impl_isDayNumber.f k a0_13).bind fun t940 => (some t940)) else (some false))) else (some false))) else (some false))) = some r := h
  clear h
  replace H := Option.bind_eq_some_iff.mp H
  obtain ⟨t937, A20, H⟩ := H
  replace H : (if t937 = true then ((impl_IsZone.f a0_7 a0_8 a0_9 a0_10 a0_11).bind fun t938 => (if t938 = true then ((impl_in.f a0_12 (-648000) 648000).bind fun t939 => (if t939 = true then ((impl_isDayNumber.f k a0_13).bind fun t940 => (some t940)) else (some false))) else (some false))) else (some false)) = some r := H
  have A2 := Aside0.mk A20
  clear A20
  by_cases c3 : t937 = true
  · subst c3
    have H1 : ((impl_IsZone.f a0_7 a0_8 a0_9 a0_10 a0_11).bind fun t938 => (if t938 = true then ((impl_in.f a0_12 (-648000) 648000).bind fun t939 => (if t939 = true then ((impl_isDayNumber.f k a0_13).bind fun t940 => (some t940)) else (some false))) else (some false))) = some r := by rw [if_pos rfl] at H; exact H
    clear H
    have H := H1
    clear H1
    replace H := Option.bind_eq_some_iff.mp H
    obtain ⟨t938, A40, H⟩ := H
    replace H : (if t938 = true then ((impl_in.f a0_12 (-648000) 648000).bind fun t939 => (if t939 = true then ((impl_isDayNumber.f k a0_13).bind fun t940 => (some t940)) else (some false))) else (some false)) = some r := H
    have A4 := Aside0.mk A40
    clear A40
    by_cases c5 : t938 = true
    · subst c5
      have H1 : ((impl_in.f a0_12 (-648000) 648000).bind fun t939 => (if t939 = true then ((impl_isDayNumber.f k a0_13).bind fun t940 => (some t940)) else (some false))) = some r := by rw [if_pos rfl] at H; exact H
      clear H
      have H := H1
      clear H1
      replace H := Option.bind_eq_some_iff.mp H
      obtain ⟨t939, A60, H⟩ := H
      replace H : (if t939 = true then ((impl_isDayNumber.f k a0_13).bind fun t940 => (some t940)) else (some false)) = some r := H
      have A6 := Aside0.mk A60
      clear A60
      by_cases c7 : t939 = true
      · subst c7
        have H1 : ((impl_isDayNumber.f k a0_13).bind fun t940 => (some t940)) = some r := by rw [if_pos rfl] at H; exact H
        clear H
        have H := H1
        clear H1
        replace H := Option.bind_eq_some_iff.mp H
        obtain ⟨t940, A80, H⟩ := H
        replace H : (some t940) = some r := H
        have A8 := Aside0.mk A80
        clear A80
        obtain rfl := Option.some.inj H
        go_enter Try.func54, Try.ntmps54
        go_wp2_with (first | ((with_reducible refine gate_dst (N := 1) rfl ?_); refine box_event ?hg (N := 1) ?hd (cs := #[.int .i64 a0_0, .int .i64 a0_1, .int .i64 a0_2, .int .i64 a0_3, .int .i64 a0_4, .slice A0_5 l0_5.length c0_5, .slice A0_6 l0_6.length c0_6, .int .i64 a0_7, .int .i64 a0_8, .int .i64 a0_9, .int .i64 a0_10, .int .i64 a0_11, .int .i64 a0_12, .int .i64 a0_13]) (t := 89) ?hr ?_; (case hd => rfl); (case hg => rfl); (case hr => first | (go_simp; done) | (go_simp; rfl)); intro gb936 hg w9 hbox hb; have n0_ := Aside0.mk (below_step (by repeat (first | (with_reducible first | exact HB.out | apply below_alloc | apply pw_below_drewN | apply below_drew1) | exact HB.out)) hb); have n1_ := Aside0.mk (hbox); have n2_ := Aside0.mk ((by rw [hg]; exact (below_size (by repeat (first | (with_reducible first | exact HB.out | apply below_alloc | apply pw_below_drewN | apply below_drew1) | exact HB.out))) : w.heap.size ≤ gb936)); have n3_ := Aside0.mk ((by rw [hg]; exact (below_size (by repeat (first | (with_reducible first | exact HB.out | apply below_alloc | apply pw_below_drewN | apply below_drew1) | exact HB.out))) : w.heap.size ≤ gb936)); clear HB; have HB := n0_; have BK936 := n1_; have GW936 := n2_; have GE936 := n3_; clear n0_ n1_ n2_ n3_; clear hb hbox hg; have hcz10_0 : w9.cell? ⟨gb936, 0, none⟩ = some (.int .i64 a0_0) := (blk_cell BK936.out 0).trans rfl; have hcz10_1 : w9.cell? ⟨gb936, 1, none⟩ = some (.int .i64 a0_1) := (blk_cell BK936.out 1).trans rfl; have hcz10_2 : w9.cell? ⟨gb936, 2, none⟩ = some (.int .i64 a0_2) := (blk_cell BK936.out 2).trans rfl; have hcz10_3 : w9.cell? ⟨gb936, 3, none⟩ = some (.int .i64 a0_3) := (blk_cell BK936.out 3).trans rfl; have hcz10_4 : w9.cell? ⟨gb936, 4, none⟩ = some (.int .i64 a0_4) := (blk_cell BK936.out 4).trans rfl; have hcz10_5 : w9.cell? ⟨gb936, 5, none⟩ = some (.slice A0_5 l0_5.length c0_5) := (blk_cell BK936.out 5).trans rfl; have hcz10_6 : w9.cell? ⟨gb936, 6, none⟩ = some (.slice A0_6 l0_6.length c0_6) := (blk_cell BK936.out 6).trans rfl; have hcz10_7 : w9.cell? ⟨gb936, 7, none⟩ = some (.int .i64 a0_7) := (blk_cell BK936.out 7).trans rfl; have hcz10_8 : w9.cell? ⟨gb936, 8, none⟩ = some (.int .i64 a0_8) := (blk_cell BK936.out 8).trans rfl; have hcz10_9 : w9.cell? ⟨gb936, 9, none⟩ = some (.int .i64 a0_9) := (blk_cell BK936.out 9).trans rfl; have hcz10_10 : w9.cell? ⟨gb936, 10, none⟩ = some (.int .i64 a0_10) := (blk_cell BK936.out 10).trans rfl; have hcz10_11 : w9.cell? ⟨gb936, 11, none⟩ = some (.int .i64 a0_11) := (blk_cell BK936.out 11).trans rfl; have hcz10_12 : w9.cell? ⟨gb936, 12, none⟩ = some (.int .i64 a0_12) := (blk_cell BK936.out 12).trans rfl; have hcz10_13 : w9.cell? ⟨gb936, 13, none⟩ = some (.int .i64 a0_13) := (blk_cell BK936.out 13).trans rfl; have hfz10_0 := blk_frozen BK936.out 0; have hfz10_1 := blk_frozen BK936.out 1; have hfz10_2 := blk_frozen BK936.out 2; have hfz10_3 := blk_frozen BK936.out 3; have hfz10_4 := blk_frozen BK936.out 4; have hfz10_5 := blk_frozen BK936.out 5; have hfz10_6 := blk_frozen BK936.out 6; have hfz10_7 := blk_frozen BK936.out 7; have hfz10_8 := blk_frozen BK936.out 8; have hfz10_9 := blk_frozen BK936.out 9; have hfz10_10 := blk_frozen BK936.out 10; have hfz10_11 := blk_frozen BK936.out 11; have hfz10_12 := blk_frozen BK936.out 12; have hfz10_13 := blk_frozen BK936.out 13) | ((with_reducible refine gate_callee (f := 76) rfl ?_); refine goesL_ (some 5) rfl rfl Try.func76 (by kernel_rfl) rfl #[.agg #[.int .i64 a0_0, .int .i64 a0_1, .int .i64 a0_2, .int .i64 a0_3, .int .i64 a0_4, .slice A0_5 l0_5.length c0_5, .slice A0_6 l0_6.length c0_6]] rfl (by (try simp only [List.map_toArray, List.map_cons, List.map_nil]); first | done | rfl | (simp only [List.length_drop, List.length_take]; rfl)) ?_; (with_reducible refine (impl_IsProject.calls k a0_0 a0_1 a0_2 a0_3 a0_4 _ _ l0_5 _ _ l0_6 true _ ?side1 ?side2 ?side3 ?side4 A2.out).mono ?_); (case side1 => repeat (first | exact (Kd.C_below HR0_5.out HB.out) | (with_reducible refine Kd.C_alloc ?_ _) | (with_reducible refine Kd.C_drewN ?_ _) | (with_reducible refine Kd.C_drew ?_))); (case side2 => exact HC0_5.out); (case side3 => repeat (first | exact (Kd.C_below HR0_6.out HB.out) | (with_reducible refine Kd.C_alloc ?_ _) | (with_reducible refine Kd.C_drewN ?_ _) | (with_reducible refine Kd.C_drew ?_))); (case side4 => exact HC0_6.out); rintro e w11 ⟨rfl, hb⟩; refine ⟨_, rfl, ?_⟩; have n0_ := Aside0.mk (blk_below (g := gb936) (o := .cells #[.int .i64 a0_0, .int .i64 a0_1, .int .i64 a0_2, .int .i64 a0_3, .int .i64 a0_4, .slice A0_5 l0_5.length c0_5, .slice A0_6 l0_6.length c0_6, .int .i64 a0_7, .int .i64 a0_8, .int .i64 a0_9, .int .i64 a0_10, .int .i64 a0_11, .int .i64 a0_12, .int .i64 a0_13] 89 (0, 0)) (by (with_reducible repeat (first | refine blk_drewN ?_ _ | refine blk_drew ?_ | refine blk_alloc ?_ _)); exact BK936.out) hb); have n1_ := Aside0.mk (below_step (by repeat (first | (with_reducible first | exact HB.out | apply below_alloc | apply pw_below_drewN | apply below_drew1 | refine below_set ?_ GE936.out) | exact HB.out)) hb); clear BK936; clear HB; have BK936 := n0_; have HB := n1_; clear n0_ n1_; (try clear hb); (try clear hb2); (try clear hk); (try clear hi); have hcz12_0 : w11.cell? ⟨gb936, 0, none⟩ = some (.int .i64 a0_0) := (blk_cell BK936.out 0).trans rfl; have hcz12_1 : w11.cell? ⟨gb936, 1, none⟩ = some (.int .i64 a0_1) := (blk_cell BK936.out 1).trans rfl; have hcz12_2 : w11.cell? ⟨gb936, 2, none⟩ = some (.int .i64 a0_2) := (blk_cell BK936.out 2).trans rfl; have hcz12_3 : w11.cell? ⟨gb936, 3, none⟩ = some (.int .i64 a0_3) := (blk_cell BK936.out 3).trans rfl; have hcz12_4 : w11.cell? ⟨gb936, 4, none⟩ = some (.int .i64 a0_4) := (blk_cell BK936.out 4).trans rfl; have hcz12_5 : w11.cell? ⟨gb936, 5, none⟩ = some (.slice A0_5 l0_5.length c0_5) := (blk_cell BK936.out 5).trans rfl; have hcz12_6 : w11.cell? ⟨gb936, 6, none⟩ = some (.slice A0_6 l0_6.length c0_6) := (blk_cell BK936.out 6).trans rfl; have hcz12_7 : w11.cell? ⟨gb936, 7, none⟩ = some (.int .i64 a0_7) := (blk_cell BK936.out 7).trans rfl; have hcz12_8 : w11.cell? ⟨gb936, 8, none⟩ = some (.int .i64 a0_8) := (blk_cell BK936.out 8).trans rfl; have hcz12_9 : w11.cell? ⟨gb936, 9, none⟩ = some (.int .i64 a0_9) := (blk_cell BK936.out 9).trans rfl; have hcz12_10 : w11.cell? ⟨gb936, 10, none⟩ = some (.int .i64 a0_10) := (blk_cell BK936.out 10).trans rfl; have hcz12_11 : w11.cell? ⟨gb936, 11, none⟩ = some (.int .i64 a0_11) := (blk_cell BK936.out 11).trans rfl; have hcz12_12 : w11.cell? ⟨gb936, 12, none⟩ = some (.int .i64 a0_12) := (blk_cell BK936.out 12).trans rfl; have hcz12_13 : w11.cell? ⟨gb936, 13, none⟩ = some (.int .i64 a0_13) := (blk_cell BK936.out 13).trans rfl; have hfz12_0 := blk_frozen BK936.out 0; have hfz12_1 := blk_frozen BK936.out 1; have hfz12_2 := blk_frozen BK936.out 2; have hfz12_3 := blk_frozen BK936.out 3; have hfz12_4 := blk_frozen BK936.out 4; have hfz12_5 := blk_frozen BK936.out 5; have hfz12_6 := blk_frozen BK936.out 6; have hfz12_7 := blk_frozen BK936.out 7; have hfz12_8 := blk_frozen BK936.out 8; have hfz12_9 := blk_frozen BK936.out 9; have hfz12_10 := blk_frozen BK936.out 10; have hfz12_11 := blk_frozen BK936.out 11; have hfz12_12 := blk_frozen BK936.out 12; have hfz12_13 := blk_frozen BK936.out 13) | (go_at_call 106; (with_reducible refine (impl_IsZone.calls a0_7 a0_8 a0_9 a0_10 a0_11 true _ A4.out).mono ?_); rintro e w13 ⟨rfl, hb⟩; have n0_ := Aside0.mk (blk_below (g := gb936) (o := .cells #[.int .i64 a0_0, .int .i64 a0_1, .int .i64 a0_2, .int .i64 a0_3, .int .i64 a0_4, .slice A0_5 l0_5.length c0_5, .slice A0_6 l0_6.length c0_6, .int .i64 a0_7, .int .i64 a0_8, .int .i64 a0_9, .int .i64 a0_10, .int .i64 a0_11, .int .i64 a0_12, .int .i64 a0_13] 89 (0, 0)) (by (with_reducible repeat (first | refine blk_drewN ?_ _ | refine blk_drew ?_ | refine blk_alloc ?_ _)); exact BK936.out) hb); have n1_ := Aside0.mk (below_step (by repeat (first | (with_reducible first | exact HB.out | apply below_alloc | apply pw_below_drewN | apply below_drew1 | refine below_set ?_ GE936.out) | exact HB.out)) hb); clear BK936; clear HB; have BK936 := n0_; have HB := n1_; clear n0_ n1_; (try clear hb); (try clear hb2); (try clear hk); (try clear hi); have hcz14_0 : w13.cell? ⟨gb936, 0, none⟩ = some (.int .i64 a0_0) := (blk_cell BK936.out 0).trans rfl; have hcz14_1 : w13.cell? ⟨gb936, 1, none⟩ = some (.int .i64 a0_1) := (blk_cell BK936.out 1).trans rfl; have hcz14_2 : w13.cell? ⟨gb936, 2, none⟩ = some (.int .i64 a0_2) := (blk_cell BK936.out 2).trans rfl; have hcz14_3 : w13.cell? ⟨gb936, 3, none⟩ = some (.int .i64 a0_3) := (blk_cell BK936.out 3).trans rfl; have hcz14_4 : w13.cell? ⟨gb936, 4, none⟩ = some (.int .i64 a0_4) := (blk_cell BK936.out 4).trans rfl; have hcz14_5 : w13.cell? ⟨gb936, 5, none⟩ = some (.slice A0_5 l0_5.length c0_5) := (blk_cell BK936.out 5).trans rfl; have hcz14_6 : w13.cell? ⟨gb936, 6, none⟩ = some (.slice A0_6 l0_6.length c0_6) := (blk_cell BK936.out 6).trans rfl; have hcz14_7 : w13.cell? ⟨gb936, 7, none⟩ = some (.int .i64 a0_7) := (blk_cell BK936.out 7).trans rfl; have hcz14_8 : w13.cell? ⟨gb936, 8, none⟩ = some (.int .i64 a0_8) := (blk_cell BK936.out 8).trans rfl; have hcz14_9 : w13.cell? ⟨gb936, 9, none⟩ = some (.int .i64 a0_9) := (blk_cell BK936.out 9).trans rfl; have hcz14_10 : w13.cell? ⟨gb936, 10, none⟩ = some (.int .i64 a0_10) := (blk_cell BK936.out 10).trans rfl; have hcz14_11 : w13.cell? ⟨gb936, 11, none⟩ = some (.int .i64 a0_11) := (blk_cell BK936.out 11).trans rfl; have hcz14_12 : w13.cell? ⟨gb936, 12, none⟩ = some (.int .i64 a0_12) := (blk_cell BK936.out 12).trans rfl; have hcz14_13 : w13.cell? ⟨gb936, 13, none⟩ = some (.int .i64 a0_13) := (blk_cell BK936.out 13).trans rfl; have hfz14_0 := blk_frozen BK936.out 0; have hfz14_1 := blk_frozen BK936.out 1; have hfz14_2 := blk_frozen BK936.out 2; have hfz14_3 := blk_frozen BK936.out 3; have hfz14_4 := blk_frozen BK936.out 4; have hfz14_5 := blk_frozen BK936.out 5; have hfz14_6 := blk_frozen BK936.out 6; have hfz14_7 := blk_frozen BK936.out 7; have hfz14_8 := blk_frozen BK936.out 8; have hfz14_9 := blk_frozen BK936.out 9; have hfz14_10 := blk_frozen BK936.out 10; have hfz14_11 := blk_frozen BK936.out 11; have hfz14_12 := blk_frozen BK936.out 12; have hfz14_13 := blk_frozen BK936.out 13) | (go_at_call 75; (with_reducible refine (impl_in.calls a0_12 (-648000) 648000 true _ A6.out).mono ?_); rintro e w' ⟨rfl, ⟨nd, rfl⟩⟩) | (go_at_call 107; (with_reducible refine (impl_isDayNumber.calls k a0_13 t940 _ A8.out).mono ?_); rintro e w15 ⟨rfl, hb⟩; have n0_ := Aside0.mk (blk_below (g := gb936) (o := .cells #[.int .i64 a0_0, .int .i64 a0_1, .int .i64 a0_2, .int .i64 a0_3, .int .i64 a0_4, .slice A0_5 l0_5.length c0_5, .slice A0_6 l0_6.length c0_6, .int .i64 a0_7, .int .i64 a0_8, .int .i64 a0_9, .int .i64 a0_10, .int .i64 a0_11, .int .i64 a0_12, .int .i64 a0_13] 89 (0, 0)) (by (with_reducible repeat (first | refine blk_drewN ?_ _ | refine blk_drew ?_ | refine blk_alloc ?_ _)); exact BK936.out) hb); have n1_ := Aside0.mk (below_step (by repeat (first | (with_reducible first | exact HB.out | apply below_alloc | apply pw_below_drewN | apply below_drew1 | refine below_set ?_ GE936.out) | exact HB.out)) hb); clear BK936; clear HB; have BK936 := n0_; have HB := n1_; clear n0_ n1_; (try clear hb); (try clear hb2); (try clear hk); (try clear hi)))
        go_ret
        exact ⟨by first | rfl | (simp [errW_none, errW_some] <;> rfl) | (simp [*, errW_none, errW_some] <;> rfl), by repeat (first | (with_reducible first | exact HB.out | apply below_alloc | apply pw_below_drewN | apply below_drew1 | refine below_set ?_ GE936.out) | exact HB.out)⟩
      · replace c7 := Bool.eq_false_iff.mpr c7
        subst c7
        have H1 : (some false) = some r := by rw [if_neg (show ¬ (false = true) by decide)] at H; exact H
        clear H
        have H := H1
        clear H1
        obtain rfl := Option.some.inj H
        go_enter Try.func54, Try.ntmps54
        go_wp2_with (first | ((with_reducible refine gate_dst (N := 1) rfl ?_); refine box_event ?hg (N := 1) ?hd (cs := #[.int .i64 a0_0, .int .i64 a0_1, .int .i64 a0_2, .int .i64 a0_3, .int .i64 a0_4, .slice A0_5 l0_5.length c0_5, .slice A0_6 l0_6.length c0_6, .int .i64 a0_7, .int .i64 a0_8, .int .i64 a0_9, .int .i64 a0_10, .int .i64 a0_11, .int .i64 a0_12, .int .i64 a0_13]) (t := 89) ?hr ?_; (case hd => rfl); (case hg => rfl); (case hr => first | (go_simp; done) | (go_simp; rfl)); intro gb936 hg w16 hbox hb; have n0_ := Aside0.mk (below_step (by repeat (first | (with_reducible first | exact HB.out | apply below_alloc | apply pw_below_drewN | apply below_drew1) | exact HB.out)) hb); have n1_ := Aside0.mk (hbox); have n2_ := Aside0.mk ((by rw [hg]; exact (below_size (by repeat (first | (with_reducible first | exact HB.out | apply below_alloc | apply pw_below_drewN | apply below_drew1) | exact HB.out))) : w.heap.size ≤ gb936)); have n3_ := Aside0.mk ((by rw [hg]; exact (below_size (by repeat (first | (with_reducible first | exact HB.out | apply below_alloc | apply pw_below_drewN | apply below_drew1) | exact HB.out))) : w.heap.size ≤ gb936)); clear HB; have HB := n0_; have BK936 := n1_; have GW936 := n2_; have GE936 := n3_; clear n0_ n1_ n2_ n3_; clear hb hbox hg; have hcz17_0 : w16.cell? ⟨gb936, 0, none⟩ = some (.int .i64 a0_0) := (blk_cell BK936.out 0).trans rfl; have hcz17_1 : w16.cell? ⟨gb936, 1, none⟩ = some (.int .i64 a0_1) := (blk_cell BK936.out 1).trans rfl; have hcz17_2 : w16.cell? ⟨gb936, 2, none⟩ = some (.int .i64 a0_2) := (blk_cell BK936.out 2).trans rfl; have hcz17_3 : w16.cell? ⟨gb936, 3, none⟩ = some (.int .i64 a0_3) := (blk_cell BK936.out 3).trans rfl; have hcz17_4 : w16.cell? ⟨gb936, 4, none⟩ = some (.int .i64 a0_4) := (blk_cell BK936.out 4).trans rfl; have hcz17_5 : w16.cell? ⟨gb936, 5, none⟩ = some (.slice A0_5 l0_5.length c0_5) := (blk_cell BK936.out 5).trans rfl; have hcz17_6 : w16.cell? ⟨gb936, 6, none⟩ = some (.slice A0_6 l0_6.length c0_6) := (blk_cell BK936.out 6).trans rfl; have hcz17_7 : w16.cell? ⟨gb936, 7, none⟩ = some (.int .i64 a0_7) := (blk_cell BK936.out 7).trans rfl; have hcz17_8 : w16.cell? ⟨gb936, 8, none⟩ = some (.int .i64 a0_8) := (blk_cell BK936.out 8).trans rfl; have hcz17_9 : w16.cell? ⟨gb936, 9, none⟩ = some (.int .i64 a0_9) := (blk_cell BK936.out 9).trans rfl; have hcz17_10 : w16.cell? ⟨gb936, 10, none⟩ = some (.int .i64 a0_10) := (blk_cell BK936.out 10).trans rfl; have hcz17_11 : w16.cell? ⟨gb936, 11, none⟩ = some (.int .i64 a0_11) := (blk_cell BK936.out 11).trans rfl; have hcz17_12 : w16.cell? ⟨gb936, 12, none⟩ = some (.int .i64 a0_12) := (blk_cell BK936.out 12).trans rfl; have hcz17_13 : w16.cell? ⟨gb936, 13, none⟩ = some (.int .i64 a0_13) := (blk_cell BK936.out 13).trans rfl; have hfz17_0 := blk_frozen BK936.out 0; have hfz17_1 := blk_frozen BK936.out 1; have hfz17_2 := blk_frozen BK936.out 2; have hfz17_3 := blk_frozen BK936.out 3; have hfz17_4 := blk_frozen BK936.out 4; have hfz17_5 := blk_frozen BK936.out 5; have hfz17_6 := blk_frozen BK936.out 6; have hfz17_7 := blk_frozen BK936.out 7; have hfz17_8 := blk_frozen BK936.out 8; have hfz17_9 := blk_frozen BK936.out 9; have hfz17_10 := blk_frozen BK936.out 10; have hfz17_11 := blk_frozen BK936.out 11; have hfz17_12 := blk_frozen BK936.out 12; have hfz17_13 := blk_frozen BK936.out 13) | ((with_reducible refine gate_callee (f := 76) rfl ?_); refine goesL_ (some 5) rfl rfl Try.func76 (by kernel_rfl) rfl #[.agg #[.int .i64 a0_0, .int .i64 a0_1, .int .i64 a0_2, .int .i64 a0_3, .int .i64 a0_4, .slice A0_5 l0_5.length c0_5, .slice A0_6 l0_6.length c0_6]] rfl (by (try simp only [List.map_toArray, List.map_cons, List.map_nil]); first | done | rfl | (simp only [List.length_drop, List.length_take]; rfl)) ?_; (with_reducible refine (impl_IsProject.calls k a0_0 a0_1 a0_2 a0_3 a0_4 _ _ l0_5 _ _ l0_6 true _ ?side1 ?side2 ?side3 ?side4 A2.out).mono ?_); (case side1 => repeat (first | exact (Kd.C_below HR0_5.out HB.out) | (with_reducible refine Kd.C_alloc ?_ _) | (with_reducible refine Kd.C_drewN ?_ _) | (with_reducible refine Kd.C_drew ?_))); (case side2 => exact HC0_5.out); (case side3 => repeat (first | exact (Kd.C_below HR0_6.out HB.out) | (with_reducible refine Kd.C_alloc ?_ _) | (with_reducible refine Kd.C_drewN ?_ _) | (with_reducible refine Kd.C_drew ?_))); (case side4 => exact HC0_6.out); rintro e w18 ⟨rfl, hb⟩; refine ⟨_, rfl, ?_⟩; have n0_ := Aside0.mk (blk_below (g := gb936) (o := .cells #[.int .i64 a0_0, .int .i64 a0_1, .int .i64 a0_2, .int .i64 a0_3, .int .i64 a0_4, .slice A0_5 l0_5.length c0_5, .slice A0_6 l0_6.length c0_6, .int .i64 a0_7, .int .i64 a0_8, .int .i64 a0_9, .int .i64 a0_10, .int .i64 a0_11, .int .i64 a0_12, .int .i64 a0_13] 89 (0, 0)) (by (with_reducible repeat (first | refine blk_drewN ?_ _ | refine blk_drew ?_ | refine blk_alloc ?_ _)); exact BK936.out) hb); have n1_ := Aside0.mk (below_step (by repeat (first | (with_reducible first | exact HB.out | apply below_alloc | apply pw_below_drewN | apply below_drew1 | refine below_set ?_ GE936.out) | exact HB.out)) hb); clear BK936; clear HB; have BK936 := n0_; have HB := n1_; clear n0_ n1_; (try clear hb); (try clear hb2); (try clear hk); (try clear hi); have hcz19_0 : w18.cell? ⟨gb936, 0, none⟩ = some (.int .i64 a0_0) := (blk_cell BK936.out 0).trans rfl; have hcz19_1 : w18.cell? ⟨gb936, 1, none⟩ = some (.int .i64 a0_1) := (blk_cell BK936.out 1).trans rfl; have hcz19_2 : w18.cell? ⟨gb936, 2, none⟩ = some (.int .i64 a0_2) := (blk_cell BK936.out 2).trans rfl; have hcz19_3 : w18.cell? ⟨gb936, 3, none⟩ = some (.int .i64 a0_3) := (blk_cell BK936.out 3).trans rfl; have hcz19_4 : w18.cell? ⟨gb936, 4, none⟩ = some (.int .i64 a0_4) := (blk_cell BK936.out 4).trans rfl; have hcz19_5 : w18.cell? ⟨gb936, 5, none⟩ = some (.slice A0_5 l0_5.length c0_5) := (blk_cell BK936.out 5).trans rfl; have hcz19_6 : w18.cell? ⟨gb936, 6, none⟩ = some (.slice A0_6 l0_6.length c0_6) := (blk_cell BK936.out 6).trans rfl; have hcz19_7 : w18.cell? ⟨gb936, 7, none⟩ = some (.int .i64 a0_7) := (blk_cell BK936.out 7).trans rfl; have hcz19_8 : w18.cell? ⟨gb936, 8, none⟩ = some (.int .i64 a0_8) := (blk_cell BK936.out 8).trans rfl; have hcz19_9 : w18.cell? ⟨gb936, 9, none⟩ = some (.int .i64 a0_9) := (blk_cell BK936.out 9).trans rfl; have hcz19_10 : w18.cell? ⟨gb936, 10, none⟩ = some (.int .i64 a0_10) := (blk_cell BK936.out 10).trans rfl; have hcz19_11 : w18.cell? ⟨gb936, 11, none⟩ = some (.int .i64 a0_11) := (blk_cell BK936.out 11).trans rfl; have hcz19_12 : w18.cell? ⟨gb936, 12, none⟩ = some (.int .i64 a0_12) := (blk_cell BK936.out 12).trans rfl; have hcz19_13 : w18.cell? ⟨gb936, 13, none⟩ = some (.int .i64 a0_13) := (blk_cell BK936.out 13).trans rfl; have hfz19_0 := blk_frozen BK936.out 0; have hfz19_1 := blk_frozen BK936.out 1; have hfz19_2 := blk_frozen BK936.out 2; have hfz19_3 := blk_frozen BK936.out 3; have hfz19_4 := blk_frozen BK936.out 4; have hfz19_5 := blk_frozen BK936.out 5; have hfz19_6 := blk_frozen BK936.out 6; have hfz19_7 := blk_frozen BK936.out 7; have hfz19_8 := blk_frozen BK936.out 8; have hfz19_9 := blk_frozen BK936.out 9; have hfz19_10 := blk_frozen BK936.out 10; have hfz19_11 := blk_frozen BK936.out 11; have hfz19_12 := blk_frozen BK936.out 12; have hfz19_13 := blk_frozen BK936.out 13) | (go_at_call 106; (with_reducible refine (impl_IsZone.calls a0_7 a0_8 a0_9 a0_10 a0_11 true _ A4.out).mono ?_); rintro e w20 ⟨rfl, hb⟩; have n0_ := Aside0.mk (blk_below (g := gb936) (o := .cells #[.int .i64 a0_0, .int .i64 a0_1, .int .i64 a0_2, .int .i64 a0_3, .int .i64 a0_4, .slice A0_5 l0_5.length c0_5, .slice A0_6 l0_6.length c0_6, .int .i64 a0_7, .int .i64 a0_8, .int .i64 a0_9, .int .i64 a0_10, .int .i64 a0_11, .int .i64 a0_12, .int .i64 a0_13] 89 (0, 0)) (by (with_reducible repeat (first | refine blk_drewN ?_ _ | refine blk_drew ?_ | refine blk_alloc ?_ _)); exact BK936.out) hb); have n1_ := Aside0.mk (below_step (by repeat (first | (with_reducible first | exact HB.out | apply below_alloc | apply pw_below_drewN | apply below_drew1 | refine below_set ?_ GE936.out) | exact HB.out)) hb); clear BK936; clear HB; have BK936 := n0_; have HB := n1_; clear n0_ n1_; (try clear hb); (try clear hb2); (try clear hk); (try clear hi); have hcz21_0 : w20.cell? ⟨gb936, 0, none⟩ = some (.int .i64 a0_0) := (blk_cell BK936.out 0).trans rfl; have hcz21_1 : w20.cell? ⟨gb936, 1, none⟩ = some (.int .i64 a0_1) := (blk_cell BK936.out 1).trans rfl; have hcz21_2 : w20.cell? ⟨gb936, 2, none⟩ = some (.int .i64 a0_2) := (blk_cell BK936.out 2).trans rfl; have hcz21_3 : w20.cell? ⟨gb936, 3, none⟩ = some (.int .i64 a0_3) := (blk_cell BK936.out 3).trans rfl; have hcz21_4 : w20.cell? ⟨gb936, 4, none⟩ = some (.int .i64 a0_4) := (blk_cell BK936.out 4).trans rfl; have hcz21_5 : w20.cell? ⟨gb936, 5, none⟩ = some (.slice A0_5 l0_5.length c0_5) := (blk_cell BK936.out 5).trans rfl; have hcz21_6 : w20.cell? ⟨gb936, 6, none⟩ = some (.slice A0_6 l0_6.length c0_6) := (blk_cell BK936.out 6).trans rfl; have hcz21_7 : w20.cell? ⟨gb936, 7, none⟩ = some (.int .i64 a0_7) := (blk_cell BK936.out 7).trans rfl; have hcz21_8 : w20.cell? ⟨gb936, 8, none⟩ = some (.int .i64 a0_8) := (blk_cell BK936.out 8).trans rfl; have hcz21_9 : w20.cell? ⟨gb936, 9, none⟩ = some (.int .i64 a0_9) := (blk_cell BK936.out 9).trans rfl; have hcz21_10 : w20.cell? ⟨gb936, 10, none⟩ = some (.int .i64 a0_10) := (blk_cell BK936.out 10).trans rfl; have hcz21_11 : w20.cell? ⟨gb936, 11, none⟩ = some (.int .i64 a0_11) := (blk_cell BK936.out 11).trans rfl; have hcz21_12 : w20.cell? ⟨gb936, 12, none⟩ = some (.int .i64 a0_12) := (blk_cell BK936.out 12).trans rfl; have hcz21_13 : w20.cell? ⟨gb936, 13, none⟩ = some (.int .i64 a0_13) := (blk_cell BK936.out 13).trans rfl; have hfz21_0 := blk_frozen BK936.out 0; have hfz21_1 := blk_frozen BK936.out 1; have hfz21_2 := blk_frozen BK936.out 2; have hfz21_3 := blk_frozen BK936.out 3; have hfz21_4 := blk_frozen BK936.out 4; have hfz21_5 := blk_frozen BK936.out 5; have hfz21_6 := blk_frozen BK936.out 6; have hfz21_7 := blk_frozen BK936.out 7; have hfz21_8 := blk_frozen BK936.out 8; have hfz21_9 := blk_frozen BK936.out 9; have hfz21_10 := blk_frozen BK936.out 10; have hfz21_11 := blk_frozen BK936.out 11; have hfz21_12 := blk_frozen BK936.out 12; have hfz21_13 := blk_frozen BK936.out 13) | (go_at_call 75; (with_reducible refine (impl_in.calls a0_12 (-648000) 648000 false _ A6.out).mono ?_); rintro e w' ⟨rfl, ⟨nd, rfl⟩⟩))
        go_ret
        exact ⟨by first | rfl | (simp [errW_none, errW_some] <;> rfl) | (simp [*, errW_none, errW_some] <;> rfl), by repeat (first | (with_reducible first | exact HB.out | apply below_alloc | apply pw_below_drewN | apply below_drew1 | refine below_set ?_ GE936.out) | exact HB.out)⟩
    · replace c5 := Bool.eq_false_iff.mpr c5
      subst c5
      have H1 : (some false) = some r := by rw [if_neg (show ¬ (false = true) by decide)] at H; exact H
      clear H
      have H := H1
      clear H1
      obtain rfl := Option.some.inj H
      go_enter Try.func54, Try.ntmps54
      go_wp2_with (first | ((with_reducible refine gate_dst (N := 1) rfl ?_); refine box_event ?hg (N := 1) ?hd (cs := #[.int .i64 a0_0, .int .i64 a0_1, .int .i64 a0_2, .int .i64 a0_3, .int .i64 a0_4, .slice A0_5 l0_5.length c0_5, .slice A0_6 l0_6.length c0_6, .int .i64 a0_7, .int .i64 a0_8, .int .i64 a0_9, .int .i64 a0_10, .int .i64 a0_11, .int .i64 a0_12, .int .i64 a0_13]) (t := 89) ?hr ?_; (case hd => rfl); (case hg => rfl); (case hr => first | (go_simp; done) | (go_simp; rfl)); intro gb936 hg w22 hbox hb; have n0_ := Aside0.mk (below_step (by repeat (first | (with_reducible first | exact HB.out | apply below_alloc | apply pw_below_drewN | apply below_drew1) | exact HB.out)) hb); have n1_ := Aside0.mk (hbox); have n2_ := Aside0.mk ((by rw [hg]; exact (below_size (by repeat (first | (with_reducible first | exact HB.out | apply below_alloc | apply pw_below_drewN | apply below_drew1) | exact HB.out))) : w.heap.size ≤ gb936)); have n3_ := Aside0.mk ((by rw [hg]; exact (below_size (by repeat (first | (with_reducible first | exact HB.out | apply below_alloc | apply pw_below_drewN | apply below_drew1) | exact HB.out))) : w.heap.size ≤ gb936)); clear HB; have HB := n0_; have BK936 := n1_; have GW936 := n2_; have GE936 := n3_; clear n0_ n1_ n2_ n3_; clear hb hbox hg; have hcz23_0 : w22.cell? ⟨gb936, 0, none⟩ = some (.int .i64 a0_0) := (blk_cell BK936.out 0).trans rfl; have hcz23_1 : w22.cell? ⟨gb936, 1, none⟩ = some (.int .i64 a0_1) := (blk_cell BK936.out 1).trans rfl; have hcz23_2 : w22.cell? ⟨gb936, 2, none⟩ = some (.int .i64 a0_2) := (blk_cell BK936.out 2).trans rfl; have hcz23_3 : w22.cell? ⟨gb936, 3, none⟩ = some (.int .i64 a0_3) := (blk_cell BK936.out 3).trans rfl; have hcz23_4 : w22.cell? ⟨gb936, 4, none⟩ = some (.int .i64 a0_4) := (blk_cell BK936.out 4).trans rfl; have hcz23_5 : w22.cell? ⟨gb936, 5, none⟩ = some (.slice A0_5 l0_5.length c0_5) := (blk_cell BK936.out 5).trans rfl; have hcz23_6 : w22.cell? ⟨gb936, 6, none⟩ = some (.slice A0_6 l0_6.length c0_6) := (blk_cell BK936.out 6).trans rfl; have hcz23_7 : w22.cell? ⟨gb936, 7, none⟩ = some (.int .i64 a0_7) := (blk_cell BK936.out 7).trans rfl; have hcz23_8 : w22.cell? ⟨gb936, 8, none⟩ = some (.int .i64 a0_8) := (blk_cell BK936.out 8).trans rfl; have hcz23_9 : w22.cell? ⟨gb936, 9, none⟩ = some (.int .i64 a0_9) := (blk_cell BK936.out 9).trans rfl; have hcz23_10 : w22.cell? ⟨gb936, 10, none⟩ = some (.int .i64 a0_10) := (blk_cell BK936.out 10).trans rfl; have hcz23_11 : w22.cell? ⟨gb936, 11, none⟩ = some (.int .i64 a0_11) := (blk_cell BK936.out 11).trans rfl; have hcz23_12 : w22.cell? ⟨gb936, 12, none⟩ = some (.int .i64 a0_12) := (blk_cell BK936.out 12).trans rfl; have hcz23_13 : w22.cell? ⟨gb936, 13, none⟩ = some (.int .i64 a0_13) := (blk_cell BK936.out 13).trans rfl; have hfz23_0 := blk_frozen BK936.out 0; have hfz23_1 := blk_frozen BK936.out 1; have hfz23_2 := blk_frozen BK936.out 2; have hfz23_3 := blk_frozen BK936.out 3; have hfz23_4 := blk_frozen BK936.out 4; have hfz23_5 := blk_frozen BK936.out 5; have hfz23_6 := blk_frozen BK936.out 6; have hfz23_7 := blk_frozen BK936.out 7; have hfz23_8 := blk_frozen BK936.out 8; have hfz23_9 := blk_frozen BK936.out 9; have hfz23_10 := blk_frozen BK936.out 10; have hfz23_11 := blk_frozen BK936.out 11; have hfz23_12 := blk_frozen BK936.out 12; have hfz23_13 := blk_frozen BK936.out 13) | ((with_reducible refine gate_callee (f := 76) rfl ?_); refine goesL_ (some 5) rfl rfl Try.func76 (by kernel_rfl) rfl #[.agg #[.int .i64 a0_0, .int .i64 a0_1, .int .i64 a0_2, .int .i64 a0_3, .int .i64 a0_4, .slice A0_5 l0_5.length c0_5, .slice A0_6 l0_6.length c0_6]] rfl (by (try simp only [List.map_toArray, List.map_cons, List.map_nil]); first | done | rfl | (simp only [List.length_drop, List.length_take]; rfl)) ?_; (with_reducible refine (impl_IsProject.calls k a0_0 a0_1 a0_2 a0_3 a0_4 _ _ l0_5 _ _ l0_6 true _ ?side1 ?side2 ?side3 ?side4 A2.out).mono ?_); (case side1 => repeat (first | exact (Kd.C_below HR0_5.out HB.out) | (with_reducible refine Kd.C_alloc ?_ _) | (with_reducible refine Kd.C_drewN ?_ _) | (with_reducible refine Kd.C_drew ?_))); (case side2 => exact HC0_5.out); (case side3 => repeat (first | exact (Kd.C_below HR0_6.out HB.out) | (with_reducible refine Kd.C_alloc ?_ _) | (with_reducible refine Kd.C_drewN ?_ _) | (with_reducible refine Kd.C_drew ?_))); (case side4 => exact HC0_6.out); rintro e w24 ⟨rfl, hb⟩; refine ⟨_, rfl, ?_⟩; have n0_ := Aside0.mk (blk_below (g := gb936) (o := .cells #[.int .i64 a0_0, .int .i64 a0_1, .int .i64 a0_2, .int .i64 a0_3, .int .i64 a0_4, .slice A0_5 l0_5.length c0_5, .slice A0_6 l0_6.length c0_6, .int .i64 a0_7, .int .i64 a0_8, .int .i64 a0_9, .int .i64 a0_10, .int .i64 a0_11, .int .i64 a0_12, .int .i64 a0_13] 89 (0, 0)) (by (with_reducible repeat (first | refine blk_drewN ?_ _ | refine blk_drew ?_ | refine blk_alloc ?_ _)); exact BK936.out) hb); have n1_ := Aside0.mk (below_step (by repeat (first | (with_reducible first | exact HB.out | apply below_alloc | apply pw_below_drewN | apply below_drew1 | refine below_set ?_ GE936.out) | exact HB.out)) hb); clear BK936; clear HB; have BK936 := n0_; have HB := n1_; clear n0_ n1_; (try clear hb); (try clear hb2); (try clear hk); (try clear hi); have hcz25_0 : w24.cell? ⟨gb936, 0, none⟩ = some (.int .i64 a0_0) := (blk_cell BK936.out 0).trans rfl; have hcz25_1 : w24.cell? ⟨gb936, 1, none⟩ = some (.int .i64 a0_1) := (blk_cell BK936.out 1).trans rfl; have hcz25_2 : w24.cell? ⟨gb936, 2, none⟩ = some (.int .i64 a0_2) := (blk_cell BK936.out 2).trans rfl; have hcz25_3 : w24.cell? ⟨gb936, 3, none⟩ = some (.int .i64 a0_3) := (blk_cell BK936.out 3).trans rfl; have hcz25_4 : w24.cell? ⟨gb936, 4, none⟩ = some (.int .i64 a0_4) := (blk_cell BK936.out 4).trans rfl; have hcz25_5 : w24.cell? ⟨gb936, 5, none⟩ = some (.slice A0_5 l0_5.length c0_5) := (blk_cell BK936.out 5).trans rfl; have hcz25_6 : w24.cell? ⟨gb936, 6, none⟩ = some (.slice A0_6 l0_6.length c0_6) := (blk_cell BK936.out 6).trans rfl; have hcz25_7 : w24.cell? ⟨gb936, 7, none⟩ = some (.int .i64 a0_7) := (blk_cell BK936.out 7).trans rfl; have hcz25_8 : w24.cell? ⟨gb936, 8, none⟩ = some (.int .i64 a0_8) := (blk_cell BK936.out 8).trans rfl; have hcz25_9 : w24.cell? ⟨gb936, 9, none⟩ = some (.int .i64 a0_9) := (blk_cell BK936.out 9).trans rfl; have hcz25_10 : w24.cell? ⟨gb936, 10, none⟩ = some (.int .i64 a0_10) := (blk_cell BK936.out 10).trans rfl; have hcz25_11 : w24.cell? ⟨gb936, 11, none⟩ = some (.int .i64 a0_11) := (blk_cell BK936.out 11).trans rfl; have hcz25_12 : w24.cell? ⟨gb936, 12, none⟩ = some (.int .i64 a0_12) := (blk_cell BK936.out 12).trans rfl; have hcz25_13 : w24.cell? ⟨gb936, 13, none⟩ = some (.int .i64 a0_13) := (blk_cell BK936.out 13).trans rfl; have hfz25_0 := blk_frozen BK936.out 0; have hfz25_1 := blk_frozen BK936.out 1; have hfz25_2 := blk_frozen BK936.out 2; have hfz25_3 := blk_frozen BK936.out 3; have hfz25_4 := blk_frozen BK936.out 4; have hfz25_5 := blk_frozen BK936.out 5; have hfz25_6 := blk_frozen BK936.out 6; have hfz25_7 := blk_frozen BK936.out 7; have hfz25_8 := blk_frozen BK936.out 8; have hfz25_9 := blk_frozen BK936.out 9; have hfz25_10 := blk_frozen BK936.out 10; have hfz25_11 := blk_frozen BK936.out 11; have hfz25_12 := blk_frozen BK936.out 12; have hfz25_13 := blk_frozen BK936.out 13) | (go_at_call 106; (with_reducible refine (impl_IsZone.calls a0_7 a0_8 a0_9 a0_10 a0_11 false _ A4.out).mono ?_); rintro e w26 ⟨rfl, hb⟩; have n0_ := Aside0.mk (blk_below (g := gb936) (o := .cells #[.int .i64 a0_0, .int .i64 a0_1, .int .i64 a0_2, .int .i64 a0_3, .int .i64 a0_4, .slice A0_5 l0_5.length c0_5, .slice A0_6 l0_6.length c0_6, .int .i64 a0_7, .int .i64 a0_8, .int .i64 a0_9, .int .i64 a0_10, .int .i64 a0_11, .int .i64 a0_12, .int .i64 a0_13] 89 (0, 0)) (by (with_reducible repeat (first | refine blk_drewN ?_ _ | refine blk_drew ?_ | refine blk_alloc ?_ _)); exact BK936.out) hb); have n1_ := Aside0.mk (below_step (by repeat (first | (with_reducible first | exact HB.out | apply below_alloc | apply pw_below_drewN | apply below_drew1 | refine below_set ?_ GE936.out) | exact HB.out)) hb); clear BK936; clear HB; have BK936 := n0_; have HB := n1_; clear n0_ n1_; (try clear hb); (try clear hb2); (try clear hk); (try clear hi)))
      go_ret
      exact ⟨by first | rfl | (simp [errW_none, errW_some] <;> rfl) | (simp [*, errW_none, errW_some] <;> rfl), by repeat (first | (with_reducible first | exact HB.out | apply below_alloc | apply pw_below_drewN | apply below_drew1 | refine below_set ?_ GE936.out) | exact HB.out)⟩
  · replace c3 := Bool.eq_false_iff.mpr c3
    subst c3
    have H1 : (some false) = some r := by rw [if_neg (show ¬ (false = true) by decide)] at H; exact H
    clear H
    have H := H1
    clear H1
    obtain rfl := Option.some.inj H
    go_enter Try.func54, Try.ntmps54
    go_wp2_with (first | ((with_reducible refine gate_dst (N := 1) rfl ?_); refine box_event ?hg (N := 1) ?hd (cs := #[.int .i64 a0_0, .int .i64 a0_1, .int .i64 a0_2, .int .i64 a0_3, .int .i64 a0_4, .slice A0_5 l0_5.length c0_5, .slice A0_6 l0_6.length c0_6, .int .i64 a0_7, .int .i64 a0_8, .int .i64 a0_9, .int .i64 a0_10, .int .i64 a0_11, .int .i64 a0_12, .int .i64 a0_13]) (t := 89) ?hr ?_; (case hd => rfl); (case hg => rfl); (case hr => first | (go_simp; done) | (go_simp; rfl)); intro gb936 hg w27 hbox hb; have n0_ := Aside0.mk (below_step (by repeat (first | (with_reducible first | exact HB.out | apply below_alloc | apply pw_below_drewN | apply below_drew1) | exact HB.out)) hb); have n1_ := Aside0.mk (hbox); have n2_ := Aside0.mk ((by rw [hg]; exact (below_size (by repeat (first | (with_reducible first | exact HB.out | apply below_alloc | apply pw_below_drewN | apply below_drew1) | exact HB.out))) : w.heap.size ≤ gb936)); have n3_ := Aside0.mk ((by rw [hg]; exact (below_size (by repeat (first | (with_reducible first | exact HB.out | apply below_alloc | apply pw_below_drewN | apply below_drew1) | exact HB.out))) : w.heap.size ≤ gb936)); clear HB; have HB := n0_; have BK936 := n1_; have GW936 := n2_; have GE936 := n3_; clear n0_ n1_ n2_ n3_; clear hb hbox hg; have hcz28_0 : w27.cell? ⟨gb936, 0, none⟩ = some (.int .i64 a0_0) := (blk_cell BK936.out 0).trans rfl; have hcz28_1 : w27.cell? ⟨gb936, 1, none⟩ = some (.int .i64 a0_1) := (blk_cell BK936.out 1).trans rfl; have hcz28_2 : w27.cell? ⟨gb936, 2, none⟩ = some (.int .i64 a0_2) := (blk_cell BK936.out 2).trans rfl; have hcz28_3 : w27.cell? ⟨gb936, 3, none⟩ = some (.int .i64 a0_3) := (blk_cell BK936.out 3).trans rfl; have hcz28_4 : w27.cell? ⟨gb936, 4, none⟩ = some (.int .i64 a0_4) := (blk_cell BK936.out 4).trans rfl; have hcz28_5 : w27.cell? ⟨gb936, 5, none⟩ = some (.slice A0_5 l0_5.length c0_5) := (blk_cell BK936.out 5).trans rfl; have hcz28_6 : w27.cell? ⟨gb936, 6, none⟩ = some (.slice A0_6 l0_6.length c0_6) := (blk_cell BK936.out 6).trans rfl; have hcz28_7 : w27.cell? ⟨gb936, 7, none⟩ = some (.int .i64 a0_7) := (blk_cell BK936.out 7).trans rfl; have hcz28_8 : w27.cell? ⟨gb936, 8, none⟩ = some (.int .i64 a0_8) := (blk_cell BK936.out 8).trans rfl; have hcz28_9 : w27.cell? ⟨gb936, 9, none⟩ = some (.int .i64 a0_9) := (blk_cell BK936.out 9).trans rfl; have hcz28_10 : w27.cell? ⟨gb936, 10, none⟩ = some (.int .i64 a0_10) := (blk_cell BK936.out 10).trans rfl; have hcz28_11 : w27.cell? ⟨gb936, 11, none⟩ = some (.int .i64 a0_11) := (blk_cell BK936.out 11).trans rfl; have hcz28_12 : w27.cell? ⟨gb936, 12, none⟩ = some (.int .i64 a0_12) := (blk_cell BK936.out 12).trans rfl; have hcz28_13 : w27.cell? ⟨gb936, 13, none⟩ = some (.int .i64 a0_13) := (blk_cell BK936.out 13).trans rfl; have hfz28_0 := blk_frozen BK936.out 0; have hfz28_1 := blk_frozen BK936.out 1; have hfz28_2 := blk_frozen BK936.out 2; have hfz28_3 := blk_frozen BK936.out 3; have hfz28_4 := blk_frozen BK936.out 4; have hfz28_5 := blk_frozen BK936.out 5; have hfz28_6 := blk_frozen BK936.out 6; have hfz28_7 := blk_frozen BK936.out 7; have hfz28_8 := blk_frozen BK936.out 8; have hfz28_9 := blk_frozen BK936.out 9; have hfz28_10 := blk_frozen BK936.out 10; have hfz28_11 := blk_frozen BK936.out 11; have hfz28_12 := blk_frozen BK936.out 12; have hfz28_13 := blk_frozen BK936.out 13) | ((with_reducible refine gate_callee (f := 76) rfl ?_); refine goesL_ (some 5) rfl rfl Try.func76 (by kernel_rfl) rfl #[.agg #[.int .i64 a0_0, .int .i64 a0_1, .int .i64 a0_2, .int .i64 a0_3, .int .i64 a0_4, .slice A0_5 l0_5.length c0_5, .slice A0_6 l0_6.length c0_6]] rfl (by (try simp only [List.map_toArray, List.map_cons, List.map_nil]); first | done | rfl | (simp only [List.length_drop, List.length_take]; rfl)) ?_; (with_reducible refine (impl_IsProject.calls k a0_0 a0_1 a0_2 a0_3 a0_4 _ _ l0_5 _ _ l0_6 false _ ?side1 ?side2 ?side3 ?side4 A2.out).mono ?_); (case side1 => repeat (first | exact (Kd.C_below HR0_5.out HB.out) | (with_reducible refine Kd.C_alloc ?_ _) | (with_reducible refine Kd.C_drewN ?_ _) | (with_reducible refine Kd.C_drew ?_))); (case side2 => exact HC0_5.out); (case side3 => repeat (first | exact (Kd.C_below HR0_6.out HB.out) | (with_reducible refine Kd.C_alloc ?_ _) | (with_reducible refine Kd.C_drewN ?_ _) | (with_reducible refine Kd.C_drew ?_))); (case side4 => exact HC0_6.out); rintro e w29 ⟨rfl, hb⟩; refine ⟨_, rfl, ?_⟩; have n0_ := Aside0.mk (blk_below (g := gb936) (o := .cells #[.int .i64 a0_0, .int .i64 a0_1, .int .i64 a0_2, .int .i64 a0_3, .int .i64 a0_4, .slice A0_5 l0_5.length c0_5, .slice A0_6 l0_6.length c0_6, .int .i64 a0_7, .int .i64 a0_8, .int .i64 a0_9, .int .i64 a0_10, .int .i64 a0_11, .int .i64 a0_12, .int .i64 a0_13] 89 (0, 0)) (by (with_reducible repeat (first | refine blk_drewN ?_ _ | refine blk_drew ?_ | refine blk_alloc ?_ _)); exact BK936.out) hb); have n1_ := Aside0.mk (below_step (by repeat (first | (with_reducible first | exact HB.out | apply below_alloc | apply pw_below_drewN | apply below_drew1 | refine below_set ?_ GE936.out) | exact HB.out)) hb); clear BK936; clear HB; have BK936 := n0_; have HB := n1_; clear n0_ n1_; (try clear hb); (try clear hb2); (try clear hk); (try clear hi)))
    go_ret
    exact ⟨by first | rfl | (simp [errW_none, errW_some] <;> rfl) | (simp [*, errW_none, errW_some] <;> rfl), by repeat (first | (with_reducible first | exact HB.out | apply below_alloc | apply pw_below_drewN | apply below_drew1 | refine below_set ?_ GE936.out) | exact HB.out)⟩

end Go.Proofs.Ytnimjikikfhlpaa.F

namespace Go.Proofs.Ytnimjikikfhlpaa.F
open Go.RowKit Go.Proofs.YtnimjikikfhlpaaW.PrintWords Go.Proofs.YtnimjikikfhlpaaW.PrintLast Go.Proofs.YtnimjikikfhlpaaW.PrintMore
attribute [local go_sem] max2_int min2_int max_two min_two max_three min_three max_four min_four   -- for this text's walks alone
set_option linter.unusedVariables false
set_option linter.unusedSimpArgs false

/-! ### laws_eqInt64S: function 21 -/
def laws_eqInt64S.l0 : Nat → List Int → List Int → Int → Option (Bool)
  | 0, _, _, _ => none
  | k + 1, x0, x1, x5 => if x5 < (x0.length : Int) then (if 0 ≤ x5 then (if x5 < (x1.length : Int) then (if (rd x0 x5) = (rd x1 x5) then (laws_eqInt64S.l0 k x0 x1 (wrap64 (x5 + 1))) else (some false)) else (none)) else (none)) else (some true)
def laws_eqInt64S.f (k : Nat) (l0 : List Int) (l1 : List Int) : Option (Bool) := if (l0.length : Int) = (l1.length : Int) then (laws_eqInt64S.l0 k l0 l1 0) else (some false)
theorem laws_eqInt64S.mono_l : ∀ k, (∀ y0 y1 y2, LeO (laws_eqInt64S.l0 k y0 y1 y2) (laws_eqInt64S.l0 (k + 1) y0 y1 y2))
  | 0 => fun _ _ _ r h => by simp [laws_eqInt64S.l0] at h
  | k + 1 => by
    have ih0 := laws_eqInt64S.mono_l k
    · intro y0 y1 y2
      unfold laws_eqInt64S.l0
      repeat' first
      | (with_reducible exact ih0 _ _ _)
      | (with_reducible exact LeO.refl _)
      | (with_reducible exact LeO.none _)
      | (with_reducible refine LeO.ite ?_ ?_)
      | (with_reducible refine LeO.bind ?_ (fun _ => ?_))
      | exact ih0 _ _ _
      | exact LeO.none _
      | refine LeO.ite ?_ ?_
      | refine LeO.bind ?_ (fun _ => ?_)
theorem laws_eqInt64S.mono : ∀ a0 a1 k, LeO (laws_eqInt64S.f k a0 a1) (laws_eqInt64S.f (k + 1) a0 a1) := by
  intro a0 a1 k
  have ih0 := laws_eqInt64S.mono_l k
  unfold laws_eqInt64S.f
  repeat' first
      | (with_reducible exact ih0 _ _ _)
      | (with_reducible exact LeO.refl _)
      | (with_reducible exact LeO.none _)
      | (with_reducible refine LeO.ite ?_ ?_)
      | (with_reducible refine LeO.bind ?_ (fun _ => ?_))
      | exact ih0 _ _ _
      | exact LeO.none _
      | refine LeO.ite ?_ ?_
      | refine LeO.bind ?_ (fun _ => ?_)
set_option maxHeartbeats 8000000 in
set_option maxRecDepth 100000 in
theorem laws_eqInt64S.calls (k : Nat) (A0 : Option Addr) (c0 : Nat) (l0 : List Int) (A1 : Option Addr) (c1 : Nat) (l1 : List Int) (r : Bool) (w : World) (hr0 : Kd.C (Kd.int .i64) w A0 l0.length l0) (hc0 : l0.length ≤ c0) (hr1 : Kd.C (Kd.int .i64) w A1 l1.length l1) (hc1 : l1.length ≤ c1) (h : laws_eqInt64S.f k l0 l1 = some r) :
    Calls Try.prog 21 #[.slice A0 l0.length c0, .slice A1 l1.length c1] w fun e w' => e = .returned (.bool r) ∧ Drawn0 w w' := by
  have HR0 := Aside0.mk hr0
  have HC0 := Aside0.mk hc0
  clear hr0 hc0
  have HR1 := Aside0.mk hr1
  have HC1 := Aside0.mk hc1
  clear hr1 hc1
  have H : (if (l0.length : Int) = (l1.length : Int) then (laws_eqInt64S.l0 k l0 l1 0) else (some false)) = some r := h
  clear h
  by_cases c3 : (l0.length : Int) = (l1.length : Int)
  · rw [if_pos c3] at H
    have c3b0 : ((l0.length : Int) == (l1.length : Int)) = true := beq_iff_eq.mpr c3
    have c3b1 : ((l0.length : Int) != (l1.length : Int)) = false := bne_eq_false_iff_eq.mpr c3
    have c3b2 : (l0.length == l1.length) = true := by first | simpa using c3 | (simp at c3 ⊢; omega)
    clear c3
    have H' := Aside0.mk H
    clear H
    go_enter Try.func21, Try.ntmps21
    go_wp2
    repeat (go_quiet (fail); try go_wp2)
    go_loopg [5] k (fun kq v5 w' => ∃ (x5_1 : Int), v5 = .int .i64 x5_1 ∧ Aside0 (laws_eqInt64S.l0 kq l0 l1 x5_1 = some r) ∧ Aside0 (kq ≤ k) ∧ Drawn0 w w')
    case atStart => exact ⟨(0), (by first | rfl | (simp; done) | (simp [*]; done)), H', ⟨Nat.le_refl _⟩, by repeat (first | exact Drawn0.refl _ | apply Drawn0.step)⟩
    case round =>
      clear H'
      try clear c1
      try clear c2
      try clear p2
      try clear c3
      try clear c3b0
      try clear c3b1
      try clear c3b2
      obtain ⟨x5_1, rfl, HA, HK1, ⟨m1, rfl⟩⟩ := hrel
      cases gk with
      | zero => exact absurd HA.out (by simp [laws_eqInt64S.l0])
      | succ k1 =>
        have H := HA.out
        clear HA
        simp only [laws_eqInt64S.l0] at H
        by_cases c4 : x5_1 < (l0.length : Int)
        · rw [if_pos c4] at H
          have c4b0 : decide (x5_1 < (l0.length : Int)) = true := decide_eq_true c4
          clear c4
          by_cases c5 : 0 ≤ x5_1
          · rw [if_pos c5] at H
            have c5b0 : decide (0 ≤ x5_1) = true := decide_eq_true c5
            clear c5
            by_cases c6 : x5_1 < (l1.length : Int)
            · rw [if_pos c6] at H
              have c6b0 : decide (x5_1 < (l1.length : Int)) = true := decide_eq_true c6
              clear c6
              by_cases c7 : (rd l0 x5_1) = (rd l1 x5_1)
              · rw [if_pos c7] at H
                have c7b0 : ((rd l0 x5_1) == (rd l1 x5_1)) = true := beq_iff_eq.mpr c7
                have c7b1 : ((rd l0 x5_1) != (rd l1 x5_1)) = false := bne_eq_false_iff_eq.mpr c7
                clear c7
                have H' := Aside0.mk H
                clear H
                have p189 : 0 ≤ (x5_1 : Int) := of_decide_eq_true (by first | (with_reducible assumption) | assumption)
                have q189 : x5_1 < (l0.length : Int) := of_decide_eq_true (by first | (with_reducible assumption) | assumption)
                obtain ⟨ad189, e189, hx189_0⟩ := Kd.at_int HR0.out x5_1 p189 q189
                cases e189
                replace p189 := eq_true p189
                replace q189 := eq_true q189
                have p190 : 0 ≤ (x5_1 : Int) := of_decide_eq_true (by first | (with_reducible assumption) | assumption)
                have q190 : x5_1 < (l1.length : Int) := of_decide_eq_true (by first | (with_reducible assumption) | assumption)
                obtain ⟨ad190, e190, hx190_0⟩ := Kd.at_int HR1.out x5_1 p190 q190
                cases e190
                replace p190 := eq_true p190
                replace q190 := eq_true q190
                go_wp2
                repeat (go_quiet (fail); try go_wp2)
                go_roundg k1
                case measure => have := HK1.out; omega
                case rel => exact ⟨(wrap64 (x5_1 + 1)), (by first | rfl | (simp; done) | (simp [*]; done)), H', ⟨by have := HK1.out; omega⟩, by repeat (first | exact Drawn0.refl _ | apply Drawn0.step)⟩
              · rw [if_neg c7] at H
                have c7b0 : ((rd l0 x5_1) == (rd l1 x5_1)) = false := beq_eq_false_iff_ne.mpr c7
                have c7b1 : ((rd l0 x5_1) != (rd l1 x5_1)) = true := bne_iff_ne.mpr c7
                obtain rfl := Option.some.inj H
                have p189 : 0 ≤ (x5_1 : Int) := of_decide_eq_true (by first | (with_reducible assumption) | assumption)
                have q189 : x5_1 < (l0.length : Int) := of_decide_eq_true (by first | (with_reducible assumption) | assumption)
                obtain ⟨ad189, e189, hx189_0⟩ := Kd.at_int HR0.out x5_1 p189 q189
                cases e189
                replace p189 := eq_true p189
                replace q189 := eq_true q189
                have p190 : 0 ≤ (x5_1 : Int) := of_decide_eq_true (by first | (with_reducible assumption) | assumption)
                have q190 : x5_1 < (l1.length : Int) := of_decide_eq_true (by first | (with_reducible assumption) | assumption)
                obtain ⟨ad190, e190, hx190_0⟩ := Kd.at_int HR1.out x5_1 p190 q190
                cases e190
                replace p190 := eq_true p190
                replace q190 := eq_true q190
                go_wp2
                repeat (go_quiet (fail); try go_wp2)
                go_ret
                exact ⟨by first | rfl | (simp; done) | (simp [*]; done), by repeat (first | exact Drawn0.refl _ | apply Drawn0.step)⟩
            · rw [if_neg c6] at H
              exact absurd H (by simp)
          · rw [if_neg c5] at H
            exact absurd H (by simp)
        · rw [if_neg c4] at H
          have c4b0 : decide (x5_1 < (l0.length : Int)) = false := decide_eq_false c4
          clear c4
          obtain rfl := Option.some.inj H
          go_wp2
          repeat (go_quiet (fail); try go_wp2)
          go_ret
          exact ⟨by first | rfl | (simp; done) | (simp [*]; done), by repeat (first | exact Drawn0.refl _ | apply Drawn0.step)⟩
  · rw [if_neg c3] at H
    have c3b0 : ((l0.length : Int) == (l1.length : Int)) = false := beq_eq_false_iff_ne.mpr c3
    have c3b1 : ((l0.length : Int) != (l1.length : Int)) = true := bne_iff_ne.mpr c3
    have c3b2 : (l0.length == l1.length) = false := by first | simpa using c3 | (simp at c3 ⊢; omega)
    obtain rfl := Option.some.inj H
    go_enter Try.func21, Try.ntmps21
    go_wp2
    repeat (go_quiet (fail); try go_wp2)
    go_ret
    exact ⟨by first | rfl | (simp; done) | (simp [*]; done), by repeat (first | exact Drawn0.refl _ | apply Drawn0.step)⟩

end Go.Proofs.Ytnimjikikfhlpaa.F

namespace Go.Proofs.Ytnimjikikfhlpaa.F
open Go.RowKit Go.Proofs.YtnimjikikfhlpaaW.PrintWords Go.Proofs.YtnimjikikfhlpaaW.PrintLast Go.Proofs.YtnimjikikfhlpaaW.PrintMore
attribute [local go_sem] max2_int min2_int max_two min_two max_three min_three max_four min_four   -- for this text's walks alone
set_option linter.unusedVariables false
set_option linter.unusedSimpArgs false

/-! ### laws_eqWall: function 141 -/
def laws_eqWall.f (a0_0 : Int) (a0_1 : Int) (a1_0 : Int) (a1_1 : Int) : Option (Bool) := if a0_0 = a1_0 then (if a0_1 = a1_1 then (some true) else (some false)) else (some false)
set_option maxHeartbeats 8000000 in
set_option maxRecDepth 100000 in
theorem laws_eqWall.calls (a0_0 : Int) (a0_1 : Int) (a1_0 : Int) (a1_1 : Int) (r : Bool) (w : World) (h : laws_eqWall.f a0_0 a0_1 a1_0 a1_1 = some r) :
    Calls Try.prog 141 #[.agg #[.int .i64 a0_0, .int .i64 a0_1], .agg #[.int .i64 a1_0, .int .i64 a1_1]] w fun e w' => e = .returned (.bool r) ∧ Below w.heap.size w w' := by
  have hu66 := Try.underlying66
  have HB := Aside0.mk (Below.refl w.heap.size w)
  have H : (if a0_0 = a1_0 then (if a0_1 = a1_1 then (some true) else (some false)) else (some false)) = some r := h
  clear h
  by_cases c3 : a0_0 = a1_0
  · rw [if_pos c3] at H
    have c3b0 : (a0_0 == a1_0) = true := beq_iff_eq.mpr c3
    have c3b1 : (a0_0 != a1_0) = false := bne_eq_false_iff_eq.mpr c3
    clear c3
    by_cases c4 : a0_1 = a1_1
    · rw [if_pos c4] at H
      have c4b0 : (a0_1 == a1_1) = true := beq_iff_eq.mpr c4
      have c4b1 : (a0_1 != a1_1) = false := bne_eq_false_iff_eq.mpr c4
      clear c4
      obtain rfl := Option.some.inj H
      go_enter Try.func141, Try.ntmps141
      go_wp2_with (first | ((with_reducible refine gate_dst (N := 2) rfl ?_); refine box_event ?hg (N := 2) ?hd (cs := #[.int .i64 a0_0, .int .i64 a0_1]) (t := 66) ?hr ?_; (case hd => rfl); (case hg => rfl); (case hr => first | (go_simp; done) | (go_simp; rfl)); intro gb330 hg w5 hbox hb; have n0_ := Aside0.mk (below_step (by repeat (first | (with_reducible first | exact HB.out | apply below_alloc | apply pw_below_drewN | apply below_drew1) | exact HB.out)) hb); have n1_ := Aside0.mk (hbox); have n2_ := Aside0.mk ((by rw [hg]; exact (below_size (by repeat (first | (with_reducible first | exact HB.out | apply below_alloc | apply pw_below_drewN | apply below_drew1) | exact HB.out))) : w.heap.size ≤ gb330)); have n3_ := Aside0.mk ((by rw [hg]; exact (below_size (by repeat (first | (with_reducible first | exact HB.out | apply below_alloc | apply pw_below_drewN | apply below_drew1) | exact HB.out))) : w.heap.size ≤ gb330)); clear HB; have HB := n0_; have BK330 := n1_; have GW330 := n2_; have GE330 := n3_; clear n0_ n1_ n2_ n3_; clear hb hbox hg) | ((with_reducible refine gate_dst (N := 3) rfl ?_); refine box_event ?hg (N := 3) ?hd (cs := #[.int .i64 a1_0, .int .i64 a1_1]) (t := 66) ?hr ?_; (case hd => rfl); (case hg => rfl); (case hr => first | (go_simp; done) | (go_simp; rfl)); intro gb331 hg w6 hbox hb; have n0_ := Aside0.mk (blk_below (g := gb330) (o := .cells #[.int .i64 a0_0, .int .i64 a0_1] 66 (0, 0)) (by (with_reducible repeat (first | refine blk_drewN ?_ _ | refine blk_drew ?_ | refine blk_alloc ?_ _)); exact BK330.out) hb); have n1_ := Aside0.mk (below_step (by repeat (first | (with_reducible first | exact HB.out | apply below_alloc | apply pw_below_drewN | apply below_drew1 | refine below_set ?_ GE330.out) | exact HB.out)) hb); have n2_ := Aside0.mk (hbox); have n3_ := Aside0.mk ((by rw [hg]; exact (below_size (by repeat (first | (with_reducible first | exact HB.out | apply below_alloc | apply pw_below_drewN | apply below_drew1 | refine below_set ?_ GE330.out) | exact HB.out))) : w.heap.size ≤ gb331)); have n4_ := Aside0.mk ((by rw [hg]; exact (below_size (by repeat (first | (with_reducible first | exact HB.out | apply below_alloc | apply pw_below_drewN | apply below_drew1 | refine below_set ?_ GE330.out) | exact HB.out))) : w.heap.size ≤ gb331)); have n5_ := Aside0.mk ((by rw [hg]; exact Nat.ne_of_lt (blk_lt (g := gb330) (o := .cells #[.int .i64 a0_0, .int .i64 a0_1] 66 (0, 0)) (by (with_reducible repeat (first | refine blk_drewN ?_ _ | refine blk_drew ?_ | refine blk_alloc ?_ _)); exact BK330.out)) : gb330 ≠ gb331)); have n6_ := Aside0.mk ((by rw [hg]; exact Nat.ne_of_gt (blk_lt (g := gb330) (o := .cells #[.int .i64 a0_0, .int .i64 a0_1] 66 (0, 0)) (by (with_reducible repeat (first | refine blk_drewN ?_ _ | refine blk_drew ?_ | refine blk_alloc ?_ _)); exact BK330.out)) : gb331 ≠ gb330)); clear BK330; clear HB; have BK330 := n0_; have HB := n1_; have BK331 := n2_; have GW331 := n3_; have GE331 := n4_; have NB330_331 := n5_; have NB331_330 := n6_; clear n0_ n1_ n2_ n3_ n4_ n5_ n6_; clear hb hbox hg; have hnb7 := NB330_331.out; have hnc7 := NB331_330.out; have hcz8_0 : w6.cell? ⟨gb330, 0, none⟩ = some (.int .i64 a0_0) := (blk_cell BK330.out 0).trans rfl; have hcz8_1 : w6.cell? ⟨gb330, 1, none⟩ = some (.int .i64 a0_1) := (blk_cell BK330.out 1).trans rfl; have hfz8_0 := blk_frozen BK330.out 0; have hfz8_1 := blk_frozen BK330.out 1; have hcz9_0 : w6.cell? ⟨gb331, 0, none⟩ = some (.int .i64 a1_0) := (blk_cell BK331.out 0).trans rfl; have hcz9_1 : w6.cell? ⟨gb331, 1, none⟩ = some (.int .i64 a1_1) := (blk_cell BK331.out 1).trans rfl; have hfz9_0 := blk_frozen BK331.out 0; have hfz9_1 := blk_frozen BK331.out 1))
      go_ret
      exact ⟨by first | rfl | (simp [errW_none, errW_some] <;> rfl) | (simp [*, errW_none, errW_some] <;> rfl), by repeat (first | (with_reducible first | exact HB.out | apply below_alloc | apply pw_below_drewN | apply below_drew1 | refine below_set ?_ GE330.out | refine below_set ?_ GE331.out) | exact HB.out)⟩
    · rw [if_neg c4] at H
      have c4b0 : (a0_1 == a1_1) = false := beq_eq_false_iff_ne.mpr c4
      have c4b1 : (a0_1 != a1_1) = true := bne_iff_ne.mpr c4
      obtain rfl := Option.some.inj H
      go_enter Try.func141, Try.ntmps141
      go_wp2_with (first | ((with_reducible refine gate_dst (N := 2) rfl ?_); refine box_event ?hg (N := 2) ?hd (cs := #[.int .i64 a0_0, .int .i64 a0_1]) (t := 66) ?hr ?_; (case hd => rfl); (case hg => rfl); (case hr => first | (go_simp; done) | (go_simp; rfl)); intro gb330 hg w10 hbox hb; have n0_ := Aside0.mk (below_step (by repeat (first | (with_reducible first | exact HB.out | apply below_alloc | apply pw_below_drewN | apply below_drew1) | exact HB.out)) hb); have n1_ := Aside0.mk (hbox); have n2_ := Aside0.mk ((by rw [hg]; exact (below_size (by repeat (first | (with_reducible first | exact HB.out | apply below_alloc | apply pw_below_drewN | apply below_drew1) | exact HB.out))) : w.heap.size ≤ gb330)); have n3_ := Aside0.mk ((by rw [hg]; exact (below_size (by repeat (first | (with_reducible first | exact HB.out | apply below_alloc | apply pw_below_drewN | apply below_drew1) | exact HB.out))) : w.heap.size ≤ gb330)); clear HB; have HB := n0_; have BK330 := n1_; have GW330 := n2_; have GE330 := n3_; clear n0_ n1_ n2_ n3_; clear hb hbox hg) | ((with_reducible refine gate_dst (N := 3) rfl ?_); refine box_event ?hg (N := 3) ?hd (cs := #[.int .i64 a1_0, .int .i64 a1_1]) (t := 66) ?hr ?_; (case hd => rfl); (case hg => rfl); (case hr => first | (go_simp; done) | (go_simp; rfl)); intro gb331 hg w11 hbox hb; have n0_ := Aside0.mk (blk_below (g := gb330) (o := .cells #[.int .i64 a0_0, .int .i64 a0_1] 66 (0, 0)) (by (with_reducible repeat (first | refine blk_drewN ?_ _ | refine blk_drew ?_ | refine blk_alloc ?_ _)); exact BK330.out) hb); have n1_ := Aside0.mk (below_step (by repeat (first | (with_reducible first | exact HB.out | apply below_alloc | apply pw_below_drewN | apply below_drew1 | refine below_set ?_ GE330.out) | exact HB.out)) hb); have n2_ := Aside0.mk (hbox); have n3_ := Aside0.mk ((by rw [hg]; exact (below_size (by repeat (first | (with_reducible first | exact HB.out | apply below_alloc | apply pw_below_drewN | apply below_drew1 | refine below_set ?_ GE330.out) | exact HB.out))) : w.heap.size ≤ gb331)); have n4_ := Aside0.mk ((by rw [hg]; exact (below_size (by repeat (first | (with_reducible first | exact HB.out | apply below_alloc | apply pw_below_drewN | apply below_drew1 | refine below_set ?_ GE330.out) | exact HB.out))) : w.heap.size ≤ gb331)); have n5_ := Aside0.mk ((by rw [hg]; exact Nat.ne_of_lt (blk_lt (g := gb330) (o := .cells #[.int .i64 a0_0, .int .i64 a0_1] 66 (0, 0)) (by (with_reducible repeat (first | refine blk_drewN ?_ _ | refine blk_drew ?_ | refine blk_alloc ?_ _)); exact BK330.out)) : gb330 ≠ gb331)); have n6_ := Aside0.mk ((by rw [hg]; exact Nat.ne_of_gt (blk_lt (g := gb330) (o := .cells #[.int .i64 a0_0, .int .i64 a0_1] 66 (0, 0)) (by (with_reducible repeat (first | refine blk_drewN ?_ _ | refine blk_drew ?_ | refine blk_alloc ?_ _)); exact BK330.out)) : gb331 ≠ gb330)); clear BK330; clear HB; have BK330 := n0_; have HB := n1_; have BK331 := n2_; have GW331 := n3_; have GE331 := n4_; have NB330_331 := n5_; have NB331_330 := n6_; clear n0_ n1_ n2_ n3_ n4_ n5_ n6_; clear hb hbox hg; have hnb12 := NB330_331.out; have hnc12 := NB331_330.out; have hcz13_0 : w11.cell? ⟨gb330, 0, none⟩ = some (.int .i64 a0_0) := (blk_cell BK330.out 0).trans rfl; have hcz13_1 : w11.cell? ⟨gb330, 1, none⟩ = some (.int .i64 a0_1) := (blk_cell BK330.out 1).trans rfl; have hfz13_0 := blk_frozen BK330.out 0; have hfz13_1 := blk_frozen BK330.out 1; have hcz14_0 : w11.cell? ⟨gb331, 0, none⟩ = some (.int .i64 a1_0) := (blk_cell BK331.out 0).trans rfl; have hcz14_1 : w11.cell? ⟨gb331, 1, none⟩ = some (.int .i64 a1_1) := (blk_cell BK331.out 1).trans rfl; have hfz14_0 := blk_frozen BK331.out 0; have hfz14_1 := blk_frozen BK331.out 1))
      go_ret
      exact ⟨by first | rfl | (simp [errW_none, errW_some] <;> rfl) | (simp [*, errW_none, errW_some] <;> rfl), by repeat (first | (with_reducible first | exact HB.out | apply below_alloc | apply pw_below_drewN | apply below_drew1 | refine below_set ?_ GE330.out | refine below_set ?_ GE331.out) | exact HB.out)⟩
  · rw [if_neg c3] at H
    have c3b0 : (a0_0 == a1_0) = false := beq_eq_false_iff_ne.mpr c3
    have c3b1 : (a0_0 != a1_0) = true := bne_iff_ne.mpr c3
    obtain rfl := Option.some.inj H
    go_enter Try.func141, Try.ntmps141
    go_wp2_with (first | ((with_reducible refine gate_dst (N := 2) rfl ?_); refine box_event ?hg (N := 2) ?hd (cs := #[.int .i64 a0_0, .int .i64 a0_1]) (t := 66) ?hr ?_; (case hd => rfl); (case hg => rfl); (case hr => first | (go_simp; done) | (go_simp; rfl)); intro gb330 hg w15 hbox hb; have n0_ := Aside0.mk (below_step (by repeat (first | (with_reducible first | exact HB.out | apply below_alloc | apply pw_below_drewN | apply below_drew1) | exact HB.out)) hb); have n1_ := Aside0.mk (hbox); have n2_ := Aside0.mk ((by rw [hg]; exact (below_size (by repeat (first | (with_reducible first | exact HB.out | apply below_alloc | apply pw_below_drewN | apply below_drew1) | exact HB.out))) : w.heap.size ≤ gb330)); have n3_ := Aside0.mk ((by rw [hg]; exact (below_size (by repeat (first | (with_reducible first | exact HB.out | apply below_alloc | apply pw_below_drewN | apply below_drew1) | exact HB.out))) : w.heap.size ≤ gb330)); clear HB; have HB := n0_; have BK330 := n1_; have GW330 := n2_; have GE330 := n3_; clear n0_ n1_ n2_ n3_; clear hb hbox hg) | ((with_reducible refine gate_dst (N := 3) rfl ?_); refine box_event ?hg (N := 3) ?hd (cs := #[.int .i64 a1_0, .int .i64 a1_1]) (t := 66) ?hr ?_; (case hd => rfl); (case hg => rfl); (case hr => first | (go_simp; done) | (go_simp; rfl)); intro gb331 hg w16 hbox hb; have n0_ := Aside0.mk (blk_below (g := gb330) (o := .cells #[.int .i64 a0_0, .int .i64 a0_1] 66 (0, 0)) (by (with_reducible repeat (first | refine blk_drewN ?_ _ | refine blk_drew ?_ | refine blk_alloc ?_ _)); exact BK330.out) hb); have n1_ := Aside0.mk (below_step (by repeat (first | (with_reducible first | exact HB.out | apply below_alloc | apply pw_below_drewN | apply below_drew1 | refine below_set ?_ GE330.out) | exact HB.out)) hb); have n2_ := Aside0.mk (hbox); have n3_ := Aside0.mk ((by rw [hg]; exact (below_size (by repeat (first | (with_reducible first | exact HB.out | apply below_alloc | apply pw_below_drewN | apply below_drew1 | refine below_set ?_ GE330.out) | exact HB.out))) : w.heap.size ≤ gb331)); have n4_ := Aside0.mk ((by rw [hg]; exact (below_size (by repeat (first | (with_reducible first | exact HB.out | apply below_alloc | apply pw_below_drewN | apply below_drew1 | refine below_set ?_ GE330.out) | exact HB.out))) : w.heap.size ≤ gb331)); have n5_ := Aside0.mk ((by rw [hg]; exact Nat.ne_of_lt (blk_lt (g := gb330) (o := .cells #[.int .i64 a0_0, .int .i64 a0_1] 66 (0, 0)) (by (with_reducible repeat (first | refine blk_drewN ?_ _ | refine blk_drew ?_ | refine blk_alloc ?_ _)); exact BK330.out)) : gb330 ≠ gb331)); have n6_ := Aside0.mk ((by rw [hg]; exact Nat.ne_of_gt (blk_lt (g := gb330) (o := .cells #[.int .i64 a0_0, .int .i64 a0_1] 66 (0, 0)) (by (with_reducible repeat (first | refine blk_drewN ?_ _ | refine blk_drew ?_ | refine blk_alloc ?_ _)); exact BK330.out)) : gb331 ≠ gb330)); clear BK330; clear HB; have BK330 := n0_; have HB := n1_; have BK331 := n2_; have GW331 := n3_; have GE331 := n4_; have NB330_331 := n5_; have NB331_330 := n6_; clear n0_ n1_ n2_ n3_ n4_ n5_ n6_; clear hb hbox hg; have hnb17 := NB330_331.out; have hnc17 := NB331_330.out; have hcz18_0 : w16.cell? ⟨gb330, 0, none⟩ = some (.int .i64 a0_0) := (blk_cell BK330.out 0).trans rfl; have hcz18_1 : w16.cell? ⟨gb330, 1, none⟩ = some (.int .i64 a0_1) := (blk_cell BK330.out 1).trans rfl; have hfz18_0 := blk_frozen BK330.out 0; have hfz18_1 := blk_frozen BK330.out 1; have hcz19_0 : w16.cell? ⟨gb331, 0, none⟩ = some (.int .i64 a1_0) := (blk_cell BK331.out 0).trans rfl; have hcz19_1 : w16.cell? ⟨gb331, 1, none⟩ = some (.int .i64 a1_1) := (blk_cell BK331.out 1).trans rfl; have hfz19_0 := blk_frozen BK331.out 0; have hfz19_1 := blk_frozen BK331.out 1))
    go_ret
    exact ⟨by first | rfl | (simp [errW_none, errW_some] <;> rfl) | (simp [*, errW_none, errW_some] <;> rfl), by repeat (first | (with_reducible first | exact HB.out | apply below_alloc | apply pw_below_drewN | apply below_drew1 | refine below_set ?_ GE330.out | refine below_set ?_ GE331.out) | exact HB.out)⟩

end Go.Proofs.Ytnimjikikfhlpaa.F

namespace Go.Proofs.Ytnimjikikfhlpaa.F
open Go.RowKit Go.Proofs.YtnimjikikfhlpaaW.PrintWords Go.Proofs.YtnimjikikfhlpaaW.PrintLast Go.Proofs.YtnimjikikfhlpaaW.PrintMore
attribute [local go_sem] max2_int min2_int max_two min_two max_three min_three max_four min_four   -- for this text's walks alone
set_option linter.unusedVariables false
set_option linter.unusedSimpArgs false

/-! ### laws_eqDial: function 90 -/
def laws_eqDial.f (a0_0 : Int) (a0_1 : Int) (a0_2 : Int) (a0_3 : Int) (a1_0 : Int) (a1_1 : Int) (a1_2 : Int) (a1_3 : Int) : Option (Bool) := if a0_0 = a1_0 then ((laws_eqWall.f a0_1 a0_2 a1_1 a1_2).bind fun t334 => (if t334 = true then (if a0_3 = a1_3 then (some true) else (some false)) else (some false))) else (some false)
set_option maxHeartbeats 8000000 in
set_option maxRecDepth 100000 in
theorem laws_eqDial.calls (a0_0 : Int) (a0_1 : Int) (a0_2 : Int) (a0_3 : Int) (a1_0 : Int) (a1_1 : Int) (a1_2 : Int) (a1_3 : Int) (r : Bool) (w : World) (h : laws_eqDial.f a0_0 a0_1 a0_2 a0_3 a1_0 a1_1 a1_2 a1_3 = some r) :
    Calls Try.prog 90 #[.agg #[.int .i64 a0_0, .int .i64 a0_1, .int .i64 a0_2, .int .i64 a0_3], .agg #[.int .i64 a1_0, .int .i64 a1_1, .int .i64 a1_2, .int .i64 a1_3]] w fun e w' => e = .returned (.bool r) ∧ Below w.heap.size w w' := by
  have hu68 := Try.underlying68
  have hu66 := Try.underlying66
  have HB := Aside0.mk (Below.refl w.heap.size w)
  have H : (if a0_0 = a1_0 then ((laws_eqWall.f a0_1 a0_2 a1_1 a1_2).bind fun t334 => (if t334 = true then (if a0_3 = a1_3 then (some true) else (some false)) else (some false))) else (some false)) = some r := h
  clear h
  by_cases c3 : a0_0 = a1_0
  · rw [if_pos c3] at H
    have c3b0 : (a0_0 == a1_0) = true := beq_iff_eq.mpr c3
    have c3b1 : (a0_0 != a1_0) = false := bne_eq_false_iff_eq.mpr c3
    clear c3
    replace H := Option.bind_eq_some_iff.mp H
    obtain ⟨t334, A40, H⟩ := H
    replace H : (if t334 = true then (if a0_3 = a1_3 then (some true) else (some false)) else (some false)) = some r := H
    have A4 := Aside0.mk A40
    clear A40
    by_cases c5 : t334 = true
    · subst c5
      have H1 : (if a0_3 = a1_3 then (some true) else (some false)) = some r := by rw [if_pos rfl] at H; exact H
      clear H
      have H := H1
      clear H1
      by_cases c6 : a0_3 = a1_3
      · rw [if_pos c6] at H
        have c6b0 : (a0_3 == a1_3) = true := beq_iff_eq.mpr c6
        have c6b1 : (a0_3 != a1_3) = false := bne_eq_false_iff_eq.mpr c6
        clear c6
        obtain rfl := Option.some.inj H
        go_enter Try.func90, Try.ntmps90
        go_wp2_with (first | ((with_reducible refine gate_dst (N := 2) rfl ?_); refine box_event ?hg (N := 2) ?hd (cs := #[.int .i64 a0_0, .int .i64 a0_1, .int .i64 a0_2, .int .i64 a0_3]) (t := 68) ?hr ?_; (case hd => rfl); (case hg => rfl); (case hr => first | (go_simp; done) | (go_simp; rfl)); intro gb332 hg w7 hbox hb; have n0_ := Aside0.mk (below_step (by repeat (first | (with_reducible first | exact HB.out | apply below_alloc | apply pw_below_drewN | apply below_drew1) | exact HB.out)) hb); have n1_ := Aside0.mk (hbox); have n2_ := Aside0.mk ((by rw [hg]; exact (below_size (by repeat (first | (with_reducible first | exact HB.out | apply below_alloc | apply pw_below_drewN | apply below_drew1) | exact HB.out))) : w.heap.size ≤ gb332)); have n3_ := Aside0.mk ((by rw [hg]; exact (below_size (by repeat (first | (with_reducible first | exact HB.out | apply below_alloc | apply pw_below_drewN | apply below_drew1) | exact HB.out))) : w.heap.size ≤ gb332)); clear HB; have HB := n0_; have BK332 := n1_; have GW332 := n2_; have GE332 := n3_; clear n0_ n1_ n2_ n3_; clear hb hbox hg) | ((with_reducible refine gate_dst (N := 3) rfl ?_); refine box_event ?hg (N := 3) ?hd (cs := #[.int .i64 a1_0, .int .i64 a1_1, .int .i64 a1_2, .int .i64 a1_3]) (t := 68) ?hr ?_; (case hd => rfl); (case hg => rfl); (case hr => first | (go_simp; done) | (go_simp; rfl)); intro gb333 hg w8 hbox hb; have n0_ := Aside0.mk (blk_below (g := gb332) (o := .cells #[.int .i64 a0_0, .int .i64 a0_1, .int .i64 a0_2, .int .i64 a0_3] 68 (0, 0)) (by (with_reducible repeat (first | refine blk_drewN ?_ _ | refine blk_drew ?_ | refine blk_alloc ?_ _)); exact BK332.out) hb); have n1_ := Aside0.mk (below_step (by repeat (first | (with_reducible first | exact HB.out | apply below_alloc | apply pw_below_drewN | apply below_drew1 | refine below_set ?_ GE332.out) | exact HB.out)) hb); have n2_ := Aside0.mk (hbox); have n3_ := Aside0.mk ((by rw [hg]; exact (below_size (by repeat (first | (with_reducible first | exact HB.out | apply below_alloc | apply pw_below_drewN | apply below_drew1 | refine below_set ?_ GE332.out) | exact HB.out))) : w.heap.size ≤ gb333)); have n4_ := Aside0.mk ((by rw [hg]; exact (below_size (by repeat (first | (with_reducible first | exact HB.out | apply below_alloc | apply pw_below_drewN | apply below_drew1 | refine below_set ?_ GE332.out) | exact HB.out))) : w.heap.size ≤ gb333)); have n5_ := Aside0.mk ((by rw [hg]; exact Nat.ne_of_lt (blk_lt (g := gb332) (o := .cells #[.int .i64 a0_0, .int .i64 a0_1, .int .i64 a0_2, .int .i64 a0_3] 68 (0, 0)) (by (with_reducible repeat (first | refine blk_drewN ?_ _ | refine blk_drew ?_ | refine blk_alloc ?_ _)); exact BK332.out)) : gb332 ≠ gb333)); have n6_ := Aside0.mk ((by rw [hg]; exact Nat.ne_of_gt (blk_lt (g := gb332) (o := .cells #[.int .i64 a0_0, .int .i64 a0_1, .int .i64 a0_2, .int .i64 a0_3] 68 (0, 0)) (by (with_reducible repeat (first | refine blk_drewN ?_ _ | refine blk_drew ?_ | refine blk_alloc ?_ _)); exact BK332.out)) : gb333 ≠ gb332)); clear BK332; clear HB; have BK332 := n0_; have HB := n1_; have BK333 := n2_; have GW333 := n3_; have GE333 := n4_; have NB332_333 := n5_; have NB333_332 := n6_; clear n0_ n1_ n2_ n3_ n4_ n5_ n6_; clear hb hbox hg; have hnb9 := NB332_333.out; have hnc9 := NB333_332.out; have hcz10_0 : w8.cell? ⟨gb332, 0, none⟩ = some (.int .i64 a0_0) := (blk_cell BK332.out 0).trans rfl; have hcz10_1 : w8.cell? ⟨gb332, 1, none⟩ = some (.int .i64 a0_1) := (blk_cell BK332.out 1).trans rfl; have hcz10_2 : w8.cell? ⟨gb332, 2, none⟩ = some (.int .i64 a0_2) := (blk_cell BK332.out 2).trans rfl; have hcz10_3 : w8.cell? ⟨gb332, 3, none⟩ = some (.int .i64 a0_3) := (blk_cell BK332.out 3).trans rfl; have hfz10_0 := blk_frozen BK332.out 0; have hfz10_1 := blk_frozen BK332.out 1; have hfz10_2 := blk_frozen BK332.out 2; have hfz10_3 := blk_frozen BK332.out 3; have hcz11_0 : w8.cell? ⟨gb333, 0, none⟩ = some (.int .i64 a1_0) := (blk_cell BK333.out 0).trans rfl; have hcz11_1 : w8.cell? ⟨gb333, 1, none⟩ = some (.int .i64 a1_1) := (blk_cell BK333.out 1).trans rfl; have hcz11_2 : w8.cell? ⟨gb333, 2, none⟩ = some (.int .i64 a1_2) := (blk_cell BK333.out 2).trans rfl; have hcz11_3 : w8.cell? ⟨gb333, 3, none⟩ = some (.int .i64 a1_3) := (blk_cell BK333.out 3).trans rfl; have hfz11_0 := blk_frozen BK333.out 0; have hfz11_1 := blk_frozen BK333.out 1; have hfz11_2 := blk_frozen BK333.out 2; have hfz11_3 := blk_frozen BK333.out 3) | ((with_reducible refine gate_callee (f := 141) rfl ?_); refine goesL_ (some 14) rfl rfl Try.func141 (by kernel_rfl) rfl #[.agg #[.int .i64 a0_1, .int .i64 a0_2], .agg #[.int .i64 a1_1, .int .i64 a1_2]] rfl (by (try simp only [List.map_toArray, List.map_cons, List.map_nil]); first | done | rfl | (simp only [List.length_drop, List.length_take]; rfl)) ?_; (with_reducible refine (laws_eqWall.calls a0_1 a0_2 a1_1 a1_2 true _ A4.out).mono ?_); rintro e w12 ⟨rfl, hb⟩; refine ⟨_, rfl, ?_⟩; have n0_ := Aside0.mk (blk_below (g := gb332) (o := .cells #[.int .i64 a0_0, .int .i64 a0_1, .int .i64 a0_2, .int .i64 a0_3] 68 (0, 0)) (by (with_reducible repeat (first | refine blk_drewN ?_ _ | refine blk_drew ?_ | refine blk_alloc ?_ _)); exact BK332.out) hb); have n1_ := Aside0.mk (blk_below (g := gb333) (o := .cells #[.int .i64 a1_0, .int .i64 a1_1, .int .i64 a1_2, .int .i64 a1_3] 68 (0, 0)) (by (with_reducible repeat (first | refine blk_drewN ?_ _ | refine blk_drew ?_ | refine blk_alloc ?_ _)); exact BK333.out) hb); have n2_ := Aside0.mk (below_step (by repeat (first | (with_reducible first | exact HB.out | apply below_alloc | apply pw_below_drewN | apply below_drew1 | refine below_set ?_ GE332.out | refine below_set ?_ GE333.out) | exact HB.out)) hb); clear BK332; clear BK333; clear HB; have BK332 := n0_; have BK333 := n1_; have HB := n2_; clear n0_ n1_ n2_; (try clear hb); (try clear hb2); (try clear hk); (try clear hi); have hcz13_0 : w12.cell? ⟨gb332, 0, none⟩ = some (.int .i64 a0_0) := (blk_cell BK332.out 0).trans rfl; have hcz13_1 : w12.cell? ⟨gb332, 1, none⟩ = some (.int .i64 a0_1) := (blk_cell BK332.out 1).trans rfl; have hcz13_2 : w12.cell? ⟨gb332, 2, none⟩ = some (.int .i64 a0_2) := (blk_cell BK332.out 2).trans rfl; have hcz13_3 : w12.cell? ⟨gb332, 3, none⟩ = some (.int .i64 a0_3) := (blk_cell BK332.out 3).trans rfl; have hfz13_0 := blk_frozen BK332.out 0; have hfz13_1 := blk_frozen BK332.out 1; have hfz13_2 := blk_frozen BK332.out 2; have hfz13_3 := blk_frozen BK332.out 3; have hcz14_0 : w12.cell? ⟨gb333, 0, none⟩ = some (.int .i64 a1_0) := (blk_cell BK333.out 0).trans rfl; have hcz14_1 : w12.cell? ⟨gb333, 1, none⟩ = some (.int .i64 a1_1) := (blk_cell BK333.out 1).trans rfl; have hcz14_2 : w12.cell? ⟨gb333, 2, none⟩ = some (.int .i64 a1_2) := (blk_cell BK333.out 2).trans rfl; have hcz14_3 : w12.cell? ⟨gb333, 3, none⟩ = some (.int .i64 a1_3) := (blk_cell BK333.out 3).trans rfl; have hfz14_0 := blk_frozen BK333.out 0; have hfz14_1 := blk_frozen BK333.out 1; have hfz14_2 := blk_frozen BK333.out 2; have hfz14_3 := blk_frozen BK333.out 3))
        go_ret
        exact ⟨by first | rfl | (simp [errW_none, errW_some] <;> rfl) | (simp [*, errW_none, errW_some] <;> rfl), by repeat (first | (with_reducible first | exact HB.out | apply below_alloc | apply pw_below_drewN | apply below_drew1 | refine below_set ?_ GE332.out | refine below_set ?_ GE333.out) | exact HB.out)⟩
      · rw [if_neg c6] at H
        have c6b0 : (a0_3 == a1_3) = false := beq_eq_false_iff_ne.mpr c6
        have c6b1 : (a0_3 != a1_3) = true := bne_iff_ne.mpr c6
        obtain rfl := Option.some.inj H
        go_enter Try.func90, Try.ntmps90
        go_wp2_with (first | ((with_reducible refine gate_dst (N := 2) rfl ?_); refine box_event ?hg (N := 2) ?hd (cs := #[.int .i64 a0_0, .int .i64 a0_1, .int .i64 a0_2, .int .i64 a0_3]) (t := 68) ?hr ?_; (case hd => rfl); (case hg => rfl); (case hr => first | (go_simp; done) | (go_simp; rfl)); intro gb332 hg w15 hbox hb; have n0_ := Aside0.mk (below_step (by repeat (first | (with_reducible first | exact HB.out | apply below_alloc | apply pw_below_drewN | apply below_drew1) | exact HB.out)) hb); have n1_ := Aside0.mk (hbox); have n2_ := Aside0.mk ((by rw [hg]; exact (below_size (by repeat (first | (with_reducible first | exact HB.out | apply below_alloc | apply pw_below_drewN | apply below_drew1) | exact HB.out))) : w.heap.size ≤ gb332)); have n3_ := Aside0.mk ((by rw [hg]; exact (below_size (by repeat (first | (with_reducible first | exact HB.out | apply below_alloc | apply pw_below_drewN | apply below_drew1) | exact HB.out))) : w.heap.size ≤ gb332)); clear HB; have HB := n0_; have BK332 := n1_; have GW332 := n2_; have GE332 := n3_; clear n0_ n1_ n2_ n3_; clear hb hbox hg) | ((with_reducible refine gate_dst (N := 3) rfl ?_); refine box_event ?hg (N := 3) ?hd (cs := #[.int .i64 a1_0, .int .i64 a1_1, .int .i64 a1_2, .int .i64 a1_3]) (t := 68) ?hr ?_; (case hd => rfl); (case hg => rfl); (case hr => first | (go_simp; done) | (go_simp; rfl)); intro gb333 hg w16 hbox hb; have n0_ := Aside0.mk (blk_below (g := gb332) (o := .cells #[.int .i64 a0_0, .int .i64 a0_1, .int .i64 a0_2, .int .i64 a0_3] 68 (0, 0)) (by (with_reducible repeat (first | refine blk_drewN ?_ _ | refine blk_drew ?_ | refine blk_alloc ?_ _)); exact BK332.out) hb); have n1_ := Aside0.mk (below_step (by repeat (first | (with_reducible first | exact HB.out | apply below_alloc | apply pw_below_drewN | apply below_drew1 | refine below_set ?_ GE332.out) | exact HB.out)) hb); have n2_ := Aside0.mk (hbox); have n3_ := Aside0.mk ((by rw [hg]; exact (below_size (by repeat (first | (with_reducible first | exact HB.out | apply below_alloc | apply pw_below_drewN | apply below_drew1 | refine below_set ?_ GE332.out) | exact HB.out))) : w.heap.size ≤ gb333)); have n4_ := Aside0.mk ((by rw [hg]; exact (below_size (by repeat (first | (with_reducible first | exact HB.out | apply below_alloc | apply pw_below_drewN | apply below_drew1 | refine below_set ?_ GE332.out) | exact HB.out))) : w.heap.size ≤ gb333)); have n5_ := Aside0.mk ((by rw [hg]; exact Nat.ne_of_lt (blk_lt (g := gb332) (o := .cells #[.int .i64 a0_0, .int .i64 a0_1, .int .i64 a0_2, .int .i64 a0_3] 68 (0, 0)) (by (with_reducible repeat (first | refine blk_drewN ?_ _ | refine blk_drew ?_ | refine blk_alloc ?_ _)); exact BK332.out)) : gb332 ≠ gb333)); have n6_ := Aside0.mk ((by rw [hg]; exact Nat.ne_of_gt (blk_lt (g := gb332) (o := .cells #[.int .i64 a0_0, .int .i64 a0_1, .int .i64 a0_2, .int .i64 a0_3] 68 (0, 0)) (by (with_reducible repeat (first | refine blk_drewN ?_ _ | refine blk_drew ?_ | refine blk_alloc ?_ _)); exact BK332.out)) : gb333 ≠ gb332)); clear BK332; clear HB; have BK332 := n0_; have HB := n1_; have BK333 := n2_; have GW333 := n3_; have GE333 := n4_; have NB332_333 := n5_; have NB333_332 := n6_; clear n0_ n1_ n2_ n3_ n4_ n5_ n6_; clear hb hbox hg; have hnb17 := NB332_333.out; have hnc17 := NB333_332.out; have hcz18_0 : w16.cell? ⟨gb332, 0, none⟩ = some (.int .i64 a0_0) := (blk_cell BK332.out 0).trans rfl; have hcz18_1 : w16.cell? ⟨gb332, 1, none⟩ = some (.int .i64 a0_1) := (blk_cell BK332.out 1).trans rfl; have hcz18_2 : w16.cell? ⟨gb332, 2, none⟩ = some (.int .i64 a0_2) := (blk_cell BK332.out 2).trans rfl; have hcz18_3 : w16.cell? ⟨gb332, 3, none⟩ = some (.int .i64 a0_3) := (blk_cell BK332.out 3).trans rfl; have hfz18_0 := blk_frozen BK332.out 0; have hfz18_1 := blk_frozen BK332.out 1; have hfz18_2 := blk_frozen BK332.out 2; have hfz18_3 := blk_frozen BK332.out 3; have hcz19_0 : w16.cell? ⟨gb333, 0, none⟩ = some (.int .i64 a1_0) := (blk_cell BK333.out 0).trans rfl; have hcz19_1 : w16.cell? ⟨gb333, 1, none⟩ = some (.int .i64 a1_1) := (blk_cell BK333.out 1).trans rfl; have hcz19_2 : w16.cell? ⟨gb333, 2, none⟩ = some (.int .i64 a1_2) := (blk_cell BK333.out 2).trans rfl; have hcz19_3 : w16.cell? ⟨gb333, 3, none⟩ = some (.int .i64 a1_3) := (blk_cell BK333.out 3).trans rfl; have hfz19_0 := blk_frozen BK333.out 0; have hfz19_1 := blk_frozen BK333.out 1; have hfz19_2 := blk_frozen BK333.out 2; have hfz19_3 := blk_frozen BK333.out 3) | ((with_reducible refine gate_callee (f := 141) rfl ?_); refine goesL_ (some 14) rfl rfl Try.func141 (by kernel_rfl) rfl #[.agg #[.int .i64 a0_1, .int .i64 a0_2], .agg #[.int .i64 a1_1, .int .i64 a1_2]] rfl (by (try simp only [List.map_toArray, List.map_cons, List.map_nil]); first | done | rfl | (simp only [List.length_drop, List.length_take]; rfl)) ?_; (with_reducible refine (laws_eqWall.calls a0_1 a0_2 a1_1 a1_2 true _ A4.out).mono ?_); rintro e w20 ⟨rfl, hb⟩; refine ⟨_, rfl, ?_⟩; have n0_ := Aside0.mk (blk_below (g := gb332) (o := .cells #[.int .i64 a0_0, .int .i64 a0_1, .int .i64 a0_2, .int .i64 a0_3] 68 (0, 0)) (by (with_reducible repeat (first | refine blk_drewN ?_ _ | refine blk_drew ?_ | refine blk_alloc ?_ _)); exact BK332.out) hb); have n1_ := Aside0.mk (blk_below (g := gb333) (o := .cells #[.int .i64 a1_0, .int .i64 a1_1, .int .i64 a1_2, .int .i64 a1_3] 68 (0, 0)) (by (with_reducible repeat (first | refine blk_drewN ?_ _ | refine blk_drew ?_ | refine blk_alloc ?_ _)); exact BK333.out) hb); have n2_ := Aside0.mk (below_step (by repeat (first | (with_reducible first | exact HB.out | apply below_alloc | apply pw_below_drewN | apply below_drew1 | refine below_set ?_ GE332.out | refine below_set ?_ GE333.out) | exact HB.out)) hb); clear BK332; clear BK333; clear HB; have BK332 := n0_; have BK333 := n1_; have HB := n2_; clear n0_ n1_ n2_; (try clear hb); (try clear hb2); (try clear hk); (try clear hi); have hcz21_0 : w20.cell? ⟨gb332, 0, none⟩ = some (.int .i64 a0_0) := (blk_cell BK332.out 0).trans rfl; have hcz21_1 : w20.cell? ⟨gb332, 1, none⟩ = some (.int .i64 a0_1) := (blk_cell BK332.out 1).trans rfl; have hcz21_2 : w20.cell? ⟨gb332, 2, none⟩ = some (.int .i64 a0_2) := (blk_cell BK332.out 2).trans rfl; have hcz21_3 : w20.cell? ⟨gb332, 3, none⟩ = some (.int .i64 a0_3) := (blk_cell BK332.out 3).trans rfl; have hfz21_0 := blk_frozen BK332.out 0; have hfz21_1 := blk_frozen BK332.out 1; have hfz21_2 := blk_frozen BK332.out 2; have hfz21_3 := blk_frozen BK332.out 3; have hcz22_0 : w20.cell? ⟨gb333, 0, none⟩ = some (.int .i64 a1_0) := (blk_cell BK333.out 0).trans rfl; have hcz22_1 : w20.cell? ⟨gb333, 1, none⟩ = some (.int .i64 a1_1) := (blk_cell BK333.out 1).trans rfl; have hcz22_2 : w20.cell? ⟨gb333, 2, none⟩ = some (.int .i64 a1_2) := (blk_cell BK333.out 2).trans rfl; have hcz22_3 : w20.cell? ⟨gb333, 3, none⟩ = some (.int .i64 a1_3) := (blk_cell BK333.out 3).trans rfl; have hfz22_0 := blk_frozen BK333.out 0; have hfz22_1 := blk_frozen BK333.out 1; have hfz22_2 := blk_frozen BK333.out 2; have hfz22_3 := blk_frozen BK333.out 3))
        go_ret
        exact ⟨by first | rfl | (simp [errW_none, errW_some] <;> rfl) | (simp [*, errW_none, errW_some] <;> rfl), by repeat (first | (with_reducible first | exact HB.out | apply below_alloc | apply pw_below_drewN | apply below_drew1 | refine below_set ?_ GE332.out | refine below_set ?_ GE333.out) | exact HB.out)⟩
    · replace c5 := Bool.eq_false_iff.mpr c5
      subst c5
      have H1 : (some false) = some r := by rw [if_neg (show ¬ (false = true) by decide)] at H; exact H
      clear H
      have H := H1
      clear H1
      obtain rfl := Option.some.inj H
      go_enter Try.func90, Try.ntmps90
      go_wp2_with (first | ((with_reducible refine gate_dst (N := 2) rfl ?_); refine box_event ?hg (N := 2) ?hd (cs := #[.int .i64 a0_0, .int .i64 a0_1, .int .i64 a0_2, .int .i64 a0_3]) (t := 68) ?hr ?_; (case hd => rfl); (case hg => rfl); (case hr => first | (go_simp; done) | (go_simp; rfl)); intro gb332 hg w23 hbox hb; have n0_ := Aside0.mk (below_step (by repeat (first | (with_reducible first | exact HB.out | apply below_alloc | apply pw_below_drewN | apply below_drew1) | exact HB.out)) hb); have n1_ := Aside0.mk (hbox); have n2_ := Aside0.mk ((by rw [hg]; exact (below_size (by repeat (first | (with_reducible first | exact HB.out | apply below_alloc | apply pw_below_drewN | apply below_drew1) | exact HB.out))) : w.heap.size ≤ gb332)); have n3_ := Aside0.mk ((by rw [hg]; exact (below_size (by repeat (first | (with_reducible first | exact HB.out | apply below_alloc | apply pw_below_drewN | apply below_drew1) | exact HB.out))) : w.heap.size ≤ gb332)); clear HB; have HB := n0_; have BK332 := n1_; have GW332 := n2_; have GE332 := n3_; clear n0_ n1_ n2_ n3_; clear hb hbox hg) | ((with_reducible refine gate_dst (N := 3) rfl ?_); refine box_event ?hg (N := 3) ?hd (cs := #[.int .i64 a1_0, .int .i64 a1_1, .int .i64 a1_2, .int .i64 a1_3]) (t := 68) ?hr ?_; (case hd => rfl); (case hg => rfl); (case hr => first | (go_simp; done) | (go_simp; rfl)); intro gb333 hg w24 hbox hb; have n0_ := Aside0.mk (blk_below (g := gb332) (o := .cells #[.int .i64 a0_0, .int .i64 a0_1, .int .i64 a0_2, .int .i64 a0_3] 68 (0, 0)) (by (with_reducible repeat (first | refine blk_drewN ?_ _ | refine blk_drew ?_ | refine blk_alloc ?_ _)); exact BK332.out) hb); have n1_ := Aside0.mk (below_step (by repeat (first | (with_reducible first | exact HB.out | apply below_alloc | apply pw_below_drewN | apply below_drew1 | refine below_set ?_ GE332.out) | exact HB.out)) hb); have n2_ := Aside0.mk (hbox); have n3_ := Aside0.mk ((by rw [hg]; exact (below_size (by repeat (first | (with_reducible first | exact HB.out | apply below_alloc | apply pw_below_drewN | apply below_drew1 | refine below_set ?_ GE332.out) | exact HB.out))) : w.heap.size ≤ gb333)); have n4_ := Aside0.mk ((by rw [hg]; exact (below_size (by repeat (first | (with_reducible first | exact HB.out | apply below_alloc | apply pw_below_drewN | apply below_drew1 | refine below_set ?_ GE332.out) | exact HB.out))) : w.heap.size ≤ gb333)); have n5_ := Aside0.mk ((by rw [hg]; exact Nat.ne_of_lt (blk_lt (g := gb332) (o := .cells #[.int .i64 a0_0, .int .i64 a0_1, .int .i64 a0_2, .int .i64 a0_3] 68 (0, 0)) (by (with_reducible repeat (first | refine blk_drewN ?_ _ | refine blk_drew ?_ | refine blk_alloc ?_ _)); exact BK332.out)) : gb332 ≠ gb333)); have n6_ := Aside0.mk ((by rw [hg]; exact Nat.ne_of_gt (blk_lt (g := gb332) (o := .cells #[.int .i64 a0_0, .int .i64 a0_1, .int .i64 a0_2, .int .i64 a0_3] 68 (0, 0)) (by (with_reducible repeat (first | refine blk_drewN ?_ _ | refine blk_drew ?_ | refine blk_alloc ?_ _)); exact BK332.out)) : gb333 ≠ gb332)); clear BK332; clear HB; have BK332 := n0_; have HB := n1_; have BK333 := n2_; have GW333 := n3_; have GE333 := n4_; have NB332_333 := n5_; have NB333_332 := n6_; clear n0_ n1_ n2_ n3_ n4_ n5_ n6_; clear hb hbox hg; have hnb25 := NB332_333.out; have hnc25 := NB333_332.out; have hcz26_0 : w24.cell? ⟨gb332, 0, none⟩ = some (.int .i64 a0_0) := (blk_cell BK332.out 0).trans rfl; have hcz26_1 : w24.cell? ⟨gb332, 1, none⟩ = some (.int .i64 a0_1) := (blk_cell BK332.out 1).trans rfl; have hcz26_2 : w24.cell? ⟨gb332, 2, none⟩ = some (.int .i64 a0_2) := (blk_cell BK332.out 2).trans rfl; have hcz26_3 : w24.cell? ⟨gb332, 3, none⟩ = some (.int .i64 a0_3) := (blk_cell BK332.out 3).trans rfl; have hfz26_0 := blk_frozen BK332.out 0; have hfz26_1 := blk_frozen BK332.out 1; have hfz26_2 := blk_frozen BK332.out 2; have hfz26_3 := blk_frozen BK332.out 3; have hcz27_0 : w24.cell? ⟨gb333, 0, none⟩ = some (.int .i64 a1_0) := (blk_cell BK333.out 0).trans rfl; have hcz27_1 : w24.cell? ⟨gb333, 1, none⟩ = some (.int .i64 a1_1) := (blk_cell BK333.out 1).trans rfl; have hcz27_2 : w24.cell? ⟨gb333, 2, none⟩ = some (.int .i64 a1_2) := (blk_cell BK333.out 2).trans rfl; have hcz27_3 : w24.cell? ⟨gb333, 3, none⟩ = some (.int .i64 a1_3) := (blk_cell BK333.out 3).trans rfl; have hfz27_0 := blk_frozen BK333.out 0; have hfz27_1 := blk_frozen BK333.out 1; have hfz27_2 := blk_frozen BK333.out 2; have hfz27_3 := blk_frozen BK333.out 3) | ((with_reducible refine gate_callee (f := 141) rfl ?_); refine goesL_ (some 14) rfl rfl Try.func141 (by kernel_rfl) rfl #[.agg #[.int .i64 a0_1, .int .i64 a0_2], .agg #[.int .i64 a1_1, .int .i64 a1_2]] rfl (by (try simp only [List.map_toArray, List.map_cons, List.map_nil]); first | done | rfl | (simp only [List.length_drop, List.length_take]; rfl)) ?_; (with_reducible refine (laws_eqWall.calls a0_1 a0_2 a1_1 a1_2 false _ A4.out).mono ?_); rintro e w28 ⟨rfl, hb⟩; refine ⟨_, rfl, ?_⟩; have n0_ := Aside0.mk (blk_below (g := gb332) (o := .cells #[.int .i64 a0_0, .int .i64 a0_1, .int .i64 a0_2, .int .i64 a0_3] 68 (0, 0)) (by (with_reducible repeat (first | refine blk_drewN ?_ _ | refine blk_drew ?_ | refine blk_alloc ?_ _)); exact BK332.out) hb); have n1_ := Aside0.mk (blk_below (g := gb333) (o := .cells #[.int .i64 a1_0, .int .i64 a1_1, .int .i64 a1_2, .int .i64 a1_3] 68 (0, 0)) (by (with_reducible repeat (first | refine blk_drewN ?_ _ | refine blk_drew ?_ | refine blk_alloc ?_ _)); exact BK333.out) hb); have n2_ := Aside0.mk (below_step (by repeat (first | (with_reducible first | exact HB.out | apply below_alloc | apply pw_below_drewN | apply below_drew1 | refine below_set ?_ GE332.out | refine below_set ?_ GE333.out) | exact HB.out)) hb); clear BK332; clear BK333; clear HB; have BK332 := n0_; have BK333 := n1_; have HB := n2_; clear n0_ n1_ n2_; (try clear hb); (try clear hb2); (try clear hk); (try clear hi)))
      go_ret
      exact ⟨by first | rfl | (simp [errW_none, errW_some] <;> rfl) | (simp [*, errW_none, errW_some] <;> rfl), by repeat (first | (with_reducible first | exact HB.out | apply below_alloc | apply pw_below_drewN | apply below_drew1 | refine below_set ?_ GE332.out | refine below_set ?_ GE333.out) | exact HB.out)⟩
  · rw [if_neg c3] at H
    have c3b0 : (a0_0 == a1_0) = false := beq_eq_false_iff_ne.mpr c3
    have c3b1 : (a0_0 != a1_0) = true := bne_iff_ne.mpr c3
    obtain rfl := Option.some.inj H
    go_enter Try.func90, Try.ntmps90
    go_wp2_with (first | ((with_reducible refine gate_dst (N := 2) rfl ?_); refine box_event ?hg (N := 2) ?hd (cs := #[.int .i64 a0_0, .int .i64 a0_1, .int .i64 a0_2, .int .i64 a0_3]) (t := 68) ?hr ?_; (case hd => rfl); (case hg => rfl); (case hr => first | (go_simp; done) | (go_simp; rfl)); intro gb332 hg w29 hbox hb; have n0_ := Aside0.mk (below_step (by repeat (first | (with_reducible first | exact HB.out | apply below_alloc | apply pw_below_drewN | apply below_drew1) | exact HB.out)) hb); have n1_ := Aside0.mk (hbox); have n2_ := Aside0.mk ((by rw [hg]; exact (below_size (by repeat (first | (with_reducible first | exact HB.out | apply below_alloc | apply pw_below_drewN | apply below_drew1) | exact HB.out))) : w.heap.size ≤ gb332)); have n3_ := Aside0.mk ((by rw [hg]; exact (below_size (by repeat (first | (with_reducible first | exact HB.out | apply below_alloc | apply pw_below_drewN | apply below_drew1) | exact HB.out))) : w.heap.size ≤ gb332)); clear HB; have HB := n0_; have BK332 := n1_; have GW332 := n2_; have GE332 := n3_; clear n0_ n1_ n2_ n3_; clear hb hbox hg) | ((with_reducible refine gate_dst (N := 3) rfl ?_); refine box_event ?hg (N := 3) ?hd (cs := #[.int .i64 a1_0, .int .i64 a1_1, .int .i64 a1_2, .int .i64 a1_3]) (t := 68) ?hr ?_; (case hd => rfl); (case hg => rfl); (case hr => first | (go_simp; done) | (go_simp; rfl)); intro gb333 hg w30 hbox hb; have n0_ := Aside0.mk (blk_below (g := gb332) (o := .cells #[.int .i64 a0_0, .int .i64 a0_1, .int .i64 a0_2, .int .i64 a0_3] 68 (0, 0)) (by (with_reducible repeat (first | refine blk_drewN ?_ _ | refine blk_drew ?_ | refine blk_alloc ?_ _)); exact BK332.out) hb); have n1_ := Aside0.mk (below_step (by repeat (first | (with_reducible first | exact HB.out | apply below_alloc | apply pw_below_drewN | apply below_drew1 | refine below_set ?_ GE332.out) | exact HB.out)) hb); have n2_ := Aside0.mk (hbox); have n3_ := Aside0.mk ((by rw [hg]; exact (below_size (by repeat (first | (with_reducible first | exact HB.out | apply below_alloc | apply pw_below_drewN | apply below_drew1 | refine below_set ?_ GE332.out) | exact HB.out))) : w.heap.size ≤ gb333)); have n4_ := Aside0.mk ((by rw [hg]; exact (below_size (by repeat (first | (with_reducible first | exact HB.out | apply below_alloc | apply pw_below_drewN | apply below_drew1 | refine below_set ?_ GE332.out) | exact HB.out))) : w.heap.size ≤ gb333)); have n5_ := Aside0.mk ((by rw [hg]; exact Nat.ne_of_lt (blk_lt (g := gb332) (o := .cells #[.int .i64 a0_0, .int .i64 a0_1, .int .i64 a0_2, .int .i64 a0_3] 68 (0, 0)) (by (with_reducible repeat (first | refine blk_drewN ?_ _ | refine blk_drew ?_ | refine blk_alloc ?_ _)); exact BK332.out)) : gb332 ≠ gb333)); have n6_ := Aside0.mk ((by rw [hg]; exact Nat.ne_of_gt (blk_lt (g := gb332) (o := .cells #[.int .i64 a0_0, .int .i64 a0_1, .int .i64 a0_2, .int .i64 a0_3] 68 (0, 0)) (by (with_reducible repeat (first | refine blk_drewN ?_ _ | refine blk_drew ?_ | refine blk_alloc ?_ _)); exact BK332.out)) : gb333 ≠ gb332)); clear BK332; clear HB; have BK332 := n0_; have HB := n1_; have BK333 := n2_; have GW333 := n3_; have GE333 := n4_; have NB332_333 := n5_; have NB333_332 := n6_; clear n0_ n1_ n2_ n3_ n4_ n5_ n6_; clear hb hbox hg; have hnb31 := NB332_333.out; have hnc31 := NB333_332.out; have hcz32_0 : w30.cell? ⟨gb332, 0, none⟩ = some (.int .i64 a0_0) := (blk_cell BK332.out 0).trans rfl; have hcz32_1 : w30.cell? ⟨gb332, 1, none⟩ = some (.int .i64 a0_1) := (blk_cell BK332.out 1).trans rfl; have hcz32_2 : w30.cell? ⟨gb332, 2, none⟩ = some (.int .i64 a0_2) := (blk_cell BK332.out 2).trans rfl; have hcz32_3 : w30.cell? ⟨gb332, 3, none⟩ = some (.int .i64 a0_3) := (blk_cell BK332.out 3).trans rfl; have hfz32_0 := blk_frozen BK332.out 0; have hfz32_1 := blk_frozen BK332.out 1; have hfz32_2 := blk_frozen BK332.out 2; have hfz32_3 := blk_frozen BK332.out 3; have hcz33_0 : w30.cell? ⟨gb333, 0, none⟩ = some (.int .i64 a1_0) := (blk_cell BK333.out 0).trans rfl; have hcz33_1 : w30.cell? ⟨gb333, 1, none⟩ = some (.int .i64 a1_1) := (blk_cell BK333.out 1).trans rfl; have hcz33_2 : w30.cell? ⟨gb333, 2, none⟩ = some (.int .i64 a1_2) := (blk_cell BK333.out 2).trans rfl; have hcz33_3 : w30.cell? ⟨gb333, 3, none⟩ = some (.int .i64 a1_3) := (blk_cell BK333.out 3).trans rfl; have hfz33_0 := blk_frozen BK333.out 0; have hfz33_1 := blk_frozen BK333.out 1; have hfz33_2 := blk_frozen BK333.out 2; have hfz33_3 := blk_frozen BK333.out 3))
    go_ret
    exact ⟨by first | rfl | (simp [errW_none, errW_some] <;> rfl) | (simp [*, errW_none, errW_some] <;> rfl), by repeat (first | (with_reducible first | exact HB.out | apply below_alloc | apply pw_below_drewN | apply below_drew1 | refine below_set ?_ GE332.out | refine below_set ?_ GE333.out) | exact HB.out)⟩

end Go.Proofs.Ytnimjikikfhlpaa.F
