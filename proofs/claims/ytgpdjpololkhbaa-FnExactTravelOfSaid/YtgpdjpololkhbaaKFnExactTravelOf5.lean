/-
  A part of the proof of FnExactTravelOf: contracts of the Go functions that it reaches, and plain statements on what they come to; each says its own conditions.
-/
import Derived.Deep.RegionWith
import Derived.Deep.Slices
import Derived.ChangeArms
import Derived.Test.YtgpdjpololkhbaaKFnExactTravelOf4

namespace Go.Proofs.Ytgpdjpololkhbaa.F
open Go.RowKit Go.Proofs.YtgpdjpololkhbaaW.PrintWords Go.Proofs.YtgpdjpololkhbaaW.PrintLast Go.Proofs.YtgpdjpololkhbaaW.PrintMore
attribute [local go_sem] max2_int min2_int max_two min_two max_three min_three max_four min_four   -- for this text's walks alone
set_option linter.unusedVariables false
set_option linter.unusedSimpArgs false

/-! ### impl_travel: function 114 -/
theorem impl_travel.drop_nil {α : Type} {xs : List α} {m : Nat} (h : xs.drop m = []) : xs.length ≤ m := by
  rcases Nat.lt_or_ge m xs.length with h1 | h1
  · rw [List.drop_eq_getElem_cons h1] at h; cases h
  · exact h1
theorem impl_travel.drop_at {xs ys : List S137} {y : S137} {m : Nat} (h : xs.drop m = y :: ys) : rd_T137 xs (m : Int) = y := by
  have hm : m < xs.length := by
    rcases Nat.lt_or_ge m xs.length with h1 | h1
    · exact h1
    · rw [List.drop_eq_nil_of_le h1] at h; cases h
  rw [List.drop_eq_getElem_cons hm] at h
  injection h with h1 h2
  show xs.getD (Int.toNat (m : Int)) _ = y
  rw [Int.toNat_natCast, List.getD_eq_getElem?_getD, List.getElem?_eq_getElem hm, ← h1]
  rfl
theorem impl_travel.drop_next {α : Type} {xs ys : List α} {y : α} {m : Nat} (h : xs.drop m = y :: ys) : xs.drop (m + 1) = ys := by
  have hm : m < xs.length := by
    rcases Nat.lt_or_ge m xs.length with h1 | h1
    · exact h1
    · rw [List.drop_eq_nil_of_le h1] at h; cases h
  rw [List.drop_eq_getElem_cons hm] at h
  injection h with h1 h2
def impl_travel.go (k : Nat) : List S137 → Int → Int → Int → Bool → Int → Int → Option (Int × Int × Bool)
  | [], _, _, _, _, u, n => some (u, n, true)
  | y :: ys, a, b, c, d, u, n => (impl_Plotter_step.f a b c d y.f0 y.f1 y.f2).bind fun s => if s.2.2.2.2 = true then (impl_distance.f k a b s.1 s.2.1).bind fun t => (if s.2.2.2.1 = true then impl_travel.go k ys s.1 s.2.1 s.2.2.1 s.2.2.2.1 u (wrap64 (n + t)) else impl_travel.go k ys s.1 s.2.1 s.2.2.1 s.2.2.2.1 (wrap64 (u + t)) n) else some (u, n, false)
theorem impl_travel.mono_go : ∀ (ys : List S137) (a b c : Int) (d : Bool) (u n : Int) (k : Nat), LeO (impl_travel.go k ys a b c d u n) (impl_travel.go (k + 1) ys a b c d u n)
  | [], a, b, c, d, u, n, k => LeO.refl _
  | y :: ys, a, b, c, d, u, n, k => by
    unfold impl_travel.go
    refine LeO.bind (LeO.refl _) (fun s => LeO.ite (LeO.bind (impl_distance.mono _ _ _ _ _) (fun t => LeO.ite (impl_travel.mono_go ys _ _ _ _ _ _ k) (impl_travel.mono_go ys _ _ _ _ _ _ k))) (LeO.refl _))
def impl_travel.f (k : Nat) (l0 : List S137) : Option (Int × Int × Bool) := impl_travel.go k l0 0 0 0 false 0 0
theorem impl_travel.mono : ∀ a0 k, LeO (impl_travel.f k a0) (impl_travel.f (k + 1) a0) := fun a0 k => impl_travel.mono_go a0 0 0 0 false 0 0 k
/-- What is so behind travel's literal. -/
def impl_travel.Lit (gu gn : Nat) (u n : Int) (w0 w w' : World) (e : Ending) : Prop := e = .returned (.tuple #[]) ∧ w'.heap[gu]? = some (.cells #[.int .i64 u] 2 (0, 0)) ∧ w'.heap[gn]? = some (.cells #[.int .i64 n] 2 (0, 0)) ∧ Below w0.heap.size w0 w' ∧ Kept w w' (fun k => k = gu ∨ k = gn)
set_option maxHeartbeats 8000000 in
set_option maxRecDepth 100000 in
theorem impl_travel.lit_false (k gu gn : Nat) (a b c : Int) (z : Bool) (x y p t u n : Int) (w0 w : World) (hB : Below w0.heap.size w0 w) (geu : w0.heap.size ≤ gu) (gen : w0.heap.size ≤ gn) (hne : gu ≠ gn) (bku : w.heap[gu]? = some (.cells #[.int .i64 u] 2 (0, 0))) (bkn : w.heap[gn]? = some (.cells #[.int .i64 n] 2 (0, 0))) (h : impl_distance.f k a b x y = some t) :
    Calls Try.prog 161 #[.agg #[.int .i64 a, .int .i64 b, .int .i64 c, .bool z], .agg #[.int .i64 x, .int .i64 y, .int .i64 p, .bool false], .pointer (some ⟨gn, 0, none⟩), .pointer (some ⟨gu, 0, none⟩)] w fun e w' => impl_travel.Lit gu gn (wrap64 (u + t)) (n) w0 w w' e := by
  have hu75 := Try.underlying75
  have HB := Aside0.mk hB
  have GEu := Aside0.mk geu
  have GEn := Aside0.mk gen
  have HNE := Aside0.mk hne
  have BKu := Aside0.mk bku
  have BKn := Aside0.mk bkn
  have HD := Aside0.mk h
  have HK := Aside0.mk (Kept.refl w (fun k => k = gu ∨ k = gn))
  clear hB geu gen hne bku bkn h
  go_enter Try.func161, Try.ntmps161
  go_wp2_with (first | ((with_reducible refine gate_dst (N := 4) rfl ?_); refine box_event ?hg (N := 4) ?hd (cs := #[.int .i64 a, .int .i64 b, .int .i64 c, .bool z]) (t := 75) ?hr ?_; (case hd => rfl); (case hg => rfl); (case hr => first | (go_simp; done) | (go_simp; rfl)); intro g1 hg w2 hbox hb; have n0_ := Aside0.mk (below_step (by first | exact HB.out | exact below_drew1 HB.out) hb); have u_ := Aside0.mk (blk_below (by first | exact BKu.out | exact blk_drew BKu.out) hb); have v_ := Aside0.mk (blk_below (by first | exact BKn.out | exact blk_drew BKn.out) hb); have k_ := Aside0.mk (Kept.below (by first | exact HK.out | exact Kept.drew HK.out) hb); clear HB BKu BKn HK; have HB := n0_; have BKu := u_; have BKn := v_; have HK := k_; clear n0_ u_ v_ k_; have B1 := Aside0.mk hbox; clear hb hbox hg) | ((with_reducible refine gate_dst (N := 5) rfl ?_); refine box_event ?hg (N := 5) ?hd (cs := #[.int .i64 x, .int .i64 y, .int .i64 p, .bool false]) (t := 75) ?hr ?_; (case hd => rfl); (case hg => rfl); (case hr => first | (go_simp; done) | (go_simp; rfl)); intro g2 hg w2 hbox hb; have n0_ := Aside0.mk (below_step (by first | exact HB.out | exact below_drew1 HB.out) hb); have u_ := Aside0.mk (blk_below (by first | exact BKu.out | exact blk_drew BKu.out) hb); have v_ := Aside0.mk (blk_below (by first | exact BKn.out | exact blk_drew BKn.out) hb); have k_ := Aside0.mk (Kept.below (by first | exact HK.out | exact Kept.drew HK.out) hb); clear HB BKu BKn HK; have HB := n0_; have BKu := u_; have BKn := v_; have HK := k_; clear n0_ u_ v_ k_; have b_ := Aside0.mk (blk_below (by first | exact B1.out | exact blk_drew B1.out) hb); clear B1; have B1 := b_; clear b_; have B2 := Aside0.mk hbox; clear hb hbox hg; have ca0 : w2.cell? ⟨g1, 0, none⟩ = some (.int .i64 a) := (blk_cell B1.out 0).trans rfl; have ca1 : w2.cell? ⟨g1, 1, none⟩ = some (.int .i64 b) := (blk_cell B1.out 1).trans rfl; have ca2 : w2.cell? ⟨g1, 2, none⟩ = some (.int .i64 c) := (blk_cell B1.out 2).trans rfl; have ca3 : w2.cell? ⟨g1, 3, none⟩ = some (.bool z) := (blk_cell B1.out 3).trans rfl; have cb0 : w2.cell? ⟨g2, 0, none⟩ = some (.int .i64 x) := (blk_cell B2.out 0).trans rfl; have cb1 : w2.cell? ⟨g2, 1, none⟩ = some (.int .i64 y) := (blk_cell B2.out 1).trans rfl; have cb2 : w2.cell? ⟨g2, 2, none⟩ = some (.int .i64 p) := (blk_cell B2.out 2).trans rfl; have cb3 : w2.cell? ⟨g2, 3, none⟩ = some (.bool false) := (blk_cell B2.out 3).trans rfl; have cu : w2.cell? ⟨gu, 0, none⟩ = some (.int .i64 u) := (blk_cell BKu.out 0).trans rfl; have cn : w2.cell? ⟨gn, 0, none⟩ = some (.int .i64 n) := (blk_cell BKn.out 0).trans rfl; have fu := blk_frozen BKu.out 0; have fn_ := blk_frozen BKn.out 0))
  go_region_with (first | (go_at_call 162; (with_reducible refine (impl_Plotter_point.calls a b c z a b _ rfl).mono ?_); rintro e w3 ⟨rfl, hb⟩; have n0_ := Aside0.mk (below_step (by first | exact HB.out | exact below_drew1 HB.out) hb); have u_ := Aside0.mk (blk_below (by first | exact BKu.out | exact blk_drew BKu.out) hb); have v_ := Aside0.mk (blk_below (by first | exact BKn.out | exact blk_drew BKn.out) hb); have k_ := Aside0.mk (Kept.below (by first | exact HK.out | exact Kept.drew HK.out) hb); clear HB BKu BKn HK; have HB := n0_; have BKu := u_; have BKn := v_; have HK := k_; clear n0_ u_ v_ k_; have b_ := Aside0.mk (blk_below (by first | exact B1.out | exact blk_drew B1.out) hb); clear B1; have B1 := b_; clear b_; have b_ := Aside0.mk (blk_below (by first | exact B2.out | exact blk_drew B2.out) hb); clear B2; have B2 := b_; clear b_; clear ca0 ca1 ca2 ca3 cb0 cb1 cb2 cb3 cu cn fu fn_; clear hb; have ca0 : w3.cell? ⟨g1, 0, none⟩ = some (.int .i64 a) := (blk_cell B1.out 0).trans rfl; have ca1 : w3.cell? ⟨g1, 1, none⟩ = some (.int .i64 b) := (blk_cell B1.out 1).trans rfl; have ca2 : w3.cell? ⟨g1, 2, none⟩ = some (.int .i64 c) := (blk_cell B1.out 2).trans rfl; have ca3 : w3.cell? ⟨g1, 3, none⟩ = some (.bool z) := (blk_cell B1.out 3).trans rfl; have cb0 : w3.cell? ⟨g2, 0, none⟩ = some (.int .i64 x) := (blk_cell B2.out 0).trans rfl; have cb1 : w3.cell? ⟨g2, 1, none⟩ = some (.int .i64 y) := (blk_cell B2.out 1).trans rfl; have cb2 : w3.cell? ⟨g2, 2, none⟩ = some (.int .i64 p) := (blk_cell B2.out 2).trans rfl; have cb3 : w3.cell? ⟨g2, 3, none⟩ = some (.bool false) := (blk_cell B2.out 3).trans rfl; have cu : w3.cell? ⟨gu, 0, none⟩ = some (.int .i64 u) := (blk_cell BKu.out 0).trans rfl; have cn : w3.cell? ⟨gn, 0, none⟩ = some (.int .i64 n) := (blk_cell BKn.out 0).trans rfl; have fu := blk_frozen BKu.out 0; have fn_ := blk_frozen BKn.out 0) | (go_at_call 162; (with_reducible refine (impl_Plotter_point.calls x y p false x y _ rfl).mono ?_); rintro e w3 ⟨rfl, hb⟩; have n0_ := Aside0.mk (below_step (by first | exact HB.out | exact below_drew1 HB.out) hb); have u_ := Aside0.mk (blk_below (by first | exact BKu.out | exact blk_drew BKu.out) hb); have v_ := Aside0.mk (blk_below (by first | exact BKn.out | exact blk_drew BKn.out) hb); have k_ := Aside0.mk (Kept.below (by first | exact HK.out | exact Kept.drew HK.out) hb); clear HB BKu BKn HK; have HB := n0_; have BKu := u_; have BKn := v_; have HK := k_; clear n0_ u_ v_ k_; have b_ := Aside0.mk (blk_below (by first | exact B1.out | exact blk_drew B1.out) hb); clear B1; have B1 := b_; clear b_; have b_ := Aside0.mk (blk_below (by first | exact B2.out | exact blk_drew B2.out) hb); clear B2; have B2 := b_; clear b_; clear ca0 ca1 ca2 ca3 cb0 cb1 cb2 cb3 cu cn fu fn_; clear hb; have ca0 : w3.cell? ⟨g1, 0, none⟩ = some (.int .i64 a) := (blk_cell B1.out 0).trans rfl; have ca1 : w3.cell? ⟨g1, 1, none⟩ = some (.int .i64 b) := (blk_cell B1.out 1).trans rfl; have ca2 : w3.cell? ⟨g1, 2, none⟩ = some (.int .i64 c) := (blk_cell B1.out 2).trans rfl; have ca3 : w3.cell? ⟨g1, 3, none⟩ = some (.bool z) := (blk_cell B1.out 3).trans rfl; have cb0 : w3.cell? ⟨g2, 0, none⟩ = some (.int .i64 x) := (blk_cell B2.out 0).trans rfl; have cb1 : w3.cell? ⟨g2, 1, none⟩ = some (.int .i64 y) := (blk_cell B2.out 1).trans rfl; have cb2 : w3.cell? ⟨g2, 2, none⟩ = some (.int .i64 p) := (blk_cell B2.out 2).trans rfl; have cb3 : w3.cell? ⟨g2, 3, none⟩ = some (.bool false) := (blk_cell B2.out 3).trans rfl; have cu : w3.cell? ⟨gu, 0, none⟩ = some (.int .i64 u) := (blk_cell BKu.out 0).trans rfl; have cn : w3.cell? ⟨gn, 0, none⟩ = some (.int .i64 n) := (blk_cell BKn.out 0).trans rfl; have fu := blk_frozen BKu.out 0; have fn_ := blk_frozen BKn.out 0) | (go_at_call 137; (with_reducible refine (impl_distance.calls k a b x y t _ HD.out).mono ?_); rintro e w3 ⟨rfl, hb⟩; have n0_ := Aside0.mk (below_step (by first | exact HB.out | exact below_drew1 HB.out) hb); have u_ := Aside0.mk (blk_below (by first | exact BKu.out | exact blk_drew BKu.out) hb); have v_ := Aside0.mk (blk_below (by first | exact BKn.out | exact blk_drew BKn.out) hb); have k_ := Aside0.mk (Kept.below (by first | exact HK.out | exact Kept.drew HK.out) hb); clear HB BKu BKn HK; have HB := n0_; have BKu := u_; have BKn := v_; have HK := k_; clear n0_ u_ v_ k_; have b_ := Aside0.mk (blk_below (by first | exact B1.out | exact blk_drew B1.out) hb); clear B1; have B1 := b_; clear b_; have b_ := Aside0.mk (blk_below (by first | exact B2.out | exact blk_drew B2.out) hb); clear B2; have B2 := b_; clear b_; clear ca0 ca1 ca2 ca3 cb0 cb1 cb2 cb3 cu cn fu fn_; clear hb; have ca0 : w3.cell? ⟨g1, 0, none⟩ = some (.int .i64 a) := (blk_cell B1.out 0).trans rfl; have ca1 : w3.cell? ⟨g1, 1, none⟩ = some (.int .i64 b) := (blk_cell B1.out 1).trans rfl; have ca2 : w3.cell? ⟨g1, 2, none⟩ = some (.int .i64 c) := (blk_cell B1.out 2).trans rfl; have ca3 : w3.cell? ⟨g1, 3, none⟩ = some (.bool z) := (blk_cell B1.out 3).trans rfl; have cb0 : w3.cell? ⟨g2, 0, none⟩ = some (.int .i64 x) := (blk_cell B2.out 0).trans rfl; have cb1 : w3.cell? ⟨g2, 1, none⟩ = some (.int .i64 y) := (blk_cell B2.out 1).trans rfl; have cb2 : w3.cell? ⟨g2, 2, none⟩ = some (.int .i64 p) := (blk_cell B2.out 2).trans rfl; have cb3 : w3.cell? ⟨g2, 3, none⟩ = some (.bool false) := (blk_cell B2.out 3).trans rfl; have cu : w3.cell? ⟨gu, 0, none⟩ = some (.int .i64 u) := (blk_cell BKu.out 0).trans rfl; have cn : w3.cell? ⟨gn, 0, none⟩ = some (.int .i64 n) := (blk_cell BKn.out 0).trans rfl; have fu := blk_frozen BKu.out 0; have fn_ := blk_frozen BKn.out 0))
  all_goals (try go_wp2)
  all_goals go_end0
  all_goals exact ⟨rfl, (by refine blk_put (cs := #[.int .i64 u]) ?_ 0 _ rfl; exact BKu.out), (by refine blk_far ?_ (fun h_ => HNE.out h_.symm) _; exact BKn.out), by (repeat (first | exact HB.out | refine below_set ?_ GEu.out)), by have HM_ : ((fun k => k = gu ∨ k = gn)) (⟨gu, 0, none⟩ : Addr).block ∨ w.heap.size ≤ (⟨gu, 0, none⟩ : Addr).block := .inl (by simp); (repeat (first | exact HK.out | refine Kept.setCell ?_ HM_ _))⟩
set_option maxHeartbeats 8000000 in
set_option maxRecDepth 100000 in
theorem impl_travel.lit_true (k gu gn : Nat) (a b c : Int) (z : Bool) (x y p t u n : Int) (w0 w : World) (hB : Below w0.heap.size w0 w) (geu : w0.heap.size ≤ gu) (gen : w0.heap.size ≤ gn) (hne : gu ≠ gn) (bku : w.heap[gu]? = some (.cells #[.int .i64 u] 2 (0, 0))) (bkn : w.heap[gn]? = some (.cells #[.int .i64 n] 2 (0, 0))) (h : impl_distance.f k a b x y = some t) :
    Calls Try.prog 161 #[.agg #[.int .i64 a, .int .i64 b, .int .i64 c, .bool z], .agg #[.int .i64 x, .int .i64 y, .int .i64 p, .bool true], .pointer (some ⟨gn, 0, none⟩), .pointer (some ⟨gu, 0, none⟩)] w fun e w' => impl_travel.Lit gu gn (u) (wrap64 (n + t)) w0 w w' e := by
  have hu75 := Try.underlying75
  have HB := Aside0.mk hB
  have GEu := Aside0.mk geu
  have GEn := Aside0.mk gen
  have HNE := Aside0.mk hne
  have BKu := Aside0.mk bku
  have BKn := Aside0.mk bkn
  have HD := Aside0.mk h
  have HK := Aside0.mk (Kept.refl w (fun k => k = gu ∨ k = gn))
  clear hB geu gen hne bku bkn h
  go_enter Try.func161, Try.ntmps161
  go_wp2_with (first | ((with_reducible refine gate_dst (N := 4) rfl ?_); refine box_event ?hg (N := 4) ?hd (cs := #[.int .i64 a, .int .i64 b, .int .i64 c, .bool z]) (t := 75) ?hr ?_; (case hd => rfl); (case hg => rfl); (case hr => first | (go_simp; done) | (go_simp; rfl)); intro g1 hg w2 hbox hb; have n0_ := Aside0.mk (below_step (by first | exact HB.out | exact below_drew1 HB.out) hb); have u_ := Aside0.mk (blk_below (by first | exact BKu.out | exact blk_drew BKu.out) hb); have v_ := Aside0.mk (blk_below (by first | exact BKn.out | exact blk_drew BKn.out) hb); have k_ := Aside0.mk (Kept.below (by first | exact HK.out | exact Kept.drew HK.out) hb); clear HB BKu BKn HK; have HB := n0_; have BKu := u_; have BKn := v_; have HK := k_; clear n0_ u_ v_ k_; have B1 := Aside0.mk hbox; clear hb hbox hg) | ((with_reducible refine gate_dst (N := 5) rfl ?_); refine box_event ?hg (N := 5) ?hd (cs := #[.int .i64 x, .int .i64 y, .int .i64 p, .bool true]) (t := 75) ?hr ?_; (case hd => rfl); (case hg => rfl); (case hr => first | (go_simp; done) | (go_simp; rfl)); intro g2 hg w2 hbox hb; have n0_ := Aside0.mk (below_step (by first | exact HB.out | exact below_drew1 HB.out) hb); have u_ := Aside0.mk (blk_below (by first | exact BKu.out | exact blk_drew BKu.out) hb); have v_ := Aside0.mk (blk_below (by first | exact BKn.out | exact blk_drew BKn.out) hb); have k_ := Aside0.mk (Kept.below (by first | exact HK.out | exact Kept.drew HK.out) hb); clear HB BKu BKn HK; have HB := n0_; have BKu := u_; have BKn := v_; have HK := k_; clear n0_ u_ v_ k_; have b_ := Aside0.mk (blk_below (by first | exact B1.out | exact blk_drew B1.out) hb); clear B1; have B1 := b_; clear b_; have B2 := Aside0.mk hbox; clear hb hbox hg; have ca0 : w2.cell? ⟨g1, 0, none⟩ = some (.int .i64 a) := (blk_cell B1.out 0).trans rfl; have ca1 : w2.cell? ⟨g1, 1, none⟩ = some (.int .i64 b) := (blk_cell B1.out 1).trans rfl; have ca2 : w2.cell? ⟨g1, 2, none⟩ = some (.int .i64 c) := (blk_cell B1.out 2).trans rfl; have ca3 : w2.cell? ⟨g1, 3, none⟩ = some (.bool z) := (blk_cell B1.out 3).trans rfl; have cb0 : w2.cell? ⟨g2, 0, none⟩ = some (.int .i64 x) := (blk_cell B2.out 0).trans rfl; have cb1 : w2.cell? ⟨g2, 1, none⟩ = some (.int .i64 y) := (blk_cell B2.out 1).trans rfl; have cb2 : w2.cell? ⟨g2, 2, none⟩ = some (.int .i64 p) := (blk_cell B2.out 2).trans rfl; have cb3 : w2.cell? ⟨g2, 3, none⟩ = some (.bool true) := (blk_cell B2.out 3).trans rfl; have cu : w2.cell? ⟨gu, 0, none⟩ = some (.int .i64 u) := (blk_cell BKu.out 0).trans rfl; have cn : w2.cell? ⟨gn, 0, none⟩ = some (.int .i64 n) := (blk_cell BKn.out 0).trans rfl; have fu := blk_frozen BKu.out 0; have fn_ := blk_frozen BKn.out 0))
  go_region_with (first | (go_at_call 162; (with_reducible refine (impl_Plotter_point.calls a b c z a b _ rfl).mono ?_); rintro e w3 ⟨rfl, hb⟩; have n0_ := Aside0.mk (below_step (by first | exact HB.out | exact below_drew1 HB.out) hb); have u_ := Aside0.mk (blk_below (by first | exact BKu.out | exact blk_drew BKu.out) hb); have v_ := Aside0.mk (blk_below (by first | exact BKn.out | exact blk_drew BKn.out) hb); have k_ := Aside0.mk (Kept.below (by first | exact HK.out | exact Kept.drew HK.out) hb); clear HB BKu BKn HK; have HB := n0_; have BKu := u_; have BKn := v_; have HK := k_; clear n0_ u_ v_ k_; have b_ := Aside0.mk (blk_below (by first | exact B1.out | exact blk_drew B1.out) hb); clear B1; have B1 := b_; clear b_; have b_ := Aside0.mk (blk_below (by first | exact B2.out | exact blk_drew B2.out) hb); clear B2; have B2 := b_; clear b_; clear ca0 ca1 ca2 ca3 cb0 cb1 cb2 cb3 cu cn fu fn_; clear hb; have ca0 : w3.cell? ⟨g1, 0, none⟩ = some (.int .i64 a) := (blk_cell B1.out 0).trans rfl; have ca1 : w3.cell? ⟨g1, 1, none⟩ = some (.int .i64 b) := (blk_cell B1.out 1).trans rfl; have ca2 : w3.cell? ⟨g1, 2, none⟩ = some (.int .i64 c) := (blk_cell B1.out 2).trans rfl; have ca3 : w3.cell? ⟨g1, 3, none⟩ = some (.bool z) := (blk_cell B1.out 3).trans rfl; have cb0 : w3.cell? ⟨g2, 0, none⟩ = some (.int .i64 x) := (blk_cell B2.out 0).trans rfl; have cb1 : w3.cell? ⟨g2, 1, none⟩ = some (.int .i64 y) := (blk_cell B2.out 1).trans rfl; have cb2 : w3.cell? ⟨g2, 2, none⟩ = some (.int .i64 p) := (blk_cell B2.out 2).trans rfl; have cb3 : w3.cell? ⟨g2, 3, none⟩ = some (.bool true) := (blk_cell B2.out 3).trans rfl; have cu : w3.cell? ⟨gu, 0, none⟩ = some (.int .i64 u) := (blk_cell BKu.out 0).trans rfl; have cn : w3.cell? ⟨gn, 0, none⟩ = some (.int .i64 n) := (blk_cell BKn.out 0).trans rfl; have fu := blk_frozen BKu.out 0; have fn_ := blk_frozen BKn.out 0) | (go_at_call 162; (with_reducible refine (impl_Plotter_point.calls x y p true x y _ rfl).mono ?_); rintro e w3 ⟨rfl, hb⟩; have n0_ := Aside0.mk (below_step (by first | exact HB.out | exact below_drew1 HB.out) hb); have u_ := Aside0.mk (blk_below (by first | exact BKu.out | exact blk_drew BKu.out) hb); have v_ := Aside0.mk (blk_below (by first | exact BKn.out | exact blk_drew BKn.out) hb); have k_ := Aside0.mk (Kept.below (by first | exact HK.out | exact Kept.drew HK.out) hb); clear HB BKu BKn HK; have HB := n0_; have BKu := u_; have BKn := v_; have HK := k_; clear n0_ u_ v_ k_; have b_ := Aside0.mk (blk_below (by first | exact B1.out | exact blk_drew B1.out) hb); clear B1; have B1 := b_; clear b_; have b_ := Aside0.mk (blk_below (by first | exact B2.out | exact blk_drew B2.out) hb); clear B2; have B2 := b_; clear b_; clear ca0 ca1 ca2 ca3 cb0 cb1 cb2 cb3 cu cn fu fn_; clear hb; have ca0 : w3.cell? ⟨g1, 0, none⟩ = some (.int .i64 a) := (blk_cell B1.out 0).trans rfl; have ca1 : w3.cell? ⟨g1, 1, none⟩ = some (.int .i64 b) := (blk_cell B1.out 1).trans rfl; have ca2 : w3.cell? ⟨g1, 2, none⟩ = some (.int .i64 c) := (blk_cell B1.out 2).trans rfl; have ca3 : w3.cell? ⟨g1, 3, none⟩ = some (.bool z) := (blk_cell B1.out 3).trans rfl; have cb0 : w3.cell? ⟨g2, 0, none⟩ = some (.int .i64 x) := (blk_cell B2.out 0).trans rfl; have cb1 : w3.cell? ⟨g2, 1, none⟩ = some (.int .i64 y) := (blk_cell B2.out 1).trans rfl; have cb2 : w3.cell? ⟨g2, 2, none⟩ = some (.int .i64 p) := (blk_cell B2.out 2).trans rfl; have cb3 : w3.cell? ⟨g2, 3, none⟩ = some (.bool true) := (blk_cell B2.out 3).trans rfl; have cu : w3.cell? ⟨gu, 0, none⟩ = some (.int .i64 u) := (blk_cell BKu.out 0).trans rfl; have cn : w3.cell? ⟨gn, 0, none⟩ = some (.int .i64 n) := (blk_cell BKn.out 0).trans rfl; have fu := blk_frozen BKu.out 0; have fn_ := blk_frozen BKn.out 0) | (go_at_call 137; (with_reducible refine (impl_distance.calls k a b x y t _ HD.out).mono ?_); rintro e w3 ⟨rfl, hb⟩; have n0_ := Aside0.mk (below_step (by first | exact HB.out | exact below_drew1 HB.out) hb); have u_ := Aside0.mk (blk_below (by first | exact BKu.out | exact blk_drew BKu.out) hb); have v_ := Aside0.mk (blk_below (by first | exact BKn.out | exact blk_drew BKn.out) hb); have k_ := Aside0.mk (Kept.below (by first | exact HK.out | exact Kept.drew HK.out) hb); clear HB BKu BKn HK; have HB := n0_; have BKu := u_; have BKn := v_; have HK := k_; clear n0_ u_ v_ k_; have b_ := Aside0.mk (blk_below (by first | exact B1.out | exact blk_drew B1.out) hb); clear B1; have B1 := b_; clear b_; have b_ := Aside0.mk (blk_below (by first | exact B2.out | exact blk_drew B2.out) hb); clear B2; have B2 := b_; clear b_; clear ca0 ca1 ca2 ca3 cb0 cb1 cb2 cb3 cu cn fu fn_; clear hb; have ca0 : w3.cell? ⟨g1, 0, none⟩ = some (.int .i64 a) := (blk_cell B1.out 0).trans rfl; have ca1 : w3.cell? ⟨g1, 1, none⟩ = some (.int .i64 b) := (blk_cell B1.out 1).trans rfl; have ca2 : w3.cell? ⟨g1, 2, none⟩ = some (.int .i64 c) := (blk_cell B1.out 2).trans rfl; have ca3 : w3.cell? ⟨g1, 3, none⟩ = some (.bool z) := (blk_cell B1.out 3).trans rfl; have cb0 : w3.cell? ⟨g2, 0, none⟩ = some (.int .i64 x) := (blk_cell B2.out 0).trans rfl; have cb1 : w3.cell? ⟨g2, 1, none⟩ = some (.int .i64 y) := (blk_cell B2.out 1).trans rfl; have cb2 : w3.cell? ⟨g2, 2, none⟩ = some (.int .i64 p) := (blk_cell B2.out 2).trans rfl; have cb3 : w3.cell? ⟨g2, 3, none⟩ = some (.bool true) := (blk_cell B2.out 3).trans rfl; have cu : w3.cell? ⟨gu, 0, none⟩ = some (.int .i64 u) := (blk_cell BKu.out 0).trans rfl; have cn : w3.cell? ⟨gn, 0, none⟩ = some (.int .i64 n) := (blk_cell BKn.out 0).trans rfl; have fu := blk_frozen BKu.out 0; have fn_ := blk_frozen BKn.out 0))
  all_goals (try go_wp2)
  all_goals go_end0
  all_goals exact ⟨rfl, (by refine blk_far ?_ HNE.out _; exact BKu.out), (by refine blk_put (cs := #[.int .i64 n]) ?_ 0 _ rfl; exact BKn.out), by (repeat (first | exact HB.out | refine below_set ?_ GEn.out)), by have HM_ : ((fun k => k = gu ∨ k = gn)) (⟨gn, 0, none⟩ : Addr).block ∨ w.heap.size ≤ (⟨gn, 0, none⟩ : Addr).block := .inl (by simp); (repeat (first | exact HK.out | refine Kept.setCell ?_ HM_ _))⟩
/-- What is so behind a run: the captured variables hold the run's result. -/
def impl_travel.Ran (gu : Nat) (gn : Nat) (r1 : Int) (r2 : Int) (ok : Bool) (w0 w w' : World) (e : Ending) : Prop := e = .returned (.bool ok) ∧ Below w0.heap.size w0 w' ∧ w'.heap[gu]? = some (.cells #[.int .i64 r1] 2 (0, 0)) ∧ w'.heap[gn]? = some (.cells #[.int .i64 r2] 2 (0, 0)) ∧ Kept w w' (fun k => k = gu ∨ k = gn)
set_option maxHeartbeats 8000000 in
set_option maxRecDepth 100000 in
theorem impl_travel.run (A0 : Option Addr) (c0 : Nat) (l0 : List S137) (k : Nat) (gu : Nat) (gn : Nat) (u : Int) (n : Int) (r1 : Int) (r2 : Int) (ok : Bool) (w0 w : World) (hr0 : Kd.C k137 w0 A0 l0.length l0) (hB : Below w0.heap.size w0 w) (hne : gu ≠ gn) (gegu : w0.heap.size ≤ gu) (gegn : w0.heap.size ≤ gn) (bkgu : w.heap[gu]? = some (.cells #[.int .i64 u] 2 (0, 0))) (bkgn : w.heap[gn]? = some (.cells #[.int .i64 n] 2 (0, 0))) (h : impl_travel.go k l0 0 0 0 false u n = some (r1, r2, ok)) :
    Calls Try.prog 112 #[.slice A0 l0.length c0, .func (.func 161) #[] #[.pointer (some ⟨gn, 0, none⟩), .pointer (some ⟨gu, 0, none⟩)]] w fun e w' => impl_travel.Ran gu gn r1 r2 ok w0 w w' e := by
  have hu75 := Try.underlying75
  have hu137 := Try.underlying137
  have hmf : ∀ (fn : Fn) (first cap : Array Value) (w : World), (Instr.makeFunc fn first cap).run Try.prog w = .ok (.func fn first cap) w := fun _ _ _ _ => rfl
  have HR0 := Aside0.mk hr0
  have HB := Aside0.mk hB
  have HK := Aside0.mk (Kept.refl w (fun k => k = gu ∨ k = gn))
  have H' := Aside0.mk h
  have hlen : l0.length ≤ 9223372036854775807 := hr0.2.1
  have GEgu := Aside0.mk gegu
  have BKgu := Aside0.mk bkgu
  have GEgn := Aside0.mk gegn
  have BKgn := Aside0.mk bkgn
  have HNE := Aside0.mk hne
  clear hr0 hB h gegu bkgu gegn bkgn hne
  go_enter Try.func112, Try.ntmps112
  go_wp2_with (first | ((with_reducible refine gate_dst (N := 5) rfl ?_); refine box_event ?hg (N := 5) ?hd (cs := #[.int .i64 0, .int .i64 0, .int .i64 0, .bool false]) (t := 75) ?hr ?_; (case hd => rfl); (case hg => rfl); (case hr => first | (go_simp; done) | (go_simp; rfl)); intro gp hg w2 hbox hb; have n0_ := Aside0.mk (below_step HB.out hb); have NP := Aside0.mk hbox; have GKp := Aside0.mk ((by rw [hg]; exact HK.out.1) : w.heap.size ≤ gp); have k_ := Aside0.mk (Kept.below HK.out hb); clear HK; have HK := k_; clear k_; have GEp := Aside0.mk ((by rw [hg]; exact below_size HB.out) : w0.heap.size ≤ gp); have NEgu : Aside0 (gp ≠ gu) := ⟨by have h_ := blk_lt BKgu.out; rw [hg]; omega⟩; have mgu_ := Aside0.mk (blk_below BKgu.out hb); clear BKgu; have BKgu := mgu_; clear mgu_; have NEgn : Aside0 (gp ≠ gn) := ⟨by have h_ := blk_lt BKgn.out; rw [hg]; omega⟩; have mgn_ := Aside0.mk (blk_below BKgn.out hb); clear BKgn; have BKgn := mgn_; clear mgn_; clear HB; have HB := n0_; clear n0_; clear hb hbox hg; have cz0 : w2.cell? ⟨gp, 0, none⟩ = some (.int .i64 0) := (blk_cell NP.out 0).trans rfl; have cz1 : w2.cell? ⟨gp, 1, none⟩ = some (.int .i64 0) := (blk_cell NP.out 1).trans rfl; have cz2 : w2.cell? ⟨gp, 2, none⟩ = some (.int .i64 0) := (blk_cell NP.out 2).trans rfl; have cz3 : w2.cell? ⟨gp, 3, none⟩ = some (.bool false) := (blk_cell NP.out 3).trans rfl; have fz0 := blk_frozen NP.out 0; have fz1 := blk_frozen NP.out 1; have fz2 := blk_frozen NP.out 2; have fz3 := blk_frozen NP.out 3))
  go_loopw [13] (fun v13 wr => ∃ (m : Nat) (ys : List S137) (x y p : Int) (d : Bool) (u : Int) (n : Int), v13 = .int .i64 m ∧ m ≤ l0.length ∧ Aside0 (l0.drop m = ys) ∧ Aside0 (impl_travel.go k ys x y p d u n = some (r1, r2, ok)) ∧ Aside0 (wr.heap[gp]? = some (.cells #[.int .i64 x, .int .i64 y, .int .i64 p, .bool d] 75 (0, 0))) ∧ Aside0 (wr.heap[gu]? = some (.cells #[.int .i64 u] 2 (0, 0))) ∧ Aside0 (wr.heap[gn]? = some (.cells #[.int .i64 n] 2 (0, 0))) ∧ Aside0 (Below w0.heap.size w0 wr) ∧ Aside0 (Kept w wr (fun k => k = gu ∨ k = gn))) (fun v13 _ => l0.length - (intOf v13).toNat)
  case atStart => exact ⟨0, l0, 0, 0, 0, false, u, n, rfl, Nat.zero_le _, ⟨rfl⟩, H', ⟨(by refine blk_put (cs := #[.int .i64 0, .int .i64 0, .int .i64 0, .bool false]) ?_ 3 _ rfl; refine blk_put (cs := #[.int .i64 0, .int .i64 0, .int .i64 0, .bool false]) ?_ 2 _ rfl; refine blk_put (cs := #[.int .i64 0, .int .i64 0, .int .i64 0, .bool false]) ?_ 1 _ rfl; refine blk_put (cs := #[.int .i64 0, .int .i64 0, .int .i64 0, .bool false]) ?_ 0 _ rfl; exact NP.out)⟩, ⟨(by (repeat (first | exact BKgu.out | refine blk_far ?_ (fun h_ => NEgu.out h_.symm) _)))⟩, ⟨(by (repeat (first | exact BKgn.out | refine blk_far ?_ (fun h_ => NEgn.out h_.symm) _)))⟩, ⟨by repeat (first | exact HB.out | refine below_set ?_ GEp.out)⟩, ⟨(by have HM_ : ((fun k => k = gu ∨ k = gn)) (⟨gp, 0, none⟩ : Addr).block ∨ w.heap.size ≤ (⟨gp, 0, none⟩ : Addr).block := .inr GKp.out; (repeat (first | exact HK.out | refine Kept.setCell ?_ HM_ _)) : Kept w _ (fun k => k = gu ∨ k = gn))⟩⟩
  case round =>
    clear H' NP
    try clear cz0 fz0 cz1 fz1 cz2 fz2 cz3 fz3
    obtain ⟨m, ys, x, y, p, d, u_, n_, rfl, hm, HD, HA, BKp, BKgu, BKgn, HB, HK⟩ := hrel
    by_cases hlt : m < l0.length
    · cases ys with
      | nil => exact absurd (impl_travel.drop_nil HD.out) (by omega)
      | cons c ys =>
      have hrd := Aside0.mk (impl_travel.drop_at HD.out)
      have HD2 := Aside0.mk (impl_travel.drop_next HD.out)
      have H := HA.out
      clear HA
      simp only [impl_travel.go] at H
      replace H := Option.bind_eq_some_iff.mp H
      obtain ⟨⟨s1, s2, s3, s4, s5⟩, A1, H⟩ := H
      have HS := Aside0.mk A1
      clear A1
      obtain ⟨ad, e0, hx0, hx1, hx2⟩ := at_T137 HR0.out (m : Int) (by omega) (by omega)
      cases e0
      rw [show rd_T137 l0 (m : Int) = c from hrd.out] at hx0 hx1 hx2
      simp only [Int.toNat_natCast] at hx0 hx1 hx2
      replace hx0 := (HB.out.cell (World.block_lt_of_cell? w0 _ hx0)).trans hx0
      replace hx1 := (HB.out.cell (World.block_lt_of_cell? w0 _ hx1)).trans hx1
      replace hx2 := (HB.out.cell (World.block_lt_of_cell? w0 _ hx2)).trans hx2
      clear hrd HD
      cases s5 with
      | false =>
        rw [if_neg (by simp)] at H
        obtain ⟨rfl, rfl, rfl⟩ := (by simpa using H)
        clear H
        go_wp2_with (first | ((with_reducible refine gate_dst (N := 7) rfl ?_); refine box_event ?hg (N := 7) ?hd (cs := #[.int .u8 0, .int .i64 0, .int .i64 0]) (t := 137) ?hr ?_; (case hd => rfl); (case hg => rfl); (case hr => first | (go_simp; done) | (go_simp; rfl)); intro gc hg w2 hbox hb; have n0_ := Aside0.mk (below_step HB.out hb); have BKc := Aside0.mk hbox; have GKc := Aside0.mk ((by rw [hg]; exact HK.out.1) : w.heap.size ≤ gc); have k_ := Aside0.mk (Kept.below HK.out hb); clear HK; have HK := k_; clear k_; have GEc := Aside0.mk ((by rw [hg]; exact below_size HB.out) : w0.heap.size ≤ gc); have NEpc : Aside0 (gp ≠ gc) := ⟨by have h_ := blk_lt BKp.out; rw [hg]; omega⟩; have m_ := Aside0.mk (blk_below BKp.out hb); clear BKp; have BKp := m_; clear m_; have NEcgu : Aside0 (gu ≠ gc) := ⟨by have h_ := blk_lt BKgu.out; rw [hg]; omega⟩; have m_ := Aside0.mk (blk_below BKgu.out hb); clear BKgu; have BKgu := m_; clear m_; have NEcgn : Aside0 (gn ≠ gc) := ⟨by have h_ := blk_lt BKgn.out; rw [hg]; omega⟩; have m_ := Aside0.mk (blk_below BKgn.out hb); clear BKgn; have BKgn := m_; clear m_; clear HB; have HB := n0_; clear n0_; clear hb hbox hg; have cc0 : w2.cell? ⟨gc, 0, none⟩ = some (.int .u8 0) := (blk_cell BKc.out 0).trans rfl; have cc1 : w2.cell? ⟨gc, 1, none⟩ = some (.int .i64 0) := (blk_cell BKc.out 1).trans rfl; have cc2 : w2.cell? ⟨gc, 2, none⟩ = some (.int .i64 0) := (blk_cell BKc.out 2).trans rfl; have fc0 := blk_frozen BKc.out 0; have fc1 := blk_frozen BKc.out 1; have fc2 := blk_frozen BKc.out 2; have cp0 : w2.cell? ⟨gp, 0, none⟩ = some (.int .i64 x) := (blk_cell BKp.out 0).trans rfl; have cp1 : w2.cell? ⟨gp, 1, none⟩ = some (.int .i64 y) := (blk_cell BKp.out 1).trans rfl; have cp2 : w2.cell? ⟨gp, 2, none⟩ = some (.int .i64 p) := (blk_cell BKp.out 2).trans rfl; have cp3 : w2.cell? ⟨gp, 3, none⟩ = some (.bool d) := (blk_cell BKp.out 3).trans rfl; have qgpgc : (gp = gc) = False := eq_false NEpc.out; have qgcgp : (gc = gp) = False := eq_false (fun h_ => NEpc.out h_.symm); clear hx0 hx1 hx2))
        (with_reducible refine (impl_Plotter_step.calls x y p d c.f0 c.f1 c.f2 s1 s2 s3 s4 false _ HS.out).mono ?_)
        rintro e w3 ⟨rfl, hb⟩
        have m_ := Aside0.mk (blk_below (by (repeat (first | exact BKp.out | refine blk_far ?_ NEpc.out _)) : (_ : World).heap[gp]? = some (.cells #[.int .i64 x, .int .i64 y, .int .i64 p, .bool d] 75 (0, 0))) hb)
        clear BKp
        have BKp := m_
        clear m_
        have m_ := Aside0.mk (blk_below (by (repeat (first | exact BKgu.out | refine blk_far ?_ NEcgu.out _)) : (_ : World).heap[gu]? = some (.cells #[.int .i64 u_] 2 (0, 0))) hb)
        clear BKgu
        have BKgu := m_
        clear m_
        have m_ := Aside0.mk (blk_below (by (repeat (first | exact BKgn.out | refine blk_far ?_ NEcgn.out _)) : (_ : World).heap[gn]? = some (.cells #[.int .i64 n_] 2 (0, 0))) hb)
        clear BKgn
        have BKgn := m_
        clear m_
        have n0_ := Aside0.mk (below_step (by (repeat (first | exact HB.out | refine below_set ?_ GEc.out))) hb)
        have k_ := Aside0.mk (Kept.below (by have HM_ : ((fun k => k = gu ∨ k = gn)) (⟨gc, 0, none⟩ : Addr).block ∨ w.heap.size ≤ (⟨gc, 0, none⟩ : Addr).block := .inr GKc.out; (repeat (first | exact HK.out | refine Kept.setCell ?_ HM_ _)) : Kept w _ (fun k => k = gu ∨ k = gn)) hb)
        clear HK
        have HK := k_
        clear k_
        clear HB
        have HB := n0_
        clear n0_ hb cc0 cc1 cc2 fc0 fc1 fc2 cp0 cp1 cp2 cp3 qgpgc qgcgp
        go_wp2_with (first | ((with_reducible refine gate_dst (N := 8) rfl ?_); refine box_event ?hg (N := 8) ?hd (cs := #[.int .i64 0, .int .i64 0, .int .i64 0, .bool false]) (t := 75) ?hr ?_; (case hd => rfl); (case hg => rfl); (case hr => first | (go_simp; done) | (go_simp; rfl)); intro gq hg w2 hbox hb; have n0_ := Aside0.mk (below_step HB.out hb); have BKq := Aside0.mk hbox; have GKq := Aside0.mk ((by rw [hg]; exact HK.out.1) : w.heap.size ≤ gq); have k_ := Aside0.mk (Kept.below HK.out hb); clear HK; have HK := k_; clear k_; have GEq := Aside0.mk ((by rw [hg]; exact below_size HB.out) : w0.heap.size ≤ gq); have NEpq : Aside0 (gp ≠ gq) := ⟨by have h_ := blk_lt BKp.out; rw [hg]; omega⟩; have m_ := Aside0.mk (blk_below BKp.out hb); clear BKp; have BKp := m_; clear m_; have NEqgu : Aside0 (gu ≠ gq) := ⟨by have h_ := blk_lt BKgu.out; rw [hg]; omega⟩; have m_ := Aside0.mk (blk_below BKgu.out hb); clear BKgu; have BKgu := m_; clear m_; have NEqgn : Aside0 (gn ≠ gq) := ⟨by have h_ := blk_lt BKgn.out; rw [hg]; omega⟩; have m_ := Aside0.mk (blk_below BKgn.out hb); clear BKgn; have BKgn := m_; clear m_; clear HB; have HB := n0_; clear n0_; clear hb hbox hg; have cq0 : w2.cell? ⟨gq, 0, none⟩ = some (.int .i64 0) := (blk_cell BKq.out 0).trans rfl; have cq1 : w2.cell? ⟨gq, 1, none⟩ = some (.int .i64 0) := (blk_cell BKq.out 1).trans rfl; have cq2 : w2.cell? ⟨gq, 2, none⟩ = some (.int .i64 0) := (blk_cell BKq.out 2).trans rfl; have cq3 : w2.cell? ⟨gq, 3, none⟩ = some (.bool false) := (blk_cell BKq.out 3).trans rfl; have fq0 := blk_frozen BKq.out 0; have fq1 := blk_frozen BKq.out 1; have fq2 := blk_frozen BKq.out 2; have fq3 := blk_frozen BKq.out 3; have cp0 : w2.cell? ⟨gp, 0, none⟩ = some (.int .i64 x) := (blk_cell BKp.out 0).trans rfl; have cp1 : w2.cell? ⟨gp, 1, none⟩ = some (.int .i64 y) := (blk_cell BKp.out 1).trans rfl; have cp2 : w2.cell? ⟨gp, 2, none⟩ = some (.int .i64 p) := (blk_cell BKp.out 2).trans rfl; have cp3 : w2.cell? ⟨gp, 3, none⟩ = some (.bool d) := (blk_cell BKp.out 3).trans rfl; have qgpgq : (gp = gq) = False := eq_false NEpq.out; have qgqgp : (gq = gp) = False := eq_false (fun h_ => NEpq.out h_.symm)))
        go_ret
        exact ⟨rfl, by (repeat (first | exact HB.out | refine below_set ?_ GEq.out)), by (repeat (first | exact BKgu.out | refine blk_far ?_ NEqgu.out _)), by (repeat (first | exact BKgn.out | refine blk_far ?_ NEqgn.out _)), (by have HM_ : ((fun k => k = gu ∨ k = gn)) (⟨gq, 0, none⟩ : Addr).block ∨ w.heap.size ≤ (⟨gq, 0, none⟩ : Addr).block := .inr GKq.out; (repeat (first | exact HK.out | refine Kept.setCell ?_ HM_ _)) : Kept w _ (fun k => k = gu ∨ k = gn))⟩
      | true =>
        rw [if_pos rfl] at H
        replace H := Option.bind_eq_some_iff.mp H
        obtain ⟨t, A3, H⟩ := H
        have HT := Aside0.mk A3
        clear A3
        cases s4 with
        | false =>
          replace H : impl_travel.go k ys s1 s2 s3 false (wrap64 (u_ + t)) n_ = some (r1, r2, ok) := by rw [if_neg (by simp)] at H; exact H
          go_wp2_with (first | ((with_reducible refine gate_dst (N := 7) rfl ?_); refine box_event ?hg (N := 7) ?hd (cs := #[.int .u8 0, .int .i64 0, .int .i64 0]) (t := 137) ?hr ?_; (case hd => rfl); (case hg => rfl); (case hr => first | (go_simp; done) | (go_simp; rfl)); intro gc hg w2 hbox hb; have n0_ := Aside0.mk (below_step HB.out hb); have BKc := Aside0.mk hbox; have GKc := Aside0.mk ((by rw [hg]; exact HK.out.1) : w.heap.size ≤ gc); have k_ := Aside0.mk (Kept.below HK.out hb); clear HK; have HK := k_; clear k_; have GEc := Aside0.mk ((by rw [hg]; exact below_size HB.out) : w0.heap.size ≤ gc); have NEpc : Aside0 (gp ≠ gc) := ⟨by have h_ := blk_lt BKp.out; rw [hg]; omega⟩; have m_ := Aside0.mk (blk_below BKp.out hb); clear BKp; have BKp := m_; clear m_; have NEcgu : Aside0 (gu ≠ gc) := ⟨by have h_ := blk_lt BKgu.out; rw [hg]; omega⟩; have m_ := Aside0.mk (blk_below BKgu.out hb); clear BKgu; have BKgu := m_; clear m_; have NEcgn : Aside0 (gn ≠ gc) := ⟨by have h_ := blk_lt BKgn.out; rw [hg]; omega⟩; have m_ := Aside0.mk (blk_below BKgn.out hb); clear BKgn; have BKgn := m_; clear m_; clear HB; have HB := n0_; clear n0_; clear hb hbox hg; have cc0 : w2.cell? ⟨gc, 0, none⟩ = some (.int .u8 0) := (blk_cell BKc.out 0).trans rfl; have cc1 : w2.cell? ⟨gc, 1, none⟩ = some (.int .i64 0) := (blk_cell BKc.out 1).trans rfl; have cc2 : w2.cell? ⟨gc, 2, none⟩ = some (.int .i64 0) := (blk_cell BKc.out 2).trans rfl; have fc0 := blk_frozen BKc.out 0; have fc1 := blk_frozen BKc.out 1; have fc2 := blk_frozen BKc.out 2; have cp0 : w2.cell? ⟨gp, 0, none⟩ = some (.int .i64 x) := (blk_cell BKp.out 0).trans rfl; have cp1 : w2.cell? ⟨gp, 1, none⟩ = some (.int .i64 y) := (blk_cell BKp.out 1).trans rfl; have cp2 : w2.cell? ⟨gp, 2, none⟩ = some (.int .i64 p) := (blk_cell BKp.out 2).trans rfl; have cp3 : w2.cell? ⟨gp, 3, none⟩ = some (.bool d) := (blk_cell BKp.out 3).trans rfl; have qgpgc : (gp = gc) = False := eq_false NEpc.out; have qgcgp : (gc = gp) = False := eq_false (fun h_ => NEpc.out h_.symm); clear hx0 hx1 hx2))
          (with_reducible refine (impl_Plotter_step.calls x y p d c.f0 c.f1 c.f2 s1 s2 s3 false true _ HS.out).mono ?_)
          rintro e w3 ⟨rfl, hb⟩
          have m_ := Aside0.mk (blk_below (by (repeat (first | exact BKp.out | refine blk_far ?_ NEpc.out _)) : (_ : World).heap[gp]? = some (.cells #[.int .i64 x, .int .i64 y, .int .i64 p, .bool d] 75 (0, 0))) hb)
          clear BKp
          have BKp := m_
          clear m_
          have m_ := Aside0.mk (blk_below (by (repeat (first | exact BKgu.out | refine blk_far ?_ NEcgu.out _)) : (_ : World).heap[gu]? = some (.cells #[.int .i64 u_] 2 (0, 0))) hb)
          clear BKgu
          have BKgu := m_
          clear m_
          have m_ := Aside0.mk (blk_below (by (repeat (first | exact BKgn.out | refine blk_far ?_ NEcgn.out _)) : (_ : World).heap[gn]? = some (.cells #[.int .i64 n_] 2 (0, 0))) hb)
          clear BKgn
          have BKgn := m_
          clear m_
          have n0_ := Aside0.mk (below_step (by (repeat (first | exact HB.out | refine below_set ?_ GEc.out))) hb)
          have k_ := Aside0.mk (Kept.below (by have HM_ : ((fun k => k = gu ∨ k = gn)) (⟨gc, 0, none⟩ : Addr).block ∨ w.heap.size ≤ (⟨gc, 0, none⟩ : Addr).block := .inr GKc.out; (repeat (first | exact HK.out | refine Kept.setCell ?_ HM_ _)) : Kept w _ (fun k => k = gu ∨ k = gn)) hb)
          clear HK
          have HK := k_
          clear k_
          clear HB
          have HB := n0_
          clear n0_ hb cc0 cc1 cc2 fc0 fc1 fc2 cp0 cp1 cp2 cp3 qgpgc qgcgp
          go_wp2_with (first | ((with_reducible refine gate_dst (N := 8) rfl ?_); refine box_event ?hg (N := 8) ?hd (cs := #[.int .i64 0, .int .i64 0, .int .i64 0, .bool false]) (t := 75) ?hr ?_; (case hd => rfl); (case hg => rfl); (case hr => first | (go_simp; done) | (go_simp; rfl)); intro gq hg w2 hbox hb; have n0_ := Aside0.mk (below_step HB.out hb); have BKq := Aside0.mk hbox; have GKq := Aside0.mk ((by rw [hg]; exact HK.out.1) : w.heap.size ≤ gq); have k_ := Aside0.mk (Kept.below HK.out hb); clear HK; have HK := k_; clear k_; have GEq := Aside0.mk ((by rw [hg]; exact below_size HB.out) : w0.heap.size ≤ gq); have NEpq : Aside0 (gp ≠ gq) := ⟨by have h_ := blk_lt BKp.out; rw [hg]; omega⟩; have m_ := Aside0.mk (blk_below BKp.out hb); clear BKp; have BKp := m_; clear m_; have NEqgu : Aside0 (gu ≠ gq) := ⟨by have h_ := blk_lt BKgu.out; rw [hg]; omega⟩; have m_ := Aside0.mk (blk_below BKgu.out hb); clear BKgu; have BKgu := m_; clear m_; have NEqgn : Aside0 (gn ≠ gq) := ⟨by have h_ := blk_lt BKgn.out; rw [hg]; omega⟩; have m_ := Aside0.mk (blk_below BKgn.out hb); clear BKgn; have BKgn := m_; clear m_; clear HB; have HB := n0_; clear n0_; clear hb hbox hg; have cq0 : w2.cell? ⟨gq, 0, none⟩ = some (.int .i64 0) := (blk_cell BKq.out 0).trans rfl; have cq1 : w2.cell? ⟨gq, 1, none⟩ = some (.int .i64 0) := (blk_cell BKq.out 1).trans rfl; have cq2 : w2.cell? ⟨gq, 2, none⟩ = some (.int .i64 0) := (blk_cell BKq.out 2).trans rfl; have cq3 : w2.cell? ⟨gq, 3, none⟩ = some (.bool false) := (blk_cell BKq.out 3).trans rfl; have fq0 := blk_frozen BKq.out 0; have fq1 := blk_frozen BKq.out 1; have fq2 := blk_frozen BKq.out 2; have fq3 := blk_frozen BKq.out 3; have cp0 : w2.cell? ⟨gp, 0, none⟩ = some (.int .i64 x) := (blk_cell BKp.out 0).trans rfl; have cp1 : w2.cell? ⟨gp, 1, none⟩ = some (.int .i64 y) := (blk_cell BKp.out 1).trans rfl; have cp2 : w2.cell? ⟨gp, 2, none⟩ = some (.int .i64 p) := (blk_cell BKp.out 2).trans rfl; have cp3 : w2.cell? ⟨gp, 3, none⟩ = some (.bool d) := (blk_cell BKp.out 3).trans rfl; have qgpgq : (gp = gq) = False := eq_false NEpq.out; have qgqgp : (gq = gp) = False := eq_false (fun h_ => NEpq.out h_.symm)))
          (with_reducible refine (impl_travel.lit_false k gu gn x y p d s1 s2 s3 t u_ n_ w0 _ ?cbfalse GEgu.out GEgn.out HNE.out ?cufalse ?cnfalse HT.out).mono ?_)
          (case cbfalse => (repeat (first | exact HB.out | refine below_set ?_ GEq.out)))
          (case cufalse => (repeat (first | exact BKgu.out | refine blk_far ?_ NEqgu.out _)))
          (case cnfalse => (repeat (first | exact BKgn.out | refine blk_far ?_ NEqgn.out _)))
          rintro e w5 ⟨rfl, hl1, hl2, hb2, hk⟩
          have m_ := Aside0.mk (blk_kept (by (repeat (first | exact BKp.out | refine blk_far ?_ NEpq.out _)) : (_ : World).heap[gp]? = some (.cells #[.int .i64 x, .int .i64 y, .int .i64 p, .bool d] 75 (0, 0))) hk (fun h_ => h_.elim NEgu.out NEgn.out))
          have n_ := Aside0.mk (blk_kept ((by refine blk_put (cs := #[.int .i64 s1, .int .i64 s2, .int .i64 s3, .bool false]) ?_ 3 _ rfl; refine blk_put (cs := #[.int .i64 s1, .int .i64 s2, .int .i64 0, .bool false]) ?_ 2 _ rfl; refine blk_put (cs := #[.int .i64 s1, .int .i64 0, .int .i64 0, .bool false]) ?_ 1 _ rfl; refine blk_put (cs := #[.int .i64 0, .int .i64 0, .int .i64 0, .bool false]) ?_ 0 _ rfl; exact BKq.out) : (_ : World).heap[gq]? = some (.cells #[.int .i64 s1, .int .i64 s2, .int .i64 s3, .bool false] 75 (0, 0))) hk (fun h_ => h_.elim (fun e_ => NEqgu.out e_.symm) (fun e_ => NEqgn.out e_.symm)))
          clear BKp BKq BKgu BKgn HB cq0 cq1 cq2 cq3 fq0 fq1 fq2 fq3 cp0 cp1 cp2 cp3
          have BKp := m_
          have BKq := n_
          have BKgu := Aside0.mk hl1
          have BKgn := Aside0.mk hl2
          have HB := Aside0.mk hb2
          have k_ := Aside0.mk (Kept.then_ (by have HM_ : ((fun k => k = gu ∨ k = gn)) (⟨gq, 0, none⟩ : Addr).block ∨ w.heap.size ≤ (⟨gq, 0, none⟩ : Addr).block := .inr GKq.out; (repeat (first | exact HK.out | refine Kept.setCell ?_ HM_ _)) : Kept w _ (fun k => k = gu ∨ k = gn)) hk (fun k_ hk_ => .inl hk_))
          clear HK
          have HK := k_
          clear k_
          clear m_ n_ hl1 hl2 hb2 hk
          have cq0 : w5.cell? ⟨gq, 0, none⟩ = some (.int .i64 s1) := (blk_cell BKq.out 0).trans rfl
          have cq1 : w5.cell? ⟨gq, 1, none⟩ = some (.int .i64 s2) := (blk_cell BKq.out 1).trans rfl
          have cq2 : w5.cell? ⟨gq, 2, none⟩ = some (.int .i64 s3) := (blk_cell BKq.out 2).trans rfl
          have cq3 : w5.cell? ⟨gq, 3, none⟩ = some (.bool false) := (blk_cell BKq.out 3).trans rfl
          have cp0 : w5.cell? ⟨gp, 0, none⟩ = some (.int .i64 x) := (blk_cell BKp.out 0).trans rfl
          have cp1 : w5.cell? ⟨gp, 1, none⟩ = some (.int .i64 y) := (blk_cell BKp.out 1).trans rfl
          have cp2 : w5.cell? ⟨gp, 2, none⟩ = some (.int .i64 p) := (blk_cell BKp.out 2).trans rfl
          have cp3 : w5.cell? ⟨gp, 3, none⟩ = some (.bool d) := (blk_cell BKp.out 3).trans rfl
          have fp0 := blk_frozen BKp.out 0
          have fp1 := blk_frozen BKp.out 1
          have fp2 := blk_frozen BKp.out 2
          have fp3 := blk_frozen BKp.out 3
          go_wp2_with fail
          go_roundw
          case measure => simp [intOf]; omega
          case rel => exact ⟨m + 1, ys, s1, s2, s3, false, wrap64 (u_ + t), n_, by go_num, by omega, HD2, ⟨H⟩, ⟨(by refine blk_put (cs := #[.int .i64 s1, .int .i64 s2, .int .i64 s3, .bool d]) ?_ 3 _ rfl; refine blk_put (cs := #[.int .i64 s1, .int .i64 s2, .int .i64 p, .bool d]) ?_ 2 _ rfl; refine blk_put (cs := #[.int .i64 s1, .int .i64 y, .int .i64 p, .bool d]) ?_ 1 _ rfl; refine blk_put (cs := #[.int .i64 x, .int .i64 y, .int .i64 p, .bool d]) ?_ 0 _ rfl; exact BKp.out)⟩, ⟨by (repeat (first | exact BKgu.out | refine blk_far ?_ (fun h_ => NEgu.out h_.symm) _))⟩, ⟨by (repeat (first | exact BKgn.out | refine blk_far ?_ (fun h_ => NEgn.out h_.symm) _))⟩, ⟨by (repeat (first | exact HB.out | refine below_set ?_ GEp.out))⟩, ⟨(by have HM_ : ((fun k => k = gu ∨ k = gn)) (⟨gp, 0, none⟩ : Addr).block ∨ w.heap.size ≤ (⟨gp, 0, none⟩ : Addr).block := .inr GKp.out; (repeat (first | exact HK.out | refine Kept.setCell ?_ HM_ _)) : Kept w _ (fun k => k = gu ∨ k = gn))⟩⟩
        | true =>
          replace H : impl_travel.go k ys s1 s2 s3 true u_ (wrap64 (n_ + t)) = some (r1, r2, ok) := by rw [if_pos rfl] at H; exact H
          go_wp2_with (first | ((with_reducible refine gate_dst (N := 7) rfl ?_); refine box_event ?hg (N := 7) ?hd (cs := #[.int .u8 0, .int .i64 0, .int .i64 0]) (t := 137) ?hr ?_; (case hd => rfl); (case hg => rfl); (case hr => first | (go_simp; done) | (go_simp; rfl)); intro gc hg w2 hbox hb; have n0_ := Aside0.mk (below_step HB.out hb); have BKc := Aside0.mk hbox; have GKc := Aside0.mk ((by rw [hg]; exact HK.out.1) : w.heap.size ≤ gc); have k_ := Aside0.mk (Kept.below HK.out hb); clear HK; have HK := k_; clear k_; have GEc := Aside0.mk ((by rw [hg]; exact below_size HB.out) : w0.heap.size ≤ gc); have NEpc : Aside0 (gp ≠ gc) := ⟨by have h_ := blk_lt BKp.out; rw [hg]; omega⟩; have m_ := Aside0.mk (blk_below BKp.out hb); clear BKp; have BKp := m_; clear m_; have NEcgu : Aside0 (gu ≠ gc) := ⟨by have h_ := blk_lt BKgu.out; rw [hg]; omega⟩; have m_ := Aside0.mk (blk_below BKgu.out hb); clear BKgu; have BKgu := m_; clear m_; have NEcgn : Aside0 (gn ≠ gc) := ⟨by have h_ := blk_lt BKgn.out; rw [hg]; omega⟩; have m_ := Aside0.mk (blk_below BKgn.out hb); clear BKgn; have BKgn := m_; clear m_; clear HB; have HB := n0_; clear n0_; clear hb hbox hg; have cc0 : w2.cell? ⟨gc, 0, none⟩ = some (.int .u8 0) := (blk_cell BKc.out 0).trans rfl; have cc1 : w2.cell? ⟨gc, 1, none⟩ = some (.int .i64 0) := (blk_cell BKc.out 1).trans rfl; have cc2 : w2.cell? ⟨gc, 2, none⟩ = some (.int .i64 0) := (blk_cell BKc.out 2).trans rfl; have fc0 := blk_frozen BKc.out 0; have fc1 := blk_frozen BKc.out 1; have fc2 := blk_frozen BKc.out 2; have cp0 : w2.cell? ⟨gp, 0, none⟩ = some (.int .i64 x) := (blk_cell BKp.out 0).trans rfl; have cp1 : w2.cell? ⟨gp, 1, none⟩ = some (.int .i64 y) := (blk_cell BKp.out 1).trans rfl; have cp2 : w2.cell? ⟨gp, 2, none⟩ = some (.int .i64 p) := (blk_cell BKp.out 2).trans rfl; have cp3 : w2.cell? ⟨gp, 3, none⟩ = some (.bool d) := (blk_cell BKp.out 3).trans rfl; have qgpgc : (gp = gc) = False := eq_false NEpc.out; have qgcgp : (gc = gp) = False := eq_false (fun h_ => NEpc.out h_.symm); clear hx0 hx1 hx2))
          (with_reducible refine (impl_Plotter_step.calls x y p d c.f0 c.f1 c.f2 s1 s2 s3 true true _ HS.out).mono ?_)
          rintro e w3 ⟨rfl, hb⟩
          have m_ := Aside0.mk (blk_below (by (repeat (first | exact BKp.out | refine blk_far ?_ NEpc.out _)) : (_ : World).heap[gp]? = some (.cells #[.int .i64 x, .int .i64 y, .int .i64 p, .bool d] 75 (0, 0))) hb)
          clear BKp
          have BKp := m_
          clear m_
          have m_ := Aside0.mk (blk_below (by (repeat (first | exact BKgu.out | refine blk_far ?_ NEcgu.out _)) : (_ : World).heap[gu]? = some (.cells #[.int .i64 u_] 2 (0, 0))) hb)
          clear BKgu
          have BKgu := m_
          clear m_
          have m_ := Aside0.mk (blk_below (by (repeat (first | exact BKgn.out | refine blk_far ?_ NEcgn.out _)) : (_ : World).heap[gn]? = some (.cells #[.int .i64 n_] 2 (0, 0))) hb)
          clear BKgn
          have BKgn := m_
          clear m_
          have n0_ := Aside0.mk (below_step (by (repeat (first | exact HB.out | refine below_set ?_ GEc.out))) hb)
          have k_ := Aside0.mk (Kept.below (by have HM_ : ((fun k => k = gu ∨ k = gn)) (⟨gc, 0, none⟩ : Addr).block ∨ w.heap.size ≤ (⟨gc, 0, none⟩ : Addr).block := .inr GKc.out; (repeat (first | exact HK.out | refine Kept.setCell ?_ HM_ _)) : Kept w _ (fun k => k = gu ∨ k = gn)) hb)
          clear HK
          have HK := k_
          clear k_
          clear HB
          have HB := n0_
          clear n0_ hb cc0 cc1 cc2 fc0 fc1 fc2 cp0 cp1 cp2 cp3 qgpgc qgcgp
          go_wp2_with (first | ((with_reducible refine gate_dst (N := 8) rfl ?_); refine box_event ?hg (N := 8) ?hd (cs := #[.int .i64 0, .int .i64 0, .int .i64 0, .bool false]) (t := 75) ?hr ?_; (case hd => rfl); (case hg => rfl); (case hr => first | (go_simp; done) | (go_simp; rfl)); intro gq hg w2 hbox hb; have n0_ := Aside0.mk (below_step HB.out hb); have BKq := Aside0.mk hbox; have GKq := Aside0.mk ((by rw [hg]; exact HK.out.1) : w.heap.size ≤ gq); have k_ := Aside0.mk (Kept.below HK.out hb); clear HK; have HK := k_; clear k_; have GEq := Aside0.mk ((by rw [hg]; exact below_size HB.out) : w0.heap.size ≤ gq); have NEpq : Aside0 (gp ≠ gq) := ⟨by have h_ := blk_lt BKp.out; rw [hg]; omega⟩; have m_ := Aside0.mk (blk_below BKp.out hb); clear BKp; have BKp := m_; clear m_; have NEqgu : Aside0 (gu ≠ gq) := ⟨by have h_ := blk_lt BKgu.out; rw [hg]; omega⟩; have m_ := Aside0.mk (blk_below BKgu.out hb); clear BKgu; have BKgu := m_; clear m_; have NEqgn : Aside0 (gn ≠ gq) := ⟨by have h_ := blk_lt BKgn.out; rw [hg]; omega⟩; have m_ := Aside0.mk (blk_below BKgn.out hb); clear BKgn; have BKgn := m_; clear m_; clear HB; have HB := n0_; clear n0_; clear hb hbox hg; have cq0 : w2.cell? ⟨gq, 0, none⟩ = some (.int .i64 0) := (blk_cell BKq.out 0).trans rfl; have cq1 : w2.cell? ⟨gq, 1, none⟩ = some (.int .i64 0) := (blk_cell BKq.out 1).trans rfl; have cq2 : w2.cell? ⟨gq, 2, none⟩ = some (.int .i64 0) := (blk_cell BKq.out 2).trans rfl; have cq3 : w2.cell? ⟨gq, 3, none⟩ = some (.bool false) := (blk_cell BKq.out 3).trans rfl; have fq0 := blk_frozen BKq.out 0; have fq1 := blk_frozen BKq.out 1; have fq2 := blk_frozen BKq.out 2; have fq3 := blk_frozen BKq.out 3; have cp0 : w2.cell? ⟨gp, 0, none⟩ = some (.int .i64 x) := (blk_cell BKp.out 0).trans rfl; have cp1 : w2.cell? ⟨gp, 1, none⟩ = some (.int .i64 y) := (blk_cell BKp.out 1).trans rfl; have cp2 : w2.cell? ⟨gp, 2, none⟩ = some (.int .i64 p) := (blk_cell BKp.out 2).trans rfl; have cp3 : w2.cell? ⟨gp, 3, none⟩ = some (.bool d) := (blk_cell BKp.out 3).trans rfl; have qgpgq : (gp = gq) = False := eq_false NEpq.out; have qgqgp : (gq = gp) = False := eq_false (fun h_ => NEpq.out h_.symm)))
          (with_reducible refine (impl_travel.lit_true k gu gn x y p d s1 s2 s3 t u_ n_ w0 _ ?cbtrue GEgu.out GEgn.out HNE.out ?cutrue ?cntrue HT.out).mono ?_)
          (case cbtrue => (repeat (first | exact HB.out | refine below_set ?_ GEq.out)))
          (case cutrue => (repeat (first | exact BKgu.out | refine blk_far ?_ NEqgu.out _)))
          (case cntrue => (repeat (first | exact BKgn.out | refine blk_far ?_ NEqgn.out _)))
          rintro e w5 ⟨rfl, hl1, hl2, hb2, hk⟩
          have m_ := Aside0.mk (blk_kept (by (repeat (first | exact BKp.out | refine blk_far ?_ NEpq.out _)) : (_ : World).heap[gp]? = some (.cells #[.int .i64 x, .int .i64 y, .int .i64 p, .bool d] 75 (0, 0))) hk (fun h_ => h_.elim NEgu.out NEgn.out))
          have n_ := Aside0.mk (blk_kept ((by refine blk_put (cs := #[.int .i64 s1, .int .i64 s2, .int .i64 s3, .bool false]) ?_ 3 _ rfl; refine blk_put (cs := #[.int .i64 s1, .int .i64 s2, .int .i64 0, .bool false]) ?_ 2 _ rfl; refine blk_put (cs := #[.int .i64 s1, .int .i64 0, .int .i64 0, .bool false]) ?_ 1 _ rfl; refine blk_put (cs := #[.int .i64 0, .int .i64 0, .int .i64 0, .bool false]) ?_ 0 _ rfl; exact BKq.out) : (_ : World).heap[gq]? = some (.cells #[.int .i64 s1, .int .i64 s2, .int .i64 s3, .bool true] 75 (0, 0))) hk (fun h_ => h_.elim (fun e_ => NEqgu.out e_.symm) (fun e_ => NEqgn.out e_.symm)))
          clear BKp BKq BKgu BKgn HB cq0 cq1 cq2 cq3 fq0 fq1 fq2 fq3 cp0 cp1 cp2 cp3
          have BKp := m_
          have BKq := n_
          have BKgu := Aside0.mk hl1
          have BKgn := Aside0.mk hl2
          have HB := Aside0.mk hb2
          have k_ := Aside0.mk (Kept.then_ (by have HM_ : ((fun k => k = gu ∨ k = gn)) (⟨gq, 0, none⟩ : Addr).block ∨ w.heap.size ≤ (⟨gq, 0, none⟩ : Addr).block := .inr GKq.out; (repeat (first | exact HK.out | refine Kept.setCell ?_ HM_ _)) : Kept w _ (fun k => k = gu ∨ k = gn)) hk (fun k_ hk_ => .inl hk_))
          clear HK
          have HK := k_
          clear k_
          clear m_ n_ hl1 hl2 hb2 hk
          have cq0 : w5.cell? ⟨gq, 0, none⟩ = some (.int .i64 s1) := (blk_cell BKq.out 0).trans rfl
          have cq1 : w5.cell? ⟨gq, 1, none⟩ = some (.int .i64 s2) := (blk_cell BKq.out 1).trans rfl
          have cq2 : w5.cell? ⟨gq, 2, none⟩ = some (.int .i64 s3) := (blk_cell BKq.out 2).trans rfl
          have cq3 : w5.cell? ⟨gq, 3, none⟩ = some (.bool true) := (blk_cell BKq.out 3).trans rfl
          have cp0 : w5.cell? ⟨gp, 0, none⟩ = some (.int .i64 x) := (blk_cell BKp.out 0).trans rfl
          have cp1 : w5.cell? ⟨gp, 1, none⟩ = some (.int .i64 y) := (blk_cell BKp.out 1).trans rfl
          have cp2 : w5.cell? ⟨gp, 2, none⟩ = some (.int .i64 p) := (blk_cell BKp.out 2).trans rfl
          have cp3 : w5.cell? ⟨gp, 3, none⟩ = some (.bool d) := (blk_cell BKp.out 3).trans rfl
          have fp0 := blk_frozen BKp.out 0
          have fp1 := blk_frozen BKp.out 1
          have fp2 := blk_frozen BKp.out 2
          have fp3 := blk_frozen BKp.out 3
          go_wp2_with fail
          go_roundw
          case measure => simp [intOf]; omega
          case rel => exact ⟨m + 1, ys, s1, s2, s3, true, u_, wrap64 (n_ + t), by go_num, by omega, HD2, ⟨H⟩, ⟨(by refine blk_put (cs := #[.int .i64 s1, .int .i64 s2, .int .i64 s3, .bool d]) ?_ 3 _ rfl; refine blk_put (cs := #[.int .i64 s1, .int .i64 s2, .int .i64 p, .bool d]) ?_ 2 _ rfl; refine blk_put (cs := #[.int .i64 s1, .int .i64 y, .int .i64 p, .bool d]) ?_ 1 _ rfl; refine blk_put (cs := #[.int .i64 x, .int .i64 y, .int .i64 p, .bool d]) ?_ 0 _ rfl; exact BKp.out)⟩, ⟨by (repeat (first | exact BKgu.out | refine blk_far ?_ (fun h_ => NEgu.out h_.symm) _))⟩, ⟨by (repeat (first | exact BKgn.out | refine blk_far ?_ (fun h_ => NEgn.out h_.symm) _))⟩, ⟨by (repeat (first | exact HB.out | refine below_set ?_ GEp.out))⟩, ⟨(by have HM_ : ((fun k => k = gu ∨ k = gn)) (⟨gp, 0, none⟩ : Addr).block ∨ w.heap.size ≤ (⟨gp, 0, none⟩ : Addr).block := .inr GKp.out; (repeat (first | exact HK.out | refine Kept.setCell ?_ HM_ _)) : Kept w _ (fun k => k = gu ∨ k = gn))⟩⟩
    · have HE : Aside0 (ys = []) := ⟨by rw [← HD.out, List.drop_eq_nil_of_le (by omega)]⟩
      have H := HA.out
      rw [HE.out] at H
      clear HA
      simp only [impl_travel.go] at H
      obtain ⟨rfl, rfl, rfl⟩ := (by simpa using H)
      clear HE
      go_wp2
      go_ret
      exact ⟨rfl, HB.out, BKgu.out, BKgn.out, HK.out⟩
set_option maxHeartbeats 8000000 in
set_option maxRecDepth 100000 in
theorem impl_travel.calls (k : Nat) (A0 : Option Addr) (c0 : Nat) (l0 : List S137) (r1 r2 : Int) (r3 : Bool) (w : World) (hr0 : Kd.C k137 w A0 l0.length l0) (hc0 : l0.length ≤ c0) (h : impl_travel.f k l0 = some (r1, r2, r3)) :
    Calls Try.prog 114 #[.slice A0 l0.length c0] w fun e w' => e = .returned (.tuple #[.int .i64 r1, .int .i64 r2, .bool r3]) ∧ Below w.heap.size w w' := by
  have hmf : ∀ (fn : Fn) (first cap : Array Value) (w : World), (Instr.makeFunc fn first cap).run Try.prog w = .ok (.func fn first cap) w := fun _ _ _ _ => rfl
  have HB := Aside0.mk (Below.refl w.heap.size w)
  have HR0 := Aside0.mk hr0
  have A2 := Aside0.mk (show impl_travel.go k l0 0 0 0 false 0 0 = some (r1, r2, r3) from h)
  clear hr0 hc0 h
  go_enter Try.func114, Try.ntmps114
  go_wp2_with (first | ((with_reducible refine gate_dst (N := 5) rfl ?_); refine box_event ?hg (N := 5) ?hd (cs := #[.int .i64 0]) (t := 2) ?hr ?_; (case hd => rfl); (case hg => rfl); (case hr => first | (go_simp; done) | (go_simp; rfl)); intro gu hg w2 hbox hb; have n0_ := Aside0.mk (below_step HB.out hb); have BKu := Aside0.mk hbox; have GEu := Aside0.mk ((by rw [hg]; exact below_size HB.out) : w.heap.size ≤ gu); clear HB; have HB := n0_; clear n0_ hb hbox hg) | ((with_reducible refine gate_dst (N := 6) rfl ?_); refine box_event ?hg (N := 6) ?hd (cs := #[.int .i64 0]) (t := 2) ?hr ?_; (case hd => rfl); (case hg => rfl); (case hr => first | (go_simp; done) | (go_simp; rfl)); intro gn hg w2 hbox hb; have n0_ := Aside0.mk (below_step HB.out hb); have BKn := Aside0.mk hbox; have GEn := Aside0.mk ((by rw [hg]; exact below_size HB.out) : w.heap.size ≤ gn); have NEun : Aside0 (gu ≠ gn) := ⟨by have h_ := blk_lt BKu.out; rw [hg]; omega⟩; have m_ := Aside0.mk (blk_below BKu.out hb); clear BKu HB; have HB := n0_; have BKu := m_; clear n0_ m_ hb hbox hg; have cu : w2.cell? ⟨gu, 0, none⟩ = some (.int .i64 0) := (blk_cell BKu.out 0).trans rfl; have cn : w2.cell? ⟨gn, 0, none⟩ = some (.int .i64 0) := (blk_cell BKn.out 0).trans rfl; have fu := blk_frozen BKu.out 0; have fn_ := blk_frozen BKn.out 0; have qgugn : (gu = gn) = False := eq_false NEun.out; have qgngu : (gn = gu) = False := eq_false (fun h_ => NEun.out h_.symm)))
  refine (impl_travel.run A0 c0 l0 k gu gn 0 0 r1 r2 r3 w _ HR0.out ?rb NEun.out GEu.out GEn.out ?ru ?rn A2.out).mono ?_
  case rb => (repeat (first | exact HB.out | refine below_set ?_ GEu.out | refine below_set ?_ GEn.out))
  case ru => (refine blk_far ?_ NEun.out _; refine blk_put (cs := #[.int .i64 0]) ?_ 0 _ rfl; exact BKu.out)
  case rn => (refine blk_put (cs := #[.int .i64 0]) ?_ 0 _ rfl; refine blk_far ?_ (fun h_ => NEun.out h_.symm) _; exact BKn.out)
  rintro e w4 ⟨rfl, hb2, hl1, hl2, hk⟩
  have HB2 := Aside0.mk hb2
  clear cu cn fu fn_ hb2 hk
  have cu : w4.cell? ⟨gu, 0, none⟩ = some (.int .i64 r1) := (blk_cell hl1 0).trans rfl
  have cn : w4.cell? ⟨gn, 0, none⟩ = some (.int .i64 r2) := (blk_cell hl2 0).trans rfl
  clear hl1 hl2 BKu BKn HB
  go_wp2
  go_region
  all_goals (try go_wp2)
  all_goals go_ret3
  all_goals exact ⟨rfl, below_drew1 HB2.out⟩

end Go.Proofs.Ytgpdjpololkhbaa.F

namespace Go.Proofs.Ytgpdjpololkhbaa.F
open Go.RowKit Go.Proofs.YtgpdjpololkhbaaW.PrintWords Go.Proofs.YtgpdjpololkhbaaW.PrintLast Go.Proofs.YtgpdjpololkhbaaW.PrintMore
attribute [local go_sem] max2_int min2_int max_two min_two max_three min_three max_four min_four   -- for this text's walks alone
set_option linter.unusedVariables false
set_option linter.unusedSimpArgs false

/-! ### impl_TravelOf: function 52 -/
def impl_TravelOf.f (k : Nat) (l0 : List (S137)) : Option (Int × Int × Int) := (impl_program.f k l0).bind fun t946 => (if t946 = 0 then ((impl_travel.f k l0).bind fun bt947 => (if bt947.2.2 = true then (some (bt947.1, bt947.2.1, 0)) else (some (0, 0, 5)))) else (some (0, 0, t946)))
theorem impl_TravelOf.mono : ∀ a0 k, LeO (impl_TravelOf.f k a0) (impl_TravelOf.f (k + 1) a0) := by
  intro a0 k
  unfold impl_TravelOf.f
  repeat' first
      | (with_reducible exact impl_program.mono _ _)
      | (with_reducible exact impl_travel.mono _ _)
      | (with_reducible exact LeO.refl _)
      | (with_reducible exact LeO.none _)
      | (with_reducible refine LeO.ite ?_ ?_)
      | (with_reducible refine LeO.bind ?_ (fun _ => ?_))
      | exact impl_program.mono _ _
      | exact impl_travel.mono _ _
      | exact LeO.none _
      | refine LeO.ite ?_ ?_
      | refine LeO.bind ?_ (fun _ => ?_)
set_option maxHeartbeats 8000000 in
set_option maxRecDepth 100000 in
theorem impl_TravelOf.calls (k : Nat) (A0 : Option Addr) (c0 : Nat) (l0 : List (S137)) (r1 : Int) (r2 : Int) (r3 : Int) (w : World) (hr0 : Kd.C k137 w A0 l0.length l0) (hc0 : l0.length ≤ c0) (h : impl_TravelOf.f k l0 = some (r1, r2, r3)) :
    Calls Try.prog 52 #[.slice A0 l0.length c0] w fun e w' => e = .returned (.tuple #[.int .i64 r1, .int .i64 r2, .int .i64 r3]) ∧ Below w.heap.size w w' := by
  have HR0 := Aside0.mk hr0
  have HC0 := Aside0.mk hc0
  clear hr0 hc0
  have HB := Aside0.mk (Below.refl w.heap.size w)
  have H : ((impl_program.f k l0).bind fun t946 => (if t946 = 0 then ((impl_travel.f k l0).bind fun bt947 => (if bt947.2.2 = true then (some (bt947.1, bt947.2.1, 0)) else (some (0, 0, 5)))) else (some (0, 0, t946)))) = some (r1, r2, r3) := h
  clear h
  replace H := Option.bind_eq_some_iff.mp H
  obtain ⟨t946, A20, H⟩ := H
  replace H : (if t946 = 0 then ((impl_travel.f k l0).bind fun bt947 => (if bt947.2.2 = true then (some (bt947.1, bt947.2.1, 0)) else (some (0, 0, 5)))) else (some (0, 0, t946))) = some (r1, r2, r3) := H
  have A2 := Aside0.mk A20
  clear A20
  by_cases c3 : t946 = 0
  · rw [if_pos c3] at H
    have c3b0 : (t946 == 0) = true := beq_iff_eq.mpr c3
    have c3b1 : (t946 != 0) = false := bne_eq_false_iff_eq.mpr c3
    clear c3
    replace H := Option.bind_eq_some_iff.mp H
    obtain ⟨⟨t947, t948, t949⟩, A40, H⟩ := H
    replace H : (if t949 = true then (some (t947, t948, 0)) else (some (0, 0, 5))) = some (r1, r2, r3) := H
    have A4 := Aside0.mk A40
    clear A40
    by_cases c5 : t949 = true
    · subst c5
      have H1 : (some (t947, t948, 0)) = some (r1, r2, r3) := by rw [if_pos rfl] at H; exact H
      clear H
      have H := H1
      clear H1
      simp only [Option.some.injEq, Prod.mk.injEq] at H
      obtain ⟨rfl, rfl, rfl⟩ := H
      go_enter Try.func52, Try.ntmps52
      go_wp2_with (first | ((with_reducible refine gate_callee (f := 91) rfl ?_); refine goesL_ (some 10) rfl rfl Try.func91 (by kernel_rfl) rfl #[.slice A0 l0.length c0] rfl (by (try simp only [List.map_toArray, List.map_cons, List.map_nil]); first | done | rfl | (simp only [List.length_drop, List.length_take]; rfl)) ?_; (with_reducible refine (impl_program.calls k _ _ l0 t946 _ ?side1 ?side2 A2.out).mono ?_); (case side1 => repeat (first | exact HR0.out | (with_reducible refine Kd.C_alloc ?_ _) | (with_reducible refine Kd.C_drewN ?_ _) | (with_reducible refine Kd.C_drew ?_))); (case side2 => exact HC0.out); rintro e w6 ⟨rfl, hb⟩; refine ⟨_, rfl, ?_⟩; have n0_ := Aside0.mk (below_step (by repeat (first | (with_reducible first | exact HB.out | apply below_alloc | apply pw_below_drewN | apply below_drew1) | exact HB.out)) hb); clear HB; have HB := n0_; clear n0_; (try clear hb); (try clear hb2); (try clear hk); (try clear hi)) | ((with_reducible refine gate_callee (f := 114) rfl ?_); refine goesL_ (some 16) rfl rfl Try.func114 (by kernel_rfl) rfl #[.slice A0 l0.length c0] rfl (by (try simp only [List.map_toArray, List.map_cons, List.map_nil]); first | done | rfl | (simp only [List.length_drop, List.length_take]; rfl)) ?_; (with_reducible refine (impl_travel.calls k _ _ l0 t947 t948 true _ ?side1 ?side2 A4.out).mono ?_); (case side1 => repeat (first | exact (Kd.C_below HR0.out HB.out) | (with_reducible refine Kd.C_alloc ?_ _) | (with_reducible refine Kd.C_drewN ?_ _) | (with_reducible refine Kd.C_drew ?_))); (case side2 => exact HC0.out); rintro e w7 ⟨rfl, hb⟩; refine ⟨_, rfl, ?_⟩; have n0_ := Aside0.mk (below_step (by repeat (first | (with_reducible first | exact HB.out | apply below_alloc | apply pw_below_drewN | apply below_drew1) | exact HB.out)) hb); clear HB; have HB := n0_; clear n0_; (try clear hb); (try clear hb2); (try clear hk); (try clear hi)))
      go_ret3
      exact ⟨by first | rfl | (simp [errW_none, errW_some] <;> rfl) | (simp [*, errW_none, errW_some] <;> rfl), by repeat (first | (with_reducible first | exact HB.out | apply below_alloc | apply pw_below_drewN | apply below_drew1) | exact HB.out)⟩
    · replace c5 := Bool.eq_false_iff.mpr c5
      subst c5
      have H1 : (some (0, 0, 5)) = some (r1, r2, r3) := by rw [if_neg (show ¬ (false = true) by decide)] at H; exact H
      clear H
      have H := H1
      clear H1
      simp only [Option.some.injEq, Prod.mk.injEq] at H
      obtain ⟨rfl, rfl, rfl⟩ := H
      go_enter Try.func52, Try.ntmps52
      go_wp2_with (first | ((with_reducible refine gate_callee (f := 91) rfl ?_); refine goesL_ (some 10) rfl rfl Try.func91 (by kernel_rfl) rfl #[.slice A0 l0.length c0] rfl (by (try simp only [List.map_toArray, List.map_cons, List.map_nil]); first | done | rfl | (simp only [List.length_drop, List.length_take]; rfl)) ?_; (with_reducible refine (impl_program.calls k _ _ l0 t946 _ ?side1 ?side2 A2.out).mono ?_); (case side1 => repeat (first | exact HR0.out | (with_reducible refine Kd.C_alloc ?_ _) | (with_reducible refine Kd.C_drewN ?_ _) | (with_reducible refine Kd.C_drew ?_))); (case side2 => exact HC0.out); rintro e w8 ⟨rfl, hb⟩; refine ⟨_, rfl, ?_⟩; have n0_ := Aside0.mk (below_step (by repeat (first | (with_reducible first | exact HB.out | apply below_alloc | apply pw_below_drewN | apply below_drew1) | exact HB.out)) hb); clear HB; have HB := n0_; clear n0_; (try clear hb); (try clear hb2); (try clear hk); (try clear hi)) | ((with_reducible refine gate_callee (f := 114) rfl ?_); refine goesL_ (some 16) rfl rfl Try.func114 (by kernel_rfl) rfl #[.slice A0 l0.length c0] rfl (by (try simp only [List.map_toArray, List.map_cons, List.map_nil]); first | done | rfl | (simp only [List.length_drop, List.length_take]; rfl)) ?_; (with_reducible refine (impl_travel.calls k _ _ l0 t947 t948 false _ ?side1 ?side2 A4.out).mono ?_); (case side1 => repeat (first | exact (Kd.C_below HR0.out HB.out) | (with_reducible refine Kd.C_alloc ?_ _) | (with_reducible refine Kd.C_drewN ?_ _) | (with_reducible refine Kd.C_drew ?_))); (case side2 => exact HC0.out); rintro e w9 ⟨rfl, hb⟩; refine ⟨_, rfl, ?_⟩; have n0_ := Aside0.mk (below_step (by repeat (first | (with_reducible first | exact HB.out | apply below_alloc | apply pw_below_drewN | apply below_drew1) | exact HB.out)) hb); clear HB; have HB := n0_; clear n0_; (try clear hb); (try clear hb2); (try clear hk); (try clear hi)))
      go_ret3
      exact ⟨by first | rfl | (simp [errW_none, errW_some] <;> rfl) | (simp [*, errW_none, errW_some] <;> rfl), by repeat (first | (with_reducible first | exact HB.out | apply below_alloc | apply pw_below_drewN | apply below_drew1) | exact HB.out)⟩
  · rw [if_neg c3] at H
    have c3b0 : (t946 == 0) = false := beq_eq_false_iff_ne.mpr c3
    have c3b1 : (t946 != 0) = true := bne_iff_ne.mpr c3
    simp only [Option.some.injEq, Prod.mk.injEq] at H
    obtain ⟨rfl, rfl, rfl⟩ := H
    go_enter Try.func52, Try.ntmps52
    go_wp2_with (first | ((with_reducible refine gate_callee (f := 91) rfl ?_); refine goesL_ (some 10) rfl rfl Try.func91 (by kernel_rfl) rfl #[.slice A0 l0.length c0] rfl (by (try simp only [List.map_toArray, List.map_cons, List.map_nil]); first | done | rfl | (simp only [List.length_drop, List.length_take]; rfl)) ?_; (with_reducible refine (impl_program.calls k _ _ l0 t946 _ ?side1 ?side2 A2.out).mono ?_); (case side1 => repeat (first | exact HR0.out | (with_reducible refine Kd.C_alloc ?_ _) | (with_reducible refine Kd.C_drewN ?_ _) | (with_reducible refine Kd.C_drew ?_))); (case side2 => exact HC0.out); rintro e w10 ⟨rfl, hb⟩; refine ⟨_, rfl, ?_⟩; have n0_ := Aside0.mk (below_step (by repeat (first | (with_reducible first | exact HB.out | apply below_alloc | apply pw_below_drewN | apply below_drew1) | exact HB.out)) hb); clear HB; have HB := n0_; clear n0_; (try clear hb); (try clear hb2); (try clear hk); (try clear hi)))
    go_ret3
    exact ⟨by first | rfl | (simp [errW_none, errW_some] <;> rfl) | (simp [*, errW_none, errW_some] <;> rfl), by repeat (first | (with_reducible first | exact HB.out | apply below_alloc | apply pw_below_drewN | apply below_drew1) | exact HB.out)⟩

end Go.Proofs.Ytgpdjpololkhbaa.F

namespace Go.Proofs.Ytgpdjpololkhbaa.F
open Go.RowKit Go.Proofs.YtgpdjpololkhbaaW.PrintWords Go.Proofs.YtgpdjpololkhbaaW.PrintLast Go.Proofs.YtgpdjpololkhbaaW.PrintMore
attribute [local go_sem] max2_int min2_int max_two min_two max_three min_three max_four min_four   -- for this text's walks alone
set_option linter.unusedVariables false
set_option linter.unusedSimpArgs false

/-! ### laws_FnExactTravelOf: function 9 -/
def laws_FnExactTravelOf.f (k : Nat) (l0 : List (S139)) : Option (Bool) := (laws_szCommandS.f l0 1048576).bind fun t950 => (if t950 < 0 then (some true) else ((laws_toCommandS.f k l0).bind fun t951 => ((spec_TravelOf.f k t951).bind fun bt954 => ((laws_toCommandS.f k l0).bind fun t957 => ((impl_TravelOf.f k t957).bind fun bt960 => (if bt960.1 = bt954.1 then (if bt960.2.1 = bt954.2.1 then (if bt960.2.2 = bt954.2.2 then ((laws_toCommandS.f k l0).bind fun t963 => ((laws_eqCommandS.f k t957 t963).bind fun t966 => (if t966 = true then (some true) else (none)))) else (none)) else (none)) else (none)))))))
theorem laws_FnExactTravelOf.mono : ∀ a0 k, LeO (laws_FnExactTravelOf.f k a0) (laws_FnExactTravelOf.f (k + 1) a0) := by
  intro a0 k
  unfold laws_FnExactTravelOf.f
  repeat' first
      | (with_reducible exact impl_TravelOf.mono _ _)
      | (with_reducible exact laws_eqCommandS.mono _ _ _)
      | (with_reducible exact laws_toCommandS.mono _ _)
      | (with_reducible exact spec_TravelOf.mono _ _)
      | (with_reducible exact LeO.refl _)
      | (with_reducible exact LeO.none _)
      | (with_reducible refine LeO.ite ?_ ?_)
      | (with_reducible refine LeO.bind ?_ (fun _ => ?_))
      | exact impl_TravelOf.mono _ _
      | exact laws_eqCommandS.mono _ _ _
      | exact laws_toCommandS.mono _ _
      | exact spec_TravelOf.mono _ _
      | exact LeO.none _
      | refine LeO.ite ?_ ?_
      | refine LeO.bind ?_ (fun _ => ?_)
set_option maxHeartbeats 8000000 in
set_option maxRecDepth 100000 in
theorem laws_FnExactTravelOf.calls (k : Nat) (A0 : Option Addr) (c0 : Nat) (l0 : List (S139)) (r : Bool) (w : World) (hr0 : Kd.C k139 w A0 l0.length l0) (hc0 : l0.length ≤ c0) (h : laws_FnExactTravelOf.f k l0 = some r) :
    Calls Try.prog 9 #[.slice A0 l0.length c0] w fun e w' => e = .returned (.bool r) ∧ Below w.heap.size w w' := by
  have HR0 := Aside0.mk hr0
  have HC0 := Aside0.mk hc0
  clear hr0 hc0
  have HB := Aside0.mk (Below.refl w.heap.size w)
  have H : ((laws_szCommandS.f l0 1048576).bind fun t950 => (if t950 < 0 then (some true) else ((laws_toCommandS.f k l0).bind fun t951 => ((spec_TravelOf.f k t951).bind fun bt954 => ((laws_toCommandS.f k l0).bind fun t957 => ((impl_TravelOf.f k t957).bind fun bt960 => (if bt960.1 = bt954.1 then (if bt960.2.1 = bt954.2.1 then (if bt960.2.2 = bt954.2.2 then ((laws_toCommandS.f k l0).bind fun t963 => ((laws_eqCommandS.f k t957 t963).bind fun t966 => (if t966 = true then (some true) else (none)))) else (none)) else (none)) else (none)))))))) = some r := h
  clear h
  replace H := Option.bind_eq_some_iff.mp H
  obtain ⟨t950, A20, H⟩ := H
  replace H : (if t950 < 0 then (some true) else ((laws_toCommandS.f k l0).bind fun t951 => ((spec_TravelOf.f k t951).bind fun bt954 => ((laws_toCommandS.f k l0).bind fun t957 => ((impl_TravelOf.f k t957).bind fun bt960 => (if bt960.1 = bt954.1 then (if bt960.2.1 = bt954.2.1 then (if bt960.2.2 = bt954.2.2 then ((laws_toCommandS.f k l0).bind fun t963 => ((laws_eqCommandS.f k t957 t963).bind fun t966 => (if t966 = true then (some true) else (none)))) else (none)) else (none)) else (none))))))) = some r := H
  have A2 := Aside0.mk A20
  clear A20
  by_cases c3 : t950 < 0
  · rw [if_pos c3] at H
    have c3b0 : decide (t950 < 0) = true := decide_eq_true c3
    clear c3
    obtain rfl := Option.some.inj H
    go_enter Try.func9, Try.ntmps9
    go_wp2_with (first | ((with_reducible refine gate_callee (f := 30) rfl ?_); refine goesL_ (some 13) rfl rfl Try.func30 (by kernel_rfl) rfl #[.slice A0 l0.length c0, .int .i64 1048576] rfl (by (try simp only [List.map_toArray, List.map_cons, List.map_nil]); first | done | rfl | (simp only [List.length_drop, List.length_take]; rfl)) ?_; (with_reducible refine (laws_szCommandS.calls _ _ l0 1048576 t950 _ ?side1 ?side2 A2.out).mono ?_); (case side1 => repeat (first | exact HR0.out | (with_reducible refine Kd.C_alloc ?_ _) | (with_reducible refine Kd.C_drewN ?_ _) | (with_reducible refine Kd.C_drew ?_))); (case side2 => exact HC0.out); rintro e w' ⟨rfl, ⟨nd, rfl⟩⟩; refine ⟨_, rfl, ?_⟩))
    go_ret
    exact ⟨by first | rfl | (simp [errW_none, errW_some] <;> rfl) | (simp [*, errW_none, errW_some] <;> rfl), by repeat (first | (with_reducible first | exact HB.out | apply below_alloc | apply pw_below_drewN | apply below_drew1) | exact HB.out)⟩
  · rw [if_neg c3] at H
    have c3b0 : decide (t950 < 0) = false := decide_eq_false c3
    clear c3
    replace H := Option.bind_eq_some_iff.mp H
    obtain ⟨t951, A40, H⟩ := H
    replace H : ((spec_TravelOf.f k t951).bind fun bt954 => ((laws_toCommandS.f k l0).bind fun t957 => ((impl_TravelOf.f k t957).bind fun bt960 => (if bt960.1 = bt954.1 then (if bt960.2.1 = bt954.2.1 then (if bt960.2.2 = bt954.2.2 then ((laws_toCommandS.f k l0).bind fun t963 => ((laws_eqCommandS.f k t957 t963).bind fun t966 => (if t966 = true then (some true) else (none)))) else (none)) else (none)) else (none))))) = some r := H
    have A4 := Aside0.mk A40
    clear A40
    replace H := Option.bind_eq_some_iff.mp H
    obtain ⟨⟨t954, t955, t956⟩, A50, H⟩ := H
    replace H : ((laws_toCommandS.f k l0).bind fun t957 => ((impl_TravelOf.f k t957).bind fun bt960 => (if bt960.1 = t954 then (if bt960.2.1 = t955 then (if bt960.2.2 = t956 then ((laws_toCommandS.f k l0).bind fun t963 => ((laws_eqCommandS.f k t957 t963).bind fun t966 => (if t966 = true then (some true) else (none)))) else (none)) else (none)) else (none)))) = some r := H
    have A5 := Aside0.mk A50
    clear A50
    replace H := Option.bind_eq_some_iff.mp H
    obtain ⟨t957, A60, H⟩ := H
    replace H : ((impl_TravelOf.f k t957).bind fun bt960 => (if bt960.1 = t954 then (if bt960.2.1 = t955 then (if bt960.2.2 = t956 then ((laws_toCommandS.f k l0).bind fun t963 => ((laws_eqCommandS.f k t957 t963).bind fun t966 => (if t966 = true then (some true) else (none)))) else (none)) else (none)) else (none))) = some r := H
    have A6 := Aside0.mk A60
    clear A60
    replace H := Option.bind_eq_some_iff.mp H
    obtain ⟨⟨t960, t961, t962⟩, A70, H⟩ := H
    replace H : (if t960 = t954 then (if t961 = t955 then (if t962 = t956 then ((laws_toCommandS.f k l0).bind fun t963 => ((laws_eqCommandS.f k t957 t963).bind fun t966 => (if t966 = true then (some true) else (none)))) else (none)) else (none)) else (none)) = some r := H
    have A7 := Aside0.mk A70
    clear A70
    by_cases c8 : t960 = t954
    · rw [if_pos c8] at H
      have c8b0 : (t960 == t954) = true := beq_iff_eq.mpr c8
      have c8b1 : (t960 != t954) = false := bne_eq_false_iff_eq.mpr c8
      clear c8
      by_cases c9 : t961 = t955
      · rw [if_pos c9] at H
        have c9b0 : (t961 == t955) = true := beq_iff_eq.mpr c9
        have c9b1 : (t961 != t955) = false := bne_eq_false_iff_eq.mpr c9
        clear c9
        by_cases c10 : t962 = t956
        · rw [if_pos c10] at H
          have c10b0 : (t962 == t956) = true := beq_iff_eq.mpr c10
          have c10b1 : (t962 != t956) = false := bne_eq_false_iff_eq.mpr c10
          clear c10
          replace H := Option.bind_eq_some_iff.mp H
          obtain ⟨t963, A110, H⟩ := H
          replace H : ((laws_eqCommandS.f k t957 t963).bind fun t966 => (if t966 = true then (some true) else (none))) = some r := H
          have A11 := Aside0.mk A110
          clear A110
          replace H := Option.bind_eq_some_iff.mp H
          obtain ⟨t966, A120, H⟩ := H
          replace H : (if t966 = true then (some true) else (none)) = some r := H
          have A12 := Aside0.mk A120
          clear A120
          by_cases c13 : t966 = true
          · subst c13
            have H1 : (some true) = some r := by rw [if_pos rfl] at H; exact H
            clear H
            have H := H1
            clear H1
            obtain rfl := Option.some.inj H
            go_enter Try.func9, Try.ntmps9
            go_wp2_with (first | ((with_reducible refine gate_callee (f := 30) rfl ?_); refine goesL_ (some 13) rfl rfl Try.func30 (by kernel_rfl) rfl #[.slice A0 l0.length c0, .int .i64 1048576] rfl (by (try simp only [List.map_toArray, List.map_cons, List.map_nil]); first | done | rfl | (simp only [List.length_drop, List.length_take]; rfl)) ?_; (with_reducible refine (laws_szCommandS.calls _ _ l0 1048576 t950 _ ?side1 ?side2 A2.out).mono ?_); (case side1 => repeat (first | exact HR0.out | (with_reducible refine Kd.C_alloc ?_ _) | (with_reducible refine Kd.C_drewN ?_ _) | (with_reducible refine Kd.C_drew ?_))); (case side2 => exact HC0.out); rintro e w' ⟨rfl, ⟨nd, rfl⟩⟩; refine ⟨_, rfl, ?_⟩) | ((with_reducible refine gate_callee (f := 32) rfl ?_); refine goesL_ (some 18) rfl rfl Try.func32 (by kernel_rfl) rfl #[.slice A0 l0.length c0] rfl (by (try simp only [List.map_toArray, List.map_cons, List.map_nil]); first | done | rfl | (simp only [List.length_drop, List.length_take]; rfl)) ?_; (with_reducible refine (laws_toCommandS.calls k _ _ l0 t951 _ ?side1 ?side2 A4.out).mono ?_); (case side1 => repeat (first | exact HR0.out | (with_reducible refine Kd.C_alloc ?_ _) | (with_reducible refine Kd.C_drewN ?_ _) | (with_reducible refine Kd.C_drew ?_))); (case side2 => exact HC0.out); rintro e w14 ⟨v952, rfl, ho0, hb⟩; refine ⟨_, rfl, ?_⟩; have n0_ := Aside0.mk (Kd.R_lower ho0 (below_size (by repeat (first | (with_reducible first | exact HB.out | apply below_alloc | apply pw_below_drewN | apply below_drew1) | exact HB.out)))); have n1_ := Aside0.mk (below_step (by repeat (first | (with_reducible first | exact HB.out | apply below_alloc | apply pw_below_drewN | apply below_drew1) | exact HB.out)) hb); clear HB; have HO953 := n0_; have HB := n1_; clear n0_ n1_; (try clear hb); (try clear hb2); (try clear hk); (try clear hi); (try clear ho0); obtain ⟨Ao15, co15, eo15⟩ := Kd.R_slice HO953.out; subst eo15) | ((with_reducible refine gate_callee (f := 51) rfl ?_); refine goesL_ (some 19) rfl rfl Try.func51 (by kernel_rfl) rfl #[.slice Ao15 t951.length co15] rfl (by (try simp only [List.map_toArray, List.map_cons, List.map_nil]); first | done | rfl | (simp only [List.length_drop, List.length_take]; rfl)) ?_; (with_reducible refine (spec_TravelOf.calls k _ _ t951 t954 t955 t956 _ ?side1 ?side2 A5.out).mono ?_); (case side1 => repeat (first | exact (Kd.R_reads' HO953.out).2.2 | (with_reducible refine Kd.C_alloc ?_ _) | (with_reducible refine Kd.C_drewN ?_ _) | (with_reducible refine Kd.C_drew ?_))); (case side2 => exact (Kd.R_reads' HO953.out).2.1); rintro e w16 ⟨rfl, hb⟩; refine ⟨_, rfl, ?_⟩; have n0_ := Aside0.mk (Kd.R_below (by (with_reducible repeat (first | apply Kd.R_alloc | apply Kd.R_drewN | apply Kd.R_drew)); exact HO953.out) hb); have n1_ := Aside0.mk (below_step (by repeat (first | (with_reducible first | exact HB.out | apply below_alloc | apply pw_below_drewN | apply below_drew1) | exact HB.out)) hb); clear HO953; clear HB; have HO953 := n0_; have HB := n1_; clear n0_ n1_; (try clear hb); (try clear hb2); (try clear hk); (try clear hi)) | ((with_reducible refine gate_callee (f := 32) rfl ?_); refine goesL_ (some 24) rfl rfl Try.func32 (by kernel_rfl) rfl #[.slice A0 l0.length c0] rfl (by (try simp only [List.map_toArray, List.map_cons, List.map_nil]); first | done | rfl | (simp only [List.length_drop, List.length_take]; rfl)) ?_; (with_reducible refine (laws_toCommandS.calls k _ _ l0 t957 _ ?side1 ?side2 A6.out).mono ?_); (case side1 => repeat (first | exact (Kd.C_below HR0.out HB.out) | (with_reducible refine Kd.C_alloc ?_ _) | (with_reducible refine Kd.C_drewN ?_ _) | (with_reducible refine Kd.C_drew ?_))); (case side2 => exact HC0.out); rintro e w17 ⟨v958, rfl, ho0, hb⟩; refine ⟨_, rfl, ?_⟩; have n0_ := Aside0.mk (Kd.R_elder' (by (with_reducible repeat (first | apply Kd.R_alloc | apply Kd.R_drewN | apply Kd.R_drew)); exact HO953.out) (Kd.R_base ho0) hb); have n1_ := Aside0.mk (Kd.R_lower (Kd.R_new' ho0 (Kd.R_lt (by (with_reducible repeat (first | apply Kd.R_alloc | apply Kd.R_drewN | apply Kd.R_drew)); exact HO953.out))) (below_size (by repeat (first | (with_reducible first | exact HB.out | apply below_alloc | apply pw_below_drewN | apply below_drew1) | exact HB.out)))); have n2_ := Aside0.mk (below_step (by repeat (first | (with_reducible first | exact HB.out | apply below_alloc | apply pw_below_drewN | apply below_drew1) | exact HB.out)) hb); clear HO953; clear HB; have HO953 := n0_; have HO959 := n1_; have HB := n2_; clear n0_ n1_ n2_; (try clear hb); (try clear hb2); (try clear hk); (try clear hi); (try clear ho0); obtain ⟨Ao18, co18, eo18⟩ := Kd.R_slice HO959.out; subst eo18) | ((with_reducible refine gate_callee (f := 52) rfl ?_); refine goesL_ (some 27) rfl rfl Try.func52 (by kernel_rfl) rfl #[.slice Ao18 t957.length co18] rfl (by (try simp only [List.map_toArray, List.map_cons, List.map_nil]); first | done | rfl | (simp only [List.length_drop, List.length_take]; rfl)) ?_; (with_reducible refine (impl_TravelOf.calls k _ _ t957 t960 t961 t962 _ ?side1 ?side2 A7.out).mono ?_); (case side1 => repeat (first | exact (Kd.R_reads' HO959.out).2.2 | (with_reducible refine Kd.C_alloc ?_ _) | (with_reducible refine Kd.C_drewN ?_ _) | (with_reducible refine Kd.C_drew ?_))); (case side2 => exact (Kd.R_reads' HO959.out).2.1); rintro e w19 ⟨rfl, hb⟩; refine ⟨_, rfl, ?_⟩; have n0_ := Aside0.mk (Kd.R_below (by (with_reducible repeat (first | apply Kd.R_alloc | apply Kd.R_drewN | apply Kd.R_drew)); exact HO953.out) hb); have n1_ := Aside0.mk (Kd.R_below (by (with_reducible repeat (first | apply Kd.R_alloc | apply Kd.R_drewN | apply Kd.R_drew)); exact HO959.out) hb); have n2_ := Aside0.mk (below_step (by repeat (first | (with_reducible first | exact HB.out | apply below_alloc | apply pw_below_drewN | apply below_drew1) | exact HB.out)) hb); clear HO953; clear HO959; clear HB; have HO953 := n0_; have HO959 := n1_; have HB := n2_; clear n0_ n1_ n2_; (try clear hb); (try clear hb2); (try clear hk); (try clear hi)) | ((with_reducible refine gate_callee (f := 32) rfl ?_); refine goesL_ (some 46) rfl rfl Try.func32 (by kernel_rfl) rfl #[.slice A0 l0.length c0] rfl (by (try simp only [List.map_toArray, List.map_cons, List.map_nil]); first | done | rfl | (simp only [List.length_drop, List.length_take]; rfl)) ?_; (with_reducible refine (laws_toCommandS.calls k _ _ l0 t963 _ ?side1 ?side2 A11.out).mono ?_); (case side1 => repeat (first | exact (Kd.C_below HR0.out HB.out) | (with_reducible refine Kd.C_alloc ?_ _) | (with_reducible refine Kd.C_drewN ?_ _) | (with_reducible refine Kd.C_drew ?_))); (case side2 => exact HC0.out); rintro e w20 ⟨v964, rfl, ho0, hb⟩; refine ⟨_, rfl, ?_⟩; have n0_ := Aside0.mk (Kd.R_elder' (by (with_reducible repeat (first | apply Kd.R_alloc | apply Kd.R_drewN | apply Kd.R_drew)); exact HO953.out) (Kd.R_base ho0) hb); have n1_ := Aside0.mk (Kd.R_elder' (by (with_reducible repeat (first | apply Kd.R_alloc | apply Kd.R_drewN | apply Kd.R_drew)); exact HO959.out) (Kd.R_base ho0) hb); have n2_ := Aside0.mk (Kd.R_lower (Kd.R_new' (Kd.R_new' ho0 (Kd.R_lt (by (with_reducible repeat (first | apply Kd.R_alloc | apply Kd.R_drewN | apply Kd.R_drew)); exact HO953.out))) (Kd.R_lt (by (with_reducible repeat (first | apply Kd.R_alloc | apply Kd.R_drewN | apply Kd.R_drew)); exact HO959.out))) (below_size (by repeat (first | (with_reducible first | exact HB.out | apply below_alloc | apply pw_below_drewN | apply below_drew1) | exact HB.out)))); have n3_ := Aside0.mk (below_step (by repeat (first | (with_reducible first | exact HB.out | apply below_alloc | apply pw_below_drewN | apply below_drew1) | exact HB.out)) hb); clear HO953; clear HO959; clear HB; have HO953 := n0_; have HO959 := n1_; have HO965 := n2_; have HB := n3_; clear n0_ n1_ n2_ n3_; (try clear hb); (try clear hb2); (try clear hk); (try clear hi); (try clear ho0); obtain ⟨Ao21, co21, eo21⟩ := Kd.R_slice HO965.out; subst eo21) | ((with_reducible refine gate_callee (f := 35) rfl ?_); refine goesL_ (some 47) rfl rfl Try.func35 (by kernel_rfl) rfl #[.slice Ao18 t957.length co18, .slice Ao21 t963.length co21] rfl (by (try simp only [List.map_toArray, List.map_cons, List.map_nil]); first | done | rfl | (simp only [List.length_drop, List.length_take]; rfl)) ?_; (with_reducible refine (laws_eqCommandS.calls k _ _ t957 _ _ t963 true _ ?side1 ?side2 ?side3 ?side4 A12.out).mono ?_); (case side1 => repeat (first | exact (Kd.R_reads' HO959.out).2.2 | (with_reducible refine Kd.C_alloc ?_ _) | (with_reducible refine Kd.C_drewN ?_ _) | (with_reducible refine Kd.C_drew ?_))); (case side2 => exact (Kd.R_reads' HO959.out).2.1); (case side3 => repeat (first | exact (Kd.R_reads' HO965.out).2.2 | (with_reducible refine Kd.C_alloc ?_ _) | (with_reducible refine Kd.C_drewN ?_ _) | (with_reducible refine Kd.C_drew ?_))); (case side4 => exact (Kd.R_reads' HO965.out).2.1); rintro e w22 ⟨rfl, hb⟩; refine ⟨_, rfl, ?_⟩; have n0_ := Aside0.mk (Kd.R_below (by (with_reducible repeat (first | apply Kd.R_alloc | apply Kd.R_drewN | apply Kd.R_drew)); exact HO953.out) hb); have n1_ := Aside0.mk (Kd.R_below (by (with_reducible repeat (first | apply Kd.R_alloc | apply Kd.R_drewN | apply Kd.R_drew)); exact HO959.out) hb); have n2_ := Aside0.mk (Kd.R_below (by (with_reducible repeat (first | apply Kd.R_alloc | apply Kd.R_drewN | apply Kd.R_drew)); exact HO965.out) hb); have n3_ := Aside0.mk (below_step (by repeat (first | (with_reducible first | exact HB.out | apply below_alloc | apply pw_below_drewN | apply below_drew1) | exact HB.out)) hb); clear HO953; clear HO959; clear HO965; clear HB; have HO953 := n0_; have HO959 := n1_; have HO965 := n2_; have HB := n3_; clear n0_ n1_ n2_ n3_; (try clear hb); (try clear hb2); (try clear hk); (try clear hi)))
            go_ret
            exact ⟨by first | rfl | (simp [errW_none, errW_some] <;> rfl) | (simp [*, errW_none, errW_some] <;> rfl), by repeat (first | (with_reducible first | exact HB.out | apply below_alloc | apply pw_below_drewN | apply below_drew1) | exact HB.out)⟩
          · replace c13 := Bool.eq_false_iff.mpr c13
            subst c13
            have H1 : (none) = some r := by rw [if_neg (show ¬ (false = true) by decide)] at H; exact H
            clear H
            have H := H1
            clear H1
            exact absurd H (by simp)
        · rw [if_neg c10] at H
          exact absurd H (by simp)
      · rw [if_neg c9] at H
        exact absurd H (by simp)
    · rw [if_neg c8] at H
      exact absurd H (by simp)

end Go.Proofs.Ytgpdjpololkhbaa.F

namespace Go.Proofs.YtgpdjpololkhbaaO
open Go.RowKit Go.Proofs.YtgpdjpololkhbaaW.PrintWords
set_option linter.unusedVariables false

/-- What reads as data of type t is told by the kind d, and what it tells is G. -/
def Opens {H α : Type} (enc : TypeId × Value → H) (P : Program) (w : World) (d : Kd α) (t : TypeId) (G : α → Prop) : Prop :=
  ∀ (spare : Nat → Bool) (held : Bool) (base fuel : Nat) (cs : List Value) (x : DataW H × List MemPlace),
    DataW.trod enc P w base spare held fuel t cs = some x → ∃ a, d.K w a cs ∧ G a

section
variable {H α β : Type} {enc : TypeId × Value → H} {P : Program} {w : World}

theorem opens_int {t : TypeId} {k : IntKind} (ht : P.underlying t = some (.int k)) : Opens enc P w (Kd.int k) t (fun n => (Lit.int k n).wf = true) := by
  intro spare held base fuel cs x h
  obtain ⟨n, rfl, _, hw⟩ := DataW.trod_int ht h
  exact ⟨n, rfl, hw⟩

theorem opens_bool {t : TypeId} (ht : P.underlying t = some .bool) : Opens enc P w Kd.bool t (fun _ => True) := by
  intro spare held base fuel cs x h
  obtain ⟨n, rfl, _⟩ := DataW.trod_bool ht h
  exact ⟨n, rfl, trivial⟩

theorem opens_string {t : TypeId} (ht : P.underlying t = some .string) : Opens enc P w Kd.string t (fun s => s.size ≤ maxLen) := by
  intro spare held base fuel cs x h
  obtain ⟨n, rfl, _, hw⟩ := DataW.trod_string ht h
  exact ⟨n, rfl, hw⟩

theorem choose_list {p : Nat → α → Prop} : ∀ n, (∀ i, i < n → ∃ x, p i x) → ∃ l : List α, l.length = n ∧ ∀ i x, l[i]? = some x → p i x
  | 0, _ => ⟨[], rfl, fun i x h => by simp at h⟩
  | n + 1, h => by
    obtain ⟨l, hl, hp⟩ := choose_list n (fun i hi => h i (by omega))
    obtain ⟨x, hx⟩ := h n (by omega)
    refine ⟨l ++ [x], by simp [hl], fun i y hy => ?_⟩
    rcases Nat.lt_or_ge i n with hi | hi
    · rw [List.getElem?_append_left (by omega)] at hy
      exact hp i y hy
    · rw [List.getElem?_append_right (by omega), hl] at hy
      have : i - n = 0 := by
        rcases Nat.eq_zero_or_pos (i - n) with h0 | h0
        · exact h0
        · rw [List.getElem?_eq_none (by simp; omega)] at hy
          cases hy
      rw [this] at hy
      have : i = n := by omega
      subst this
      simp at hy
      exact hy ▸ hx

/-- A slice: its elements. -/
theorem opens_row {t e : TypeId} {d : Kd α} {G : α → Prop} (ht : P.underlying t = some (.slice e)) (hs : P.cellsOf e = d.sz) (he : Opens enc P w d e G)
    {spare : Nat → Bool} {held : Bool} {base fuel : Nat} {cs : List Value} {x : DataW H × List MemPlace} (h : DataW.trod enc P w base spare held fuel t cs = some x) :
    ∃ (A : Option Addr) (xs : List α) (c : Nat), cs = [.slice A xs.length c] ∧ xs.length ≤ c ∧ c ≤ maxLen ∧ d.C w A xs.length xs ∧ ∀ a ∈ xs, G a := by
  rcases Go.Deep.open_slice ht h with ⟨rfl, _⟩ | ⟨a, len, cap, m, n, D, Pl, rfl, hb, hl, hm, hmm, _, hx⟩
  · exact ⟨none, [], 0, rfl, Nat.le_refl _, by unfold maxLen; omega, ⟨rfl, by simp, fun h => absurd h (by simp)⟩, fun a ha => by simp at ha⟩
  · have hlm : len ≤ m := by rw [hmm]; split <;> omega
    obtain ⟨xs, hxl, hxs⟩ := choose_list (p := fun i (b : α) => (∃ c, c.length = d.sz ∧ d.K w b c ∧ ∀ j u, c[j]? = some u → w.cell? (a.add (i * d.sz + j)) = some u) ∧ G b) len (fun i hi => by
      obtain ⟨cs', h1, h2⟩ := hx i (by omega)
      obtain ⟨_, hcl, hc⟩ := World.cells?_some h1
      obtain ⟨b, hK, hG⟩ := he _ _ _ _ _ _ h2
      refine ⟨b, ⟨cs', by rw [hcl, hs], hK, fun j u hj => ?_⟩, hG⟩
      have hjl : j < P.cellsOf e := by rw [← hcl]; exact (List.getElem?_eq_some_iff.1 hj).1
      have := hc j hjl
      rw [hs] at this
      rw [hj] at this
      rw [← this, Go.Deep.add_add])
    subst hxl
    refine ⟨some a, xs, cap, rfl, hl, hm, ⟨rfl, by unfold maxLen at hm; omega, fun _ => ⟨a, rfl, fun j p hj => (hxs j p hj).1⟩⟩, fun b hb => ?_⟩
    obtain ⟨i, hi, rfl⟩ := List.getElem_of_mem hb
    exact (hxs i _ (List.getElem?_eq_getElem hi)).2

theorem opens_slice {t e e' : TypeId} {d : Kd α} {G : α → Prop} (ht : P.underlying t = some (.slice e)) (hs : P.cellsOf e = d.sz) (he : Opens enc P w d e G) :
    Opens enc P w (Kd.slice e' d) t (fun xs => xs.length ≤ maxLen ∧ ∀ a ∈ xs, G a) := by
  intro spare held base fuel cs x h
  obtain ⟨A, xs, c, rfl, hl, hm, hC, hG⟩ := opens_row ht hs he h
  exact ⟨xs, ⟨A, c, rfl, hl, hC⟩, by omega, hG⟩

/-- The fields of a struct from offset o on. -/
def OpensF (enc : TypeId × Value → H) (P : Program) (w : World) (d : Kd α) (fs : List Field) (o : Nat) (G : α → Prop) : Prop :=
  ∀ (spare : Nat → Bool) (held : Bool) (base fuel : Nat) (cs : List Value), cs.length = o + d.sz →
    (∀ f ∈ fs, ∃ x, DataW.trod enc P w base spare held fuel f.type ((cs.drop f.offset).take (P.cellsOf f.type)) = some x) → ∃ a, d.K w a (cs.drop o) ∧ G a

theorem opensF_last {d : Kd α} {f : Field} {o : Nat} {G : α → Prop} (ho : f.offset = o) (hs : P.cellsOf f.type = d.sz) (h : Opens enc P w d f.type G) : OpensF enc P w d [f] o G := by
  intro spare held base fuel cs hl hf
  obtain ⟨x, hx⟩ := hf f (List.mem_singleton.2 rfl)
  rw [ho, hs, List.take_of_length_le (by rw [List.length_drop]; omega)] at hx
  exact h _ _ _ _ _ _ hx

theorem opensF_cons {d : Kd α} {d' : Kd β} {f : Field} {fs : List Field} {o : Nat} {G : α → Prop} {G' : β → Prop} (ho : f.offset = o) (hs : P.cellsOf f.type = d.sz) (h : Opens enc P w d f.type G)
    (hr : OpensF enc P w d' fs (o + d.sz) G') : OpensF enc P w (Kd.pair d d') (f :: fs) o (fun x => G x.1 ∧ G' x.2) := by
  intro spare held base fuel cs hl hf
  have hl' : cs.length = o + (d.sz + d'.sz) := hl
  obtain ⟨x, hx⟩ := hf f List.mem_cons_self
  rw [ho, hs] at hx
  obtain ⟨a, hK, hG⟩ := h _ _ _ _ _ _ hx
  obtain ⟨b, hK', hG'⟩ := hr spare held base fuel cs (by omega) (fun g hg => hf g (List.mem_cons_of_mem _ hg))
  refine ⟨(a, b), ⟨_, _, ?_, hK, hK'⟩, hG, hG'⟩
  rw [← List.drop_drop, List.take_append_drop]

/-- A struct by its fields, as a Lean structure: f takes it apart, g puts it together. -/
theorem opens_struct {t : TypeId} {fs : Array Field} {d : Kd α} {G : α → Prop} (ht : P.underlying t = some (.struct fs)) (hs : P.cellsOf t = d.sz) (f : β → α) (g : α → β) (hfg : ∀ a, f (g a) = a) (h : OpensF enc P w d fs.toList 0 G) :
    Opens enc P w (Kd.iso d f) t (fun b => G (f b)) := by
  intro spare held base fuel cs x hx
  obtain ⟨xs, n, rfl, _, hl, hxl, hf⟩ := DataW.trod_struct ht hx
  obtain ⟨a, hK, hG⟩ := h spare held base n cs (by rw [hl, hs]; omega) (fun z hz => by
    obtain ⟨i, hi, rfl⟩ := List.getElem_of_mem hz
    have hi' : i < fs.size := by simpa using hi
    refine ⟨xs[i]'(by omega), ?_⟩
    rw [Array.getElem_toList]
    rw [hf i _ (Array.getElem?_eq_getElem hi'), List.getElem?_eq_getElem (by omega)])
  refine ⟨g a, ?_, by show G (f (g a)); rw [hfg]; exact hG⟩
  show d.K w (f (g a)) cs
  rw [hfg]
  exact hK

theorem Opens.mono {d : Kd α} {t : TypeId} {G G' : α → Prop} (h : Opens enc P w d t G) (hg : ∀ a, G a → G' a) : Opens enc P w d t G' := by
  intro spare held base fuel cs x hx
  obtain ⟨a, hK, hG⟩ := h _ _ _ _ _ _ hx
  exact ⟨a, hK, hg a hG⟩
end
end Go.Proofs.YtgpdjpololkhbaaO

namespace Go.Proofs.Ytgpdjpololkhbaa.F
open Go.RowKit Go.Proofs.YtgpdjpololkhbaaW.PrintWords Go.Proofs.YtgpdjpololkhbaaO
set_option linter.unusedVariables false

def g2 (x : Int) : Prop := (Lit.int .i64 x).wf = true
def g87 (x : S87) : Prop := ((Lit.int .i64 x.f0).wf = true) ∧ ((Lit.int .i64 x.f1).wf = true)
theorem o87 {H : Type} {enc : TypeId × Value → H} {w : World} : Opens enc Try.prog w k87 87 g87 := (opens_struct (β := S87) Try.underlying87 (by kernel_rfl) (fun x => (x.f0, x.f1)) (fun p => ⟨p.1, p.2⟩) (fun _ => rfl) (opensF_cons rfl (by kernel_rfl) (opens_int Try.underlying2) (opensF_last rfl (by kernel_rfl) (opens_int Try.underlying2)))).mono (fun _ h => h)
def g104 (x : (List S87)) : Prop := x.length ≤ maxLen ∧ ∀ y ∈ x, g87 y
def g106 (x : S106) : Prop := ((Lit.int .i64 x.f0).wf = true) ∧ (x.f1.length ≤ maxLen ∧ ∀ y ∈ x.f1, g87 y)
theorem o106 {H : Type} {enc : TypeId × Value → H} {w : World} : Opens enc Try.prog w k106 106 g106 := (opens_struct (β := S106) Try.underlying106 (by kernel_rfl) (fun x => (x.f0, x.f1)) (fun p => ⟨p.1, p.2⟩) (fun _ => rfl) (opensF_cons rfl (by kernel_rfl) (opens_int Try.underlying2) (opensF_last rfl (by kernel_rfl) (opens_slice (e' := 87) Try.underlying104 (by kernel_rfl) o87)))).mono (fun _ h => h)
def g58 (x : S58) : Prop := ((Lit.int .i64 x.f0).wf = true) ∧ ((Lit.int .i64 x.f1).wf = true)
theorem o58 {H : Type} {enc : TypeId × Value → H} {w : World} : Opens enc Try.prog w k58 58 g58 := (opens_struct (β := S58) Try.underlying58 (by kernel_rfl) (fun x => (x.f0, x.f1)) (fun p => ⟨p.1, p.2⟩) (fun _ => rfl) (opensF_cons rfl (by kernel_rfl) (opens_int Try.underlying2) (opensF_last rfl (by kernel_rfl) (opens_int Try.underlying2)))).mono (fun _ h => h)
def g60 (x : S60) : Prop := ((Lit.int .i64 x.f0).wf = true) ∧ (g58 x.f1) ∧ ((Lit.int .i64 x.f2).wf = true)
theorem o60 {H : Type} {enc : TypeId × Value → H} {w : World} : Opens enc Try.prog w k60 60 g60 := (opens_struct (β := S60) Try.underlying60 (by kernel_rfl) (fun x => (x.f0, x.f1, x.f2)) (fun p => ⟨p.1, p.2.1, p.2.2⟩) (fun _ => rfl) (opensF_cons rfl (by kernel_rfl) (opens_int Try.underlying2) (opensF_cons rfl (by kernel_rfl) o58 (opensF_last rfl (by kernel_rfl) (opens_int Try.underlying2))))).mono (fun _ h => h)
def g24 (x : (List Int)) : Prop := x.length ≤ maxLen ∧ ∀ y ∈ x, g2 y
def g62 (x : S62) : Prop := (g60 x.f0) ∧ ((Lit.int .i64 x.f1).wf = true) ∧ (x.f2.length ≤ maxLen ∧ ∀ y ∈ x.f2, g2 y) ∧ (x.f3.length ≤ maxLen ∧ ∀ y ∈ x.f3, g2 y)
theorem o62 {H : Type} {enc : TypeId × Value → H} {w : World} : Opens enc Try.prog w k62 62 g62 := (opens_struct (β := S62) Try.underlying62 (by kernel_rfl) (fun x => (x.f0, x.f1, x.f2, x.f3)) (fun p => ⟨p.1, p.2.1, p.2.2.1, p.2.2.2⟩) (fun _ => rfl) (opensF_cons rfl (by kernel_rfl) o60 (opensF_cons rfl (by kernel_rfl) (opens_int Try.underlying2) (opensF_cons rfl (by kernel_rfl) (opens_slice (e' := 2) Try.underlying24 (by kernel_rfl) (opens_int Try.underlying2)) (opensF_last rfl (by kernel_rfl) (opens_slice (e' := 2) Try.underlying24 (by kernel_rfl) (opens_int Try.underlying2))))))).mono (fun _ h => h)
def g126 (x : S126) : Prop := ((Lit.int .i64 x.f0).wf = true) ∧ (g62 x.f1)
theorem o126 {H : Type} {enc : TypeId × Value → H} {w : World} : Opens enc Try.prog w k126 126 g126 := (opens_struct (β := S126) Try.underlying126 (by kernel_rfl) (fun x => (x.f0, x.f1)) (fun p => ⟨p.1, p.2⟩) (fun _ => rfl) (opensF_cons rfl (by kernel_rfl) (opens_int Try.underlying2) (opensF_last rfl (by kernel_rfl) o62))).mono (fun _ h => h)
def g5 (x : Int) : Prop := (Lit.int .u8 x).wf = true
def g139 (x : S139) : Prop := ((Lit.int .u8 x.f0).wf = true) ∧ ((Lit.int .i64 x.f1).wf = true) ∧ ((Lit.int .i64 x.f2).wf = true)
theorem o139 {H : Type} {enc : TypeId × Value → H} {w : World} : Opens enc Try.prog w k139 139 g139 := (opens_struct (β := S139) Try.underlying139 (by kernel_rfl) (fun x => (x.f0, x.f1, x.f2)) (fun p => ⟨p.1, p.2.1, p.2.2⟩) (fun _ => rfl) (opensF_cons rfl (by kernel_rfl) (opens_int Try.underlying5) (opensF_cons rfl (by kernel_rfl) (opens_int Try.underlying2) (opensF_last rfl (by kernel_rfl) (opens_int Try.underlying2))))).mono (fun _ h => h)
def g169 (x : S169) : Prop := ((Lit.int .i64 x.f0).wf = true) ∧ ((Lit.int .i64 x.f1).wf = true) ∧ (x.f2.length ≤ maxLen ∧ ∀ y ∈ x.f2, g87 y)
theorem o169 {H : Type} {enc : TypeId × Value → H} {w : World} : Opens enc Try.prog w k169 169 g169 := (opens_struct (β := S169) Try.underlying169 (by kernel_rfl) (fun x => (x.f0, x.f1, x.f2)) (fun p => ⟨p.1, p.2.1, p.2.2⟩) (fun _ => rfl) (opensF_cons rfl (by kernel_rfl) (opens_int Try.underlying2) (opensF_cons rfl (by kernel_rfl) (opens_int Try.underlying2) (opensF_last rfl (by kernel_rfl) (opens_slice (e' := 87) Try.underlying104 (by kernel_rfl) o87))))).mono (fun _ h => h)
theorem p62 {H : Type} {enc : TypeId × Value → H} {w : World} : Opens enc Try.prog w (Kd.iso (Kd.pair (Kd.iso (Kd.pair (Kd.int .i64) (Kd.pair (Kd.iso (Kd.pair (Kd.int .i64) (Kd.int .i64)) (fun x : (Int × Int) => x)) (Kd.int .i64))) (fun x : (Int × (Int × Int) × Int) => x)) (Kd.pair (Kd.int .i64) (Kd.pair (Kd.slice 2 (Kd.int .i64)) (Kd.slice 2 (Kd.int .i64))))) (fun x : ((Int × (Int × Int) × Int) × Int × (List Int) × (List Int)) => x)) 62 (fun x => (((Lit.int .i64 x.1.1).wf = true) ∧ (((Lit.int .i64 x.1.2.1.1).wf = true) ∧ ((Lit.int .i64 x.1.2.1.2).wf = true)) ∧ ((Lit.int .i64 x.1.2.2).wf = true)) ∧ ((Lit.int .i64 x.2.1).wf = true) ∧ (x.2.2.1.length ≤ maxLen ∧ ∀ y ∈ x.2.2.1, g2 y) ∧ (x.2.2.2.length ≤ maxLen ∧ ∀ y ∈ x.2.2.2, g2 y)) := (opens_struct (β := ((Int × (Int × Int) × Int) × Int × (List Int) × (List Int))) Try.underlying62 (by kernel_rfl) (fun x => x) (fun x => x) (fun _ => rfl) (opensF_cons rfl (by kernel_rfl) (opens_struct (β := (Int × (Int × Int) × Int)) Try.underlying60 (by kernel_rfl) (fun x => x) (fun x => x) (fun _ => rfl) (opensF_cons rfl (by kernel_rfl) (opens_int Try.underlying2) (opensF_cons rfl (by kernel_rfl) (opens_struct (β := (Int × Int)) Try.underlying58 (by kernel_rfl) (fun x => x) (fun x => x) (fun _ => rfl) (opensF_cons rfl (by kernel_rfl) (opens_int Try.underlying2) (opensF_last rfl (by kernel_rfl) (opens_int Try.underlying2)))) (opensF_last rfl (by kernel_rfl) (opens_int Try.underlying2))))) (opensF_cons rfl (by kernel_rfl) (opens_int Try.underlying2) (opensF_cons rfl (by kernel_rfl) (opens_slice (e' := 2) Try.underlying24 (by kernel_rfl) (opens_int Try.underlying2)) (opensF_last rfl (by kernel_rfl) (opens_slice (e' := 2) Try.underlying24 (by kernel_rfl) (opens_int Try.underlying2))))))).mono (fun _ h => h)
theorem p87 {H : Type} {enc : TypeId × Value → H} {w : World} : Opens enc Try.prog w (Kd.iso (Kd.pair (Kd.int .i64) (Kd.int .i64)) (fun x : (Int × Int) => x)) 87 (fun x => ((Lit.int .i64 x.1).wf = true) ∧ ((Lit.int .i64 x.2).wf = true)) := (opens_struct (β := (Int × Int)) Try.underlying87 (by kernel_rfl) (fun x => x) (fun x => x) (fun _ => rfl) (opensF_cons rfl (by kernel_rfl) (opens_int Try.underlying2) (opensF_last rfl (by kernel_rfl) (opens_int Try.underlying2)))).mono (fun _ h => h)
end Go.Proofs.Ytgpdjpololkhbaa.F

namespace Go.Proofs.Ytgpdjpololkhbaa.Pure
open Go.RowKit Go.Proofs.Ytgpdjpololkhbaa.F Go.Proofs.YtgpdjpololkhbaaW.PrintWords Go.Proofs.YtgpdjpololkhbaaW.PrintLast Go.Proofs.YtgpdjpololkhbaaW.PrintMore Go.Proofs.YtgpdjpololkhbaaB
set_option linter.unusedVariables false
set_option linter.unusedSimpArgs false
theorem impl_in_f (a b c : Int) : impl_in.f a b c = some (inB a b c) := inB_if a b c

end Go.Proofs.Ytgpdjpololkhbaa.Pure

namespace Go.Proofs.Ytgpdjpololkhbaa.Pure
open Go.RowKit Go.Proofs.Ytgpdjpololkhbaa.F Go.Proofs.YtgpdjpololkhbaaW.PrintWords Go.Proofs.YtgpdjpololkhbaaW.PrintLast Go.Proofs.YtgpdjpololkhbaaW.PrintMore Go.Proofs.YtgpdjpololkhbaaB
set_option linter.unusedVariables false
set_option linter.unusedSimpArgs false
theorem impl_isPen_f (a : Int) : impl_isPen.f a = some (inB a 1 8) := by
  simp only [impl_isPen.f, impl_in_f, Option.bind_some]

end Go.Proofs.Ytgpdjpololkhbaa.Pure

namespace Go.Proofs.Ytgpdjpololkhbaa.Pure
open Go.RowKit Go.Proofs.Ytgpdjpololkhbaa.F Go.Proofs.YtgpdjpololkhbaaW.PrintWords Go.Proofs.YtgpdjpololkhbaaW.PrintLast Go.Proofs.YtgpdjpololkhbaaW.PrintMore Go.Proofs.YtgpdjpololkhbaaB
set_option linter.unusedVariables false
set_option linter.unusedSimpArgs false
theorem impl_isSpot_f (a : Int) : impl_isSpot.f a = some (inB a (-1000000) 1000000) := by
  simp only [impl_isSpot.f, impl_in_f, Option.bind_some]

end Go.Proofs.Ytgpdjpololkhbaa.Pure

namespace Go.Proofs.Ytgpdjpololkhbaa.Pure
open Go.RowKit Go.Proofs.Ytgpdjpololkhbaa.F Go.Proofs.YtgpdjpololkhbaaW.PrintWords Go.Proofs.YtgpdjpololkhbaaW.PrintLast Go.Proofs.YtgpdjpololkhbaaW.PrintMore Go.Proofs.YtgpdjpololkhbaaB
set_option linter.unusedVariables false
set_option linter.unusedSimpArgs false
def isC (a b c : Int) : Bool := if a = 80 then inB b 1 8 && c == 0 else if a = 85 ∨ a = 68 then inB b (-1000000) 1000000 && inB c (-1000000) 1000000 else false
def isCm (x : S137) : Bool := isC x.f0 x.f1 x.f2
def codeC (l : List S137) : Int := if l.all isCm = true then (if 400 < l.length then 3 else 0) else 1
theorem rdC {xs ys : List S137} {y : S137} {m : Nat} (h : xs.drop m = y :: ys) : rd_T137 xs (m : Int) = y := (drop_cons h).2.1 _

end Go.Proofs.Ytgpdjpololkhbaa.Pure

namespace Go.Proofs.Ytgpdjpololkhbaa.Pure
open Go.RowKit Go.Proofs.Ytgpdjpololkhbaa.F Go.Proofs.YtgpdjpololkhbaaW.PrintWords Go.Proofs.YtgpdjpololkhbaaW.PrintLast Go.Proofs.YtgpdjpololkhbaaW.PrintMore Go.Proofs.YtgpdjpololkhbaaB
set_option linter.unusedVariables false
set_option linter.unusedSimpArgs false
theorem impl_isCommand_f (a b c : Int) : Ev (fun k => impl_isCommand.f k a b c) (isC a b c) := by
  refine ⟨1, fun k hk => ?_⟩
  obtain ⟨k, rfl⟩ : ∃ m, k = m + 1 := ⟨k - 1, by omega⟩
  simp only [impl_isCommand.f, impl_isCommand.j0, impl_isPen_f, impl_isSpot_f, Option.bind_some, isC]
  by_cases h : a = 80
  · simp only [if_pos h]
    cases inB b 1 8 <;> simp
  · simp only [if_neg h]
    by_cases h1 : a = 85 <;> by_cases h2 : a = 68 <;> cases inB b (-1000000) 1000000 <;> simp [h1, h2]

end Go.Proofs.Ytgpdjpololkhbaa.Pure

namespace Go.Proofs.Ytgpdjpololkhbaa.Pure
open Go.RowKit Go.Proofs.Ytgpdjpololkhbaa.F Go.Proofs.YtgpdjpololkhbaaW.PrintWords Go.Proofs.YtgpdjpololkhbaaW.PrintLast Go.Proofs.YtgpdjpololkhbaaW.PrintMore Go.Proofs.YtgpdjpololkhbaaB
set_option linter.unusedVariables false
set_option linter.unusedSimpArgs false
theorem impl_areCommands_l0 (xs : List S137) (hx : xs.length ≤ 9223372036854775807) : ∀ (ys : List S137) (m : Nat), xs.drop m = ys →
    Ev (fun k => impl_areCommands.l0 k xs xs.length m) (ys.all isCm)
  | [], m, h => by
    have := drop_nil h
    exact ev_step (fun _ => rfl) (ev_neg (by omega) (ev_now rfl))
  | y :: ys, m, h => by
    obtain ⟨hm, _, hd⟩ := drop_cons h
    refine ev_step (fun _ => rfl) (ev_pos (by omega) (ev_pos (by omega) (ev_pos (by omega) ?_)))
    rw [rdC h, w64 (by omega) (by omega)]
    refine ev_bind (impl_isCommand_f _ _ _) ?_
    rw [List.all_cons, show isC y.f0 y.f1 y.f2 = isCm y from rfl]
    cases hc : isCm y
    · exact ev_neg (by simp) (ev_now (by simp))
    · refine ev_pos rfl (ev_eq (impl_areCommands_l0 xs hx ys (m + 1) hd) (by simp))
theorem impl_areCommands_f (xs : List S137) (hx : xs.length ≤ 9223372036854775807) : Ev (fun k => impl_areCommands.f k xs) (xs.all isCm) := impl_areCommands_l0 xs hx xs 0 rfl

end Go.Proofs.Ytgpdjpololkhbaa.Pure

namespace Go.Proofs.Ytgpdjpololkhbaa.Pure
open Go.RowKit Go.Proofs.Ytgpdjpololkhbaa.F Go.Proofs.YtgpdjpololkhbaaW.PrintWords Go.Proofs.YtgpdjpololkhbaaW.PrintLast Go.Proofs.YtgpdjpololkhbaaW.PrintMore Go.Proofs.YtgpdjpololkhbaaB
set_option linter.unusedVariables false
set_option linter.unusedSimpArgs false
theorem impl_program_f (xs : List S137) (hx : xs.length ≤ 9223372036854775807) : Ev (fun k => impl_program.f k xs) (codeC xs) := by
  refine ev_bind (impl_areCommands_f xs hx) ?_
  unfold codeC
  cases xs.all isCm
  · exact ev_neg (by simp) (ev_now (by simp))
  · refine ev_pos rfl (ev_now ?_)
    by_cases h : 400 < xs.length
    · rw [if_pos (by omega), if_pos rfl, if_pos h]
    · rw [if_neg (by omega), if_pos rfl, if_neg h]

end Go.Proofs.Ytgpdjpololkhbaa.Pure

namespace Go.Proofs.Ytgpdjpololkhbaa.Pure
open Go.RowKit Go.Proofs.Ytgpdjpololkhbaa.F Go.Proofs.YtgpdjpololkhbaaW.PrintWords Go.Proofs.YtgpdjpololkhbaaW.PrintLast Go.Proofs.YtgpdjpololkhbaaW.PrintMore Go.Proofs.YtgpdjpololkhbaaB
set_option linter.unusedVariables false
set_option linter.unusedSimpArgs false
def plotB (a b c : Int) (d : Bool) : Bool := inB a (-1000000) 1000000 && inB b (-1000000) 1000000 && inB c 0 8 && !(d && c == 0)
/-- The plotter after a command, and whether it may be. -/
def stepM (a b c : Int) (d : Bool) (k x y : Int) : Int × Int × Int × Bool × Bool := if k = 80 then (a, b, x, false, true) else if k = 85 then (x, y, c, false, true) else (x, y, c, true, decide (c > 0))

end Go.Proofs.Ytgpdjpololkhbaa.Pure

namespace Go.Proofs.Ytgpdjpololkhbaa.Pure
open Go.RowKit Go.Proofs.Ytgpdjpololkhbaa.F Go.Proofs.YtgpdjpololkhbaaW.PrintWords Go.Proofs.YtgpdjpololkhbaaW.PrintLast Go.Proofs.YtgpdjpololkhbaaW.PrintMore Go.Proofs.YtgpdjpololkhbaaB
set_option linter.unusedVariables false
set_option linter.unusedSimpArgs false
theorem impl_Plotter_step_f (a b c : Int) (d : Bool) (k x y : Int) : impl_Plotter_step.f a b c d k x y = some (stepM a b c d k x y) := by
  unfold impl_Plotter_step.f stepM
  split <;> (try rfl)
  split <;> rfl

end Go.Proofs.Ytgpdjpololkhbaa.Pure

namespace Go.Proofs.Ytgpdjpololkhbaa.Pure
open Go.RowKit Go.Proofs.Ytgpdjpololkhbaa.F Go.Proofs.YtgpdjpololkhbaaW.PrintWords Go.Proofs.YtgpdjpololkhbaaW.PrintLast Go.Proofs.YtgpdjpololkhbaaW.PrintMore Go.Proofs.YtgpdjpololkhbaaB
set_option linter.unusedVariables false
set_option linter.unusedSimpArgs false
theorem half_mid (a b : Int) (h0 : 0 ≤ a) (h1 : a ≤ b) (h2 : b ≤ 2000000001) : wrap64 (Int.tdiv (wrap64 (a + b)) 2) = (a + b) / 2 := by
  rw [w64 (x := a + b) (by omega) (by omega), Int.tdiv_eq_ediv_of_nonneg (by omega), w64 (by omega) (by omega)]
theorem sq_le (m : Int) (h0 : 0 ≤ m) (h1 : m ≤ 2000000001) : wrap64 (m * m) = m * m := by
  have h2 : m * m ≤ 2000000001 * 2000000001 := Int.mul_le_mul h1 h1 h0 (by omega)
  have h3 : 0 ≤ m * m := Int.mul_nonneg h0 h0
  exact w64 (by omega) (by omega)
theorem spec_l01Root_l0 (n : Int) : ∀ (d : Nat) (a b : Int), (b - a).toNat ≤ d → 0 ≤ a → a < b → b ≤ 2000000001 →
    ∃ r, Ev (fun k => spec_l01Root.l0 k n a b) r ∧ a ≤ r ∧ r < b ∧ (a * a ≤ n → r * r ≤ n) ∧ (n < b * b → n < (r + 1) * (r + 1))
  | 0, a, b, hd, h0, h1, h2 => by omega
  | d + 1, a, b, hd, h0, h1, h2 => by
    by_cases h : b - a > 1
    · have hm := half_mid a b h0 (by omega) h2
      have hs := sq_le ((a + b) / 2) (by omega) (by omega)
      by_cases hc : ((a + b) / 2) * ((a + b) / 2) ≤ n
      · obtain ⟨r, hr, g1, g2, g3, g4⟩ := spec_l01Root_l0 n d ((a + b) / 2) b (by omega) (by omega) (by omega) h2
        refine ⟨r, ?_, by omega, g2, fun _ => g3 hc, g4⟩
        refine ev_step (fun _ => rfl) (ev_pos (by rw [w64 (by omega) (by omega)]; exact h) ?_)
        rw [hm, hs]
        exact ev_pos hc hr
      · obtain ⟨r, hr, g1, g2, g3, g4⟩ := spec_l01Root_l0 n d a ((a + b) / 2) (by omega) h0 (by omega) (by omega)
        refine ⟨r, ?_, g1, by omega, g3, fun _ => g4 (by omega)⟩
        refine ev_step (fun _ => rfl) (ev_pos (by rw [w64 (by omega) (by omega)]; exact h) ?_)
        rw [hm, hs]
        exact ev_neg hc hr
    · refine ⟨a, ev_step (fun _ => rfl) (ev_neg (by rw [w64 (by omega) (by omega)]; exact h) (ev_now rfl)), Int.le_refl _, h1, fun h => h, fun hn => ?_⟩
      rw [show a + 1 = b by omega]
      exact hn
theorem root_ex (n : Int) : ∃ r, Ev (fun k => spec_l01Root.f k n) r ∧ 0 ≤ r ∧ r ≤ 2000000000 ∧ (0 ≤ n → r * r ≤ n) ∧ (n < 2000000001 * 2000000001 → n < (r + 1) * (r + 1)) := by
  obtain ⟨r, h1, h2, h3, h4, h5⟩ := spec_l01Root_l0 n 2000000001 0 2000000001 (by omega) (by omega) (by omega) (by omega)
  exact ⟨r, h1, h2, by omega, fun h => h4 (by omega), h5⟩
noncomputable def rootM (n : Int) : Int := Classical.choose (root_ex n)
theorem rootM_spec (n : Int) : 0 ≤ rootM n ∧ rootM n ≤ 2000000000 ∧ (0 ≤ n → rootM n * rootM n ≤ n) ∧ (n < 2000000001 * 2000000001 → n < (rootM n + 1) * (rootM n + 1)) := (Classical.choose_spec (root_ex n)).2
theorem spec_l01Root_f (n : Int) : Ev (fun k => spec_l01Root.f k n) (rootM n) := (Classical.choose_spec (root_ex n)).1

end Go.Proofs.Ytgpdjpololkhbaa.Pure

namespace Go.Proofs.Ytgpdjpololkhbaa.Pure
open Go.RowKit Go.Proofs.Ytgpdjpololkhbaa.F Go.Proofs.YtgpdjpololkhbaaW.PrintWords Go.Proofs.YtgpdjpololkhbaaW.PrintLast Go.Proofs.YtgpdjpololkhbaaW.PrintMore Go.Proofs.YtgpdjpololkhbaaB
set_option linter.unusedVariables false
set_option linter.unusedSimpArgs false
theorem impl_root_same : ∀ (k : Nat) (n a b : Int), impl_root.l0 k n a b = spec_l01Root.l0 k n a b
  | 0, _, _, _ => rfl
  | k + 1, n, a, b => by
    simp only [impl_root.l0, spec_l01Root.l0, impl_root_same k]
theorem impl_root_f (n : Int) : Ev (fun k => impl_root.f k n) (rootM n) := by
  obtain ⟨K, h⟩ := spec_l01Root_f n
  exact ⟨K, fun k hk => (impl_root_same k n 0 2000000001).trans (h k hk)⟩

end Go.Proofs.Ytgpdjpololkhbaa.Pure

namespace Go.Proofs.Ytgpdjpololkhbaa.Pure
open Go.RowKit Go.Proofs.Ytgpdjpololkhbaa.F Go.Proofs.YtgpdjpololkhbaaW.PrintWords Go.Proofs.YtgpdjpololkhbaaW.PrintLast Go.Proofs.YtgpdjpololkhbaaW.PrintMore Go.Proofs.YtgpdjpololkhbaaB
set_option linter.unusedVariables false
set_option linter.unusedSimpArgs false
def sqM (a b c d : Int) : Int := wrap64 ((wrap64 ((wrap64 (a - c)) * (wrap64 (a - c)))) + (wrap64 ((wrap64 (b - d)) * (wrap64 (b - d)))))
noncomputable def distM (a b c d : Int) : Int := rootM (sqM a b c d)
noncomputable def idleM (t a b : Int) : List S110 → Int
  | [] => t
  | y :: ys => idleM (wrap64 (t + distM a b (rd_T90 y.f1 0).f0 (rd_T90 y.f1 0).f1)) (rd_T90 y.f1 (y.f1.length - 1)).f0 (rd_T90 y.f1 (y.f1.length - 1)).f1 ys

end Go.Proofs.Ytgpdjpololkhbaa.Pure

namespace Go.Proofs.Ytgpdjpololkhbaa.Pure
open Go.RowKit Go.Proofs.Ytgpdjpololkhbaa.F Go.Proofs.YtgpdjpololkhbaaW.PrintWords Go.Proofs.YtgpdjpololkhbaaW.PrintLast Go.Proofs.YtgpdjpololkhbaaW.PrintMore Go.Proofs.YtgpdjpololkhbaaB
set_option linter.unusedVariables false
set_option linter.unusedSimpArgs false
theorem impl_distance_f (a b c d : Int) : Ev (fun k => impl_distance.f k a b c d) (distM a b c d) := ev_some rfl (ev_bind (impl_root_f _) (ev_now rfl))

end Go.Proofs.Ytgpdjpololkhbaa.Pure

namespace Go.Proofs.Ytgpdjpololkhbaa.Pure
open Go.RowKit Go.Proofs.Ytgpdjpololkhbaa.F Go.Proofs.YtgpdjpololkhbaaW.PrintWords Go.Proofs.YtgpdjpololkhbaaW.PrintLast Go.Proofs.YtgpdjpololkhbaaW.PrintMore Go.Proofs.YtgpdjpololkhbaaB
set_option linter.unusedVariables false
set_option linter.unusedSimpArgs false
def lineN (k a b x y : Int) (line : List S90) : List S90 := if k = 68 then (if (line.length : Int) = 0 then [⟨a, b⟩] else line) ++ [⟨x, y⟩] else line
def upN (k up way : Int) : Int := if k = 68 then up else wrap64 (up + way)
def dnN (k dn way : Int) : Int := if k = 68 then wrap64 (dn + way) else dn
def pensN (k p : Int) : Int := if k = 80 then wrap64 (p + 1) else p
/-- Whether a stroke is at its end: there is one, and no D follows. -/
def endB (line : List S90) : List S137 → Bool
  | [] => decide (0 < line.length)
  | z :: _ => decide (0 < line.length) && !decide (z.f0 = 68)
/-- What commands do: the plotter, the strokes, the ways up and down, the pens, the code. -/
noncomputable def runM : List S137 → Int → Int → Int → Bool → List S90 → List S110 → Int → Int → Int → Int × Int × Int × Bool × List S110 × Int × Int × Int × Int
  | [], a, b, c, d, _, st, up, dn, p => (a, b, c, d, st, up, dn, p, 0)
  | y :: ys, a, b, c, d, line, st, up, dn, p =>
    if (stepM a b c d y.f0 y.f1 y.f2).2.2.2.2 = true then
      runM ys (stepM a b c d y.f0 y.f1 y.f2).1 (stepM a b c d y.f0 y.f1 y.f2).2.1 (stepM a b c d y.f0 y.f1 y.f2).2.2.1 (stepM a b c d y.f0 y.f1 y.f2).2.2.2.1
        (if endB (lineN y.f0 a b (stepM a b c d y.f0 y.f1 y.f2).1 (stepM a b c d y.f0 y.f1 y.f2).2.1 line) ys = true then [] else lineN y.f0 a b (stepM a b c d y.f0 y.f1 y.f2).1 (stepM a b c d y.f0 y.f1 y.f2).2.1 line)
        (if endB (lineN y.f0 a b (stepM a b c d y.f0 y.f1 y.f2).1 (stepM a b c d y.f0 y.f1 y.f2).2.1 line) ys = true then st ++ [⟨c, lineN y.f0 a b (stepM a b c d y.f0 y.f1 y.f2).1 (stepM a b c d y.f0 y.f1 y.f2).2.1 line⟩] else st)
        (upN y.f0 up (distM a b (stepM a b c d y.f0 y.f1 y.f2).1 (stepM a b c d y.f0 y.f1 y.f2).2.1)) (dnN y.f0 dn (distM a b (stepM a b c d y.f0 y.f1 y.f2).1 (stepM a b c d y.f0 y.f1 y.f2).2.1)) (pensN y.f0 p)
    else (0, 0, 0, false, [], 0, 0, 0, 5)
theorem runM_cons (y : S137) (ys : List S137) (a b c : Int) (d : Bool) (line : List S90) (st : List S110) (up dn p : Int) (s : Int × Int × Int × Bool × Bool) (hs : stepM a b c d y.f0 y.f1 y.f2 = s) :
    runM (y :: ys) a b c d line st up dn p = if s.2.2.2.2 = true then runM ys s.1 s.2.1 s.2.2.1 s.2.2.2.1 (if endB (lineN y.f0 a b s.1 s.2.1 line) ys = true then [] else lineN y.f0 a b s.1 s.2.1 line) (if endB (lineN y.f0 a b s.1 s.2.1 line) ys = true then st ++ [⟨c, lineN y.f0 a b s.1 s.2.1 line⟩] else st) (upN y.f0 up (distM a b s.1 s.2.1)) (dnN y.f0 dn (distM a b s.1 s.2.1)) (pensN y.f0 p) else (0, 0, 0, false, [], 0, 0, 0, 5) := by
  subst hs
  rfl
noncomputable def allM (xs : List S137) : Int × Int × Int × Bool × List S110 × Int × Int × Int × Int := if codeC xs = 0 then runM xs 0 0 0 false [] [] 0 0 0 else (0, 0, 0, false, [], 0, 0, 0, codeC xs)

end Go.Proofs.Ytgpdjpololkhbaa.Pure

namespace Go.Proofs.Ytgpdjpololkhbaa.Pure
open Go.RowKit Go.Proofs.Ytgpdjpololkhbaa.F Go.Proofs.YtgpdjpololkhbaaW.PrintWords Go.Proofs.YtgpdjpololkhbaaW.PrintLast Go.Proofs.YtgpdjpololkhbaaW.PrintMore Go.Proofs.YtgpdjpololkhbaaB
set_option linter.unusedVariables false
set_option linter.unusedSimpArgs false
def countC (l : List S137) (a : Int) : Int := (l.filter (fun x => decide (x.f0 = a))).length
theorem countC_le (l : List S137) (a : Int) : 0 ≤ countC l a ∧ countC l a ≤ l.length := ⟨by unfold countC; omega, by unfold countC; have := List.length_filter_le (fun x : S137 => decide (x.f0 = a)) l; omega⟩
theorem countC_cons (y : S137) (l : List S137) (a : Int) : countC (y :: l) a = countC l a + if y.f0 = a then 1 else 0 := by
  unfold countC
  by_cases h : y.f0 = a <;> simp [h]
def resCount (l : List S137) (a : Int) : Int × Int := if codeC l = 0 then (countC l a, 0) else (0, codeC l)

end Go.Proofs.Ytgpdjpololkhbaa.Pure

namespace Go.Proofs.Ytgpdjpololkhbaa.Pure
open Go.RowKit Go.Proofs.Ytgpdjpololkhbaa.F Go.Proofs.YtgpdjpololkhbaaW.PrintWords Go.Proofs.YtgpdjpololkhbaaW.PrintLast Go.Proofs.YtgpdjpololkhbaaW.PrintMore Go.Proofs.YtgpdjpololkhbaaB
set_option linter.unusedVariables false
set_option linter.unusedSimpArgs false
/-- The ways of the plotter up and down, and whether all commands may be. -/
noncomputable def travM : List S137 → Int → Int → Int → Bool → Int → Int → Int × Int × Bool
  | [], _, _, _, _, u, n => (u, n, true)
  | y :: ys, a, b, c, d, u, n => if (stepM a b c d y.f0 y.f1 y.f2).2.2.2.2 = true then travM ys (stepM a b c d y.f0 y.f1 y.f2).1 (stepM a b c d y.f0 y.f1 y.f2).2.1 (stepM a b c d y.f0 y.f1 y.f2).2.2.1 (stepM a b c d y.f0 y.f1 y.f2).2.2.2.1 (upN y.f0 u (distM a b (stepM a b c d y.f0 y.f1 y.f2).1 (stepM a b c d y.f0 y.f1 y.f2).2.1)) (dnN y.f0 n (distM a b (stepM a b c d y.f0 y.f1 y.f2).1 (stepM a b c d y.f0 y.f1 y.f2).2.1)) else (u, n, false)
theorem travM_cons (y : S137) (ys : List S137) (a b c : Int) (d : Bool) (u n : Int) (s : Int × Int × Int × Bool × Bool) (hs : stepM a b c d y.f0 y.f1 y.f2 = s) : travM (y :: ys) a b c d u n = if s.2.2.2.2 = true then travM ys s.1 s.2.1 s.2.2.1 s.2.2.2.1 (upN y.f0 u (distM a b s.1 s.2.1)) (dnN y.f0 n (distM a b s.1 s.2.1)) else (u, n, false) := by
  subst hs
  rfl
/-- A run tells the ways and how many pens; it stops where the ways do. -/
theorem runM_trav : ∀ (ys : List S137) (a b c : Int) (d : Bool) (line : List S90) (st : List S110) (up dn p : Int), 0 ≤ p → p + ys.length ≤ 4611686018427387904 →
    ((travM ys a b c d up dn).2.2 = true ∧ (runM ys a b c d line st up dn p).2.2.2.2.2.2.2.2 = 0 ∧ (runM ys a b c d line st up dn p).2.2.2.2.2.1 = (travM ys a b c d up dn).1 ∧ (runM ys a b c d line st up dn p).2.2.2.2.2.2.1 = (travM ys a b c d up dn).2.1 ∧ (runM ys a b c d line st up dn p).2.2.2.2.2.2.2.1 = p + countC ys 80) ∨
    ((travM ys a b c d up dn).2.2 = false ∧ runM ys a b c d line st up dn p = (0, 0, 0, false, [], 0, 0, 0, 5))
  | [], a, b, c, d, line, st, up, dn, p, _, _ => .inl ⟨rfl, rfl, rfl, rfl, by simp [runM, countC]⟩
  | y :: ys, a, b, c, d, line, st, up, dn, p, h0, h1 => by
    generalize hs : stepM a b c d y.f0 y.f1 y.f2 = s
    rw [travM_cons y ys a b c d up dn s hs, runM_cons y ys a b c d line st up dn p s hs]
    simp only [List.length_cons] at h1
    by_cases h : s.2.2.2.2 = true
    · rw [if_pos h, if_pos h]
      have hp : 0 ≤ pensN y.f0 p ∧ pensN y.f0 p + ys.length ≤ 4611686018427387904 ∧ pensN y.f0 p + countC ys 80 = p + countC (y :: ys) 80 := by
        unfold pensN
        rw [countC_cons]
        split
        · rw [w64 (x := p + 1) (by omega) (by omega)]
          omega
        · omega
      rw [← hp.2.2]
      exact runM_trav ys _ _ _ _ _ _ _ _ _ hp.1 hp.2.1
    · rw [if_neg h, if_neg h]
      exact .inr ⟨rfl, rfl⟩
theorem isCm_kind {y : S137} (h : isCm y = true) : y.f0 = 80 ∨ y.f0 = 85 ∨ y.f0 = 68 := by
  unfold isCm isC at h
  by_cases h1 : y.f0 = 80
  · exact .inl h1
  · by_cases h2 : y.f0 = 85 ∨ y.f0 = 68
    · exact .inr h2
    · rw [if_neg h1, if_neg h2] at h
      cases h
noncomputable def resTravel (xs : List S137) : Int × Int × Int := if codeC xs = 0 then (if (travM xs 0 0 0 false 0 0).2.2 = true then ((travM xs 0 0 0 false 0 0).1, (travM xs 0 0 0 false 0 0).2.1, 0) else (0, 0, 5)) else (0, 0, codeC xs)
def ceilM (a b : Int) : Int := wrap64 (-(if Int.tmod (wrap64 (-a)) b < 0 then wrap64 (wrap64 (Int.tdiv (wrap64 (-a)) b) - 1) else wrap64 (Int.tdiv (wrap64 (-a)) b)))
noncomputable def resTime (xs : List S137) (a1 a2 a3 : Int) : Int × Int := if codeC xs = 0 then (if inB a1 1 1000000 = true ∧ inB a2 1 1000000 = true ∧ inB a3 0 1000000 = true then (if (travM xs 0 0 0 false 0 0).2.2 = true then (wrap64 (wrap64 (ceilM (travM xs 0 0 0 false 0 0).1 a1 + ceilM (travM xs 0 0 0 false 0 0).2.1 a2) + wrap64 (countC xs 80 * a3)), 0) else (0, 5)) else (0, 2)) else (0, codeC xs)
theorem codeC_all {xs : List S137} (h : codeC xs = 0) : ∀ y ∈ xs, isCm y = true := by
  unfold codeC at h
  split at h
  · rename_i ha
    exact List.all_eq_true.1 ha
  · cases h
theorem codeC_not5 (xs : List S137) : codeC xs ≠ 5 := by
  unfold codeC
  split
  · split <;> decide
  · decide

end Go.Proofs.Ytgpdjpololkhbaa.Pure

namespace Go.Proofs.Ytgpdjpololkhbaa.Pure
open Go.RowKit Go.Proofs.Ytgpdjpololkhbaa.F Go.Proofs.YtgpdjpololkhbaaW.PrintWords Go.Proofs.YtgpdjpololkhbaaW.PrintLast Go.Proofs.YtgpdjpololkhbaaW.PrintMore Go.Proofs.YtgpdjpololkhbaaB
set_option linter.unusedVariables false
set_option linter.unusedSimpArgs false
theorem impl_travel_go : ∀ (ys : List S137) (a b c : Int) (d : Bool) (u n : Int), (∀ y ∈ ys, isCm y = true) → Ev (fun k => impl_travel.go k ys a b c d u n) (travM ys a b c d u n)
  | [], a, b, c, d, u, n, _ => ev_now rfl
  | y :: ys, a, b, c, d, u, n, hv => by
    generalize hs : stepM a b c d y.f0 y.f1 y.f2 = s
    rw [travM_cons y ys a b c d u n s hs]
    have hk := isCm_kind (hv y List.mem_cons_self)
    have hd : s.2.2.2.2 = true → (s.2.2.2.1 = true ↔ y.f0 = 68) := fun _ => by
      rw [← hs]
      unfold stepM
      rcases hk with h | h | h <;> simp [h]
    show Ev (fun k => (impl_Plotter_step.f a b c d y.f0 y.f1 y.f2).bind fun s => if s.2.2.2.2 = true then (impl_distance.f k a b s.1 s.2.1).bind fun t => (if s.2.2.2.1 = true then impl_travel.go k ys s.1 s.2.1 s.2.2.1 s.2.2.2.1 u (wrap64 (n + t)) else impl_travel.go k ys s.1 s.2.1 s.2.2.1 s.2.2.2.1 (wrap64 (u + t)) n) else some (u, n, false)) _
    refine ev_some ((impl_Plotter_step_f a b c d y.f0 y.f1 y.f2).trans (congrArg some hs)) (ev_ite (fun h => ?_) (fun h => ?_))
    · rw [if_pos h]
      refine ev_bind (impl_distance_f a b s.1 s.2.1) (ev_ite (fun hq => ?_) (fun hq => ?_))
      · have h68 := (hd h).1 hq
        rw [show upN y.f0 u (distM a b s.1 s.2.1) = u from if_pos h68, show dnN y.f0 n (distM a b s.1 s.2.1) = wrap64 (n + distM a b s.1 s.2.1) from if_pos h68]
        exact impl_travel_go ys _ _ _ _ _ _ (fun z hz => hv z (List.mem_cons_of_mem _ hz))
      · have h68 : ¬ y.f0 = 68 := fun h6 => hq ((hd h).2 h6)
        rw [show upN y.f0 u (distM a b s.1 s.2.1) = wrap64 (u + distM a b s.1 s.2.1) from if_neg h68, show dnN y.f0 n (distM a b s.1 s.2.1) = n from if_neg h68]
        exact impl_travel_go ys _ _ _ _ _ _ (fun z hz => hv z (List.mem_cons_of_mem _ hz))
    · rw [if_neg h]
      exact ev_now rfl
theorem impl_travel_f (xs : List S137) (hv : ∀ y ∈ xs, isCm y = true) : Ev (fun k => impl_travel.f k xs) (travM xs 0 0 0 false 0 0) := impl_travel_go xs 0 0 0 false 0 0 hv

end Go.Proofs.Ytgpdjpololkhbaa.Pure

namespace Go.Proofs.Ytgpdjpololkhbaa.Pure
open Go.RowKit Go.Proofs.Ytgpdjpololkhbaa.F Go.Proofs.YtgpdjpololkhbaaW.PrintWords Go.Proofs.YtgpdjpololkhbaaW.PrintLast Go.Proofs.YtgpdjpololkhbaaW.PrintMore Go.Proofs.YtgpdjpololkhbaaB
set_option linter.unusedVariables false
set_option linter.unusedSimpArgs false
theorem impl_TravelOf_f (xs : List S137) (hx : xs.length ≤ 1048576) : Ev (fun k => impl_TravelOf.f k xs) (resTravel xs) := by
  refine ev_bind (impl_program_f xs (by omega)) ?_
  unfold resTravel
  refine ev_ite (fun h => ?_) (fun h => ?_)
  · rw [if_pos h]
    refine ev_bind (impl_travel_f xs (codeC_all h)) (ev_ite (fun hq => ?_) (fun hq => ?_))
    · rw [if_pos hq]
      exact ev_now rfl
    · rw [if_neg hq]
      exact ev_now rfl
  · rw [if_neg h]
    exact ev_now rfl

end Go.Proofs.Ytgpdjpololkhbaa.Pure

namespace Go.Proofs.Ytgpdjpololkhbaa.Pure
open Go.RowKit Go.Proofs.Ytgpdjpololkhbaa.F Go.Proofs.YtgpdjpololkhbaaW.PrintWords Go.Proofs.YtgpdjpololkhbaaW.PrintLast Go.Proofs.YtgpdjpololkhbaaW.PrintMore Go.Proofs.YtgpdjpololkhbaaB
set_option linter.unusedVariables false
set_option linter.unusedSimpArgs false
theorem laws_eqCommandS_l0 (xs : List S137) (hx : xs.length ≤ 9223372036854775807) : ∀ (ys : List S137) (m : Nat), xs.drop m = ys →
    Ev (fun k => laws_eqCommandS.l0 k xs xs m) true
  | [], m, h => by
    have := drop_nil h
    exact ev_step (fun _ => rfl) (ev_neg (by omega) (ev_now rfl))
  | y :: ys, m, h => by
    obtain ⟨hm, _, hd⟩ := drop_cons h
    refine ev_step (fun _ => rfl) (ev_pos (by omega) (ev_pos (by omega) (ev_pos (by omega) ?_)))
    rw [rdC h, w64 (by omega) (by omega)]
    refine ev_some (a := true) (by simp [laws_eqCommand.f]) (ev_pos rfl ?_)
    exact laws_eqCommandS_l0 xs hx ys (m + 1) hd
theorem laws_eqCommandS_f (xs : List S137) (hx : xs.length ≤ 9223372036854775807) : Ev (fun k => laws_eqCommandS.f k xs xs) true := ev_pos rfl (laws_eqCommandS_l0 xs hx xs 0 rfl)

end Go.Proofs.Ytgpdjpololkhbaa.Pure

namespace Go.Proofs.Ytgpdjpololkhbaa.Pure
open Go.RowKit Go.Proofs.Ytgpdjpololkhbaa.F Go.Proofs.YtgpdjpololkhbaaW.PrintWords Go.Proofs.YtgpdjpololkhbaaW.PrintLast Go.Proofs.YtgpdjpololkhbaaW.PrintMore Go.Proofs.YtgpdjpololkhbaaB
set_option linter.unusedVariables false
set_option linter.unusedSimpArgs false
theorem laws_szCommandS_f (xs : List S139) (a : Int) (h0 : 0 ≤ a) (h1 : a ≤ 1048576) (hx : xs.length ≤ 9223372036854775807) : laws_szCommandS.f xs a = some (if a < xs.length then -1 else a - xs.length) := by
  unfold laws_szCommandS.f
  rw [w64 (by omega) (by omega)]
  by_cases h : a < xs.length
  · rw [if_pos (by omega), if_pos h]
  · rw [if_neg (by omega), if_neg h]

end Go.Proofs.Ytgpdjpololkhbaa.Pure

namespace Go.Proofs.Ytgpdjpololkhbaa.Pure
open Go.RowKit Go.Proofs.Ytgpdjpololkhbaa.F Go.Proofs.YtgpdjpololkhbaaW.PrintWords Go.Proofs.YtgpdjpololkhbaaW.PrintLast Go.Proofs.YtgpdjpololkhbaaW.PrintMore Go.Proofs.YtgpdjpololkhbaaB
set_option linter.unusedVariables false
set_option linter.unusedSimpArgs false
def toC (x : S139) : S137 := ⟨x.f0, x.f1, x.f2⟩
theorem rdLC {xs ys : List S139} {y : S139} {m : Nat} (h : xs.drop m = y :: ys) : rd_T139 xs (m : Int) = y := (drop_cons h).2.1 _
theorem laws_toCommandS_l0 (xs : List S139) (hx : xs.length ≤ 9223372036854775807) : ∀ (ys : List S139) (m : Nat) (out : List S137), xs.drop m = ys → out.length = xs.length → out.take m = (xs.take m).map toC →
    Ev (fun k => laws_toCommandS.l0 k xs out m) (xs.map toC)
  | [], m, out, h, hl, ht => by
    have := drop_nil h
    refine ev_step (fun _ => rfl) (ev_neg (by omega) (ev_now ?_))
    rw [List.take_of_length_le (by omega), List.take_of_length_le this] at ht
    rw [ht]
  | y :: ys, m, out, h, hl, ht => by
    obtain ⟨hm, _, hd⟩ := drop_cons h
    refine ev_step (fun _ => rfl) (ev_pos (by omega) (ev_pos (by omega) ?_))
    rw [rdLC h, w64 (by omega) (by omega)]
    refine ev_some (a := (y.f0, y.f1, y.f2)) rfl (ev_pos (by omega) ?_)
    refine laws_toCommandS_l0 xs hx ys (m + 1) _ hd (by rw [List.length_set, hl]) ?_
    rw [take_snoc h, List.map_append, ← ht, Int.toNat_natCast, List.set_eq_take_append_cons_drop, if_pos (by omega), List.take_append, List.take_of_length_le (by rw [List.length_take]; omega), List.length_take, show m + 1 - min m out.length = 1 by omega]
    rfl
theorem laws_toCommandS_f (xs : List S139) (hx : xs.length ≤ 1048576) : Ev (fun k => laws_toCommandS.f k xs) (xs.map toC) := by
  refine ev_pos (by omega) (ev_pos (by omega) ?_)
  exact laws_toCommandS_l0 xs (by omega) xs 0 _ rfl (by simp) rfl

end Go.Proofs.Ytgpdjpololkhbaa.Pure

namespace Go.Proofs.Ytgpdjpololkhbaa.Pure
open Go.RowKit Go.Proofs.Ytgpdjpololkhbaa.F Go.Proofs.YtgpdjpololkhbaaW.PrintWords Go.Proofs.YtgpdjpololkhbaaW.PrintLast Go.Proofs.YtgpdjpololkhbaaW.PrintMore Go.Proofs.YtgpdjpololkhbaaB
set_option linter.unusedVariables false
set_option linter.unusedSimpArgs false
theorem spec_l01In_f (a b c : Int) : spec_l01In.f a b c = some (inB a b c) := inB_if a b c

end Go.Proofs.Ytgpdjpololkhbaa.Pure

namespace Go.Proofs.Ytgpdjpololkhbaa.Pure
open Go.RowKit Go.Proofs.Ytgpdjpololkhbaa.F Go.Proofs.YtgpdjpololkhbaaW.PrintWords Go.Proofs.YtgpdjpololkhbaaW.PrintLast Go.Proofs.YtgpdjpololkhbaaW.PrintMore Go.Proofs.YtgpdjpololkhbaaB
set_option linter.unusedVariables false
set_option linter.unusedSimpArgs false
theorem spec_l14Point_f (a b : Int) : spec_l14Point.f a b = some (inB a (-1000000) 1000000 && inB b (-1000000) 1000000) := by
  simp only [spec_l14Point.f, spec_l01In_f, Option.bind_some]
  cases inB a (-1000000) 1000000 <;> simp

end Go.Proofs.Ytgpdjpololkhbaa.Pure

namespace Go.Proofs.Ytgpdjpololkhbaa.Pure
open Go.RowKit Go.Proofs.Ytgpdjpololkhbaa.F Go.Proofs.YtgpdjpololkhbaaW.PrintWords Go.Proofs.YtgpdjpololkhbaaW.PrintLast Go.Proofs.YtgpdjpololkhbaaW.PrintMore Go.Proofs.YtgpdjpololkhbaaB
set_option linter.unusedVariables false
set_option linter.unusedSimpArgs false
theorem spec_l28Pen_f (a : Int) : spec_l28Pen.f a = some (inB a 1 8) := by
  simp only [spec_l28Pen.f, spec_l01In_f, Option.bind_some]

end Go.Proofs.Ytgpdjpololkhbaa.Pure

namespace Go.Proofs.Ytgpdjpololkhbaa.Pure
open Go.RowKit Go.Proofs.Ytgpdjpololkhbaa.F Go.Proofs.YtgpdjpololkhbaaW.PrintWords Go.Proofs.YtgpdjpololkhbaaW.PrintLast Go.Proofs.YtgpdjpololkhbaaW.PrintMore Go.Proofs.YtgpdjpololkhbaaB
set_option linter.unusedVariables false
set_option linter.unusedSimpArgs false
theorem spec_l29Is_f (a b c : Int) : spec_l29Is.f a b c = some (isC a b c) := by
  simp only [spec_l29Is.f, spec_l28Pen_f, spec_l14Point_f, Option.bind_some, isC]
  by_cases h : a = 80
  · simp only [if_pos h]
    cases inB b 1 8 <;> simp
  · simp only [if_neg h]
    by_cases h1 : a = 85 <;> by_cases h2 : a = 68 <;> simp [h1, h2]

end Go.Proofs.Ytgpdjpololkhbaa.Pure

namespace Go.Proofs.Ytgpdjpololkhbaa.Pure
open Go.RowKit Go.Proofs.Ytgpdjpololkhbaa.F Go.Proofs.YtgpdjpololkhbaaW.PrintWords Go.Proofs.YtgpdjpololkhbaaW.PrintLast Go.Proofs.YtgpdjpololkhbaaW.PrintMore Go.Proofs.YtgpdjpololkhbaaB
set_option linter.unusedVariables false
set_option linter.unusedSimpArgs false
theorem spec_l29Code_l0 (xs : List S137) (hx : xs.length ≤ 9223372036854775807) : ∀ (ys : List S137) (m : Nat), xs.drop m = ys →
    Ev (fun k => spec_l29Code.l0 k xs m) (if ys.all isCm = true then (if 400 < xs.length then 3 else 0) else 1)
  | [], m, h => by
    have := drop_nil h
    refine ev_step (fun _ => rfl) (ev_neg (by omega) (ev_now ?_))
    simp only [List.all_nil, if_true]
    by_cases h4 : 400 < xs.length
    · rw [if_pos (by omega), if_pos h4]
    · rw [if_neg (by omega), if_neg h4]
  | y :: ys, m, h => by
    obtain ⟨hm, _, hd⟩ := drop_cons h
    refine ev_step (fun _ => rfl) (ev_pos (by omega) (ev_pos (by omega) ?_))
    rw [rdC h, w64 (by omega) (by omega)]
    refine ev_some (spec_l29Is_f _ _ _) ?_
    rw [List.all_cons, show isC y.f0 y.f1 y.f2 = isCm y from rfl]
    cases hc : isCm y
    · exact ev_neg (by simp) (ev_now (by simp))
    · refine ev_pos rfl (ev_eq (spec_l29Code_l0 xs hx ys (m + 1) hd) (by simp))
theorem spec_l29Code_f (xs : List S137) (hx : xs.length ≤ 9223372036854775807) : Ev (fun k => spec_l29Code.f k xs) (codeC xs) := spec_l29Code_l0 xs hx xs 0 rfl

end Go.Proofs.Ytgpdjpololkhbaa.Pure

namespace Go.Proofs.Ytgpdjpololkhbaa.Pure
open Go.RowKit Go.Proofs.Ytgpdjpololkhbaa.F Go.Proofs.YtgpdjpololkhbaaW.PrintWords Go.Proofs.YtgpdjpololkhbaaW.PrintLast Go.Proofs.YtgpdjpololkhbaaW.PrintMore Go.Proofs.YtgpdjpololkhbaaB
set_option linter.unusedVariables false
set_option linter.unusedSimpArgs false
theorem spec_l30Step_f (a b c : Int) (d : Bool) (k x y : Int) : spec_l30Step.f a b c d k x y = some (stepM a b c d k x y) := by
  unfold spec_l30Step.f stepM
  split <;> (try rfl)
  split <;> rfl

end Go.Proofs.Ytgpdjpololkhbaa.Pure
