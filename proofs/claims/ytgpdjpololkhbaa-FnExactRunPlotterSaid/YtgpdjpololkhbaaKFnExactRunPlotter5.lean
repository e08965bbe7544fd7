/-
  A part of the proof of FnExactRunPlotter: contracts of the Go functions that it reaches, and plain statements on what they come to; each says its own conditions.
-/
import Derived.Deep.Slices
import Derived.ChangeArms
import Derived.Test.YtgpdjpololkhbaaKFnExactRunPlotter4

namespace Go.Proofs.Ytgpdjpololkhbaa.F
open Go.RowKit Go.Proofs.YtgpdjpololkhbaaW.PrintWords Go.Proofs.YtgpdjpololkhbaaW.PrintLast Go.Proofs.YtgpdjpololkhbaaW.PrintMore
attribute [local go_sem] max2_int min2_int max_two min_two max_three min_three max_four min_four   -- for this text's walks alone
set_option linter.unusedVariables false
set_option linter.unusedSimpArgs false

/-! ### impl_RunPlotter: function 49 -/
theorem drop_nil' {α : Type} {xs : List α} {m : Nat} (h : xs.drop m = []) : xs.length ≤ m := by
  rcases Nat.lt_or_ge m xs.length with h1 | h1
  · rw [List.drop_eq_getElem_cons h1] at h; cases h
  · exact h1
theorem drop_at {xs ys : List S137} {y : S137} {m : Nat} (h : xs.drop m = y :: ys) : rd_T137 xs (m : Int) = y := by
  have hm : m < xs.length := by
    rcases Nat.lt_or_ge m xs.length with h1 | h1
    · exact h1
    · rw [List.drop_eq_nil_of_le h1] at h; cases h
  rw [List.drop_eq_getElem_cons hm] at h
  injection h with h1 h2
  show xs.getD (Int.toNat (m : Int)) _ = y
  rw [Int.toNat_natCast, List.getD_eq_getElem?_getD, List.getElem?_eq_getElem hm, ← h1]
  rfl
theorem drop_next {α : Type} {xs ys : List α} {y : α} {m : Nat} (h : xs.drop m = y :: ys) : xs.drop (m + 1) = ys := by
  have hm : m < xs.length := by
    rcases Nat.lt_or_ge m xs.length with h1 | h1
    · exact h1
    · rw [List.drop_eq_nil_of_le h1] at h; cases h
  rw [List.drop_eq_getElem_cons hm] at h
  injection h with h1 h2
def impl_RunPlotter.go : List S137 → Int → Int → Int → Bool → Int → Int → Int → Bool → Option (Int × Int × Int × Bool × Bool)
  | [], _, _, _, _, X, Y, Q, D => some (X, Y, Q, D, true)
  | y :: ys, a, b, c, d, X, Y, Q, D => (impl_Plotter_step.f a b c d y.f0 y.f1 y.f2).bind fun s => if s.2.2.2.2 = true then impl_RunPlotter.go ys s.1 s.2.1 s.2.2.1 s.2.2.2.1 s.1 s.2.1 s.2.2.1 s.2.2.2.1 else some (X, Y, Q, D, false)
/-- The literal of RunPlotter: it keeps the plotter behind each command. -/
def impl_RunPlotter.Last (g : Nat) (x y p : Int) (d : Bool) (w0 w w' : World) (e : Ending) : Prop := e = .returned (.tuple #[]) ∧ w'.heap[g]? = some (.cells #[.int .i64 x, .int .i64 y, .int .i64 p, .bool d] 75 (0, 0)) ∧ Below w0.heap.size w0 w' ∧ Kept w w' (fun k => k = g)
set_option maxHeartbeats 8000000 in
set_option maxRecDepth 100000 in
theorem impl_RunPlotter.last (g : Nat) (a b c : Int) (z : Bool) (x y p : Int) (d : Bool) (X Y Q : Int) (D : Bool) (w0 w : World) (hB : Below w0.heap.size w0 w) (ge : w0.heap.size ≤ g) (bk : w.heap[g]? = some (.cells #[.int .i64 X, .int .i64 Y, .int .i64 Q, .bool D] 75 (0, 0))) :
    Calls Try.prog 113 #[.agg #[.int .i64 a, .int .i64 b, .int .i64 c, .bool z], .agg #[.int .i64 x, .int .i64 y, .int .i64 p, .bool d], .pointer (some ⟨g, 0, none⟩)] w fun e w' => impl_RunPlotter.Last g x y p d w0 w w' e := by
  have hu75 := Try.underlying75
  have HB := Aside0.mk hB
  have GE := Aside0.mk ge
  have BK := Aside0.mk bk
  have HK := Aside0.mk (Kept.refl w (fun k => k = g))
  clear hB ge bk
  go_enter Try.func113, Try.ntmps113
  go_wp2_with (first | ((with_reducible refine gate_dst (N := 3) rfl ?_); refine box_event ?hg (N := 3) ?hd (cs := #[.int .i64 a, .int .i64 b, .int .i64 c, .bool z]) (t := 75) ?hr ?_; (case hd => rfl); (case hg => rfl); (case hr => first | (go_simp; done) | (go_simp; rfl)); intro g1 hg w2 hbox hb; have n0_ := Aside0.mk (below_step HB.out hb); have m_ := Aside0.mk (blk_below BK.out hb); have k_ := Aside0.mk (Kept.below HK.out hb); clear HB BK HK; have HB := n0_; have BK := m_; have HK := k_; clear n0_ m_ k_ hb hbox hg) | ((with_reducible refine gate_dst (N := 4) rfl ?_); refine box_event ?hg (N := 4) ?hd (cs := #[.int .i64 x, .int .i64 y, .int .i64 p, .bool d]) (t := 75) ?hr ?_; (case hd => rfl); (case hg => rfl); (case hr => first | (go_simp; done) | (go_simp; rfl)); intro g2 hg w2 hbox hb; have n0_ := Aside0.mk (below_step HB.out hb); have NE : g ≠ g2 := (by have h_ := blk_lt BK.out; rw [hg]; omega); have m_ := Aside0.mk (blk_below BK.out hb); have k_ := Aside0.mk (Kept.below HK.out hb); clear HB BK HK; have HB := n0_; have BK := m_; have HK := k_; have B2 := Aside0.mk hbox; clear n0_ m_ k_ hb hbox hg; have ca0 : w2.cell? ⟨g2, 0, none⟩ = some (.int .i64 x) := (blk_cell B2.out 0).trans rfl; have ca1 : w2.cell? ⟨g2, 1, none⟩ = some (.int .i64 y) := (blk_cell B2.out 1).trans rfl; have ca2 : w2.cell? ⟨g2, 2, none⟩ = some (.int .i64 p) := (blk_cell B2.out 2).trans rfl; have ca3 : w2.cell? ⟨g2, 3, none⟩ = some (.bool d) := (blk_cell B2.out 3).trans rfl; have cb0 : w2.cell? ⟨g, 0, none⟩ = some (.int .i64 X) := (blk_cell BK.out 0).trans rfl; have cb1 : w2.cell? ⟨g, 1, none⟩ = some (.int .i64 Y) := (blk_cell BK.out 1).trans rfl; have cb2 : w2.cell? ⟨g, 2, none⟩ = some (.int .i64 Q) := (blk_cell BK.out 2).trans rfl; have cb3 : w2.cell? ⟨g, 3, none⟩ = some (.bool D) := (blk_cell BK.out 3).trans rfl; have fb0 := blk_frozen BK.out 0; have fb1 := blk_frozen BK.out 1; have fb2 := blk_frozen BK.out 2; have fb3 := blk_frozen BK.out 3))
  go_end0
  exact ⟨rfl, (by refine blk_put (cs := #[.int .i64 x, .int .i64 y, .int .i64 p, .bool D]) ?_ 3 _ rfl; refine blk_put (cs := #[.int .i64 x, .int .i64 y, .int .i64 Q, .bool D]) ?_ 2 _ rfl; refine blk_put (cs := #[.int .i64 x, .int .i64 Y, .int .i64 Q, .bool D]) ?_ 1 _ rfl; refine blk_put (cs := #[.int .i64 X, .int .i64 Y, .int .i64 Q, .bool D]) ?_ 0 _ rfl; exact BK.out), by (repeat (first | exact HB.out | refine below_set ?_ GE.out)), by have HM_ : (fun k => k = g) (⟨g, 0, none⟩ : Addr).block ∨ w.heap.size ≤ (⟨g, 0, none⟩ : Addr).block := .inl rfl; (repeat (first | exact HK.out | refine Kept.setCell ?_ HM_ _))⟩
/-- What is so behind a run: the captured variables hold the run's result. -/
def impl_RunPlotter.Ran (gl : Nat) (r1 : Int) (r2 : Int) (r3 : Int) (r4 : Bool) (ok : Bool) (w0 w w' : World) (e : Ending) : Prop := e = .returned (.bool ok) ∧ Below w0.heap.size w0 w' ∧ w'.heap[gl]? = some (.cells #[.int .i64 r1, .int .i64 r2, .int .i64 r3, .bool r4] 75 (0, 0)) ∧ Kept w w' (fun k => k = gl)
set_option maxHeartbeats 8000000 in
set_option maxRecDepth 100000 in
theorem impl_RunPlotter.run (A0 : Option Addr) (c0 : Nat) (l0 : List S137) (gl : Nat) (X : Int) (Y : Int) (Q : Int) (D : Bool) (r1 : Int) (r2 : Int) (r3 : Int) (r4 : Bool) (ok : Bool) (w0 w : World) (hr0 : Kd.C k137 w0 A0 l0.length l0) (hB : Below w0.heap.size w0 w) (gegl : w0.heap.size ≤ gl) (bkgl : w.heap[gl]? = some (.cells #[.int .i64 X, .int .i64 Y, .int .i64 Q, .bool D] 75 (0, 0))) (h : impl_RunPlotter.go l0 0 0 0 false X Y Q D = some (r1, r2, r3, r4, ok)) :
    Calls Try.prog 112 #[.slice A0 l0.length c0, .func (.func 113) #[] #[.pointer (some ⟨gl, 0, none⟩)]] w fun e w' => impl_RunPlotter.Ran gl r1 r2 r3 r4 ok w0 w w' e := by
  have hu75 := Try.underlying75
  have hu137 := Try.underlying137
  have hmf : ∀ (fn : Fn) (first cap : Array Value) (w : World), (Instr.makeFunc fn first cap).run Try.prog w = .ok (.func fn first cap) w := fun _ _ _ _ => rfl
  have HR0 := Aside0.mk hr0
  have HB := Aside0.mk hB
  have HK := Aside0.mk (Kept.refl w (fun k => k = gl))
  have H' := Aside0.mk h
  have hlen : l0.length ≤ 9223372036854775807 := hr0.2.1
  have GEgl := Aside0.mk gegl
  have BKgl := Aside0.mk bkgl
  clear hr0 hB h gegl bkgl
  go_enter Try.func112, Try.ntmps112
  go_wp2_with (first | ((with_reducible refine gate_dst (N := 5) rfl ?_); refine box_event ?hg (N := 5) ?hd (cs := #[.int .i64 0, .int .i64 0, .int .i64 0, .bool false]) (t := 75) ?hr ?_; (case hd => rfl); (case hg => rfl); (case hr => first | (go_simp; done) | (go_simp; rfl)); intro gp hg w2 hbox hb; have n0_ := Aside0.mk (below_step HB.out hb); have NP := Aside0.mk hbox; have GKp := Aside0.mk ((by rw [hg]; exact HK.out.1) : w.heap.size ≤ gp); have k_ := Aside0.mk (Kept.below HK.out hb); clear HK; have HK := k_; clear k_; have GEp := Aside0.mk ((by rw [hg]; exact below_size HB.out) : w0.heap.size ≤ gp); have NEgl : Aside0 (gp ≠ gl) := ⟨by have h_ := blk_lt BKgl.out; rw [hg]; omega⟩; have mgl_ := Aside0.mk (blk_below BKgl.out hb); clear BKgl; have BKgl := mgl_; clear mgl_; clear HB; have HB := n0_; clear n0_; clear hb hbox hg; have cz0 : w2.cell? ⟨gp, 0, none⟩ = some (.int .i64 0) := (blk_cell NP.out 0).trans rfl; have cz1 : w2.cell? ⟨gp, 1, none⟩ = some (.int .i64 0) := (blk_cell NP.out 1).trans rfl; have cz2 : w2.cell? ⟨gp, 2, none⟩ = some (.int .i64 0) := (blk_cell NP.out 2).trans rfl; have cz3 : w2.cell? ⟨gp, 3, none⟩ = some (.bool false) := (blk_cell NP.out 3).trans rfl; have fz0 := blk_frozen NP.out 0; have fz1 := blk_frozen NP.out 1; have fz2 := blk_frozen NP.out 2; have fz3 := blk_frozen NP.out 3))
  go_loopw [13] (fun v13 wr => ∃ (m : Nat) (ys : List S137) (x y p : Int) (d : Bool) (X : Int) (Y : Int) (Q : Int) (D : Bool), v13 = .int .i64 m ∧ m ≤ l0.length ∧ Aside0 (l0.drop m = ys) ∧ Aside0 (impl_RunPlotter.go ys x y p d X Y Q D = some (r1, r2, r3, r4, ok)) ∧ Aside0 (wr.heap[gp]? = some (.cells #[.int .i64 x, .int .i64 y, .int .i64 p, .bool d] 75 (0, 0))) ∧ Aside0 (wr.heap[gl]? = some (.cells #[.int .i64 X, .int .i64 Y, .int .i64 Q, .bool D] 75 (0, 0))) ∧ Aside0 (Below w0.heap.size w0 wr) ∧ Aside0 (Kept w wr (fun k => k = gl))) (fun v13 _ => l0.length - (intOf v13).toNat)
  case atStart => exact ⟨0, l0, 0, 0, 0, false, X, Y, Q, D, rfl, Nat.zero_le _, ⟨rfl⟩, H', ⟨(by refine blk_put (cs := #[.int .i64 0, .int .i64 0, .int .i64 0, .bool false]) ?_ 3 _ rfl; refine blk_put (cs := #[.int .i64 0, .int .i64 0, .int .i64 0, .bool false]) ?_ 2 _ rfl; refine blk_put (cs := #[.int .i64 0, .int .i64 0, .int .i64 0, .bool false]) ?_ 1 _ rfl; refine blk_put (cs := #[.int .i64 0, .int .i64 0, .int .i64 0, .bool false]) ?_ 0 _ rfl; exact NP.out)⟩, ⟨(by (repeat (first | exact BKgl.out | refine blk_far ?_ (fun h_ => NEgl.out h_.symm) _)))⟩, ⟨by repeat (first | exact HB.out | refine below_set ?_ GEp.out)⟩, ⟨(by have HM_ : ((fun k => k = gl)) (⟨gp, 0, none⟩ : Addr).block ∨ w.heap.size ≤ (⟨gp, 0, none⟩ : Addr).block := .inr GKp.out; (repeat (first | exact HK.out | refine Kept.setCell ?_ HM_ _)) : Kept w _ (fun k => k = gl))⟩⟩
  case round =>
    clear H' NP
    try clear cz0 fz0 cz1 fz1 cz2 fz2 cz3 fz3
    obtain ⟨m, ys, x, y, p, d, X_, Y_, Q_, D_, rfl, hm, HD, HA, BKp, BKgl, HB, HK⟩ := hrel
    by_cases hlt : m < l0.length
    · cases ys with
      | nil => exact absurd (drop_nil' HD.out) (by omega)
      | cons c ys =>
      have hrd := Aside0.mk (drop_at HD.out)
      have HD2 := Aside0.mk (drop_next HD.out)
      have H := HA.out
      clear HA
      simp only [impl_RunPlotter.go] at H
      replace H := Option.bind_eq_some_iff.mp H
      obtain ⟨⟨s1, s2, s3, s4, s5⟩, A1, H⟩ := H
      have HS := Aside0.mk A1
      clear A1
      obtain ⟨ad, e0, hx0, hx1, hx2⟩ := at_T137 HR0.out (m : Int) (by omega) (by omega)
      cases e0
      rw [show rd_T137 l0 (m : Int) = c from hrd.out] at hx0 hx1 hx2
      simp only [Int.toNat_natCast] at hx0 hx1 hx2
      replace hx0 := (HB.out.cell (World.block_lt_of_cell? w0 _ hx0)).trans hx0
      replace hx1 := (HB.out.cell (World.block_lt_of_cell? w0 _ hx1)).trans hx1
      replace hx2 := (HB.out.cell (World.block_lt_of_cell? w0 _ hx2)).trans hx2
      clear hrd HD
      cases s5 with
      | false =>
        rw [if_neg (by simp)] at H
        obtain ⟨rfl, rfl, rfl, rfl, rfl⟩ := (by simpa using H)
        clear H
        go_wp2_with (first | ((with_reducible refine gate_dst (N := 7) rfl ?_); refine box_event ?hg (N := 7) ?hd (cs := #[.int .u8 0, .int .i64 0, .int .i64 0]) (t := 137) ?hr ?_; (case hd => rfl); (case hg => rfl); (case hr => first | (go_simp; done) | (go_simp; rfl)); intro gc hg w2 hbox hb; have n0_ := Aside0.mk (below_step HB.out hb); have BKc := Aside0.mk hbox; have GKc := Aside0.mk ((by rw [hg]; exact HK.out.1) : w.heap.size ≤ gc); have k_ := Aside0.mk (Kept.below HK.out hb); clear HK; have HK := k_; clear k_; have GEc := Aside0.mk ((by rw [hg]; exact below_size HB.out) : w0.heap.size ≤ gc); have NEpc : Aside0 (gp ≠ gc) := ⟨by have h_ := blk_lt BKp.out; rw [hg]; omega⟩; have m_ := Aside0.mk (blk_below BKp.out hb); clear BKp; have BKp := m_; clear m_; have NEcgl : Aside0 (gl ≠ gc) := ⟨by have h_ := blk_lt BKgl.out; rw [hg]; omega⟩; have m_ := Aside0.mk (blk_below BKgl.out hb); clear BKgl; have BKgl := m_; clear m_; clear HB; have HB := n0_; clear n0_; clear hb hbox hg; have cc0 : w2.cell? ⟨gc, 0, none⟩ = some (.int .u8 0) := (blk_cell BKc.out 0).trans rfl; have cc1 : w2.cell? ⟨gc, 1, none⟩ = some (.int .i64 0) := (blk_cell BKc.out 1).trans rfl; have cc2 : w2.cell? ⟨gc, 2, none⟩ = some (.int .i64 0) := (blk_cell BKc.out 2).trans rfl; have fc0 := blk_frozen BKc.out 0; have fc1 := blk_frozen BKc.out 1; have fc2 := blk_frozen BKc.out 2; have cp0 : w2.cell? ⟨gp, 0, none⟩ = some (.int .i64 x) := (blk_cell BKp.out 0).trans rfl; have cp1 : w2.cell? ⟨gp, 1, none⟩ = some (.int .i64 y) := (blk_cell BKp.out 1).trans rfl; have cp2 : w2.cell? ⟨gp, 2, none⟩ = some (.int .i64 p) := (blk_cell BKp.out 2).trans rfl; have cp3 : w2.cell? ⟨gp, 3, none⟩ = some (.bool d) := (blk_cell BKp.out 3).trans rfl; have qgpgc : (gp = gc) = False := eq_false NEpc.out; have qgcgp : (gc = gp) = False := eq_false (fun h_ => NEpc.out h_.symm); clear hx0 hx1 hx2))
        (with_reducible refine (impl_Plotter_step.calls x y p d c.f0 c.f1 c.f2 s1 s2 s3 s4 false _ HS.out).mono ?_)
        rintro e w3 ⟨rfl, hb⟩
        have m_ := Aside0.mk (blk_below (by (repeat (first | exact BKp.out | refine blk_far ?_ NEpc.out _)) : (_ : World).heap[gp]? = some (.cells #[.int .i64 x, .int .i64 y, .int .i64 p, .bool d] 75 (0, 0))) hb)
        clear BKp
        have BKp := m_
        clear m_
        have m_ := Aside0.mk (blk_below (by (repeat (first | exact BKgl.out | refine blk_far ?_ NEcgl.out _)) : (_ : World).heap[gl]? = some (.cells #[.int .i64 X_, .int .i64 Y_, .int .i64 Q_, .bool D_] 75 (0, 0))) hb)
        clear BKgl
        have BKgl := m_
        clear m_
        have n0_ := Aside0.mk (below_step (by (repeat (first | exact HB.out | refine below_set ?_ GEc.out))) hb)
        have k_ := Aside0.mk (Kept.below (by have HM_ : ((fun k => k = gl)) (⟨gc, 0, none⟩ : Addr).block ∨ w.heap.size ≤ (⟨gc, 0, none⟩ : Addr).block := .inr GKc.out; (repeat (first | exact HK.out | refine Kept.setCell ?_ HM_ _)) : Kept w _ (fun k => k = gl)) hb)
        clear HK
        have HK := k_
        clear k_
        clear HB
        have HB := n0_
        clear n0_ hb cc0 cc1 cc2 fc0 fc1 fc2 cp0 cp1 cp2 cp3 qgpgc qgcgp
        go_wp2_with (first | ((with_reducible refine gate_dst (N := 8) rfl ?_); refine box_event ?hg (N := 8) ?hd (cs := #[.int .i64 0, .int .i64 0, .int .i64 0, .bool false]) (t := 75) ?hr ?_; (case hd => rfl); (case hg => rfl); (case hr => first | (go_simp; done) | (go_simp; rfl)); intro gq hg w2 hbox hb; have n0_ := Aside0.mk (below_step HB.out hb); have BKq := Aside0.mk hbox; have GKq := Aside0.mk ((by rw [hg]; exact HK.out.1) : w.heap.size ≤ gq); have k_ := Aside0.mk (Kept.below HK.out hb); clear HK; have HK := k_; clear k_; have GEq := Aside0.mk ((by rw [hg]; exact below_size HB.out) : w0.heap.size ≤ gq); have NEpq : Aside0 (gp ≠ gq) := ⟨by have h_ := blk_lt BKp.out; rw [hg]; omega⟩; have m_ := Aside0.mk (blk_below BKp.out hb); clear BKp; have BKp := m_; clear m_; have NEqgl : Aside0 (gl ≠ gq) := ⟨by have h_ := blk_lt BKgl.out; rw [hg]; omega⟩; have m_ := Aside0.mk (blk_below BKgl.out hb); clear BKgl; have BKgl := m_; clear m_; clear HB; have HB := n0_; clear n0_; clear hb hbox hg; have cq0 : w2.cell? ⟨gq, 0, none⟩ = some (.int .i64 0) := (blk_cell BKq.out 0).trans rfl; have cq1 : w2.cell? ⟨gq, 1, none⟩ = some (.int .i64 0) := (blk_cell BKq.out 1).trans rfl; have cq2 : w2.cell? ⟨gq, 2, none⟩ = some (.int .i64 0) := (blk_cell BKq.out 2).trans rfl; have cq3 : w2.cell? ⟨gq, 3, none⟩ = some (.bool false) := (blk_cell BKq.out 3).trans rfl; have fq0 := blk_frozen BKq.out 0; have fq1 := blk_frozen BKq.out 1; have fq2 := blk_frozen BKq.out 2; have fq3 := blk_frozen BKq.out 3; have cp0 : w2.cell? ⟨gp, 0, none⟩ = some (.int .i64 x) := (blk_cell BKp.out 0).trans rfl; have cp1 : w2.cell? ⟨gp, 1, none⟩ = some (.int .i64 y) := (blk_cell BKp.out 1).trans rfl; have cp2 : w2.cell? ⟨gp, 2, none⟩ = some (.int .i64 p) := (blk_cell BKp.out 2).trans rfl; have cp3 : w2.cell? ⟨gp, 3, none⟩ = some (.bool d) := (blk_cell BKp.out 3).trans rfl; have qgpgq : (gp = gq) = False := eq_false NEpq.out; have qgqgp : (gq = gp) = False := eq_false (fun h_ => NEpq.out h_.symm)))
        go_ret
        exact ⟨rfl, by (repeat (first | exact HB.out | refine below_set ?_ GEq.out)), by (repeat (first | exact BKgl.out | refine blk_far ?_ NEqgl.out _)), (by have HM_ : ((fun k => k = gl)) (⟨gq, 0, none⟩ : Addr).block ∨ w.heap.size ≤ (⟨gq, 0, none⟩ : Addr).block := .inr GKq.out; (repeat (first | exact HK.out | refine Kept.setCell ?_ HM_ _)) : Kept w _ (fun k => k = gl))⟩
      | true =>
        rw [if_pos rfl] at H

        go_wp2_with (first | ((with_reducible refine gate_dst (N := 7) rfl ?_); refine box_event ?hg (N := 7) ?hd (cs := #[.int .u8 0, .int .i64 0, .int .i64 0]) (t := 137) ?hr ?_; (case hd => rfl); (case hg => rfl); (case hr => first | (go_simp; done) | (go_simp; rfl)); intro gc hg w2 hbox hb; have n0_ := Aside0.mk (below_step HB.out hb); have BKc := Aside0.mk hbox; have GKc := Aside0.mk ((by rw [hg]; exact HK.out.1) : w.heap.size ≤ gc); have k_ := Aside0.mk (Kept.below HK.out hb); clear HK; have HK := k_; clear k_; have GEc := Aside0.mk ((by rw [hg]; exact below_size HB.out) : w0.heap.size ≤ gc); have NEpc : Aside0 (gp ≠ gc) := ⟨by have h_ := blk_lt BKp.out; rw [hg]; omega⟩; have m_ := Aside0.mk (blk_below BKp.out hb); clear BKp; have BKp := m_; clear m_; have NEcgl : Aside0 (gl ≠ gc) := ⟨by have h_ := blk_lt BKgl.out; rw [hg]; omega⟩; have m_ := Aside0.mk (blk_below BKgl.out hb); clear BKgl; have BKgl := m_; clear m_; clear HB; have HB := n0_; clear n0_; clear hb hbox hg; have cc0 : w2.cell? ⟨gc, 0, none⟩ = some (.int .u8 0) := (blk_cell BKc.out 0).trans rfl; have cc1 : w2.cell? ⟨gc, 1, none⟩ = some (.int .i64 0) := (blk_cell BKc.out 1).trans rfl; have cc2 : w2.cell? ⟨gc, 2, none⟩ = some (.int .i64 0) := (blk_cell BKc.out 2).trans rfl; have fc0 := blk_frozen BKc.out 0; have fc1 := blk_frozen BKc.out 1; have fc2 := blk_frozen BKc.out 2; have cp0 : w2.cell? ⟨gp, 0, none⟩ = some (.int .i64 x) := (blk_cell BKp.out 0).trans rfl; have cp1 : w2.cell? ⟨gp, 1, none⟩ = some (.int .i64 y) := (blk_cell BKp.out 1).trans rfl; have cp2 : w2.cell? ⟨gp, 2, none⟩ = some (.int .i64 p) := (blk_cell BKp.out 2).trans rfl; have cp3 : w2.cell? ⟨gp, 3, none⟩ = some (.bool d) := (blk_cell BKp.out 3).trans rfl; have qgpgc : (gp = gc) = False := eq_false NEpc.out; have qgcgp : (gc = gp) = False := eq_false (fun h_ => NEpc.out h_.symm); clear hx0 hx1 hx2))
        (with_reducible refine (impl_Plotter_step.calls x y p d c.f0 c.f1 c.f2 s1 s2 s3 s4 true _ HS.out).mono ?_)
        rintro e w3 ⟨rfl, hb⟩
        have m_ := Aside0.mk (blk_below (by (repeat (first | exact BKp.out | refine blk_far ?_ NEpc.out _)) : (_ : World).heap[gp]? = some (.cells #[.int .i64 x, .int .i64 y, .int .i64 p, .bool d] 75 (0, 0))) hb)
        clear BKp
        have BKp := m_
        clear m_
        have m_ := Aside0.mk (blk_below (by (repeat (first | exact BKgl.out | refine blk_far ?_ NEcgl.out _)) : (_ : World).heap[gl]? = some (.cells #[.int .i64 X_, .int .i64 Y_, .int .i64 Q_, .bool D_] 75 (0, 0))) hb)
        clear BKgl
        have BKgl := m_
        clear m_
        have n0_ := Aside0.mk (below_step (by (repeat (first | exact HB.out | refine below_set ?_ GEc.out))) hb)
        have k_ := Aside0.mk (Kept.below (by have HM_ : ((fun k => k = gl)) (⟨gc, 0, none⟩ : Addr).block ∨ w.heap.size ≤ (⟨gc, 0, none⟩ : Addr).block := .inr GKc.out; (repeat (first | exact HK.out | refine Kept.setCell ?_ HM_ _)) : Kept w _ (fun k => k = gl)) hb)
        clear HK
        have HK := k_
        clear k_
        clear HB
        have HB := n0_
        clear n0_ hb cc0 cc1 cc2 fc0 fc1 fc2 cp0 cp1 cp2 cp3 qgpgc qgcgp
        go_wp2_with (first | ((with_reducible refine gate_dst (N := 8) rfl ?_); refine box_event ?hg (N := 8) ?hd (cs := #[.int .i64 0, .int .i64 0, .int .i64 0, .bool false]) (t := 75) ?hr ?_; (case hd => rfl); (case hg => rfl); (case hr => first | (go_simp; done) | (go_simp; rfl)); intro gq hg w2 hbox hb; have n0_ := Aside0.mk (below_step HB.out hb); have BKq := Aside0.mk hbox; have GKq := Aside0.mk ((by rw [hg]; exact HK.out.1) : w.heap.size ≤ gq); have k_ := Aside0.mk (Kept.below HK.out hb); clear HK; have HK := k_; clear k_; have GEq := Aside0.mk ((by rw [hg]; exact below_size HB.out) : w0.heap.size ≤ gq); have NEpq : Aside0 (gp ≠ gq) := ⟨by have h_ := blk_lt BKp.out; rw [hg]; omega⟩; have m_ := Aside0.mk (blk_below BKp.out hb); clear BKp; have BKp := m_; clear m_; have NEqgl : Aside0 (gl ≠ gq) := ⟨by have h_ := blk_lt BKgl.out; rw [hg]; omega⟩; have m_ := Aside0.mk (blk_below BKgl.out hb); clear BKgl; have BKgl := m_; clear m_; clear HB; have HB := n0_; clear n0_; clear hb hbox hg; have cq0 : w2.cell? ⟨gq, 0, none⟩ = some (.int .i64 0) := (blk_cell BKq.out 0).trans rfl; have cq1 : w2.cell? ⟨gq, 1, none⟩ = some (.int .i64 0) := (blk_cell BKq.out 1).trans rfl; have cq2 : w2.cell? ⟨gq, 2, none⟩ = some (.int .i64 0) := (blk_cell BKq.out 2).trans rfl; have cq3 : w2.cell? ⟨gq, 3, none⟩ = some (.bool false) := (blk_cell BKq.out 3).trans rfl; have fq0 := blk_frozen BKq.out 0; have fq1 := blk_frozen BKq.out 1; have fq2 := blk_frozen BKq.out 2; have fq3 := blk_frozen BKq.out 3; have cp0 : w2.cell? ⟨gp, 0, none⟩ = some (.int .i64 x) := (blk_cell BKp.out 0).trans rfl; have cp1 : w2.cell? ⟨gp, 1, none⟩ = some (.int .i64 y) := (blk_cell BKp.out 1).trans rfl; have cp2 : w2.cell? ⟨gp, 2, none⟩ = some (.int .i64 p) := (blk_cell BKp.out 2).trans rfl; have cp3 : w2.cell? ⟨gp, 3, none⟩ = some (.bool d) := (blk_cell BKp.out 3).trans rfl; have qgpgq : (gp = gq) = False := eq_false NEpq.out; have qgqgp : (gq = gp) = False := eq_false (fun h_ => NEpq.out h_.symm)))
        (with_reducible refine (impl_RunPlotter.last gl x y p d s1 s2 s3 s4 X_ Y_ Q_ D_ w0 _ ?cb ?cg ?ck).mono ?_)
        (case cb => (repeat (first | exact HB.out | refine below_set ?_ GEq.out)))
        (case cg => exact GEgl.out)
        (case ck => (repeat (first | exact BKgl.out | refine blk_far ?_ NEqgl.out _)))
        rintro e w5 ⟨rfl, hl, hb2, hk⟩
        have m_ := Aside0.mk (blk_kept (by (repeat (first | exact BKp.out | refine blk_far ?_ NEpq.out _)) : (_ : World).heap[gp]? = some (.cells #[.int .i64 x, .int .i64 y, .int .i64 p, .bool d] 75 (0, 0))) hk NEgl.out)
        have n_ := Aside0.mk (blk_kept ((by refine blk_put (cs := #[.int .i64 s1, .int .i64 s2, .int .i64 s3, .bool false]) ?_ 3 _ rfl; refine blk_put (cs := #[.int .i64 s1, .int .i64 s2, .int .i64 0, .bool false]) ?_ 2 _ rfl; refine blk_put (cs := #[.int .i64 s1, .int .i64 0, .int .i64 0, .bool false]) ?_ 1 _ rfl; refine blk_put (cs := #[.int .i64 0, .int .i64 0, .int .i64 0, .bool false]) ?_ 0 _ rfl; exact BKq.out) : (_ : World).heap[gq]? = some (.cells #[.int .i64 s1, .int .i64 s2, .int .i64 s3, .bool s4] 75 (0, 0))) hk (fun h_ => NEqgl.out h_.symm))
        clear BKp BKq BKgl HB cq0 cq1 cq2 cq3 fq0 fq1 fq2 fq3 cp0 cp1 cp2 cp3
        have BKp := m_
        have BKq := n_
        have BKgl := Aside0.mk hl
        have HB := Aside0.mk hb2
        have k_ := Aside0.mk (Kept.then_ (by have HM_ : ((fun k => k = gl)) (⟨gq, 0, none⟩ : Addr).block ∨ w.heap.size ≤ (⟨gq, 0, none⟩ : Addr).block := .inr GKq.out; (repeat (first | exact HK.out | refine Kept.setCell ?_ HM_ _)) : Kept w _ (fun k => k = gl)) hk (fun k_ hk_ => .inl hk_))
        clear HK
        have HK := k_
        clear k_
        clear m_ n_ hl hb2 hk
        have cq0 : w5.cell? ⟨gq, 0, none⟩ = some (.int .i64 s1) := (blk_cell BKq.out 0).trans rfl
        have cq1 : w5.cell? ⟨gq, 1, none⟩ = some (.int .i64 s2) := (blk_cell BKq.out 1).trans rfl
        have cq2 : w5.cell? ⟨gq, 2, none⟩ = some (.int .i64 s3) := (blk_cell BKq.out 2).trans rfl
        have cq3 : w5.cell? ⟨gq, 3, none⟩ = some (.bool s4) := (blk_cell BKq.out 3).trans rfl
        have cp0 : w5.cell? ⟨gp, 0, none⟩ = some (.int .i64 x) := (blk_cell BKp.out 0).trans rfl
        have cp1 : w5.cell? ⟨gp, 1, none⟩ = some (.int .i64 y) := (blk_cell BKp.out 1).trans rfl
        have cp2 : w5.cell? ⟨gp, 2, none⟩ = some (.int .i64 p) := (blk_cell BKp.out 2).trans rfl
        have cp3 : w5.cell? ⟨gp, 3, none⟩ = some (.bool d) := (blk_cell BKp.out 3).trans rfl
        have fp0 := blk_frozen BKp.out 0
        have fp1 := blk_frozen BKp.out 1
        have fp2 := blk_frozen BKp.out 2
        have fp3 := blk_frozen BKp.out 3
        go_wp2_with fail
        go_roundw
        case measure => simp [intOf]; omega
        case rel => exact ⟨m + 1, ys, s1, s2, s3, s4, s1, s2, s3, s4, by go_num, by omega, HD2, ⟨H⟩, ⟨(by refine blk_put (cs := #[.int .i64 s1, .int .i64 s2, .int .i64 s3, .bool d]) ?_ 3 _ rfl; refine blk_put (cs := #[.int .i64 s1, .int .i64 s2, .int .i64 p, .bool d]) ?_ 2 _ rfl; refine blk_put (cs := #[.int .i64 s1, .int .i64 y, .int .i64 p, .bool d]) ?_ 1 _ rfl; refine blk_put (cs := #[.int .i64 x, .int .i64 y, .int .i64 p, .bool d]) ?_ 0 _ rfl; exact BKp.out)⟩, ⟨by (repeat (first | exact BKgl.out | refine blk_far ?_ (fun h_ => NEgl.out h_.symm) _))⟩, ⟨by (repeat (first | exact HB.out | refine below_set ?_ GEp.out))⟩, ⟨(by have HM_ : ((fun k => k = gl)) (⟨gp, 0, none⟩ : Addr).block ∨ w.heap.size ≤ (⟨gp, 0, none⟩ : Addr).block := .inr GKp.out; (repeat (first | exact HK.out | refine Kept.setCell ?_ HM_ _)) : Kept w _ (fun k => k = gl))⟩⟩
    · have HE : Aside0 (ys = []) := ⟨by rw [← HD.out, List.drop_eq_nil_of_le (by omega)]⟩
      have H := HA.out
      rw [HE.out] at H
      clear HA
      simp only [impl_RunPlotter.go] at H
      obtain ⟨rfl, rfl, rfl, rfl, rfl⟩ := (by simpa using H)
      clear HE
      go_wp2
      go_ret
      exact ⟨rfl, HB.out, BKgl.out, HK.out⟩
def impl_RunPlotter.f (k : Nat) (l0 : List S137) : Option (Int × Int × Int × Bool × Int) := (impl_program.f k l0).bind fun t => if t = 0 then (impl_RunPlotter.go l0 0 0 0 false 0 0 0 false).bind fun s => (if s.2.2.2.2 = true then some (s.1, s.2.1, s.2.2.1, s.2.2.2.1, 0) else some (0, 0, 0, false, 5)) else some (0, 0, 0, false, t)
theorem impl_RunPlotter.mono : ∀ a0 k, LeO (impl_RunPlotter.f k a0) (impl_RunPlotter.f (k + 1) a0) := by
  intro a0 k
  unfold impl_RunPlotter.f
  exact LeO.bind (impl_program.mono _ _) (fun _ => LeO.refl _)
set_option maxHeartbeats 8000000 in
set_option maxRecDepth 100000 in
theorem impl_RunPlotter.calls (k : Nat) (A0 : Option Addr) (c0 : Nat) (l0 : List S137) (r1 r2 r3 : Int) (r4 : Bool) (r5 : Int) (w : World) (hr0 : Kd.C k137 w A0 l0.length l0) (hc0 : l0.length ≤ c0) (h : impl_RunPlotter.f k l0 = some (r1, r2, r3, r4, r5)) :
    Calls Try.prog 49 #[.slice A0 l0.length c0] w fun e w' => e = .returned (.tuple #[.agg #[.int .i64 r1, .int .i64 r2, .int .i64 r3, .bool r4], .int .i64 r5]) ∧ Below w.heap.size w w' := by
  have hu75 := Try.underlying75
  have hmf : ∀ (fn : Fn) (first cap : Array Value) (w : World), (Instr.makeFunc fn first cap).run Try.prog w = .ok (.func fn first cap) w := fun _ _ _ _ => rfl
  have HB := Aside0.mk (Below.refl w.heap.size w)
  have HR0 := Aside0.mk hr0
  have HC0 := Aside0.mk hc0
  unfold impl_RunPlotter.f at h
  obtain ⟨t, A1, H⟩ := Option.bind_eq_some_iff.mp h
  have A1 := Aside0.mk A1
  clear hr0 hc0 h
  by_cases ht : t = 0
  · subst ht
    rw [if_pos rfl] at H
    obtain ⟨⟨s1, s2, s3, s4, s5⟩, A2, H⟩ := Option.bind_eq_some_iff.mp H
    have A2 := Aside0.mk A2
    cases s5 with
    | false =>
      rw [if_neg (by simp)] at H
      simp only [Option.some.injEq, Prod.mk.injEq] at H
      obtain ⟨rfl, rfl, rfl, rfl, rfl⟩ := H
      go_enter Try.func49, Try.ntmps49
      go_wp2_with (first | ((with_reducible refine gate_dst (N := 2) rfl ?_); refine box_event ?hg (N := 2) ?hd (cs := #[.int .i64 0, .int .i64 0, .int .i64 0, .bool false]) (t := 75) ?hr ?_; (case hd => rfl); (case hg => rfl); (case hr => first | (go_simp; done) | (go_simp; rfl)); intro gr hg w2 hbox hb; have n0_ := Aside0.mk (below_step HB.out hb); have BKr := Aside0.mk hbox; have GEr := Aside0.mk ((by rw [hg]; exact below_size HB.out) : w.heap.size ≤ gr); clear HB; have HB := n0_; clear n0_ hb hbox hg))
      refine (impl_program.calls k A0 c0 l0 0 _ (Kd.C_below HR0.out HB.out) HC0.out A1.out).mono ?_
      rintro e w3 ⟨rfl, hb⟩
      have m_ := Aside0.mk (blk_below BKr.out hb)
      have n0_ := Aside0.mk (below_step HB.out hb)
      clear BKr HB
      have BKr := m_
      have HB := n0_
      clear m_ n0_ hb
      have cr0 : w3.cell? ⟨gr, 0, none⟩ = some (.int .i64 0) := (blk_cell BKr.out 0).trans rfl
      have cr1 : w3.cell? ⟨gr, 1, none⟩ = some (.int .i64 0) := (blk_cell BKr.out 1).trans rfl
      have cr2 : w3.cell? ⟨gr, 2, none⟩ = some (.int .i64 0) := (blk_cell BKr.out 2).trans rfl
      have cr3 : w3.cell? ⟨gr, 3, none⟩ = some (.bool false) := (blk_cell BKr.out 3).trans rfl
      have fr0 := blk_frozen BKr.out 0
      have fr1 := blk_frozen BKr.out 1
      have fr2 := blk_frozen BKr.out 2
      have fr3 := blk_frozen BKr.out 3
      go_wp2_with (first | ((with_reducible refine gate_dst (N := 5) rfl ?_); refine box_event ?hg (N := 5) ?hd (cs := #[.int .i64 0, .int .i64 0, .int .i64 0, .bool false]) (t := 75) ?hr ?_; (case hd => rfl); (case hg => rfl); (case hr => first | (go_simp; done) | (go_simp; rfl)); intro gl hg w2 hbox hb; have n0_ := Aside0.mk (below_step HB.out hb); have NL := Aside0.mk hbox; have GEl := Aside0.mk ((by rw [hg]; exact below_size HB.out) : w.heap.size ≤ gl); have NErl : Aside0 (gr ≠ gl) := ⟨by have h_ := blk_lt BKr.out; rw [hg]; omega⟩; have m_ := Aside0.mk (blk_below BKr.out hb); clear BKr HB; have HB := n0_; have BKr := m_; clear n0_ m_ hb hbox hg cr0 cr1 cr2 cr3 fr0 fr1 fr2 fr3; have cl0 : w2.cell? ⟨gl, 0, none⟩ = some (.int .i64 0) := (blk_cell NL.out 0).trans rfl; have cl1 : w2.cell? ⟨gl, 1, none⟩ = some (.int .i64 0) := (blk_cell NL.out 1).trans rfl; have cl2 : w2.cell? ⟨gl, 2, none⟩ = some (.int .i64 0) := (blk_cell NL.out 2).trans rfl; have cl3 : w2.cell? ⟨gl, 3, none⟩ = some (.bool false) := (blk_cell NL.out 3).trans rfl; have fl0 := blk_frozen NL.out 0; have fl1 := blk_frozen NL.out 1; have fl2 := blk_frozen NL.out 2; have fl3 := blk_frozen NL.out 3))
      refine (impl_RunPlotter.run A0 c0 l0 gl 0 0 0 false s1 s2 s3 s4 false w _ HR0.out ?rbfalse GEl.out ?rkfalse A2.out).mono ?_
      case rbfalse => (repeat (first | exact HB.out | refine below_set ?_ GEl.out))
      case rkfalse => exact (by refine blk_put (cs := #[.int .i64 0, .int .i64 0, .int .i64 0, .bool false]) ?_ 3 _ rfl; refine blk_put (cs := #[.int .i64 0, .int .i64 0, .int .i64 0, .bool false]) ?_ 2 _ rfl; refine blk_put (cs := #[.int .i64 0, .int .i64 0, .int .i64 0, .bool false]) ?_ 1 _ rfl; refine blk_put (cs := #[.int .i64 0, .int .i64 0, .int .i64 0, .bool false]) ?_ 0 _ rfl; exact NL.out)
      rintro e w4 ⟨rfl, hb2, hl, hk⟩
      have m_ := Aside0.mk (blk_kept (by (repeat (first | exact BKr.out | refine blk_far ?_ NErl.out _)) : (_ : World).heap[gr]? = some (.cells #[.int .i64 0, .int .i64 0, .int .i64 0, .bool false] 75 (0, 0))) hk NErl.out)
      clear BKr HB cl0 cl1 cl2 cl3 fl0 fl1 fl2 fl3
      have BKr := m_
      have BKl := Aside0.mk hl
      have HB := Aside0.mk hb2
      clear m_ hl hb2 hk
      have cr0 : w4.cell? ⟨gr, 0, none⟩ = some (.int .i64 0) := (blk_cell BKr.out 0).trans rfl
      have cr1 : w4.cell? ⟨gr, 1, none⟩ = some (.int .i64 0) := (blk_cell BKr.out 1).trans rfl
      have cr2 : w4.cell? ⟨gr, 2, none⟩ = some (.int .i64 0) := (blk_cell BKr.out 2).trans rfl
      have cr3 : w4.cell? ⟨gr, 3, none⟩ = some (.bool false) := (blk_cell BKr.out 3).trans rfl
      have fr0 := blk_frozen BKr.out 0
      have fr1 := blk_frozen BKr.out 1
      have fr2 := blk_frozen BKr.out 2
      have fr3 := blk_frozen BKr.out 3
      go_wp2
      refine bodyPost_ret (results_ct rfl _ _ gr 75 #[.int .i64 0, .int .i64 0, .int .i64 0, .bool false] (0, 0) _ rfl (by refine blk_put (cs := #[.int .i64 0, .int .i64 0, .int .i64 0, .bool false]) ?_ 3 _ rfl; refine blk_put (cs := #[.int .i64 0, .int .i64 0, .int .i64 0, .bool false]) ?_ 2 _ rfl; refine blk_put (cs := #[.int .i64 0, .int .i64 0, .int .i64 0, .bool false]) ?_ 1 _ rfl; refine blk_put (cs := #[.int .i64 0, .int .i64 0, .int .i64 0, .bool false]) ?_ 0 _ rfl; exact BKr.out) Try.underlying75 rfl (by kernel_rfl)) rfl ?_
      exact ⟨rfl, by (repeat (first | exact HB.out | refine below_set ?_ GEr.out))⟩
    | true =>
      rw [if_pos rfl] at H
      simp only [Option.some.injEq, Prod.mk.injEq] at H
      obtain ⟨rfl, rfl, rfl, rfl, rfl⟩ := H
      go_enter Try.func49, Try.ntmps49
      go_wp2_with (first | ((with_reducible refine gate_dst (N := 2) rfl ?_); refine box_event ?hg (N := 2) ?hd (cs := #[.int .i64 0, .int .i64 0, .int .i64 0, .bool false]) (t := 75) ?hr ?_; (case hd => rfl); (case hg => rfl); (case hr => first | (go_simp; done) | (go_simp; rfl)); intro gr hg w2 hbox hb; have n0_ := Aside0.mk (below_step HB.out hb); have BKr := Aside0.mk hbox; have GEr := Aside0.mk ((by rw [hg]; exact below_size HB.out) : w.heap.size ≤ gr); clear HB; have HB := n0_; clear n0_ hb hbox hg))
      refine (impl_program.calls k A0 c0 l0 0 _ (Kd.C_below HR0.out HB.out) HC0.out A1.out).mono ?_
      rintro e w3 ⟨rfl, hb⟩
      have m_ := Aside0.mk (blk_below BKr.out hb)
      have n0_ := Aside0.mk (below_step HB.out hb)
      clear BKr HB
      have BKr := m_
      have HB := n0_
      clear m_ n0_ hb
      have cr0 : w3.cell? ⟨gr, 0, none⟩ = some (.int .i64 0) := (blk_cell BKr.out 0).trans rfl
      have cr1 : w3.cell? ⟨gr, 1, none⟩ = some (.int .i64 0) := (blk_cell BKr.out 1).trans rfl
      have cr2 : w3.cell? ⟨gr, 2, none⟩ = some (.int .i64 0) := (blk_cell BKr.out 2).trans rfl
      have cr3 : w3.cell? ⟨gr, 3, none⟩ = some (.bool false) := (blk_cell BKr.out 3).trans rfl
      have fr0 := blk_frozen BKr.out 0
      have fr1 := blk_frozen BKr.out 1
      have fr2 := blk_frozen BKr.out 2
      have fr3 := blk_frozen BKr.out 3
      go_wp2_with (first | ((with_reducible refine gate_dst (N := 5) rfl ?_); refine box_event ?hg (N := 5) ?hd (cs := #[.int .i64 0, .int .i64 0, .int .i64 0, .bool false]) (t := 75) ?hr ?_; (case hd => rfl); (case hg => rfl); (case hr => first | (go_simp; done) | (go_simp; rfl)); intro gl hg w2 hbox hb; have n0_ := Aside0.mk (below_step HB.out hb); have NL := Aside0.mk hbox; have GEl := Aside0.mk ((by rw [hg]; exact below_size HB.out) : w.heap.size ≤ gl); have NErl : Aside0 (gr ≠ gl) := ⟨by have h_ := blk_lt BKr.out; rw [hg]; omega⟩; have m_ := Aside0.mk (blk_below BKr.out hb); clear BKr HB; have HB := n0_; have BKr := m_; clear n0_ m_ hb hbox hg cr0 cr1 cr2 cr3 fr0 fr1 fr2 fr3; have cl0 : w2.cell? ⟨gl, 0, none⟩ = some (.int .i64 0) := (blk_cell NL.out 0).trans rfl; have cl1 : w2.cell? ⟨gl, 1, none⟩ = some (.int .i64 0) := (blk_cell NL.out 1).trans rfl; have cl2 : w2.cell? ⟨gl, 2, none⟩ = some (.int .i64 0) := (blk_cell NL.out 2).trans rfl; have cl3 : w2.cell? ⟨gl, 3, none⟩ = some (.bool false) := (blk_cell NL.out 3).trans rfl; have fl0 := blk_frozen NL.out 0; have fl1 := blk_frozen NL.out 1; have fl2 := blk_frozen NL.out 2; have fl3 := blk_frozen NL.out 3))
      refine (impl_RunPlotter.run A0 c0 l0 gl 0 0 0 false s1 s2 s3 s4 true w _ HR0.out ?rbtrue GEl.out ?rktrue A2.out).mono ?_
      case rbtrue => (repeat (first | exact HB.out | refine below_set ?_ GEl.out))
      case rktrue => exact (by refine blk_put (cs := #[.int .i64 0, .int .i64 0, .int .i64 0, .bool false]) ?_ 3 _ rfl; refine blk_put (cs := #[.int .i64 0, .int .i64 0, .int .i64 0, .bool false]) ?_ 2 _ rfl; refine blk_put (cs := #[.int .i64 0, .int .i64 0, .int .i64 0, .bool false]) ?_ 1 _ rfl; refine blk_put (cs := #[.int .i64 0, .int .i64 0, .int .i64 0, .bool false]) ?_ 0 _ rfl; exact NL.out)
      rintro e w4 ⟨rfl, hb2, hl, hk⟩
      have m_ := Aside0.mk (blk_kept (by (repeat (first | exact BKr.out | refine blk_far ?_ NErl.out _)) : (_ : World).heap[gr]? = some (.cells #[.int .i64 0, .int .i64 0, .int .i64 0, .bool false] 75 (0, 0))) hk NErl.out)
      clear BKr HB cl0 cl1 cl2 cl3 fl0 fl1 fl2 fl3
      have BKr := m_
      have BKl := Aside0.mk hl
      have HB := Aside0.mk hb2
      clear m_ hl hb2 hk
      have cr0 : w4.cell? ⟨gr, 0, none⟩ = some (.int .i64 0) := (blk_cell BKr.out 0).trans rfl
      have cr1 : w4.cell? ⟨gr, 1, none⟩ = some (.int .i64 0) := (blk_cell BKr.out 1).trans rfl
      have cr2 : w4.cell? ⟨gr, 2, none⟩ = some (.int .i64 0) := (blk_cell BKr.out 2).trans rfl
      have cr3 : w4.cell? ⟨gr, 3, none⟩ = some (.bool false) := (blk_cell BKr.out 3).trans rfl
      have fr0 := blk_frozen BKr.out 0
      have fr1 := blk_frozen BKr.out 1
      have fr2 := blk_frozen BKr.out 2
      have fr3 := blk_frozen BKr.out 3
      have cl0 : w4.cell? ⟨gl, 0, none⟩ = some (.int .i64 s1) := (blk_cell BKl.out 0).trans rfl
      have cl1 : w4.cell? ⟨gl, 1, none⟩ = some (.int .i64 s2) := (blk_cell BKl.out 1).trans rfl
      have cl2 : w4.cell? ⟨gl, 2, none⟩ = some (.int .i64 s3) := (blk_cell BKl.out 2).trans rfl
      have cl3 : w4.cell? ⟨gl, 3, none⟩ = some (.bool s4) := (blk_cell BKl.out 3).trans rfl
      go_wp2
      refine bodyPost_ret (results_ct rfl _ _ gr 75 #[.int .i64 s1, .int .i64 s2, .int .i64 s3, .bool s4] (0, 0) _ rfl (by refine blk_put (cs := #[.int .i64 s1, .int .i64 s2, .int .i64 s3, .bool false]) ?_ 3 _ rfl; refine blk_put (cs := #[.int .i64 s1, .int .i64 s2, .int .i64 0, .bool false]) ?_ 2 _ rfl; refine blk_put (cs := #[.int .i64 s1, .int .i64 0, .int .i64 0, .bool false]) ?_ 1 _ rfl; refine blk_put (cs := #[.int .i64 0, .int .i64 0, .int .i64 0, .bool false]) ?_ 0 _ rfl; exact BKr.out) Try.underlying75 rfl (by kernel_rfl)) rfl ?_
      exact ⟨rfl, by (repeat (first | exact HB.out | refine below_set ?_ GEr.out))⟩
  · rw [if_neg ht] at H
    have hq0 : (t == 0) = false := beq_eq_false_iff_ne.mpr ht
    have hq1 : (t != 0) = true := bne_iff_ne.mpr ht
    clear ht
    simp only [Option.some.injEq, Prod.mk.injEq] at H
    obtain ⟨rfl, rfl, rfl, rfl, rfl⟩ := H
    go_enter Try.func49, Try.ntmps49
    go_wp2_with (first | ((with_reducible refine gate_dst (N := 2) rfl ?_); refine box_event ?hg (N := 2) ?hd (cs := #[.int .i64 0, .int .i64 0, .int .i64 0, .bool false]) (t := 75) ?hr ?_; (case hd => rfl); (case hg => rfl); (case hr => first | (go_simp; done) | (go_simp; rfl)); intro gr hg w2 hbox hb; have n0_ := Aside0.mk (below_step HB.out hb); have BKr := Aside0.mk hbox; have GEr := Aside0.mk ((by rw [hg]; exact below_size HB.out) : w.heap.size ≤ gr); clear HB; have HB := n0_; clear n0_ hb hbox hg))
    refine (impl_program.calls k A0 c0 l0 t _ (Kd.C_below HR0.out HB.out) HC0.out A1.out).mono ?_
    rintro e w3 ⟨rfl, hb⟩
    have m_ := Aside0.mk (blk_below BKr.out hb)
    have n0_ := Aside0.mk (below_step HB.out hb)
    clear BKr HB
    have BKr := m_
    have HB := n0_
    clear m_ n0_ hb
    have cr0 : w3.cell? ⟨gr, 0, none⟩ = some (.int .i64 0) := (blk_cell BKr.out 0).trans rfl
    have cr1 : w3.cell? ⟨gr, 1, none⟩ = some (.int .i64 0) := (blk_cell BKr.out 1).trans rfl
    have cr2 : w3.cell? ⟨gr, 2, none⟩ = some (.int .i64 0) := (blk_cell BKr.out 2).trans rfl
    have cr3 : w3.cell? ⟨gr, 3, none⟩ = some (.bool false) := (blk_cell BKr.out 3).trans rfl
    have fr0 := blk_frozen BKr.out 0
    have fr1 := blk_frozen BKr.out 1
    have fr2 := blk_frozen BKr.out 2
    have fr3 := blk_frozen BKr.out 3
    go_wp2
    refine bodyPost_ret (results_ct rfl _ _ gr 75 #[.int .i64 0, .int .i64 0, .int .i64 0, .bool false] (0, 0) _ rfl (by refine blk_put (cs := #[.int .i64 0, .int .i64 0, .int .i64 0, .bool false]) ?_ 3 _ rfl; refine blk_put (cs := #[.int .i64 0, .int .i64 0, .int .i64 0, .bool false]) ?_ 2 _ rfl; refine blk_put (cs := #[.int .i64 0, .int .i64 0, .int .i64 0, .bool false]) ?_ 1 _ rfl; refine blk_put (cs := #[.int .i64 0, .int .i64 0, .int .i64 0, .bool false]) ?_ 0 _ rfl; exact BKr.out) Try.underlying75 rfl (by kernel_rfl)) rfl ?_
    exact ⟨rfl, by (repeat (first | exact HB.out | refine below_set ?_ GEr.out))⟩

end Go.Proofs.Ytgpdjpololkhbaa.F

namespace Go.Proofs.Ytgpdjpololkhbaa.F
open Go.RowKit Go.Proofs.YtgpdjpololkhbaaW.PrintWords Go.Proofs.YtgpdjpololkhbaaW.PrintLast Go.Proofs.YtgpdjpololkhbaaW.PrintMore
attribute [local go_sem] max2_int min2_int max_two min_two max_three min_three max_four min_four   -- for this text's walks alone
set_option linter.unusedVariables false
set_option linter.unusedSimpArgs false

/-! ### laws_eqPlotter: function 50 -/
def laws_eqPlotter.f (a0_0 : Int) (a0_1 : Int) (a0_2 : Int) (a0_3 : Bool) (a1_0 : Int) (a1_1 : Int) (a1_2 : Int) (a1_3 : Bool) : Option (Bool) := if a0_0 = a1_0 then (if a0_1 = a1_1 then (if a0_2 = a1_2 then (if (a0_3 != a1_3) = true then (some false) else (some true)) else (some false)) else (some false)) else (some false)
set_option maxHeartbeats 8000000 in
set_option maxRecDepth 100000 in
theorem laws_eqPlotter.calls (a0_0 : Int) (a0_1 : Int) (a0_2 : Int) (a0_3 : Bool) (a1_0 : Int) (a1_1 : Int) (a1_2 : Int) (a1_3 : Bool) (r : Bool) (w : World) (h : laws_eqPlotter.f a0_0 a0_1 a0_2 a0_3 a1_0 a1_1 a1_2 a1_3 = some r) :
    Calls Try.prog 50 #[.agg #[.int .i64 a0_0, .int .i64 a0_1, .int .i64 a0_2, .bool a0_3], .agg #[.int .i64 a1_0, .int .i64 a1_1, .int .i64 a1_2, .bool a1_3]] w fun e w' => e = .returned (.bool r) ∧ Below w.heap.size w w' := by
  have hu75 := Try.underlying75
  have HB := Aside0.mk (Below.refl w.heap.size w)
  have H : (if a0_0 = a1_0 then (if a0_1 = a1_1 then (if a0_2 = a1_2 then (if (a0_3 != a1_3) = true then (some false) else (some true)) else (some false)) else (some false)) else (some false)) = some r := h
  clear h
  by_cases c3 : a0_0 = a1_0
  · rw [if_pos c3] at H
    have c3b0 : (a0_0 == a1_0) = true := beq_iff_eq.mpr c3
    have c3b1 : (a0_0 != a1_0) = false := bne_eq_false_iff_eq.mpr c3
    clear c3
    by_cases c4 : a0_1 = a1_1
    · rw [if_pos c4] at H
      have c4b0 : (a0_1 == a1_1) = true := beq_iff_eq.mpr c4
      have c4b1 : (a0_1 != a1_1) = false := bne_eq_false_iff_eq.mpr c4
      clear c4
      by_cases c5 : a0_2 = a1_2
      · rw [if_pos c5] at H
        have c5b0 : (a0_2 == a1_2) = true := beq_iff_eq.mpr c5
        have c5b1 : (a0_2 != a1_2) = false := bne_eq_false_iff_eq.mpr c5
        clear c5
        by_cases c6 : (a0_3 != a1_3) = true
        · rw [if_pos c6] at H
          have c6b0 : (a0_3 != a1_3) = true := c6
          (try (have c6b1 : decide (a0_3 = a1_3) = false := by simpa using c6))
          (try (have c6b2 : (a0_3 == a1_3) = false := by simpa using c6))
          (try (have c6b3 : ¬ (a0_3 = a1_3) := by simpa using c6))
          clear c6
          obtain rfl := Option.some.inj H
          go_enter Try.func50, Try.ntmps50
          go_wp2_with (first | ((with_reducible refine gate_dst (N := 2) rfl ?_); refine box_event ?hg (N := 2) ?hd (cs := #[.int .i64 a0_0, .int .i64 a0_1, .int .i64 a0_2, .bool a0_3]) (t := 75) ?hr ?_; (case hd => rfl); (case hg => rfl); (case hr => first | (go_simp; done) | (go_simp; rfl)); intro gb899 hg w7 hbox hb; have n0_ := Aside0.mk (below_step (by repeat (first | (with_reducible first | exact HB.out | apply below_alloc | apply pw_below_drewN | apply below_drew1) | exact HB.out)) hb); have n1_ := Aside0.mk (hbox); have n2_ := Aside0.mk ((by rw [hg]; exact (below_size (by repeat (first | (with_reducible first | exact HB.out | apply below_alloc | apply pw_below_drewN | apply below_drew1) | exact HB.out))) : w.heap.size ≤ gb899)); have n3_ := Aside0.mk ((by rw [hg]; exact (below_size (by repeat (first | (with_reducible first | exact HB.out | apply below_alloc | apply pw_below_drewN | apply below_drew1) | exact HB.out))) : w.heap.size ≤ gb899)); clear HB; have HB := n0_; have BK899 := n1_; have GW899 := n2_; have GE899 := n3_; clear n0_ n1_ n2_ n3_; clear hb hbox hg) | ((with_reducible refine gate_dst (N := 3) rfl ?_); refine box_event ?hg (N := 3) ?hd (cs := #[.int .i64 a1_0, .int .i64 a1_1, .int .i64 a1_2, .bool a1_3]) (t := 75) ?hr ?_; (case hd => rfl); (case hg => rfl); (case hr => first | (go_simp; done) | (go_simp; rfl)); intro gb900 hg w8 hbox hb; have n0_ := Aside0.mk (blk_below (g := gb899) (o := .cells #[.int .i64 a0_0, .int .i64 a0_1, .int .i64 a0_2, .bool a0_3] 75 (0, 0)) (by (with_reducible repeat (first | refine blk_drewN ?_ _ | refine blk_drew ?_ | refine blk_alloc ?_ _)); exact BK899.out) hb); have n1_ := Aside0.mk (below_step (by repeat (first | (with_reducible first | exact HB.out | apply below_alloc | apply pw_below_drewN | apply below_drew1 | refine below_set ?_ GE899.out) | exact HB.out)) hb); have n2_ := Aside0.mk (hbox); have n3_ := Aside0.mk ((by rw [hg]; exact (below_size (by repeat (first | (with_reducible first | exact HB.out | apply below_alloc | apply pw_below_drewN | apply below_drew1 | refine below_set ?_ GE899.out) | exact HB.out))) : w.heap.size ≤ gb900)); have n4_ := Aside0.mk ((by rw [hg]; exact (below_size (by repeat (first | (with_reducible first | exact HB.out | apply below_alloc | apply pw_below_drewN | apply below_drew1 | refine below_set ?_ GE899.out) | exact HB.out))) : w.heap.size ≤ gb900)); have n5_ := Aside0.mk ((by rw [hg]; exact Nat.ne_of_lt (blk_lt (g := gb899) (o := .cells #[.int .i64 a0_0, .int .i64 a0_1, .int .i64 a0_2, .bool a0_3] 75 (0, 0)) (by (with_reducible repeat (first | refine blk_drewN ?_ _ | refine blk_drew ?_ | refine blk_alloc ?_ _)); exact BK899.out)) : gb899 ≠ gb900)); have n6_ := Aside0.mk ((by rw [hg]; exact Nat.ne_of_gt (blk_lt (g := gb899) (o := .cells #[.int .i64 a0_0, .int .i64 a0_1, .int .i64 a0_2, .bool a0_3] 75 (0, 0)) (by (with_reducible repeat (first | refine blk_drewN ?_ _ | refine blk_drew ?_ | refine blk_alloc ?_ _)); exact BK899.out)) : gb900 ≠ gb899)); clear BK899; clear HB; have BK899 := n0_; have HB := n1_; have BK900 := n2_; have GW900 := n3_; have GE900 := n4_; have NB899_900 := n5_; have NB900_899 := n6_; clear n0_ n1_ n2_ n3_ n4_ n5_ n6_; clear hb hbox hg; have hnb9 := NB899_900.out; have hnc9 := NB900_899.out; have hcz10_0 : w8.cell? ⟨gb899, 0, none⟩ = some (.int .i64 a0_0) := (blk_cell BK899.out 0).trans rfl; have hcz10_1 : w8.cell? ⟨gb899, 1, none⟩ = some (.int .i64 a0_1) := (blk_cell BK899.out 1).trans rfl; have hcz10_2 : w8.cell? ⟨gb899, 2, none⟩ = some (.int .i64 a0_2) := (blk_cell BK899.out 2).trans rfl; have hcz10_3 : w8.cell? ⟨gb899, 3, none⟩ = some (.bool a0_3) := (blk_cell BK899.out 3).trans rfl; have hfz10_0 := blk_frozen BK899.out 0; have hfz10_1 := blk_frozen BK899.out 1; have hfz10_2 := blk_frozen BK899.out 2; have hfz10_3 := blk_frozen BK899.out 3; have hcz11_0 : w8.cell? ⟨gb900, 0, none⟩ = some (.int .i64 a1_0) := (blk_cell BK900.out 0).trans rfl; have hcz11_1 : w8.cell? ⟨gb900, 1, none⟩ = some (.int .i64 a1_1) := (blk_cell BK900.out 1).trans rfl; have hcz11_2 : w8.cell? ⟨gb900, 2, none⟩ = some (.int .i64 a1_2) := (blk_cell BK900.out 2).trans rfl; have hcz11_3 : w8.cell? ⟨gb900, 3, none⟩ = some (.bool a1_3) := (blk_cell BK900.out 3).trans rfl; have hfz11_0 := blk_frozen BK900.out 0; have hfz11_1 := blk_frozen BK900.out 1; have hfz11_2 := blk_frozen BK900.out 2; have hfz11_3 := blk_frozen BK900.out 3))
          go_ret
          exact ⟨by first | rfl | (simp [errW_none, errW_some] <;> rfl) | (simp [*, errW_none, errW_some] <;> rfl), by repeat (first | (with_reducible first | exact HB.out | apply below_alloc | apply pw_below_drewN | apply below_drew1 | refine below_set ?_ GE899.out | refine below_set ?_ GE900.out) | exact HB.out)⟩
        · rw [if_neg c6] at H
          have c6b0 : (a0_3 != a1_3) = false := by simpa using c6
          (try (have c6b1 : decide (a0_3 = a1_3) = true := by simpa using c6))
          (try (have c6b2 : (a0_3 == a1_3) = true := by simpa using c6))
          clear c6
          obtain rfl := Option.some.inj H
          go_enter Try.func50, Try.ntmps50
          go_wp2_with (first | ((with_reducible refine gate_dst (N := 2) rfl ?_); refine box_event ?hg (N := 2) ?hd (cs := #[.int .i64 a0_0, .int .i64 a0_1, .int .i64 a0_2, .bool a0_3]) (t := 75) ?hr ?_; (case hd => rfl); (case hg => rfl); (case hr => first | (go_simp; done) | (go_simp; rfl)); intro gb899 hg w12 hbox hb; have n0_ := Aside0.mk (below_step (by repeat (first | (with_reducible first | exact HB.out | apply below_alloc | apply pw_below_drewN | apply below_drew1) | exact HB.out)) hb); have n1_ := Aside0.mk (hbox); have n2_ := Aside0.mk ((by rw [hg]; exact (below_size (by repeat (first | (with_reducible first | exact HB.out | apply below_alloc | apply pw_below_drewN | apply below_drew1) | exact HB.out))) : w.heap.size ≤ gb899)); have n3_ := Aside0.mk ((by rw [hg]; exact (below_size (by repeat (first | (with_reducible first | exact HB.out | apply below_alloc | apply pw_below_drewN | apply below_drew1) | exact HB.out))) : w.heap.size ≤ gb899)); clear HB; have HB := n0_; have BK899 := n1_; have GW899 := n2_; have GE899 := n3_; clear n0_ n1_ n2_ n3_; clear hb hbox hg) | ((with_reducible refine gate_dst (N := 3) rfl ?_); refine box_event ?hg (N := 3) ?hd (cs := #[.int .i64 a1_0, .int .i64 a1_1, .int .i64 a1_2, .bool a1_3]) (t := 75) ?hr ?_; (case hd => rfl); (case hg => rfl); (case hr => first | (go_simp; done) | (go_simp; rfl)); intro gb900 hg w13 hbox hb; have n0_ := Aside0.mk (blk_below (g := gb899) (o := .cells #[.int .i64 a0_0, .int .i64 a0_1, .int .i64 a0_2, .bool a0_3] 75 (0, 0)) (by (with_reducible repeat (first | refine blk_drewN ?_ _ | refine blk_drew ?_ | refine blk_alloc ?_ _)); exact BK899.out) hb); have n1_ := Aside0.mk (below_step (by repeat (first | (with_reducible first | exact HB.out | apply below_alloc | apply pw_below_drewN | apply below_drew1 | refine below_set ?_ GE899.out) | exact HB.out)) hb); have n2_ := Aside0.mk (hbox); have n3_ := Aside0.mk ((by rw [hg]; exact (below_size (by repeat (first | (with_reducible first | exact HB.out | apply below_alloc | apply pw_below_drewN | apply below_drew1 | refine below_set ?_ GE899.out) | exact HB.out))) : w.heap.size ≤ gb900)); have n4_ := Aside0.mk ((by rw [hg]; exact (below_size (by repeat (first | (with_reducible first | exact HB.out | apply below_alloc | apply pw_below_drewN | apply below_drew1 | refine below_set ?_ GE899.out) | exact HB.out))) : w.heap.size ≤ gb900)); have n5_ := Aside0.mk ((by rw [hg]; exact Nat.ne_of_lt (blk_lt (g := gb899) (o := .cells #[.int .i64 a0_0, .int .i64 a0_1, .int .i64 a0_2, .bool a0_3] 75 (0, 0)) (by (with_reducible repeat (first | refine blk_drewN ?_ _ | refine blk_drew ?_ | refine blk_alloc ?_ _)); exact BK899.out)) : gb899 ≠ gb900)); have n6_ := Aside0.mk ((by rw [hg]; exact Nat.ne_of_gt (blk_lt (g := gb899) (o := .cells #[.int .i64 a0_0, .int .i64 a0_1, .int .i64 a0_2, .bool a0_3] 75 (0, 0)) (by (with_reducible repeat (first | refine blk_drewN ?_ _ | refine blk_drew ?_ | refine blk_alloc ?_ _)); exact BK899.out)) : gb900 ≠ gb899)); clear BK899; clear HB; have BK899 := n0_; have HB := n1_; have BK900 := n2_; have GW900 := n3_; have GE900 := n4_; have NB899_900 := n5_; have NB900_899 := n6_; clear n0_ n1_ n2_ n3_ n4_ n5_ n6_; clear hb hbox hg; have hnb14 := NB899_900.out; have hnc14 := NB900_899.out; have hcz15_0 : w13.cell? ⟨gb899, 0, none⟩ = some (.int .i64 a0_0) := (blk_cell BK899.out 0).trans rfl; have hcz15_1 : w13.cell? ⟨gb899, 1, none⟩ = some (.int .i64 a0_1) := (blk_cell BK899.out 1).trans rfl; have hcz15_2 : w13.cell? ⟨gb899, 2, none⟩ = some (.int .i64 a0_2) := (blk_cell BK899.out 2).trans rfl; have hcz15_3 : w13.cell? ⟨gb899, 3, none⟩ = some (.bool a0_3) := (blk_cell BK899.out 3).trans rfl; have hfz15_0 := blk_frozen BK899.out 0; have hfz15_1 := blk_frozen BK899.out 1; have hfz15_2 := blk_frozen BK899.out 2; have hfz15_3 := blk_frozen BK899.out 3; have hcz16_0 : w13.cell? ⟨gb900, 0, none⟩ = some (.int .i64 a1_0) := (blk_cell BK900.out 0).trans rfl; have hcz16_1 : w13.cell? ⟨gb900, 1, none⟩ = some (.int .i64 a1_1) := (blk_cell BK900.out 1).trans rfl; have hcz16_2 : w13.cell? ⟨gb900, 2, none⟩ = some (.int .i64 a1_2) := (blk_cell BK900.out 2).trans rfl; have hcz16_3 : w13.cell? ⟨gb900, 3, none⟩ = some (.bool a1_3) := (blk_cell BK900.out 3).trans rfl; have hfz16_0 := blk_frozen BK900.out 0; have hfz16_1 := blk_frozen BK900.out 1; have hfz16_2 := blk_frozen BK900.out 2; have hfz16_3 := blk_frozen BK900.out 3))
          go_ret
          exact ⟨by first | rfl | (simp [errW_none, errW_some] <;> rfl) | (simp [*, errW_none, errW_some] <;> rfl), by repeat (first | (with_reducible first | exact HB.out | apply below_alloc | apply pw_below_drewN | apply below_drew1 | refine below_set ?_ GE899.out | refine below_set ?_ GE900.out) | exact HB.out)⟩
      · rw [if_neg c5] at H
        have c5b0 : (a0_2 == a1_2) = false := beq_eq_false_iff_ne.mpr c5
        have c5b1 : (a0_2 != a1_2) = true := bne_iff_ne.mpr c5
        obtain rfl := Option.some.inj H
        go_enter Try.func50, Try.ntmps50
        go_wp2_with (first | ((with_reducible refine gate_dst (N := 2) rfl ?_); refine box_event ?hg (N := 2) ?hd (cs := #[.int .i64 a0_0, .int .i64 a0_1, .int .i64 a0_2, .bool a0_3]) (t := 75) ?hr ?_; (case hd => rfl); (case hg => rfl); (case hr => first | (go_simp; done) | (go_simp; rfl)); intro gb899 hg w17 hbox hb; have n0_ := Aside0.mk (below_step (by repeat (first | (with_reducible first | exact HB.out | apply below_alloc | apply pw_below_drewN | apply below_drew1) | exact HB.out)) hb); have n1_ := Aside0.mk (hbox); have n2_ := Aside0.mk ((by rw [hg]; exact (below_size (by repeat (first | (with_reducible first | exact HB.out | apply below_alloc | apply pw_below_drewN | apply below_drew1) | exact HB.out))) : w.heap.size ≤ gb899)); have n3_ := Aside0.mk ((by rw [hg]; exact (below_size (by repeat (first | (with_reducible first | exact HB.out | apply below_alloc | apply pw_below_drewN | apply below_drew1) | exact HB.out))) : w.heap.size ≤ gb899)); clear HB; have HB := n0_; have BK899 := n1_; have GW899 := n2_; have GE899 := n3_; clear n0_ n1_ n2_ n3_; clear hb hbox hg) | ((with_reducible refine gate_dst (N := 3) rfl ?_); refine box_event ?hg (N := 3) ?hd (cs := #[.int .i64 a1_0, .int .i64 a1_1, .int .i64 a1_2, .bool a1_3]) (t := 75) ?hr ?_; (case hd => rfl); (case hg => rfl); (case hr => first | (go_simp; done) | (go_simp; rfl)); intro gb900 hg w18 hbox hb; have n0_ := Aside0.mk (blk_below (g := gb899) (o := .cells #[.int .i64 a0_0, .int .i64 a0_1, .int .i64 a0_2, .bool a0_3] 75 (0, 0)) (by (with_reducible repeat (first | refine blk_drewN ?_ _ | refine blk_drew ?_ | refine blk_alloc ?_ _)); exact BK899.out) hb); have n1_ := Aside0.mk (below_step (by repeat (first | (with_reducible first | exact HB.out | apply below_alloc | apply pw_below_drewN | apply below_drew1 | refine below_set ?_ GE899.out) | exact HB.out)) hb); have n2_ := Aside0.mk (hbox); have n3_ := Aside0.mk ((by rw [hg]; exact (below_size (by repeat (first | (with_reducible first | exact HB.out | apply below_alloc | apply pw_below_drewN | apply below_drew1 | refine below_set ?_ GE899.out) | exact HB.out))) : w.heap.size ≤ gb900)); have n4_ := Aside0.mk ((by rw [hg]; exact (below_size (by repeat (first | (with_reducible first | exact HB.out | apply below_alloc | apply pw_below_drewN | apply below_drew1 | refine below_set ?_ GE899.out) | exact HB.out))) : w.heap.size ≤ gb900)); have n5_ := Aside0.mk ((by rw [hg]; exact Nat.ne_of_lt (blk_lt (g := gb899) (o := .cells #[.int .i64 a0_0, .int .i64 a0_1, .int .i64 a0_2, .bool a0_3] 75 (0, 0)) (by (with_reducible repeat (first | refine blk_drewN ?_ _ | refine blk_drew ?_ | refine blk_alloc ?_ _)); exact BK899.out)) : gb899 ≠ gb900)); have n6_ := Aside0.mk ((by rw [hg]; exact Nat.ne_of_gt (blk_lt (g := gb899) (o := .cells #[.int .i64 a0_0, .int .i64 a0_1, .int .i64 a0_2, .bool a0_3] 75 (0, 0)) (by (with_reducible repeat (first | refine blk_drewN ?_ _ | refine blk_drew ?_ | refine blk_alloc ?_ _)); exact BK899.out)) : gb900 ≠ gb899)); clear BK899; clear HB; have BK899 := n0_; have HB := n1_; have BK900 := n2_; have GW900 := n3_; have GE900 := n4_; have NB899_900 := n5_; have NB900_899 := n6_; clear n0_ n1_ n2_ n3_ n4_ n5_ n6_; clear hb hbox hg; have hnb19 := NB899_900.out; have hnc19 := NB900_899.out; have hcz20_0 : w18.cell? ⟨gb899, 0, none⟩ = some (.int .i64 a0_0) := (blk_cell BK899.out 0).trans rfl; have hcz20_1 : w18.cell? ⟨gb899, 1, none⟩ = some (.int .i64 a0_1) := (blk_cell BK899.out 1).trans rfl; have hcz20_2 : w18.cell? ⟨gb899, 2, none⟩ = some (.int .i64 a0_2) := (blk_cell BK899.out 2).trans rfl; have hcz20_3 : w18.cell? ⟨gb899, 3, none⟩ = some (.bool a0_3) := (blk_cell BK899.out 3).trans rfl; have hfz20_0 := blk_frozen BK899.out 0; have hfz20_1 := blk_frozen BK899.out 1; have hfz20_2 := blk_frozen BK899.out 2; have hfz20_3 := blk_frozen BK899.out 3; have hcz21_0 : w18.cell? ⟨gb900, 0, none⟩ = some (.int .i64 a1_0) := (blk_cell BK900.out 0).trans rfl; have hcz21_1 : w18.cell? ⟨gb900, 1, none⟩ = some (.int .i64 a1_1) := (blk_cell BK900.out 1).trans rfl; have hcz21_2 : w18.cell? ⟨gb900, 2, none⟩ = some (.int .i64 a1_2) := (blk_cell BK900.out 2).trans rfl; have hcz21_3 : w18.cell? ⟨gb900, 3, none⟩ = some (.bool a1_3) := (blk_cell BK900.out 3).trans rfl; have hfz21_0 := blk_frozen BK900.out 0; have hfz21_1 := blk_frozen BK900.out 1; have hfz21_2 := blk_frozen BK900.out 2; have hfz21_3 := blk_frozen BK900.out 3))
        go_ret
        exact ⟨by first | rfl | (simp [errW_none, errW_some] <;> rfl) | (simp [*, errW_none, errW_some] <;> rfl), by repeat (first | (with_reducible first | exact HB.out | apply below_alloc | apply pw_below_drewN | apply below_drew1 | refine below_set ?_ GE899.out | refine below_set ?_ GE900.out) | exact HB.out)⟩
    · rw [if_neg c4] at H
      have c4b0 : (a0_1 == a1_1) = false := beq_eq_false_iff_ne.mpr c4
      have c4b1 : (a0_1 != a1_1) = true := bne_iff_ne.mpr c4
      obtain rfl := Option.some.inj H
      go_enter Try.func50, Try.ntmps50
      go_wp2_with (first | ((with_reducible refine gate_dst (N := 2) rfl ?_); refine box_event ?hg (N := 2) ?hd (cs := #[.int .i64 a0_0, .int .i64 a0_1, .int .i64 a0_2, .bool a0_3]) (t := 75) ?hr ?_; (case hd => rfl); (case hg => rfl); (case hr => first | (go_simp; done) | (go_simp; rfl)); intro gb899 hg w22 hbox hb; have n0_ := Aside0.mk (below_step (by repeat (first | (with_reducible first | exact HB.out | apply below_alloc | apply pw_below_drewN | apply below_drew1) | exact HB.out)) hb); have n1_ := Aside0.mk (hbox); have n2_ := Aside0.mk ((by rw [hg]; exact (below_size (by repeat (first | (with_reducible first | exact HB.out | apply below_alloc | apply pw_below_drewN | apply below_drew1) | exact HB.out))) : w.heap.size ≤ gb899)); have n3_ := Aside0.mk ((by rw [hg]; exact (below_size (by repeat (first | (with_reducible first | exact HB.out | apply below_alloc | apply pw_below_drewN | apply below_drew1) | exact HB.out))) : w.heap.size ≤ gb899)); clear HB; have HB := n0_; have BK899 := n1_; have GW899 := n2_; have GE899 := n3_; clear n0_ n1_ n2_ n3_; clear hb hbox hg) | ((with_reducible refine gate_dst (N := 3) rfl ?_); refine box_event ?hg (N := 3) ?hd (cs := #[.int .i64 a1_0, .int .i64 a1_1, .int .i64 a1_2, .bool a1_3]) (t := 75) ?hr ?_; (case hd => rfl); (case hg => rfl); (case hr => first | (go_simp; done) | (go_simp; rfl)); intro gb900 hg w23 hbox hb; have n0_ := Aside0.mk (blk_below (g := gb899) (o := .cells #[.int .i64 a0_0, .int .i64 a0_1, .int .i64 a0_2, .bool a0_3] 75 (0, 0)) (by (with_reducible repeat (first | refine blk_drewN ?_ _ | refine blk_drew ?_ | refine blk_alloc ?_ _)); exact BK899.out) hb); have n1_ := Aside0.mk (below_step (by repeat (first | (with_reducible first | exact HB.out | apply below_alloc | apply pw_below_drewN | apply below_drew1 | refine below_set ?_ GE899.out) | exact HB.out)) hb); have n2_ := Aside0.mk (hbox); have n3_ := Aside0.mk ((by rw [hg]; exact (below_size (by repeat (first | (with_reducible first | exact HB.out | apply below_alloc | apply pw_below_drewN | apply below_drew1 | refine below_set ?_ GE899.out) | exact HB.out))) : w.heap.size ≤ gb900)); have n4_ := Aside0.mk ((by rw [hg]; exact (below_size (by repeat (first | (with_reducible first | exact HB.out | apply below_alloc | apply pw_below_drewN | apply below_drew1 | refine below_set ?_ GE899.out) | exact HB.out))) : w.heap.size ≤ gb900)); have n5_ := Aside0.mk ((by rw [hg]; exact Nat.ne_of_lt (blk_lt (g := gb899) (o := .cells #[.int .i64 a0_0, .int .i64 a0_1, .int .i64 a0_2, .bool a0_3] 75 (0, 0)) (by (with_reducible repeat (first | refine blk_drewN ?_ _ | refine blk_drew ?_ | refine blk_alloc ?_ _)); exact BK899.out)) : gb899 ≠ gb900)); have n6_ := Aside0.mk ((by rw [hg]; exact Nat.ne_of_gt (blk_lt (g := gb899) (o := .cells #[.int .i64 a0_0, .int .i64 a0_1, .int .i64 a0_2, .bool a0_3] 75 (0, 0)) (by (with_reducible repeat (first | refine blk_drewN ?_ _ | refine blk_drew ?_ | refine blk_alloc ?_ _)); exact BK899.out)) : gb900 ≠ gb899)); clear BK899; clear HB; have BK899 := n0_; have HB := n1_; have BK900 := n2_; have GW900 := n3_; have GE900 := n4_; have NB899_900 := n5_; have NB900_899 := n6_; clear n0_ n1_ n2_ n3_ n4_ n5_ n6_; clear hb hbox hg; have hnb24 := NB899_900.out; have hnc24 := NB900_899.out; have hcz25_0 : w23.cell? ⟨gb899, 0, none⟩ = some (.int .i64 a0_0) := (blk_cell BK899.out 0).trans rfl; have hcz25_1 : w23.cell? ⟨gb899, 1, none⟩ = some (.int .i64 a0_1) := (blk_cell BK899.out 1).trans rfl; have hcz25_2 : w23.cell? ⟨gb899, 2, none⟩ = some (.int .i64 a0_2) := (blk_cell BK899.out 2).trans rfl; have hcz25_3 : w23.cell? ⟨gb899, 3, none⟩ = some (.bool a0_3) := (blk_cell BK899.out 3).trans rfl; have hfz25_0 := blk_frozen BK899.out 0; have hfz25_1 := blk_frozen BK899.out 1; have hfz25_2 := blk_frozen BK899.out 2; have hfz25_3 := blk_frozen BK899.out 3; have hcz26_0 : w23.cell? ⟨gb900, 0, none⟩ = some (.int .i64 a1_0) := (blk_cell BK900.out 0).trans rfl; have hcz26_1 : w23.cell? ⟨gb900, 1, none⟩ = some (.int .i64 a1_1) := (blk_cell BK900.out 1).trans rfl; have hcz26_2 : w23.cell? ⟨gb900, 2, none⟩ = some (.int .i64 a1_2) := (blk_cell BK900.out 2).trans rfl; have hcz26_3 : w23.cell? ⟨gb900, 3, none⟩ = some (.bool a1_3) := (blk_cell BK900.out 3).trans rfl; have hfz26_0 := blk_frozen BK900.out 0; have hfz26_1 := blk_frozen BK900.out 1; have hfz26_2 := blk_frozen BK900.out 2; have hfz26_3 := blk_frozen BK900.out 3))
      go_ret
      exact ⟨by first | rfl | (simp [errW_none, errW_some] <;> rfl) | (simp [*, errW_none, errW_some] <;> rfl), by repeat (first | (with_reducible first | exact HB.out | apply below_alloc | apply pw_below_drewN | apply below_drew1 | refine below_set ?_ GE899.out | refine below_set ?_ GE900.out) | exact HB.out)⟩
  · rw [if_neg c3] at H
    have c3b0 : (a0_0 == a1_0) = false := beq_eq_false_iff_ne.mpr c3
    have c3b1 : (a0_0 != a1_0) = true := bne_iff_ne.mpr c3
    obtain rfl := Option.some.inj H
    go_enter Try.func50, Try.ntmps50
    go_wp2_with (first | ((with_reducible refine gate_dst (N := 2) rfl ?_); refine box_event ?hg (N := 2) ?hd (cs := #[.int .i64 a0_0, .int .i64 a0_1, .int .i64 a0_2, .bool a0_3]) (t := 75) ?hr ?_; (case hd => rfl); (case hg => rfl); (case hr => first | (go_simp; done) | (go_simp; rfl)); intro gb899 hg w27 hbox hb; have n0_ := Aside0.mk (below_step (by repeat (first | (with_reducible first | exact HB.out | apply below_alloc | apply pw_below_drewN | apply below_drew1) | exact HB.out)) hb); have n1_ := Aside0.mk (hbox); have n2_ := Aside0.mk ((by rw [hg]; exact (below_size (by repeat (first | (with_reducible first | exact HB.out | apply below_alloc | apply pw_below_drewN | apply below_drew1) | exact HB.out))) : w.heap.size ≤ gb899)); have n3_ := Aside0.mk ((by rw [hg]; exact (below_size (by repeat (first | (with_reducible first | exact HB.out | apply below_alloc | apply pw_below_drewN | apply below_drew1) | exact HB.out))) : w.heap.size ≤ gb899)); clear HB; have HB := n0_; have BK899 := n1_; have GW899 := n2_; have GE899 := n3_; clear n0_ n1_ n2_ n3_; clear hb hbox hg) | ((with_reducible refine gate_dst (N := 3) rfl ?_); refine box_event ?hg (N := 3) ?hd (cs := #[.int .i64 a1_0, .int .i64 a1_1, .int .i64 a1_2, .bool a1_3]) (t := 75) ?hr ?_; (case hd => rfl); (case hg => rfl); (case hr => first | (go_simp; done) | (go_simp; rfl)); intro gb900 hg w28 hbox hb; have n0_ := Aside0.mk (blk_below (g := gb899) (o := .cells #[.int .i64 a0_0, .int .i64 a0_1, .int .i64 a0_2, .bool a0_3] 75 (0, 0)) (by (with_reducible repeat (first | refine blk_drewN ?_ _ | refine blk_drew ?_ | refine blk_alloc ?_ _)); exact BK899.out) hb); have n1_ := Aside0.mk (below_step (by repeat (first | (with_reducible first | exact HB.out | apply below_alloc | apply pw_below_drewN | apply below_drew1 | refine below_set ?_ GE899.out) | exact HB.out)) hb); have n2_ := Aside0.mk (hbox); have n3_ := Aside0.mk ((by rw [hg]; exact (below_size (by repeat (first | (with_reducible first | exact HB.out | apply below_alloc | apply pw_below_drewN | apply below_drew1 | refine below_set ?_ GE899.out) | exact HB.out))) : w.heap.size ≤ gb900)); have n4_ := Aside0.mk ((by rw [hg]; exact (below_size (by repeat (first | (with_reducible first | exact HB.out | apply below_alloc | apply pw_below_drewN | apply below_drew1 | refine below_set ?_ GE899.out) | exact HB.out))) : w.heap.size ≤ gb900)); have n5_ := Aside0.mk ((by rw [hg]; exact Nat.ne_of_lt (blk_lt (g := gb899) (o := .cells #[.int .i64 a0_0, .int .i64 a0_1, .int .i64 a0_2, .bool a0_3] 75 (0, 0)) (by (with_reducible repeat (first | refine blk_drewN ?_ _ | refine blk_drew ?_ | refine blk_alloc ?_ _)); exact BK899.out)) : gb899 ≠ gb900)); have n6_ := Aside0.mk ((by rw [hg]; exact Nat.ne_of_gt (blk_lt (g := gb899) (o := .cells #[.int .i64 a0_0, .int .i64 a0_1, .int .i64 a0_2, .bool a0_3] 75 (0, 0)) (by (with_reducible repeat (first | refine blk_drewN ?_ _ | refine blk_drew ?_ | refine blk_alloc ?_ _)); exact BK899.out)) : gb900 ≠ gb899)); clear BK899; clear HB; have BK899 := n0_; have HB := n1_; have BK900 := n2_; have GW900 := n3_; have GE900 := n4_; have NB899_900 := n5_; have NB900_899 := n6_; clear n0_ n1_ n2_ n3_ n4_ n5_ n6_; clear hb hbox hg; have hnb29 := NB899_900.out; have hnc29 := NB900_899.out; have hcz30_0 : w28.cell? ⟨gb899, 0, none⟩ = some (.int .i64 a0_0) := (blk_cell BK899.out 0).trans rfl; have hcz30_1 : w28.cell? ⟨gb899, 1, none⟩ = some (.int .i64 a0_1) := (blk_cell BK899.out 1).trans rfl; have hcz30_2 : w28.cell? ⟨gb899, 2, none⟩ = some (.int .i64 a0_2) := (blk_cell BK899.out 2).trans rfl; have hcz30_3 : w28.cell? ⟨gb899, 3, none⟩ = some (.bool a0_3) := (blk_cell BK899.out 3).trans rfl; have hfz30_0 := blk_frozen BK899.out 0; have hfz30_1 := blk_frozen BK899.out 1; have hfz30_2 := blk_frozen BK899.out 2; have hfz30_3 := blk_frozen BK899.out 3; have hcz31_0 : w28.cell? ⟨gb900, 0, none⟩ = some (.int .i64 a1_0) := (blk_cell BK900.out 0).trans rfl; have hcz31_1 : w28.cell? ⟨gb900, 1, none⟩ = some (.int .i64 a1_1) := (blk_cell BK900.out 1).trans rfl; have hcz31_2 : w28.cell? ⟨gb900, 2, none⟩ = some (.int .i64 a1_2) := (blk_cell BK900.out 2).trans rfl; have hcz31_3 : w28.cell? ⟨gb900, 3, none⟩ = some (.bool a1_3) := (blk_cell BK900.out 3).trans rfl; have hfz31_0 := blk_frozen BK900.out 0; have hfz31_1 := blk_frozen BK900.out 1; have hfz31_2 := blk_frozen BK900.out 2; have hfz31_3 := blk_frozen BK900.out 3))
    go_ret
    exact ⟨by first | rfl | (simp [errW_none, errW_some] <;> rfl) | (simp [*, errW_none, errW_some] <;> rfl), by repeat (first | (with_reducible first | exact HB.out | apply below_alloc | apply pw_below_drewN | apply below_drew1 | refine below_set ?_ GE899.out | refine below_set ?_ GE900.out) | exact HB.out)⟩

end Go.Proofs.Ytgpdjpololkhbaa.F

namespace Go.Proofs.Ytgpdjpololkhbaa.F
open Go.RowKit Go.Proofs.YtgpdjpololkhbaaW.PrintWords Go.Proofs.YtgpdjpololkhbaaW.PrintLast Go.Proofs.YtgpdjpololkhbaaW.PrintMore
attribute [local go_sem] max2_int min2_int max_two min_two max_three min_three max_four min_four   -- for this text's walks alone
set_option linter.unusedVariables false
set_option linter.unusedSimpArgs false

/-! ### laws_FnExactRunPlotter: function 8 -/
def laws_FnExactRunPlotter.f (k : Nat) (l0 : List (S139)) : Option (Bool) := (laws_szCommandS.f l0 1048576).bind fun t901 => (if t901 < 0 then (some true) else ((laws_toCommandS.f k l0).bind fun t902 => ((spec_RunPlotter.f k t902).bind fun bt905 => ((laws_toCommandS.f k l0).bind fun t911 => ((impl_RunPlotter.f k t911).bind fun bt914 => ((laws_eqPlotter.f bt914.1 bt914.2.1 bt914.2.2.1 bt914.2.2.2.1 bt905.1 bt905.2.1 bt905.2.2.1 bt905.2.2.2.1).bind fun t920 => (if t920 = true then (if bt914.2.2.2.2 = bt905.2.2.2.2 then ((laws_toCommandS.f k l0).bind fun t921 => ((laws_eqCommandS.f k t911 t921).bind fun t924 => (if t924 = true then (some true) else (none)))) else (none)) else (none))))))))
theorem laws_FnExactRunPlotter.mono : ∀ a0 k, LeO (laws_FnExactRunPlotter.f k a0) (laws_FnExactRunPlotter.f (k + 1) a0) := by
  intro a0 k
  unfold laws_FnExactRunPlotter.f
  repeat' first
      | (with_reducible exact impl_RunPlotter.mono _ _)
      | (with_reducible exact laws_eqCommandS.mono _ _ _)
      | (with_reducible exact laws_toCommandS.mono _ _)
      | (with_reducible exact spec_RunPlotter.mono _ _)
      | (with_reducible exact LeO.refl _)
      | (with_reducible exact LeO.none _)
      | (with_reducible refine LeO.ite ?_ ?_)
      | (with_reducible refine LeO.bind ?_ (fun _ => ?_))
      | exact impl_RunPlotter.mono _ _
      | exact laws_eqCommandS.mono _ _ _
      | exact laws_toCommandS.mono _ _
      | exact spec_RunPlotter.mono _ _
      | exact LeO.none _
      | refine LeO.ite ?_ ?_
      | refine LeO.bind ?_ (fun _ => ?_)
set_option maxHeartbeats 8000000 in
set_option maxRecDepth 100000 in
theorem laws_FnExactRunPlotter.calls (k : Nat) (A0 : Option Addr) (c0 : Nat) (l0 : List (S139)) (r : Bool) (w : World) (hr0 : Kd.C k139 w A0 l0.length l0) (hc0 : l0.length ≤ c0) (h : laws_FnExactRunPlotter.f k l0 = some r) :
    Calls Try.prog 8 #[.slice A0 l0.length c0] w fun e w' => e = .returned (.bool r) ∧ Below w.heap.size w w' := by
  have hu75 := Try.underlying75
  have HR0 := Aside0.mk hr0
  have HC0 := Aside0.mk hc0
  clear hr0 hc0
  have HB := Aside0.mk (Below.refl w.heap.size w)
  have H : ((laws_szCommandS.f l0 1048576).bind fun t901 => (if t901 < 0 then (some true) else ((laws_toCommandS.f k l0).bind fun t902 => ((spec_RunPlotter.f k t902).bind fun bt905 => ((laws_toCommandS.f k l0).bind fun t911 => ((impl_RunPlotter.f k t911).bind fun bt914 => ((laws_eqPlotter.f bt914.1 bt914.2.1 bt914.2.2.1 bt914.2.2.2.1 bt905.1 bt905.2.1 bt905.2.2.1 bt905.2.2.2.1).bind fun t920 => (if t920 = true then (if bt914.2.2.2.2 = bt905.2.2.2.2 then ((laws_toCommandS.f k l0).bind fun t921 => ((laws_eqCommandS.f k t911 t921).bind fun t924 => (if t924 = true then (some true) else (none)))) else (none)) else (none))))))))) = some r := h
  clear h
  replace H := Option.bind_eq_some_iff.mp H
  obtain ⟨t901, A20, H⟩ := H
  replace H : (if t901 < 0 then (some true) else ((laws_toCommandS.f k l0).bind fun t902 => ((spec_RunPlotter.f k t902).bind fun bt905 => ((laws_toCommandS.f k l0).bind fun t911 => ((impl_RunPlotter.f k t911).bind fun bt914 => ((laws_eqPlotter.f bt914.1 bt914.2.1 bt914.2.2.1 bt914.2.2.2.1 bt905.1 bt905.2.1 bt905.2.2.1 bt905.2.2.2.1).bind fun t920 => (if t920 = true then (if bt914.2.2.2.2 = bt905.2.2.2.2 then ((laws_toCommandS.f k l0).bind fun t921 => ((laws_eqCommandS.f k t911 t921).bind fun t924 => (if t924 = true then (some true) else (none)))) else (none)) else (none)))))))) = some r := H
  have A2 := Aside0.mk A20
  clear A20
  by_cases c3 : t901 < 0
  · rw [if_pos c3] at H
    have c3b0 : decide (t901 < 0) = true := decide_eq_true c3
    clear c3
    obtain rfl := Option.some.inj H
    go_enter Try.func8, Try.ntmps8
    go_wp2_with (first | ((with_reducible refine gate_callee (f := 30) rfl ?_); refine goesL_ (some 11) rfl rfl Try.func30 (by kernel_rfl) rfl #[.slice A0 l0.length c0, .int .i64 1048576] rfl (by (try simp only [List.map_toArray, List.map_cons, List.map_nil]); first | done | rfl | (simp only [List.length_drop, List.length_take]; rfl)) ?_; (with_reducible refine (laws_szCommandS.calls _ _ l0 1048576 t901 _ ?side1 ?side2 A2.out).mono ?_); (case side1 => repeat (first | exact HR0.out | (with_reducible refine Kd.C_alloc ?_ _) | (with_reducible refine Kd.C_drewN ?_ _) | (with_reducible refine Kd.C_drew ?_))); (case side2 => exact HC0.out); rintro e w' ⟨rfl, ⟨nd, rfl⟩⟩; refine ⟨_, rfl, ?_⟩))
    go_ret
    exact ⟨by first | rfl | (simp [errW_none, errW_some] <;> rfl) | (simp [*, errW_none, errW_some] <;> rfl), by repeat (first | (with_reducible first | exact HB.out | apply below_alloc | apply pw_below_drewN | apply below_drew1) | exact HB.out)⟩
  · rw [if_neg c3] at H
    have c3b0 : decide (t901 < 0) = false := decide_eq_false c3
    clear c3
    replace H := Option.bind_eq_some_iff.mp H
    obtain ⟨t902, A40, H⟩ := H
    replace H : ((spec_RunPlotter.f k t902).bind fun bt905 => ((laws_toCommandS.f k l0).bind fun t911 => ((impl_RunPlotter.f k t911).bind fun bt914 => ((laws_eqPlotter.f bt914.1 bt914.2.1 bt914.2.2.1 bt914.2.2.2.1 bt905.1 bt905.2.1 bt905.2.2.1 bt905.2.2.2.1).bind fun t920 => (if t920 = true then (if bt914.2.2.2.2 = bt905.2.2.2.2 then ((laws_toCommandS.f k l0).bind fun t921 => ((laws_eqCommandS.f k t911 t921).bind fun t924 => (if t924 = true then (some true) else (none)))) else (none)) else (none)))))) = some r := H
    have A4 := Aside0.mk A40
    clear A40
    replace H := Option.bind_eq_some_iff.mp H
    obtain ⟨⟨t905, t906, t907, t908, t909⟩, A50, H⟩ := H
    replace H : ((laws_toCommandS.f k l0).bind fun t911 => ((impl_RunPlotter.f k t911).bind fun bt914 => ((laws_eqPlotter.f bt914.1 bt914.2.1 bt914.2.2.1 bt914.2.2.2.1 t905 t906 t907 t908).bind fun t920 => (if t920 = true then (if bt914.2.2.2.2 = t909 then ((laws_toCommandS.f k l0).bind fun t921 => ((laws_eqCommandS.f k t911 t921).bind fun t924 => (if t924 = true then (some true) else (none)))) else (none)) else (none))))) = some r := H
    have A5 := Aside0.mk A50
    clear A50
    replace H := Option.bind_eq_some_iff.mp H
    obtain ⟨t911, A60, H⟩ := H
    replace H : ((impl_RunPlotter.f k t911).bind fun bt914 => ((laws_eqPlotter.f bt914.1 bt914.2.1 bt914.2.2.1 bt914.2.2.2.1 t905 t906 t907 t908).bind fun t920 => (if t920 = true then (if bt914.2.2.2.2 = t909 then ((laws_toCommandS.f k l0).bind fun t921 => ((laws_eqCommandS.f k t911 t921).bind fun t924 => (if t924 = true then (some true) else (none)))) else (none)) else (none)))) = some r := H
    have A6 := Aside0.mk A60
    clear A60
    replace H := Option.bind_eq_some_iff.mp H
    obtain ⟨⟨t914, t915, t916, t917, t918⟩, A70, H⟩ := H
    replace H : ((laws_eqPlotter.f t914 t915 t916 t917 t905 t906 t907 t908).bind fun t920 => (if t920 = true then (if t918 = t909 then ((laws_toCommandS.f k l0).bind fun t921 => ((laws_eqCommandS.f k t911 t921).bind fun t924 => (if t924 = true then (some true) else (none)))) else (none)) else (none))) = some r := H
    have A7 := Aside0.mk A70
    clear A70
    replace H := Option.bind_eq_some_iff.mp H
    obtain ⟨t920, A80, H⟩ := H
    replace H : (if t920 = true then (if t918 = t909 then ((laws_toCommandS.f k l0).bind fun t921 => ((laws_eqCommandS.f k t911 t921).bind fun t924 => (if t924 = true then (some true) else (none)))) else (none)) else (none)) = some r := H
    have A8 := Aside0.mk A80
    clear A80
    by_cases c9 : t920 = true
    · subst c9
      have H1 : (if t918 = t909 then ((laws_toCommandS.f k l0).bind fun t921 => ((laws_eqCommandS.f k t911 t921).bind fun t924 => (if t924 = true then (some true) else (none)))) else (none)) = some r := by rw [if_pos rfl] at H; exact H
      clear H
      have H := H1
      clear H1
      by_cases c10 : t918 = t909
      · rw [if_pos c10] at H
        have c10b0 : (t918 == t909) = true := beq_iff_eq.mpr c10
        have c10b1 : (t918 != t909) = false := bne_eq_false_iff_eq.mpr c10
        clear c10
        replace H := Option.bind_eq_some_iff.mp H
        obtain ⟨t921, A110, H⟩ := H
        replace H : ((laws_eqCommandS.f k t911 t921).bind fun t924 => (if t924 = true then (some true) else (none))) = some r := H
        have A11 := Aside0.mk A110
        clear A110
        replace H := Option.bind_eq_some_iff.mp H
        obtain ⟨t924, A120, H⟩ := H
        replace H : (if t924 = true then (some true) else (none)) = some r := H
        have A12 := Aside0.mk A120
        clear A120
        by_cases c13 : t924 = true
        · subst c13
          have H1 : (some true) = some r := by rw [if_pos rfl] at H; exact H
          clear H
          have H := H1
          clear H1
          obtain rfl := Option.some.inj H
          go_enter Try.func8, Try.ntmps8
          go_wp2_with (first | ((with_reducible refine gate_callee (f := 30) rfl ?_); refine goesL_ (some 11) rfl rfl Try.func30 (by kernel_rfl) rfl #[.slice A0 l0.length c0, .int .i64 1048576] rfl (by (try simp only [List.map_toArray, List.map_cons, List.map_nil]); first | done | rfl | (simp only [List.length_drop, List.length_take]; rfl)) ?_; (with_reducible refine (laws_szCommandS.calls _ _ l0 1048576 t901 _ ?side1 ?side2 A2.out).mono ?_); (case side1 => repeat (first | exact HR0.out | (with_reducible refine Kd.C_alloc ?_ _) | (with_reducible refine Kd.C_drewN ?_ _) | (with_reducible refine Kd.C_drew ?_))); (case side2 => exact HC0.out); rintro e w' ⟨rfl, ⟨nd, rfl⟩⟩; refine ⟨_, rfl, ?_⟩) | ((with_reducible refine gate_callee (f := 32) rfl ?_); refine goesL_ (some 16) rfl rfl Try.func32 (by kernel_rfl) rfl #[.slice A0 l0.length c0] rfl (by (try simp only [List.map_toArray, List.map_cons, List.map_nil]); first | done | rfl | (simp only [List.length_drop, List.length_take]; rfl)) ?_; (with_reducible refine (laws_toCommandS.calls k _ _ l0 t902 _ ?side1 ?side2 A4.out).mono ?_); (case side1 => repeat (first | exact HR0.out | (with_reducible refine Kd.C_alloc ?_ _) | (with_reducible refine Kd.C_drewN ?_ _) | (with_reducible refine Kd.C_drew ?_))); (case side2 => exact HC0.out); rintro e w14 ⟨v903, rfl, ho0, hb⟩; refine ⟨_, rfl, ?_⟩; have n0_ := Aside0.mk (Kd.R_lower ho0 (below_size (by repeat (first | (with_reducible first | exact HB.out | apply below_alloc | apply pw_below_drewN | apply below_drew1) | exact HB.out)))); have n1_ := Aside0.mk (below_step (by repeat (first | (with_reducible first | exact HB.out | apply below_alloc | apply pw_below_drewN | apply below_drew1) | exact HB.out)) hb); clear HB; have HO904 := n0_; have HB := n1_; clear n0_ n1_; (try clear hb); (try clear hb2); (try clear hk); (try clear hi); (try clear ho0); obtain ⟨Ao15, co15, eo15⟩ := Kd.R_slice HO904.out; subst eo15) | ((with_reducible refine gate_callee (f := 48) rfl ?_); refine goesL_ (some 17) rfl rfl Try.func48 (by kernel_rfl) rfl #[.slice Ao15 t902.length co15] rfl (by (try simp only [List.map_toArray, List.map_cons, List.map_nil]); first | done | rfl | (simp only [List.length_drop, List.length_take]; rfl)) ?_; (with_reducible refine (spec_RunPlotter.calls k _ _ t902 t905 t906 t907 t908 t909 _ ?side1 ?side2 A5.out).mono ?_); (case side1 => repeat (first | exact (Kd.R_reads' HO904.out).2.2 | (with_reducible refine Kd.C_alloc ?_ _) | (with_reducible refine Kd.C_drewN ?_ _) | (with_reducible refine Kd.C_drew ?_))); (case side2 => exact (Kd.R_reads' HO904.out).2.1); rintro e w16 ⟨rfl, hb⟩; refine ⟨_, rfl, ?_⟩; have n0_ := Aside0.mk (Kd.R_below (by (with_reducible repeat (first | apply Kd.R_alloc | apply Kd.R_drewN | apply Kd.R_drew)); exact HO904.out) hb); have n1_ := Aside0.mk (below_step (by repeat (first | (with_reducible first | exact HB.out | apply below_alloc | apply pw_below_drewN | apply below_drew1) | exact HB.out)) hb); clear HO904; clear HB; have HO904 := n0_; have HB := n1_; clear n0_ n1_; (try clear hb); (try clear hb2); (try clear hk); (try clear hi)) | ((with_reducible refine gate_dst (N := 4) rfl ?_); refine box_event ?hg (N := 4) ?hd (cs := #[.int .i64 0, .int .i64 0, .int .i64 0, .bool false]) (t := 75) ?hr ?_; (case hd => rfl); (case hg => rfl); (case hr => first | (go_simp; done) | (go_simp; rfl)); intro gb910 hg w17 hbox hb; have n0_ := Aside0.mk (Kd.R_below (by (with_reducible repeat (first | apply Kd.R_alloc | apply Kd.R_drewN | apply Kd.R_drew)); exact HO904.out) hb); have n1_ := Aside0.mk (below_step (by repeat (first | (with_reducible first | exact HB.out | apply below_alloc | apply pw_below_drewN | apply below_drew1) | exact HB.out)) hb); have n2_ := Aside0.mk (hbox); have n3_ := Aside0.mk ((by rw [hg]; exact (below_size (by repeat (first | (with_reducible first | exact HB.out | apply below_alloc | apply pw_below_drewN | apply below_drew1) | exact HB.out))) : w.heap.size ≤ gb910)); have n4_ := Aside0.mk ((by rw [hg]; exact (below_size (by repeat (first | (with_reducible first | exact HB.out | apply below_alloc | apply pw_below_drewN | apply below_drew1) | exact HB.out))) : w.heap.size ≤ gb910)); clear HO904; clear HB; have HO904 := n0_; have HB := n1_; have BK910 := n2_; have GW910 := n3_; have GE910 := n4_; clear n0_ n1_ n2_ n3_ n4_; clear hb hbox hg; have hcz18_0 : w17.cell? ⟨gb910, 0, none⟩ = some (.int .i64 0) := (blk_cell BK910.out 0).trans rfl; have hcz18_1 : w17.cell? ⟨gb910, 1, none⟩ = some (.int .i64 0) := (blk_cell BK910.out 1).trans rfl; have hcz18_2 : w17.cell? ⟨gb910, 2, none⟩ = some (.int .i64 0) := (blk_cell BK910.out 2).trans rfl; have hcz18_3 : w17.cell? ⟨gb910, 3, none⟩ = some (.bool false) := (blk_cell BK910.out 3).trans rfl; have hfz18_0 := blk_frozen BK910.out 0; have hfz18_1 := blk_frozen BK910.out 1; have hfz18_2 := blk_frozen BK910.out 2; have hfz18_3 := blk_frozen BK910.out 3) | ((with_reducible refine gate_callee (f := 32) rfl ?_); refine goesL_ (some 21) rfl rfl Try.func32 (by kernel_rfl) rfl #[.slice A0 l0.length c0] rfl (by (try simp only [List.map_toArray, List.map_cons, List.map_nil]); first | done | rfl | (simp only [List.length_drop, List.length_take]; rfl)) ?_; (with_reducible refine (laws_toCommandS.calls k _ _ l0 t911 _ ?side1 ?side2 A6.out).mono ?_); (case side1 => exact Kd.C_below HR0.out (by repeat (first | (with_reducible first | exact HB.out | apply below_alloc | apply pw_below_drewN | apply below_drew1 | refine below_set ?_ GE910.out) | exact HB.out))); (case side2 => exact HC0.out); rintro e w19 ⟨v912, rfl, ho0, hb⟩; refine ⟨_, rfl, ?_⟩; have n0_ := Aside0.mk (Kd.R_elder' (by (with_reducible repeat (first | apply Kd.R_alloc | apply Kd.R_drewN | apply Kd.R_drew)); exact (Kd.R_mono (Kd.R_far (p := ⟨gb910, 3, none⟩) (Kd.R_far (p := ⟨gb910, 2, none⟩) (Kd.R_far (p := ⟨gb910, 1, none⟩) (Kd.R_far (p := ⟨gb910, 0, none⟩) (Kd.R_types HO904.out BK910.out (by decide)) (fun _ hk => hk.2) (.int .i64 t905)) (fun _ hk => hk.2) (.int .i64 t906)) (fun _ hk => hk.2) (.int .i64 t907)) (fun _ hk => hk.2) (.bool t908)) (fun _ h_ => h_.1))) (Kd.R_base ho0) hb); have n1_ := Aside0.mk (Kd.R_lower (Kd.R_new' ho0 (Kd.R_lt (by (with_reducible repeat (first | apply Kd.R_alloc | apply Kd.R_drewN | apply Kd.R_drew)); exact (Kd.R_mono (Kd.R_far (p := ⟨gb910, 3, none⟩) (Kd.R_far (p := ⟨gb910, 2, none⟩) (Kd.R_far (p := ⟨gb910, 1, none⟩) (Kd.R_far (p := ⟨gb910, 0, none⟩) (Kd.R_types HO904.out BK910.out (by decide)) (fun _ hk => hk.2) (.int .i64 t905)) (fun _ hk => hk.2) (.int .i64 t906)) (fun _ hk => hk.2) (.int .i64 t907)) (fun _ hk => hk.2) (.bool t908)) (fun _ h_ => h_.1))))) (below_size (by repeat (first | (with_reducible first | exact HB.out | apply below_alloc | apply pw_below_drewN | apply below_drew1 | refine below_set ?_ GE910.out) | exact HB.out)))); have n2_ := Aside0.mk (blk_below (g := gb910) (o := .cells #[.int .i64 t905, .int .i64 t906, .int .i64 t907, .bool t908] 75 (0, 0)) (by (with_reducible repeat (first | refine blk_drewN ?_ _ | refine blk_drew ?_ | refine blk_alloc ?_ _)); refine blk_put (cs := #[.int .i64 t905, .int .i64 t906, .int .i64 t907, .bool false]) ?_ 3 _ rfl; (with_reducible repeat (first | refine blk_drewN ?_ _ | refine blk_drew ?_ | refine blk_alloc ?_ _)); refine blk_put (cs := #[.int .i64 t905, .int .i64 t906, .int .i64 0, .bool false]) ?_ 2 _ rfl; (with_reducible repeat (first | refine blk_drewN ?_ _ | refine blk_drew ?_ | refine blk_alloc ?_ _)); refine blk_put (cs := #[.int .i64 t905, .int .i64 0, .int .i64 0, .bool false]) ?_ 1 _ rfl; (with_reducible repeat (first | refine blk_drewN ?_ _ | refine blk_drew ?_ | refine blk_alloc ?_ _)); refine blk_put (cs := #[.int .i64 0, .int .i64 0, .int .i64 0, .bool false]) ?_ 0 _ rfl; (with_reducible repeat (first | refine blk_drewN ?_ _ | refine blk_drew ?_ | refine blk_alloc ?_ _)); exact BK910.out) hb); have n3_ := Aside0.mk (below_step (by repeat (first | (with_reducible first | exact HB.out | apply below_alloc | apply pw_below_drewN | apply below_drew1 | refine below_set ?_ GE910.out) | exact HB.out)) hb); clear HO904; clear BK910; clear HB; have HO904 := n0_; have HO913 := n1_; have BK910 := n2_; have HB := n3_; clear n0_ n1_ n2_ n3_; (try clear hb); (try clear hb2); (try clear hk); (try clear hi); (try clear ho0); obtain ⟨Ao20, co20, eo20⟩ := Kd.R_slice HO913.out; subst eo20) | ((with_reducible refine gate_callee (f := 49) rfl ?_); refine goesL_ (some 24) rfl rfl Try.func49 (by kernel_rfl) rfl #[.slice Ao20 t911.length co20] rfl (by (try simp only [List.map_toArray, List.map_cons, List.map_nil]); first | done | rfl | (simp only [List.length_drop, List.length_take]; rfl)) ?_; (with_reducible refine (impl_RunPlotter.calls k _ _ t911 t914 t915 t916 t917 t918 _ ?side1 ?side2 A7.out).mono ?_); (case side1 => repeat (first | exact (Kd.R_reads' HO913.out).2.2 | (with_reducible refine Kd.C_alloc ?_ _) | (with_reducible refine Kd.C_drewN ?_ _) | (with_reducible refine Kd.C_drew ?_))); (case side2 => exact (Kd.R_reads' HO913.out).2.1); rintro e w21 ⟨rfl, hb⟩; refine ⟨_, rfl, ?_⟩; have n0_ := Aside0.mk (Kd.R_below (by (with_reducible repeat (first | apply Kd.R_alloc | apply Kd.R_drewN | apply Kd.R_drew)); exact HO904.out) hb); have n1_ := Aside0.mk (Kd.R_below (by (with_reducible repeat (first | apply Kd.R_alloc | apply Kd.R_drewN | apply Kd.R_drew)); exact HO913.out) hb); have n2_ := Aside0.mk (blk_below (g := gb910) (o := .cells #[.int .i64 t905, .int .i64 t906, .int .i64 t907, .bool t908] 75 (0, 0)) (by (with_reducible repeat (first | refine blk_drewN ?_ _ | refine blk_drew ?_ | refine blk_alloc ?_ _)); exact BK910.out) hb); have n3_ := Aside0.mk (below_step (by repeat (first | (with_reducible first | exact HB.out | apply below_alloc | apply pw_below_drewN | apply below_drew1 | refine below_set ?_ GE910.out) | exact HB.out)) hb); clear HO904; clear HO913; clear BK910; clear HB; have HO904 := n0_; have HO913 := n1_; have BK910 := n2_; have HB := n3_; clear n0_ n1_ n2_ n3_; (try clear hb); (try clear hb2); (try clear hk); (try clear hi)) | ((with_reducible refine gate_dst (N := 7) rfl ?_); refine box_event ?hg (N := 7) ?hd (cs := #[.int .i64 0, .int .i64 0, .int .i64 0, .bool false]) (t := 75) ?hr ?_; (case hd => rfl); (case hg => rfl); (case hr => first | (go_simp; done) | (go_simp; rfl)); intro gb919 hg w22 hbox hb; have n0_ := Aside0.mk (Kd.R_below (by (with_reducible repeat (first | apply Kd.R_alloc | apply Kd.R_drewN | apply Kd.R_drew)); exact HO904.out) hb); have n1_ := Aside0.mk (Kd.R_below (by (with_reducible repeat (first | apply Kd.R_alloc | apply Kd.R_drewN | apply Kd.R_drew)); exact HO913.out) hb); have n2_ := Aside0.mk (blk_below (g := gb910) (o := .cells #[.int .i64 t905, .int .i64 t906, .int .i64 t907, .bool t908] 75 (0, 0)) (by (with_reducible repeat (first | refine blk_drewN ?_ _ | refine blk_drew ?_ | refine blk_alloc ?_ _)); exact BK910.out) hb); have n3_ := Aside0.mk (below_step (by repeat (first | (with_reducible first | exact HB.out | apply below_alloc | apply pw_below_drewN | apply below_drew1 | refine below_set ?_ GE910.out) | exact HB.out)) hb); have n4_ := Aside0.mk (hbox); have n5_ := Aside0.mk ((by rw [hg]; exact (below_size (by repeat (first | (with_reducible first | exact HB.out | apply below_alloc | apply pw_below_drewN | apply below_drew1 | refine below_set ?_ GE910.out) | exact HB.out))) : w.heap.size ≤ gb919)); have n6_ := Aside0.mk ((by rw [hg]; exact (below_size (by repeat (first | (with_reducible first | exact HB.out | apply below_alloc | apply pw_below_drewN | apply below_drew1 | refine below_set ?_ GE910.out) | exact HB.out))) : w.heap.size ≤ gb919)); have n7_ := Aside0.mk ((by rw [hg]; exact Nat.ne_of_lt (blk_lt (g := gb910) (o := .cells #[.int .i64 t905, .int .i64 t906, .int .i64 t907, .bool t908] 75 (0, 0)) (by (with_reducible repeat (first | refine blk_drewN ?_ _ | refine blk_drew ?_ | refine blk_alloc ?_ _)); exact BK910.out)) : gb910 ≠ gb919)); have n8_ := Aside0.mk ((by rw [hg]; exact Nat.ne_of_gt (blk_lt (g := gb910) (o := .cells #[.int .i64 t905, .int .i64 t906, .int .i64 t907, .bool t908] 75 (0, 0)) (by (with_reducible repeat (first | refine blk_drewN ?_ _ | refine blk_drew ?_ | refine blk_alloc ?_ _)); exact BK910.out)) : gb919 ≠ gb910)); clear HO904; clear HO913; clear BK910; clear HB; have HO904 := n0_; have HO913 := n1_; have BK910 := n2_; have HB := n3_; have BK919 := n4_; have GW919 := n5_; have GE919 := n6_; have NB910_919 := n7_; have NB919_910 := n8_; clear n0_ n1_ n2_ n3_ n4_ n5_ n6_ n7_ n8_; clear hb hbox hg; have hnb23 := NB919_910.out; have hnc23 := NB910_919.out; have hcz24_0 : w22.cell? ⟨gb919, 0, none⟩ = some (.int .i64 0) := (blk_cell BK919.out 0).trans rfl; have hcz24_1 : w22.cell? ⟨gb919, 1, none⟩ = some (.int .i64 0) := (blk_cell BK919.out 1).trans rfl; have hcz24_2 : w22.cell? ⟨gb919, 2, none⟩ = some (.int .i64 0) := (blk_cell BK919.out 2).trans rfl; have hcz24_3 : w22.cell? ⟨gb919, 3, none⟩ = some (.bool false) := (blk_cell BK919.out 3).trans rfl; have hfz24_0 := blk_frozen BK919.out 0; have hfz24_1 := blk_frozen BK919.out 1; have hfz24_2 := blk_frozen BK919.out 2; have hfz24_3 := blk_frozen BK919.out 3; have hcz25_0 : w22.cell? ⟨gb910, 0, none⟩ = some (.int .i64 t905) := (blk_cell BK910.out 0).trans rfl; have hcz25_1 : w22.cell? ⟨gb910, 1, none⟩ = some (.int .i64 t906) := (blk_cell BK910.out 1).trans rfl; have hcz25_2 : w22.cell? ⟨gb910, 2, none⟩ = some (.int .i64 t907) := (blk_cell BK910.out 2).trans rfl; have hcz25_3 : w22.cell? ⟨gb910, 3, none⟩ = some (.bool t908) := (blk_cell BK910.out 3).trans rfl; have hfz25_0 := blk_frozen BK910.out 0; have hfz25_1 := blk_frozen BK910.out 1; have hfz25_2 := blk_frozen BK910.out 2; have hfz25_3 := blk_frozen BK910.out 3) | ((with_reducible refine gate_callee (f := 50) rfl ?_); refine goesL_ (some 29) rfl rfl Try.func50 (by kernel_rfl) rfl #[.agg #[.int .i64 t914, .int .i64 t915, .int .i64 t916, .bool t917], .agg #[.int .i64 t905, .int .i64 t906, .int .i64 t907, .bool t908]] rfl (by (try simp only [List.map_toArray, List.map_cons, List.map_nil]); first | done | rfl | (simp only [List.length_drop, List.length_take]; rfl)) ?_; (with_reducible refine (laws_eqPlotter.calls t914 t915 t916 t917 t905 t906 t907 t908 true _ A8.out).mono ?_); rintro e w26 ⟨rfl, hb⟩; refine ⟨_, rfl, ?_⟩; have n0_ := Aside0.mk (Kd.R_below (by (with_reducible repeat (first | apply Kd.R_alloc | apply Kd.R_drewN | apply Kd.R_drew)); exact (Kd.R_mono (Kd.R_far (p := ⟨gb919, 3, none⟩) (Kd.R_far (p := ⟨gb919, 2, none⟩) (Kd.R_far (p := ⟨gb919, 1, none⟩) (Kd.R_far (p := ⟨gb919, 0, none⟩) (Kd.R_types HO904.out BK919.out (by decide)) (fun _ hk => hk.2) (.int .i64 t914)) (fun _ hk => hk.2) (.int .i64 t915)) (fun _ hk => hk.2) (.int .i64 t916)) (fun _ hk => hk.2) (.bool t917)) (fun _ h_ => h_.1))) hb); have n1_ := Aside0.mk (Kd.R_below (by (with_reducible repeat (first | apply Kd.R_alloc | apply Kd.R_drewN | apply Kd.R_drew)); exact (Kd.R_mono (Kd.R_far (p := ⟨gb919, 3, none⟩) (Kd.R_far (p := ⟨gb919, 2, none⟩) (Kd.R_far (p := ⟨gb919, 1, none⟩) (Kd.R_far (p := ⟨gb919, 0, none⟩) (Kd.R_types HO913.out BK919.out (by decide)) (fun _ hk => hk.2) (.int .i64 t914)) (fun _ hk => hk.2) (.int .i64 t915)) (fun _ hk => hk.2) (.int .i64 t916)) (fun _ hk => hk.2) (.bool t917)) (fun _ h_ => h_.1))) hb); have n2_ := Aside0.mk (blk_below (g := gb910) (o := .cells #[.int .i64 t905, .int .i64 t906, .int .i64 t907, .bool t908] 75 (0, 0)) (by (with_reducible repeat (first | refine blk_drewN ?_ _ | refine blk_drew ?_ | refine blk_alloc ?_ _)); refine blk_far ?_ NB910_919.out _; (with_reducible repeat (first | refine blk_drewN ?_ _ | refine blk_drew ?_ | refine blk_alloc ?_ _)); refine blk_far ?_ NB910_919.out _; (with_reducible repeat (first | refine blk_drewN ?_ _ | refine blk_drew ?_ | refine blk_alloc ?_ _)); refine blk_far ?_ NB910_919.out _; (with_reducible repeat (first | refine blk_drewN ?_ _ | refine blk_drew ?_ | refine blk_alloc ?_ _)); refine blk_far ?_ NB910_919.out _; (with_reducible repeat (first | refine blk_drewN ?_ _ | refine blk_drew ?_ | refine blk_alloc ?_ _)); exact BK910.out) hb); have n3_ := Aside0.mk (blk_below (g := gb919) (o := .cells #[.int .i64 t914, .int .i64 t915, .int .i64 t916, .bool t917] 75 (0, 0)) (by (with_reducible repeat (first | refine blk_drewN ?_ _ | refine blk_drew ?_ | refine blk_alloc ?_ _)); refine blk_put (cs := #[.int .i64 t914, .int .i64 t915, .int .i64 t916, .bool false]) ?_ 3 _ rfl; (with_reducible repeat (first | refine blk_drewN ?_ _ | refine blk_drew ?_ | refine blk_alloc ?_ _)); refine blk_put (cs := #[.int .i64 t914, .int .i64 t915, .int .i64 0, .bool false]) ?_ 2 _ rfl; (with_reducible repeat (first | refine blk_drewN ?_ _ | refine blk_drew ?_ | refine blk_alloc ?_ _)); refine blk_put (cs := #[.int .i64 t914, .int .i64 0, .int .i64 0, .bool false]) ?_ 1 _ rfl; (with_reducible repeat (first | refine blk_drewN ?_ _ | refine blk_drew ?_ | refine blk_alloc ?_ _)); refine blk_put (cs := #[.int .i64 0, .int .i64 0, .int .i64 0, .bool false]) ?_ 0 _ rfl; (with_reducible repeat (first | refine blk_drewN ?_ _ | refine blk_drew ?_ | refine blk_alloc ?_ _)); exact BK919.out) hb); have n4_ := Aside0.mk (below_step (by repeat (first | (with_reducible first | exact HB.out | apply below_alloc | apply pw_below_drewN | apply below_drew1 | refine below_set ?_ GE910.out | refine below_set ?_ GE919.out) | exact HB.out)) hb); clear HO904; clear HO913; clear BK910; clear BK919; clear HB; have HO904 := n0_; have HO913 := n1_; have BK910 := n2_; have BK919 := n3_; have HB := n4_; clear n0_ n1_ n2_ n3_ n4_; (try clear hb); (try clear hb2); (try clear hk); (try clear hi)) | ((with_reducible refine gate_callee (f := 32) rfl ?_); refine goesL_ (some 38) rfl rfl Try.func32 (by kernel_rfl) rfl #[.slice A0 l0.length c0] rfl (by (try simp only [List.map_toArray, List.map_cons, List.map_nil]); first | done | rfl | (simp only [List.length_drop, List.length_take]; rfl)) ?_; (with_reducible refine (laws_toCommandS.calls k _ _ l0 t921 _ ?side1 ?side2 A11.out).mono ?_); (case side1 => repeat (first | exact (Kd.C_below HR0.out HB.out) | (with_reducible refine Kd.C_alloc ?_ _) | (with_reducible refine Kd.C_drewN ?_ _) | (with_reducible refine Kd.C_drew ?_))); (case side2 => exact HC0.out); rintro e w27 ⟨v922, rfl, ho0, hb⟩; refine ⟨_, rfl, ?_⟩; have n0_ := Aside0.mk (Kd.R_elder' (by (with_reducible repeat (first | apply Kd.R_alloc | apply Kd.R_drewN | apply Kd.R_drew)); exact HO904.out) (Kd.R_base ho0) hb); have n1_ := Aside0.mk (Kd.R_elder' (by (with_reducible repeat (first | apply Kd.R_alloc | apply Kd.R_drewN | apply Kd.R_drew)); exact HO913.out) (Kd.R_base ho0) hb); have n2_ := Aside0.mk (Kd.R_lower (Kd.R_new' (Kd.R_new' ho0 (Kd.R_lt (by (with_reducible repeat (first | apply Kd.R_alloc | apply Kd.R_drewN | apply Kd.R_drew)); exact HO904.out))) (Kd.R_lt (by (with_reducible repeat (first | apply Kd.R_alloc | apply Kd.R_drewN | apply Kd.R_drew)); exact HO913.out))) (below_size (by repeat (first | (with_reducible first | exact HB.out | apply below_alloc | apply pw_below_drewN | apply below_drew1 | refine below_set ?_ GE910.out | refine below_set ?_ GE919.out) | exact HB.out)))); have n3_ := Aside0.mk (blk_below (g := gb910) (o := .cells #[.int .i64 t905, .int .i64 t906, .int .i64 t907, .bool t908] 75 (0, 0)) (by (with_reducible repeat (first | refine blk_drewN ?_ _ | refine blk_drew ?_ | refine blk_alloc ?_ _)); exact BK910.out) hb); have n4_ := Aside0.mk (blk_below (g := gb919) (o := .cells #[.int .i64 t914, .int .i64 t915, .int .i64 t916, .bool t917] 75 (0, 0)) (by (with_reducible repeat (first | refine blk_drewN ?_ _ | refine blk_drew ?_ | refine blk_alloc ?_ _)); exact BK919.out) hb); have n5_ := Aside0.mk (below_step (by repeat (first | (with_reducible first | exact HB.out | apply below_alloc | apply pw_below_drewN | apply below_drew1 | refine below_set ?_ GE910.out | refine below_set ?_ GE919.out) | exact HB.out)) hb); clear HO904; clear HO913; clear BK910; clear BK919; clear HB; have HO904 := n0_; have HO913 := n1_; have HO923 := n2_; have BK910 := n3_; have BK919 := n4_; have HB := n5_; clear n0_ n1_ n2_ n3_ n4_ n5_; (try clear hb); (try clear hb2); (try clear hk); (try clear hi); (try clear ho0); obtain ⟨Ao28, co28, eo28⟩ := Kd.R_slice HO923.out; subst eo28) | ((with_reducible refine gate_callee (f := 35) rfl ?_); refine goesL_ (some 39) rfl rfl Try.func35 (by kernel_rfl) rfl #[.slice Ao20 t911.length co20, .slice Ao28 t921.length co28] rfl (by (try simp only [List.map_toArray, List.map_cons, List.map_nil]); first | done | rfl | (simp only [List.length_drop, List.length_take]; rfl)) ?_; (with_reducible refine (laws_eqCommandS.calls k _ _ t911 _ _ t921 true _ ?side1 ?side2 ?side3 ?side4 A12.out).mono ?_); (case side1 => repeat (first | exact (Kd.R_reads' HO913.out).2.2 | (with_reducible refine Kd.C_alloc ?_ _) | (with_reducible refine Kd.C_drewN ?_ _) | (with_reducible refine Kd.C_drew ?_))); (case side2 => exact (Kd.R_reads' HO913.out).2.1); (case side3 => repeat (first | exact (Kd.R_reads' HO923.out).2.2 | (with_reducible refine Kd.C_alloc ?_ _) | (with_reducible refine Kd.C_drewN ?_ _) | (with_reducible refine Kd.C_drew ?_))); (case side4 => exact (Kd.R_reads' HO923.out).2.1); rintro e w29 ⟨rfl, hb⟩; refine ⟨_, rfl, ?_⟩; have n0_ := Aside0.mk (Kd.R_below (by (with_reducible repeat (first | apply Kd.R_alloc | apply Kd.R_drewN | apply Kd.R_drew)); exact HO904.out) hb); have n1_ := Aside0.mk (Kd.R_below (by (with_reducible repeat (first | apply Kd.R_alloc | apply Kd.R_drewN | apply Kd.R_drew)); exact HO913.out) hb); have n2_ := Aside0.mk (Kd.R_below (by (with_reducible repeat (first | apply Kd.R_alloc | apply Kd.R_drewN | apply Kd.R_drew)); exact HO923.out) hb); have n3_ := Aside0.mk (blk_below (g := gb910) (o := .cells #[.int .i64 t905, .int .i64 t906, .int .i64 t907, .bool t908] 75 (0, 0)) (by (with_reducible repeat (first | refine blk_drewN ?_ _ | refine blk_drew ?_ | refine blk_alloc ?_ _)); exact BK910.out) hb); have n4_ := Aside0.mk (blk_below (g := gb919) (o := .cells #[.int .i64 t914, .int .i64 t915, .int .i64 t916, .bool t917] 75 (0, 0)) (by (with_reducible repeat (first | refine blk_drewN ?_ _ | refine blk_drew ?_ | refine blk_alloc ?_ _)); exact BK919.out) hb); have n5_ := Aside0.mk (below_step (by repeat (first | (with_reducible first | exact HB.out | apply below_alloc | apply pw_below_drewN | apply below_drew1 | refine below_set ?_ GE910.out | refine below_set ?_ GE919.out) | exact HB.out)) hb); clear HO904; clear HO913; clear HO923; clear BK910; clear BK919; clear HB; have HO904 := n0_; have HO913 := n1_; have HO923 := n2_; have BK910 := n3_; have BK919 := n4_; have HB := n5_; clear n0_ n1_ n2_ n3_ n4_ n5_; (try clear hb); (try clear hb2); (try clear hk); (try clear hi)))
          go_ret
          exact ⟨by first | rfl | (simp [errW_none, errW_some] <;> rfl) | (simp [*, errW_none, errW_some] <;> rfl), by repeat (first | (with_reducible first | exact HB.out | apply below_alloc | apply pw_below_drewN | apply below_drew1 | refine below_set ?_ GE910.out | refine below_set ?_ GE919.out) | exact HB.out)⟩
        · replace c13 := Bool.eq_false_iff.mpr c13
          subst c13
          have H1 : (none) = some r := by rw [if_neg (show ¬ (false = true) by decide)] at H; exact H
          clear H
          have H := H1
          clear H1
          exact absurd H (by simp)
      · rw [if_neg c10] at H
        exact absurd H (by simp)
    · replace c9 := Bool.eq_false_iff.mpr c9
      subst c9
      have H1 : (none) = some r := by rw [if_neg (show ¬ (false = true) by decide)] at H; exact H
      clear H
      have H := H1
      clear H1
      exact absurd H (by simp)

end Go.Proofs.Ytgpdjpololkhbaa.F

namespace Go.Proofs.YtgpdjpololkhbaaO
open Go.RowKit Go.Proofs.YtgpdjpololkhbaaW.PrintWords
set_option linter.unusedVariables false

/-- What reads as data of type t is told by the kind d, and what it tells is G. -/
def Opens {H α : Type} (enc : TypeId × Value → H) (P : Program) (w : World) (d : Kd α) (t : TypeId) (G : α → Prop) : Prop :=
  ∀ (spare : Nat → Bool) (held : Bool) (base fuel : Nat) (cs : List Value) (x : DataW H × List MemPlace),
    DataW.trod enc P w base spare held fuel t cs = some x → ∃ a, d.K w a cs ∧ G a

section
variable {H α β : Type} {enc : TypeId × Value → H} {P : Program} {w : World}

theorem opens_int {t : TypeId} {k : IntKind} (ht : P.underlying t = some (.int k)) : Opens enc P w (Kd.int k) t (fun n => (Lit.int k n).wf = true) := by
  intro spare held base fuel cs x h
  obtain ⟨n, rfl, _, hw⟩ := DataW.trod_int ht h
  exact ⟨n, rfl, hw⟩

theorem opens_bool {t : TypeId} (ht : P.underlying t = some .bool) : Opens enc P w Kd.bool t (fun _ => True) := by
  intro spare held base fuel cs x h
  obtain ⟨n, rfl, _⟩ := DataW.trod_bool ht h
  exact ⟨n, rfl, trivial⟩

theorem opens_string {t : TypeId} (ht : P.underlying t = some .string) : Opens enc P w Kd.string t (fun s => s.size ≤ maxLen) := by
  intro spare held base fuel cs x h
  obtain ⟨n, rfl, _, hw⟩ := DataW.trod_string ht h
  exact ⟨n, rfl, hw⟩

theorem choose_list {p : Nat → α → Prop} : ∀ n, (∀ i, i < n → ∃ x, p i x) → ∃ l : List α, l.length = n ∧ ∀ i x, l[i]? = some x → p i x
  | 0, _ => ⟨[], rfl, fun i x h => by simp at h⟩
  | n + 1, h => by
    obtain ⟨l, hl, hp⟩ := choose_list n (fun i hi => h i (by omega))
    obtain ⟨x, hx⟩ := h n (by omega)
    refine ⟨l ++ [x], by simp [hl], fun i y hy => ?_⟩
    rcases Nat.lt_or_ge i n with hi | hi
    · rw [List.getElem?_append_left (by omega)] at hy
      exact hp i y hy
    · rw [List.getElem?_append_right (by omega), hl] at hy
      have : i - n = 0 := by
        rcases Nat.eq_zero_or_pos (i - n) with h0 | h0
        · exact h0
        · rw [List.getElem?_eq_none (by simp; omega)] at hy
          cases hy
      rw [this] at hy
      have : i = n := by omega
      subst this
      simp at hy
      exact hy ▸ hx

/-- A slice: its elements. -/
theorem opens_row {t e : TypeId} {d : Kd α} {G : α → Prop} (ht : P.underlying t = some (.slice e)) (hs : P.cellsOf e = d.sz) (he : Opens enc P w d e G)
    {spare : Nat → Bool} {held : Bool} {base fuel : Nat} {cs : List Value} {x : DataW H × List MemPlace} (h : DataW.trod enc P w base spare held fuel t cs = some x) :
    ∃ (A : Option Addr) (xs : List α) (c : Nat), cs = [.slice A xs.length c] ∧ xs.length ≤ c ∧ c ≤ maxLen ∧ d.C w A xs.length xs ∧ ∀ a ∈ xs, G a := by
  rcases Go.Deep.open_slice ht h with ⟨rfl, _⟩ | ⟨a, len, cap, m, n, D, Pl, rfl, hb, hl, hm, hmm, _, hx⟩
  · exact ⟨none, [], 0, rfl, Nat.le_refl _, by unfold maxLen; omega, ⟨rfl, by simp, fun h => absurd h (by simp)⟩, fun a ha => by simp at ha⟩
  · have hlm : len ≤ m := by rw [hmm]; split <;> omega
    obtain ⟨xs, hxl, hxs⟩ := choose_list (p := fun i (b : α) => (∃ c, c.length = d.sz ∧ d.K w b c ∧ ∀ j u, c[j]? = some u → w.cell? (a.add (i * d.sz + j)) = some u) ∧ G b) len (fun i hi => by
      obtain ⟨cs', h1, h2⟩ := hx i (by omega)
      obtain ⟨_, hcl, hc⟩ := World.cells?_some h1
      obtain ⟨b, hK, hG⟩ := he _ _ _ _ _ _ h2
      refine ⟨b, ⟨cs', by rw [hcl, hs], hK, fun j u hj => ?_⟩, hG⟩
      have hjl : j < P.cellsOf e := by rw [← hcl]; exact (List.getElem?_eq_some_iff.1 hj).1
      have := hc j hjl
      rw [hs] at this
      rw [hj] at this
      rw [← this, Go.Deep.add_add])
    subst hxl
    refine ⟨some a, xs, cap, rfl, hl, hm, ⟨rfl, by unfold maxLen at hm; omega, fun _ => ⟨a, rfl, fun j p hj => (hxs j p hj).1⟩⟩, fun b hb => ?_⟩
    obtain ⟨i, hi, rfl⟩ := List.getElem_of_mem hb
    exact (hxs i _ (List.getElem?_eq_getElem hi)).2

theorem opens_slice {t e e' : TypeId} {d : Kd α} {G : α → Prop} (ht : P.underlying t = some (.slice e)) (hs : P.cellsOf e = d.sz) (he : Opens enc P w d e G) :
    Opens enc P w (Kd.slice e' d) t (fun xs => xs.length ≤ maxLen ∧ ∀ a ∈ xs, G a) := by
  intro spare held base fuel cs x h
  obtain ⟨A, xs, c, rfl, hl, hm, hC, hG⟩ := opens_row ht hs he h
  exact ⟨xs, ⟨A, c, rfl, hl, hC⟩, by omega, hG⟩

/-- The fields of a struct from offset o on. -/
def OpensF (enc : TypeId × Value → H) (P : Program) (w : World) (d : Kd α) (fs : List Field) (o : Nat) (G : α → Prop) : Prop :=
  ∀ (spare : Nat → Bool) (held : Bool) (base fuel : Nat) (cs : List Value), cs.length = o + d.sz →
    (∀ f ∈ fs, ∃ x, DataW.trod enc P w base spare held fuel f.type ((cs.drop f.offset).take (P.cellsOf f.type)) = some x) → ∃ a, d.K w a (cs.drop o) ∧ G a

theorem opensF_last {d : Kd α} {f : Field} {o : Nat} {G : α → Prop} (ho : f.offset = o) (hs : P.cellsOf f.type = d.sz) (h : Opens enc P w d f.type G) : OpensF enc P w d [f] o G := by
  intro spare held base fuel cs hl hf
  obtain ⟨x, hx⟩ := hf f (List.mem_singleton.2 rfl)
  rw [ho, hs, List.take_of_length_le (by rw [List.length_drop]; omega)] at hx
  exact h _ _ _ _ _ _ hx

theorem opensF_cons {d : Kd α} {d' : Kd β} {f : Field} {fs : List Field} {o : Nat} {G : α → Prop} {G' : β → Prop} (ho : f.offset = o) (hs : P.cellsOf f.type = d.sz) (h : Opens enc P w d f.type G)
    (hr : OpensF enc P w d' fs (o + d.sz) G') : OpensF enc P w (Kd.pair d d') (f :: fs) o (fun x => G x.1 ∧ G' x.2) := by
  intro spare held base fuel cs hl hf
  have hl' : cs.length = o + (d.sz + d'.sz) := hl
  obtain ⟨x, hx⟩ := hf f List.mem_cons_self
  rw [ho, hs] at hx
  obtain ⟨a, hK, hG⟩ := h _ _ _ _ _ _ hx
  obtain ⟨b, hK', hG'⟩ := hr spare held base fuel cs (by omega) (fun g hg => hf g (List.mem_cons_of_mem _ hg))
  refine ⟨(a, b), ⟨_, _, ?_, hK, hK'⟩, hG, hG'⟩
  rw [← List.drop_drop, List.take_append_drop]

/-- A struct by its fields, as a Lean structure: f takes it apart, g puts it together. -/
theorem opens_struct {t : TypeId} {fs : Array Field} {d : Kd α} {G : α → Prop} (ht : P.underlying t = some (.struct fs)) (hs : P.cellsOf t = d.sz) (f : β → α) (g : α → β) (hfg : ∀ a, f (g a) = a) (h : OpensF enc P w d fs.toList 0 G) :
    Opens enc P w (Kd.iso d f) t (fun b => G (f b)) := by
  intro spare held base fuel cs x hx
  obtain ⟨xs, n, rfl, _, hl, hxl, hf⟩ := DataW.trod_struct ht hx
  obtain ⟨a, hK, hG⟩ := h spare held base n cs (by rw [hl, hs]; omega) (fun z hz => by
    obtain ⟨i, hi, rfl⟩ := List.getElem_of_mem hz
    have hi' : i < fs.size := by simpa using hi
    refine ⟨xs[i]'(by omega), ?_⟩
    rw [Array.getElem_toList]
    rw [hf i _ (Array.getElem?_eq_getElem hi'), List.getElem?_eq_getElem (by omega)])
  refine ⟨g a, ?_, by show G (f (g a)); rw [hfg]; exact hG⟩
  show d.K w (f (g a)) cs
  rw [hfg]
  exact hK

theorem Opens.mono {d : Kd α} {t : TypeId} {G G' : α → Prop} (h : Opens enc P w d t G) (hg : ∀ a, G a → G' a) : Opens enc P w d t G' := by
  intro spare held base fuel cs x hx
  obtain ⟨a, hK, hG⟩ := h _ _ _ _ _ _ hx
  exact ⟨a, hK, hg a hG⟩
end
end Go.Proofs.YtgpdjpololkhbaaO

namespace Go.Proofs.Ytgpdjpololkhbaa.F
open Go.RowKit Go.Proofs.YtgpdjpololkhbaaW.PrintWords Go.Proofs.YtgpdjpololkhbaaO
set_option linter.unusedVariables false

def g2 (x : Int) : Prop := (Lit.int .i64 x).wf = true
def g87 (x : S87) : Prop := ((Lit.int .i64 x.f0).wf = true) ∧ ((Lit.int .i64 x.f1).wf = true)
theorem o87 {H : Type} {enc : TypeId × Value → H} {w : World} : Opens enc Try.prog w k87 87 g87 := (opens_struct (β := S87) Try.underlying87 (by kernel_rfl) (fun x => (x.f0, x.f1)) (fun p => ⟨p.1, p.2⟩) (fun _ => rfl) (opensF_cons rfl (by kernel_rfl) (opens_int Try.underlying2) (opensF_last rfl (by kernel_rfl) (opens_int Try.underlying2)))).mono (fun _ h => h)
def g104 (x : (List S87)) : Prop := x.length ≤ maxLen ∧ ∀ y ∈ x, g87 y
def g106 (x : S106) : Prop := ((Lit.int .i64 x.f0).wf = true) ∧ (x.f1.length ≤ maxLen ∧ ∀ y ∈ x.f1, g87 y)
theorem o106 {H : Type} {enc : TypeId × Value → H} {w : World} : Opens enc Try.prog w k106 106 g106 := (opens_struct (β := S106) Try.underlying106 (by kernel_rfl) (fun x => (x.f0, x.f1)) (fun p => ⟨p.1, p.2⟩) (fun _ => rfl) (opensF_cons rfl (by kernel_rfl) (opens_int Try.underlying2) (opensF_last rfl (by kernel_rfl) (opens_slice (e' := 87) Try.underlying104 (by kernel_rfl) o87)))).mono (fun _ h => h)
def g58 (x : S58) : Prop := ((Lit.int .i64 x.f0).wf = true) ∧ ((Lit.int .i64 x.f1).wf = true)
theorem o58 {H : Type} {enc : TypeId × Value → H} {w : World} : Opens enc Try.prog w k58 58 g58 := (opens_struct (β := S58) Try.underlying58 (by kernel_rfl) (fun x => (x.f0, x.f1)) (fun p => ⟨p.1, p.2⟩) (fun _ => rfl) (opensF_cons rfl (by kernel_rfl) (opens_int Try.underlying2) (opensF_last rfl (by kernel_rfl) (opens_int Try.underlying2)))).mono (fun _ h => h)
def g60 (x : S60) : Prop := ((Lit.int .i64 x.f0).wf = true) ∧ (g58 x.f1) ∧ ((Lit.int .i64 x.f2).wf = true)
theorem o60 {H : Type} {enc : TypeId × Value → H} {w : World} : Opens enc Try.prog w k60 60 g60 := (opens_struct (β := S60) Try.underlying60 (by kernel_rfl) (fun x => (x.f0, x.f1, x.f2)) (fun p => ⟨p.1, p.2.1, p.2.2⟩) (fun _ => rfl) (opensF_cons rfl (by kernel_rfl) (opens_int Try.underlying2) (opensF_cons rfl (by kernel_rfl) o58 (opensF_last rfl (by kernel_rfl) (opens_int Try.underlying2))))).mono (fun _ h => h)
def g24 (x : (List Int)) : Prop := x.length ≤ maxLen ∧ ∀ y ∈ x, g2 y
def g62 (x : S62) : Prop := (g60 x.f0) ∧ ((Lit.int .i64 x.f1).wf = true) ∧ (x.f2.length ≤ maxLen ∧ ∀ y ∈ x.f2, g2 y) ∧ (x.f3.length ≤ maxLen ∧ ∀ y ∈ x.f3, g2 y)
theorem o62 {H : Type} {enc : TypeId × Value → H} {w : World} : Opens enc Try.prog w k62 62 g62 := (opens_struct (β := S62) Try.underlying62 (by kernel_rfl) (fun x => (x.f0, x.f1, x.f2, x.f3)) (fun p => ⟨p.1, p.2.1, p.2.2.1, p.2.2.2⟩) (fun _ => rfl) (opensF_cons rfl (by kernel_rfl) o60 (opensF_cons rfl (by kernel_rfl) (opens_int Try.underlying2) (opensF_cons rfl (by kernel_rfl) (opens_slice (e' := 2) Try.underlying24 (by kernel_rfl) (opens_int Try.underlying2)) (opensF_last rfl (by kernel_rfl) (opens_slice (e' := 2) Try.underlying24 (by kernel_rfl) (opens_int Try.underlying2))))))).mono (fun _ h => h)
def g126 (x : S126) : Prop := ((Lit.int .i64 x.f0).wf = true) ∧ (g62 x.f1)
theorem o126 {H : Type} {enc : TypeId × Value → H} {w : World} : Opens enc Try.prog w k126 126 g126 := (opens_struct (β := S126) Try.underlying126 (by kernel_rfl) (fun x => (x.f0, x.f1)) (fun p => ⟨p.1, p.2⟩) (fun _ => rfl) (opensF_cons rfl (by kernel_rfl) (opens_int Try.underlying2) (opensF_last rfl (by kernel_rfl) o62))).mono (fun _ h => h)
def g5 (x : Int) : Prop := (Lit.int .u8 x).wf = true
def g139 (x : S139) : Prop := ((Lit.int .u8 x.f0).wf = true) ∧ ((Lit.int .i64 x.f1).wf = true) ∧ ((Lit.int .i64 x.f2).wf = true)
theorem o139 {H : Type} {enc : TypeId × Value → H} {w : World} : Opens enc Try.prog w k139 139 g139 := (opens_struct (β := S139) Try.underlying139 (by kernel_rfl) (fun x => (x.f0, x.f1, x.f2)) (fun p => ⟨p.1, p.2.1, p.2.2⟩) (fun _ => rfl) (opensF_cons rfl (by kernel_rfl) (opens_int Try.underlying5) (opensF_cons rfl (by kernel_rfl) (opens_int Try.underlying2) (opensF_last rfl (by kernel_rfl) (opens_int Try.underlying2))))).mono (fun _ h => h)
def g169 (x : S169) : Prop := ((Lit.int .i64 x.f0).wf = true) ∧ ((Lit.int .i64 x.f1).wf = true) ∧ (x.f2.length ≤ maxLen ∧ ∀ y ∈ x.f2, g87 y)
theorem o169 {H : Type} {enc : TypeId × Value → H} {w : World} : Opens enc Try.prog w k169 169 g169 := (opens_struct (β := S169) Try.underlying169 (by kernel_rfl) (fun x => (x.f0, x.f1, x.f2)) (fun p => ⟨p.1, p.2.1, p.2.2⟩) (fun _ => rfl) (opensF_cons rfl (by kernel_rfl) (opens_int Try.underlying2) (opensF_cons rfl (by kernel_rfl) (opens_int Try.underlying2) (opensF_last rfl (by kernel_rfl) (opens_slice (e' := 87) Try.underlying104 (by kernel_rfl) o87))))).mono (fun _ h => h)
theorem p62 {H : Type} {enc : TypeId × Value → H} {w : World} : Opens enc Try.prog w (Kd.iso (Kd.pair (Kd.iso (Kd.pair (Kd.int .i64) (Kd.pair (Kd.iso (Kd.pair (Kd.int .i64) (Kd.int .i64)) (fun x : (Int × Int) => x)) (Kd.int .i64))) (fun x : (Int × (Int × Int) × Int) => x)) (Kd.pair (Kd.int .i64) (Kd.pair (Kd.slice 2 (Kd.int .i64)) (Kd.slice 2 (Kd.int .i64))))) (fun x : ((Int × (Int × Int) × Int) × Int × (List Int) × (List Int)) => x)) 62 (fun x => (((Lit.int .i64 x.1.1).wf = true) ∧ (((Lit.int .i64 x.1.2.1.1).wf = true) ∧ ((Lit.int .i64 x.1.2.1.2).wf = true)) ∧ ((Lit.int .i64 x.1.2.2).wf = true)) ∧ ((Lit.int .i64 x.2.1).wf = true) ∧ (x.2.2.1.length ≤ maxLen ∧ ∀ y ∈ x.2.2.1, g2 y) ∧ (x.2.2.2.length ≤ maxLen ∧ ∀ y ∈ x.2.2.2, g2 y)) := (opens_struct (β := ((Int × (Int × Int) × Int) × Int × (List Int) × (List Int))) Try.underlying62 (by kernel_rfl) (fun x => x) (fun x => x) (fun _ => rfl) (opensF_cons rfl (by kernel_rfl) (opens_struct (β := (Int × (Int × Int) × Int)) Try.underlying60 (by kernel_rfl) (fun x => x) (fun x => x) (fun _ => rfl) (opensF_cons rfl (by kernel_rfl) (opens_int Try.underlying2) (opensF_cons rfl (by kernel_rfl) (opens_struct (β := (Int × Int)) Try.underlying58 (by kernel_rfl) (fun x => x) (fun x => x) (fun _ => rfl) (opensF_cons rfl (by kernel_rfl) (opens_int Try.underlying2) (opensF_last rfl (by kernel_rfl) (opens_int Try.underlying2)))) (opensF_last rfl (by kernel_rfl) (opens_int Try.underlying2))))) (opensF_cons rfl (by kernel_rfl) (opens_int Try.underlying2) (opensF_cons rfl (by kernel_rfl) (opens_slice (e' := 2) Try.underlying24 (by kernel_rfl) (opens_int Try.underlying2)) (opensF_last rfl (by kernel_rfl) (opens_slice (e' := 2) Try.underlying24 (by kernel_rfl) (opens_int Try.underlying2))))))).mono (fun _ h => h)
theorem p87 {H : Type} {enc : TypeId × Value → H} {w : World} : Opens enc Try.prog w (Kd.iso (Kd.pair (Kd.int .i64) (Kd.int .i64)) (fun x : (Int × Int) => x)) 87 (fun x => ((Lit.int .i64 x.1).wf = true) ∧ ((Lit.int .i64 x.2).wf = true)) := (opens_struct (β := (Int × Int)) Try.underlying87 (by kernel_rfl) (fun x => x) (fun x => x) (fun _ => rfl) (opensF_cons rfl (by kernel_rfl) (opens_int Try.underlying2) (opensF_last rfl (by kernel_rfl) (opens_int Try.underlying2)))).mono (fun _ h => h)
end Go.Proofs.Ytgpdjpololkhbaa.F

namespace Go.Proofs.Ytgpdjpololkhbaa.Pure
open Go.RowKit Go.Proofs.Ytgpdjpololkhbaa.F Go.Proofs.YtgpdjpololkhbaaW.PrintWords Go.Proofs.YtgpdjpololkhbaaW.PrintLast Go.Proofs.YtgpdjpololkhbaaW.PrintMore Go.Proofs.YtgpdjpololkhbaaB
set_option linter.unusedVariables false
set_option linter.unusedSimpArgs false
def plotB (a b c : Int) (d : Bool) : Bool := inB a (-1000000) 1000000 && inB b (-1000000) 1000000 && inB c 0 8 && !(d && c == 0)
/-- The plotter after a command, and whether it may be. -/
def stepM (a b c : Int) (d : Bool) (k x y : Int) : Int × Int × Int × Bool × Bool := if k = 80 then (a, b, x, false, true) else if k = 85 then (x, y, c, false, true) else (x, y, c, true, decide (c > 0))

end Go.Proofs.Ytgpdjpololkhbaa.Pure

namespace Go.Proofs.Ytgpdjpololkhbaa.Pure
open Go.RowKit Go.Proofs.Ytgpdjpololkhbaa.F Go.Proofs.YtgpdjpololkhbaaW.PrintWords Go.Proofs.YtgpdjpololkhbaaW.PrintLast Go.Proofs.YtgpdjpololkhbaaW.PrintMore Go.Proofs.YtgpdjpololkhbaaB
set_option linter.unusedVariables false
set_option linter.unusedSimpArgs false
theorem impl_Plotter_step_f (a b c : Int) (d : Bool) (k x y : Int) : impl_Plotter_step.f a b c d k x y = some (stepM a b c d k x y) := by
  unfold impl_Plotter_step.f stepM
  split <;> (try rfl)
  split <;> rfl

end Go.Proofs.Ytgpdjpololkhbaa.Pure

namespace Go.Proofs.Ytgpdjpololkhbaa.Pure
open Go.RowKit Go.Proofs.Ytgpdjpololkhbaa.F Go.Proofs.YtgpdjpololkhbaaW.PrintWords Go.Proofs.YtgpdjpololkhbaaW.PrintLast Go.Proofs.YtgpdjpololkhbaaW.PrintMore Go.Proofs.YtgpdjpololkhbaaB
set_option linter.unusedVariables false
set_option linter.unusedSimpArgs false
theorem impl_in_f (a b c : Int) : impl_in.f a b c = some (inB a b c) := inB_if a b c

end Go.Proofs.Ytgpdjpololkhbaa.Pure

namespace Go.Proofs.Ytgpdjpololkhbaa.Pure
open Go.RowKit Go.Proofs.Ytgpdjpololkhbaa.F Go.Proofs.YtgpdjpololkhbaaW.PrintWords Go.Proofs.YtgpdjpololkhbaaW.PrintLast Go.Proofs.YtgpdjpololkhbaaW.PrintMore Go.Proofs.YtgpdjpololkhbaaB
set_option linter.unusedVariables false
set_option linter.unusedSimpArgs false
theorem impl_isPen_f (a : Int) : impl_isPen.f a = some (inB a 1 8) := by
  simp only [impl_isPen.f, impl_in_f, Option.bind_some]

end Go.Proofs.Ytgpdjpololkhbaa.Pure

namespace Go.Proofs.Ytgpdjpololkhbaa.Pure
open Go.RowKit Go.Proofs.Ytgpdjpololkhbaa.F Go.Proofs.YtgpdjpololkhbaaW.PrintWords Go.Proofs.YtgpdjpololkhbaaW.PrintLast Go.Proofs.YtgpdjpololkhbaaW.PrintMore Go.Proofs.YtgpdjpololkhbaaB
set_option linter.unusedVariables false
set_option linter.unusedSimpArgs false
theorem impl_isSpot_f (a : Int) : impl_isSpot.f a = some (inB a (-1000000) 1000000) := by
  simp only [impl_isSpot.f, impl_in_f, Option.bind_some]

end Go.Proofs.Ytgpdjpololkhbaa.Pure

namespace Go.Proofs.Ytgpdjpololkhbaa.Pure
open Go.RowKit Go.Proofs.Ytgpdjpololkhbaa.F Go.Proofs.YtgpdjpololkhbaaW.PrintWords Go.Proofs.YtgpdjpololkhbaaW.PrintLast Go.Proofs.YtgpdjpololkhbaaW.PrintMore Go.Proofs.YtgpdjpololkhbaaB
set_option linter.unusedVariables false
set_option linter.unusedSimpArgs false
def isC (a b c : Int) : Bool := if a = 80 then inB b 1 8 && c == 0 else if a = 85 ∨ a = 68 then inB b (-1000000) 1000000 && inB c (-1000000) 1000000 else false
def isCm (x : S137) : Bool := isC x.f0 x.f1 x.f2
def codeC (l : List S137) : Int := if l.all isCm = true then (if 400 < l.length then 3 else 0) else 1
theorem rdC {xs ys : List S137} {y : S137} {m : Nat} (h : xs.drop m = y :: ys) : rd_T137 xs (m : Int) = y := (drop_cons h).2.1 _

end Go.Proofs.Ytgpdjpololkhbaa.Pure

namespace Go.Proofs.Ytgpdjpololkhbaa.Pure
open Go.RowKit Go.Proofs.Ytgpdjpololkhbaa.F Go.Proofs.YtgpdjpololkhbaaW.PrintWords Go.Proofs.YtgpdjpololkhbaaW.PrintLast Go.Proofs.YtgpdjpololkhbaaW.PrintMore Go.Proofs.YtgpdjpololkhbaaB
set_option linter.unusedVariables false
set_option linter.unusedSimpArgs false
theorem impl_isCommand_f (a b c : Int) : Ev (fun k => impl_isCommand.f k a b c) (isC a b c) := by
  refine ⟨1, fun k hk => ?_⟩
  obtain ⟨k, rfl⟩ : ∃ m, k = m + 1 := ⟨k - 1, by omega⟩
  simp only [impl_isCommand.f, impl_isCommand.j0, impl_isPen_f, impl_isSpot_f, Option.bind_some, isC]
  by_cases h : a = 80
  · simp only [if_pos h]
    cases inB b 1 8 <;> simp
  · simp only [if_neg h]
    by_cases h1 : a = 85 <;> by_cases h2 : a = 68 <;> cases inB b (-1000000) 1000000 <;> simp [h1, h2]

end Go.Proofs.Ytgpdjpololkhbaa.Pure

namespace Go.Proofs.Ytgpdjpololkhbaa.Pure
open Go.RowKit Go.Proofs.Ytgpdjpololkhbaa.F Go.Proofs.YtgpdjpololkhbaaW.PrintWords Go.Proofs.YtgpdjpololkhbaaW.PrintLast Go.Proofs.YtgpdjpololkhbaaW.PrintMore Go.Proofs.YtgpdjpololkhbaaB
set_option linter.unusedVariables false
set_option linter.unusedSimpArgs false
theorem impl_areCommands_l0 (xs : List S137) (hx : xs.length ≤ 9223372036854775807) : ∀ (ys : List S137) (m : Nat), xs.drop m = ys →
    Ev (fun k => impl_areCommands.l0 k xs xs.length m) (ys.all isCm)
  | [], m, h => by
    have := drop_nil h
    exact ev_step (fun _ => rfl) (ev_neg (by omega) (ev_now rfl))
  | y :: ys, m, h => by
    obtain ⟨hm, _, hd⟩ := drop_cons h
    refine ev_step (fun _ => rfl) (ev_pos (by omega) (ev_pos (by omega) (ev_pos (by omega) ?_)))
    rw [rdC h, w64 (by omega) (by omega)]
    refine ev_bind (impl_isCommand_f _ _ _) ?_
    rw [List.all_cons, show isC y.f0 y.f1 y.f2 = isCm y from rfl]
    cases hc : isCm y
    · exact ev_neg (by simp) (ev_now (by simp))
    · refine ev_pos rfl (ev_eq (impl_areCommands_l0 xs hx ys (m + 1) hd) (by simp))
theorem impl_areCommands_f (xs : List S137) (hx : xs.length ≤ 9223372036854775807) : Ev (fun k => impl_areCommands.f k xs) (xs.all isCm) := impl_areCommands_l0 xs hx xs 0 rfl

end Go.Proofs.Ytgpdjpololkhbaa.Pure

namespace Go.Proofs.Ytgpdjpololkhbaa.Pure
open Go.RowKit Go.Proofs.Ytgpdjpololkhbaa.F Go.Proofs.YtgpdjpololkhbaaW.PrintWords Go.Proofs.YtgpdjpololkhbaaW.PrintLast Go.Proofs.YtgpdjpololkhbaaW.PrintMore Go.Proofs.YtgpdjpololkhbaaB
set_option linter.unusedVariables false
set_option linter.unusedSimpArgs false
theorem impl_program_f (xs : List S137) (hx : xs.length ≤ 9223372036854775807) : Ev (fun k => impl_program.f k xs) (codeC xs) := by
  refine ev_bind (impl_areCommands_f xs hx) ?_
  unfold codeC
  cases xs.all isCm
  · exact ev_neg (by simp) (ev_now (by simp))
  · refine ev_pos rfl (ev_now ?_)
    by_cases h : 400 < xs.length
    · rw [if_pos (by omega), if_pos rfl, if_pos h]
    · rw [if_neg (by omega), if_pos rfl, if_neg h]

end Go.Proofs.Ytgpdjpololkhbaa.Pure

namespace Go.Proofs.Ytgpdjpololkhbaa.Pure
open Go.RowKit Go.Proofs.Ytgpdjpololkhbaa.F Go.Proofs.YtgpdjpololkhbaaW.PrintWords Go.Proofs.YtgpdjpololkhbaaW.PrintLast Go.Proofs.YtgpdjpololkhbaaW.PrintMore Go.Proofs.YtgpdjpololkhbaaB
set_option linter.unusedVariables false
set_option linter.unusedSimpArgs false
theorem half_mid (a b : Int) (h0 : 0 ≤ a) (h1 : a ≤ b) (h2 : b ≤ 2000000001) : wrap64 (Int.tdiv (wrap64 (a + b)) 2) = (a + b) / 2 := by
  rw [w64 (x := a + b) (by omega) (by omega), Int.tdiv_eq_ediv_of_nonneg (by omega), w64 (by omega) (by omega)]
theorem sq_le (m : Int) (h0 : 0 ≤ m) (h1 : m ≤ 2000000001) : wrap64 (m * m) = m * m := by
  have h2 : m * m ≤ 2000000001 * 2000000001 := Int.mul_le_mul h1 h1 h0 (by omega)
  have h3 : 0 ≤ m * m := Int.mul_nonneg h0 h0
  exact w64 (by omega) (by omega)
theorem spec_l01Root_l0 (n : Int) : ∀ (d : Nat) (a b : Int), (b - a).toNat ≤ d → 0 ≤ a → a < b → b ≤ 2000000001 →
    ∃ r, Ev (fun k => spec_l01Root.l0 k n a b) r ∧ a ≤ r ∧ r < b ∧ (a * a ≤ n → r * r ≤ n) ∧ (n < b * b → n < (r + 1) * (r + 1))
  | 0, a, b, hd, h0, h1, h2 => by omega
  | d + 1, a, b, hd, h0, h1, h2 => by
    by_cases h : b - a > 1
    · have hm := half_mid a b h0 (by omega) h2
      have hs := sq_le ((a + b) / 2) (by omega) (by omega)
      by_cases hc : ((a + b) / 2) * ((a + b) / 2) ≤ n
      · obtain ⟨r, hr, g1, g2, g3, g4⟩ := spec_l01Root_l0 n d ((a + b) / 2) b (by omega) (by omega) (by omega) h2
        refine ⟨r, ?_, by omega, g2, fun _ => g3 hc, g4⟩
        refine ev_step (fun _ => rfl) (ev_pos (by rw [w64 (by omega) (by omega)]; exact h) ?_)
        rw [hm, hs]
        exact ev_pos hc hr
      · obtain ⟨r, hr, g1, g2, g3, g4⟩ := spec_l01Root_l0 n d a ((a + b) / 2) (by omega) h0 (by omega) (by omega)
        refine ⟨r, ?_, g1, by omega, g3, fun _ => g4 (by omega)⟩
        refine ev_step (fun _ => rfl) (ev_pos (by rw [w64 (by omega) (by omega)]; exact h) ?_)
        rw [hm, hs]
        exact ev_neg hc hr
    · refine ⟨a, ev_step (fun _ => rfl) (ev_neg (by rw [w64 (by omega) (by omega)]; exact h) (ev_now rfl)), Int.le_refl _, h1, fun h => h, fun hn => ?_⟩
      rw [show a + 1 = b by omega]
      exact hn
theorem root_ex (n : Int) : ∃ r, Ev (fun k => spec_l01Root.f k n) r ∧ 0 ≤ r ∧ r ≤ 2000000000 ∧ (0 ≤ n → r * r ≤ n) ∧ (n < 2000000001 * 2000000001 → n < (r + 1) * (r + 1)) := by
  obtain ⟨r, h1, h2, h3, h4, h5⟩ := spec_l01Root_l0 n 2000000001 0 2000000001 (by omega) (by omega) (by omega) (by omega)
  exact ⟨r, h1, h2, by omega, fun h => h4 (by omega), h5⟩
noncomputable def rootM (n : Int) : Int := Classical.choose (root_ex n)
theorem rootM_spec (n : Int) : 0 ≤ rootM n ∧ rootM n ≤ 2000000000 ∧ (0 ≤ n → rootM n * rootM n ≤ n) ∧ (n < 2000000001 * 2000000001 → n < (rootM n + 1) * (rootM n + 1)) := (Classical.choose_spec (root_ex n)).2
theorem spec_l01Root_f (n : Int) : Ev (fun k => spec_l01Root.f k n) (rootM n) := (Classical.choose_spec (root_ex n)).1

end Go.Proofs.Ytgpdjpololkhbaa.Pure

namespace Go.Proofs.Ytgpdjpololkhbaa.Pure
open Go.RowKit Go.Proofs.Ytgpdjpololkhbaa.F Go.Proofs.YtgpdjpololkhbaaW.PrintWords Go.Proofs.YtgpdjpololkhbaaW.PrintLast Go.Proofs.YtgpdjpololkhbaaW.PrintMore Go.Proofs.YtgpdjpololkhbaaB
set_option linter.unusedVariables false
set_option linter.unusedSimpArgs false
def sqM (a b c d : Int) : Int := wrap64 ((wrap64 ((wrap64 (a - c)) * (wrap64 (a - c)))) + (wrap64 ((wrap64 (b - d)) * (wrap64 (b - d)))))
noncomputable def distM (a b c d : Int) : Int := rootM (sqM a b c d)
noncomputable def idleM (t a b : Int) : List S110 → Int
  | [] => t
  | y :: ys => idleM (wrap64 (t + distM a b (rd_T90 y.f1 0).f0 (rd_T90 y.f1 0).f1)) (rd_T90 y.f1 (y.f1.length - 1)).f0 (rd_T90 y.f1 (y.f1.length - 1)).f1 ys

end Go.Proofs.Ytgpdjpololkhbaa.Pure

namespace Go.Proofs.Ytgpdjpololkhbaa.Pure
open Go.RowKit Go.Proofs.Ytgpdjpololkhbaa.F Go.Proofs.YtgpdjpololkhbaaW.PrintWords Go.Proofs.YtgpdjpololkhbaaW.PrintLast Go.Proofs.YtgpdjpololkhbaaW.PrintMore Go.Proofs.YtgpdjpololkhbaaB
set_option linter.unusedVariables false
set_option linter.unusedSimpArgs false
def lineN (k a b x y : Int) (line : List S90) : List S90 := if k = 68 then (if (line.length : Int) = 0 then [⟨a, b⟩] else line) ++ [⟨x, y⟩] else line
def upN (k up way : Int) : Int := if k = 68 then up else wrap64 (up + way)
def dnN (k dn way : Int) : Int := if k = 68 then wrap64 (dn + way) else dn
def pensN (k p : Int) : Int := if k = 80 then wrap64 (p + 1) else p
/-- Whether a stroke is at its end: there is one, and no D follows. -/
def endB (line : List S90) : List S137 → Bool
  | [] => decide (0 < line.length)
  | z :: _ => decide (0 < line.length) && !decide (z.f0 = 68)
/-- What commands do: the plotter, the strokes, the ways up and down, the pens, the code. -/
noncomputable def runM : List S137 → Int → Int → Int → Bool → List S90 → List S110 → Int → Int → Int → Int × Int × Int × Bool × List S110 × Int × Int × Int × Int
  | [], a, b, c, d, _, st, up, dn, p => (a, b, c, d, st, up, dn, p, 0)
  | y :: ys, a, b, c, d, line, st, up, dn, p =>
    if (stepM a b c d y.f0 y.f1 y.f2).2.2.2.2 = true then
      runM ys (stepM a b c d y.f0 y.f1 y.f2).1 (stepM a b c d y.f0 y.f1 y.f2).2.1 (stepM a b c d y.f0 y.f1 y.f2).2.2.1 (stepM a b c d y.f0 y.f1 y.f2).2.2.2.1
        (if endB (lineN y.f0 a b (stepM a b c d y.f0 y.f1 y.f2).1 (stepM a b c d y.f0 y.f1 y.f2).2.1 line) ys = true then [] else lineN y.f0 a b (stepM a b c d y.f0 y.f1 y.f2).1 (stepM a b c d y.f0 y.f1 y.f2).2.1 line)
        (if endB (lineN y.f0 a b (stepM a b c d y.f0 y.f1 y.f2).1 (stepM a b c d y.f0 y.f1 y.f2).2.1 line) ys = true then st ++ [⟨c, lineN y.f0 a b (stepM a b c d y.f0 y.f1 y.f2).1 (stepM a b c d y.f0 y.f1 y.f2).2.1 line⟩] else st)
        (upN y.f0 up (distM a b (stepM a b c d y.f0 y.f1 y.f2).1 (stepM a b c d y.f0 y.f1 y.f2).2.1)) (dnN y.f0 dn (distM a b (stepM a b c d y.f0 y.f1 y.f2).1 (stepM a b c d y.f0 y.f1 y.f2).2.1)) (pensN y.f0 p)
    else (0, 0, 0, false, [], 0, 0, 0, 5)
theorem runM_cons (y : S137) (ys : List S137) (a b c : Int) (d : Bool) (line : List S90) (st : List S110) (up dn p : Int) (s : Int × Int × Int × Bool × Bool) (hs : stepM a b c d y.f0 y.f1 y.f2 = s) :
    runM (y :: ys) a b c d line st up dn p = if s.2.2.2.2 = true then runM ys s.1 s.2.1 s.2.2.1 s.2.2.2.1 (if endB (lineN y.f0 a b s.1 s.2.1 line) ys = true then [] else lineN y.f0 a b s.1 s.2.1 line) (if endB (lineN y.f0 a b s.1 s.2.1 line) ys = true then st ++ [⟨c, lineN y.f0 a b s.1 s.2.1 line⟩] else st) (upN y.f0 up (distM a b s.1 s.2.1)) (dnN y.f0 dn (distM a b s.1 s.2.1)) (pensN y.f0 p) else (0, 0, 0, false, [], 0, 0, 0, 5) := by
  subst hs
  rfl
noncomputable def allM (xs : List S137) : Int × Int × Int × Bool × List S110 × Int × Int × Int × Int := if codeC xs = 0 then runM xs 0 0 0 false [] [] 0 0 0 else (0, 0, 0, false, [], 0, 0, 0, codeC xs)

end Go.Proofs.Ytgpdjpololkhbaa.Pure

namespace Go.Proofs.Ytgpdjpololkhbaa.Pure
open Go.RowKit Go.Proofs.Ytgpdjpololkhbaa.F Go.Proofs.YtgpdjpololkhbaaW.PrintWords Go.Proofs.YtgpdjpololkhbaaW.PrintLast Go.Proofs.YtgpdjpololkhbaaW.PrintMore Go.Proofs.YtgpdjpololkhbaaB
set_option linter.unusedVariables false
set_option linter.unusedSimpArgs false
/-- The plotter behind commands, and whether they may be. -/
def lastM : List S137 → Int → Int → Int → Bool → Int × Int × Int × Bool × Bool
  | [], a, b, c, d => (a, b, c, d, true)
  | y :: ys, a, b, c, d => if (stepM a b c d y.f0 y.f1 y.f2).2.2.2.2 = true then lastM ys (stepM a b c d y.f0 y.f1 y.f2).1 (stepM a b c d y.f0 y.f1 y.f2).2.1 (stepM a b c d y.f0 y.f1 y.f2).2.2.1 (stepM a b c d y.f0 y.f1 y.f2).2.2.2.1 else (a, b, c, d, false)
theorem lastM_cons (y : S137) (ys : List S137) (a b c : Int) (d : Bool) (s : Int × Int × Int × Bool × Bool) (hs : stepM a b c d y.f0 y.f1 y.f2 = s) : lastM (y :: ys) a b c d = if s.2.2.2.2 = true then lastM ys s.1 s.2.1 s.2.2.1 s.2.2.2.1 else (a, b, c, d, false) := by
  subst hs
  rfl
/-- A run tells the plotter that is last; it stops where that does. -/
theorem runM_last : ∀ (ys : List S137) (a b c : Int) (d : Bool) (line : List S90) (st : List S110) (up dn p : Int),
    ((lastM ys a b c d).2.2.2.2 = true ∧ (runM ys a b c d line st up dn p).2.2.2.2.2.2.2.2 = 0 ∧ (runM ys a b c d line st up dn p).1 = (lastM ys a b c d).1 ∧ (runM ys a b c d line st up dn p).2.1 = (lastM ys a b c d).2.1 ∧ (runM ys a b c d line st up dn p).2.2.1 = (lastM ys a b c d).2.2.1 ∧ (runM ys a b c d line st up dn p).2.2.2.1 = (lastM ys a b c d).2.2.2.1) ∨
    ((lastM ys a b c d).2.2.2.2 = false ∧ runM ys a b c d line st up dn p = (0, 0, 0, false, [], 0, 0, 0, 5))
  | [], a, b, c, d, line, st, up, dn, p => .inl ⟨rfl, rfl, rfl, rfl, rfl, rfl⟩
  | y :: ys, a, b, c, d, line, st, up, dn, p => by
    generalize hs : stepM a b c d y.f0 y.f1 y.f2 = s
    rw [lastM_cons y ys a b c d s hs, runM_cons y ys a b c d line st up dn p s hs]
    by_cases h : s.2.2.2.2 = true
    · rw [if_pos h, if_pos h]
      exact runM_last ys _ _ _ _ _ _ _ _ _
    · rw [if_neg h, if_neg h]
      exact .inr ⟨rfl, rfl⟩
def resRun (xs : List S137) : Int × Int × Int × Bool × Int := if codeC xs = 0 then (if (lastM xs 0 0 0 false).2.2.2.2 = true then ((lastM xs 0 0 0 false).1, (lastM xs 0 0 0 false).2.1, (lastM xs 0 0 0 false).2.2.1, (lastM xs 0 0 0 false).2.2.2.1, 0) else (0, 0, 0, false, 5)) else (0, 0, 0, false, codeC xs)

end Go.Proofs.Ytgpdjpololkhbaa.Pure

namespace Go.Proofs.Ytgpdjpololkhbaa.Pure
open Go.RowKit Go.Proofs.Ytgpdjpololkhbaa.F Go.Proofs.YtgpdjpololkhbaaW.PrintWords Go.Proofs.YtgpdjpololkhbaaW.PrintLast Go.Proofs.YtgpdjpololkhbaaW.PrintMore Go.Proofs.YtgpdjpololkhbaaB
set_option linter.unusedVariables false
set_option linter.unusedSimpArgs false
theorem impl_RunPlotter_go : ∀ (ys : List S137) (a b c : Int) (d : Bool), impl_RunPlotter.go ys a b c d a b c d = some (lastM ys a b c d)
  | [], a, b, c, d => rfl
  | y :: ys, a, b, c, d => by
    generalize hs : stepM a b c d y.f0 y.f1 y.f2 = s
    rw [lastM_cons y ys a b c d s hs]
    unfold impl_RunPlotter.go
    rw [impl_Plotter_step_f, hs]
    show (if s.2.2.2.2 = true then impl_RunPlotter.go ys s.1 s.2.1 s.2.2.1 s.2.2.2.1 s.1 s.2.1 s.2.2.1 s.2.2.2.1 else some (a, b, c, d, false)) = _
    by_cases h : s.2.2.2.2 = true
    · rw [if_pos h, if_pos h]
      exact impl_RunPlotter_go ys _ _ _ _
    · rw [if_neg h, if_neg h]
theorem impl_RunPlotter_f (xs : List S137) (hx : xs.length ≤ 1048576) : Ev (fun k => impl_RunPlotter.f k xs) (resRun xs) := by
  refine ev_bind (impl_program_f xs (by omega)) ?_
  unfold resRun
  refine ev_ite (fun h => ?_) (fun h => ?_)
  · rw [if_pos h]
    refine ev_some (impl_RunPlotter_go xs 0 0 0 false) ?_
    refine ev_ite (fun hq => ?_) (fun hq => ?_)
    · rw [if_pos hq]
      exact ev_now rfl
    · rw [if_neg hq]
      exact ev_now rfl
  · rw [if_neg h]
    exact ev_now rfl

end Go.Proofs.Ytgpdjpololkhbaa.Pure

namespace Go.Proofs.Ytgpdjpololkhbaa.Pure
open Go.RowKit Go.Proofs.Ytgpdjpololkhbaa.F Go.Proofs.YtgpdjpololkhbaaW.PrintWords Go.Proofs.YtgpdjpololkhbaaW.PrintLast Go.Proofs.YtgpdjpololkhbaaW.PrintMore Go.Proofs.YtgpdjpololkhbaaB
set_option linter.unusedVariables false
set_option linter.unusedSimpArgs false
theorem laws_eqCommandS_l0 (xs : List S137) (hx : xs.length ≤ 9223372036854775807) : ∀ (ys : List S137) (m : Nat), xs.drop m = ys →
    Ev (fun k => laws_eqCommandS.l0 k xs xs m) true
  | [], m, h => by
    have := drop_nil h
    exact ev_step (fun _ => rfl) (ev_neg (by omega) (ev_now rfl))
  | y :: ys, m, h => by
    obtain ⟨hm, _, hd⟩ := drop_cons h
    refine ev_step (fun _ => rfl) (ev_pos (by omega) (ev_pos (by omega) (ev_pos (by omega) ?_)))
    rw [rdC h, w64 (by omega) (by omega)]
    refine ev_some (a := true) (by simp [laws_eqCommand.f]) (ev_pos rfl ?_)
    exact laws_eqCommandS_l0 xs hx ys (m + 1) hd
theorem laws_eqCommandS_f (xs : List S137) (hx : xs.length ≤ 9223372036854775807) : Ev (fun k => laws_eqCommandS.f k xs xs) true := ev_pos rfl (laws_eqCommandS_l0 xs hx xs 0 rfl)

end Go.Proofs.Ytgpdjpololkhbaa.Pure

namespace Go.Proofs.Ytgpdjpololkhbaa.Pure
open Go.RowKit Go.Proofs.Ytgpdjpololkhbaa.F Go.Proofs.YtgpdjpololkhbaaW.PrintWords Go.Proofs.YtgpdjpololkhbaaW.PrintLast Go.Proofs.YtgpdjpololkhbaaW.PrintMore Go.Proofs.YtgpdjpololkhbaaB
set_option linter.unusedVariables false
set_option linter.unusedSimpArgs false
theorem laws_eqPlotter_f (a b c : Int) (d : Bool) : laws_eqPlotter.f a b c d a b c d = some true := by
  unfold laws_eqPlotter.f
  rw [if_pos rfl, if_pos rfl, if_pos rfl, if_neg (by simp)]

end Go.Proofs.Ytgpdjpololkhbaa.Pure

namespace Go.Proofs.Ytgpdjpololkhbaa.Pure
open Go.RowKit Go.Proofs.Ytgpdjpololkhbaa.F Go.Proofs.YtgpdjpololkhbaaW.PrintWords Go.Proofs.YtgpdjpololkhbaaW.PrintLast Go.Proofs.YtgpdjpololkhbaaW.PrintMore Go.Proofs.YtgpdjpololkhbaaB
set_option linter.unusedVariables false
set_option linter.unusedSimpArgs false
theorem laws_szCommandS_f (xs : List S139) (a : Int) (h0 : 0 ≤ a) (h1 : a ≤ 1048576) (hx : xs.length ≤ 9223372036854775807) : laws_szCommandS.f xs a = some (if a < xs.length then -1 else a - xs.length) := by
  unfold laws_szCommandS.f
  rw [w64 (by omega) (by omega)]
  by_cases h : a < xs.length
  · rw [if_pos (by omega), if_pos h]
  · rw [if_neg (by omega), if_neg h]

end Go.Proofs.Ytgpdjpololkhbaa.Pure

namespace Go.Proofs.Ytgpdjpololkhbaa.Pure
open Go.RowKit Go.Proofs.Ytgpdjpololkhbaa.F Go.Proofs.YtgpdjpololkhbaaW.PrintWords Go.Proofs.YtgpdjpololkhbaaW.PrintLast Go.Proofs.YtgpdjpololkhbaaW.PrintMore Go.Proofs.YtgpdjpololkhbaaB
set_option linter.unusedVariables false
set_option linter.unusedSimpArgs false
def toC (x : S139) : S137 := ⟨x.f0, x.f1, x.f2⟩
theorem rdLC {xs ys : List S139} {y : S139} {m : Nat} (h : xs.drop m = y :: ys) : rd_T139 xs (m : Int) = y := (drop_cons h).2.1 _
theorem laws_toCommandS_l0 (xs : List S139) (hx : xs.length ≤ 9223372036854775807) : ∀ (ys : List S139) (m : Nat) (out : List S137), xs.drop m = ys → out.length = xs.length → out.take m = (xs.take m).map toC →
    Ev (fun k => laws_toCommandS.l0 k xs out m) (xs.map toC)
  | [], m, out, h, hl, ht => by
    have := drop_nil h
    refine ev_step (fun _ => rfl) (ev_neg (by omega) (ev_now ?_))
    rw [List.take_of_length_le (by omega), List.take_of_length_le this] at ht
    rw [ht]
  | y :: ys, m, out, h, hl, ht => by
    obtain ⟨hm, _, hd⟩ := drop_cons h
    refine ev_step (fun _ => rfl) (ev_pos (by omega) (ev_pos (by omega) ?_))
    rw [rdLC h, w64 (by omega) (by omega)]
    refine ev_some (a := (y.f0, y.f1, y.f2)) rfl (ev_pos (by omega) ?_)
    refine laws_toCommandS_l0 xs hx ys (m + 1) _ hd (by rw [List.length_set, hl]) ?_
    rw [take_snoc h, List.map_append, ← ht, Int.toNat_natCast, List.set_eq_take_append_cons_drop, if_pos (by omega), List.take_append, List.take_of_length_le (by rw [List.length_take]; omega), List.length_take, show m + 1 - min m out.length = 1 by omega]
    rfl
theorem laws_toCommandS_f (xs : List S139) (hx : xs.length ≤ 1048576) : Ev (fun k => laws_toCommandS.f k xs) (xs.map toC) := by
  refine ev_pos (by omega) (ev_pos (by omega) ?_)
  exact laws_toCommandS_l0 xs (by omega) xs 0 _ rfl (by simp) rfl

end Go.Proofs.Ytgpdjpololkhbaa.Pure

namespace Go.Proofs.Ytgpdjpololkhbaa.Pure
open Go.RowKit Go.Proofs.Ytgpdjpololkhbaa.F Go.Proofs.YtgpdjpololkhbaaW.PrintWords Go.Proofs.YtgpdjpololkhbaaW.PrintLast Go.Proofs.YtgpdjpololkhbaaW.PrintMore Go.Proofs.YtgpdjpololkhbaaB
set_option linter.unusedVariables false
set_option linter.unusedSimpArgs false
theorem spec_l01In_f (a b c : Int) : spec_l01In.f a b c = some (inB a b c) := inB_if a b c

end Go.Proofs.Ytgpdjpololkhbaa.Pure

namespace Go.Proofs.Ytgpdjpololkhbaa.Pure
open Go.RowKit Go.Proofs.Ytgpdjpololkhbaa.F Go.Proofs.YtgpdjpololkhbaaW.PrintWords Go.Proofs.YtgpdjpololkhbaaW.PrintLast Go.Proofs.YtgpdjpololkhbaaW.PrintMore Go.Proofs.YtgpdjpololkhbaaB
set_option linter.unusedVariables false
set_option linter.unusedSimpArgs false
theorem spec_l14Point_f (a b : Int) : spec_l14Point.f a b = some (inB a (-1000000) 1000000 && inB b (-1000000) 1000000) := by
  simp only [spec_l14Point.f, spec_l01In_f, Option.bind_some]
  cases inB a (-1000000) 1000000 <;> simp

end Go.Proofs.Ytgpdjpololkhbaa.Pure

namespace Go.Proofs.Ytgpdjpololkhbaa.Pure
open Go.RowKit Go.Proofs.Ytgpdjpololkhbaa.F Go.Proofs.YtgpdjpololkhbaaW.PrintWords Go.Proofs.YtgpdjpololkhbaaW.PrintLast Go.Proofs.YtgpdjpololkhbaaW.PrintMore Go.Proofs.YtgpdjpololkhbaaB
set_option linter.unusedVariables false
set_option linter.unusedSimpArgs false
theorem spec_l28Pen_f (a : Int) : spec_l28Pen.f a = some (inB a 1 8) := by
  simp only [spec_l28Pen.f, spec_l01In_f, Option.bind_some]

end Go.Proofs.Ytgpdjpololkhbaa.Pure

namespace Go.Proofs.Ytgpdjpololkhbaa.Pure
open Go.RowKit Go.Proofs.Ytgpdjpololkhbaa.F Go.Proofs.YtgpdjpololkhbaaW.PrintWords Go.Proofs.YtgpdjpololkhbaaW.PrintLast Go.Proofs.YtgpdjpololkhbaaW.PrintMore Go.Proofs.YtgpdjpololkhbaaB
set_option linter.unusedVariables false
set_option linter.unusedSimpArgs false
theorem spec_l29Is_f (a b c : Int) : spec_l29Is.f a b c = some (isC a b c) := by
  simp only [spec_l29Is.f, spec_l28Pen_f, spec_l14Point_f, Option.bind_some, isC]
  by_cases h : a = 80
  · simp only [if_pos h]
    cases inB b 1 8 <;> simp
  · simp only [if_neg h]
    by_cases h1 : a = 85 <;> by_cases h2 : a = 68 <;> simp [h1, h2]

end Go.Proofs.Ytgpdjpololkhbaa.Pure

namespace Go.Proofs.Ytgpdjpololkhbaa.Pure
open Go.RowKit Go.Proofs.Ytgpdjpololkhbaa.F Go.Proofs.YtgpdjpololkhbaaW.PrintWords Go.Proofs.YtgpdjpololkhbaaW.PrintLast Go.Proofs.YtgpdjpololkhbaaW.PrintMore Go.Proofs.YtgpdjpololkhbaaB
set_option linter.unusedVariables false
set_option linter.unusedSimpArgs false
theorem spec_l29Code_l0 (xs : List S137) (hx : xs.length ≤ 9223372036854775807) : ∀ (ys : List S137) (m : Nat), xs.drop m = ys →
    Ev (fun k => spec_l29Code.l0 k xs m) (if ys.all isCm = true then (if 400 < xs.length then 3 else 0) else 1)
  | [], m, h => by
    have := drop_nil h
    refine ev_step (fun _ => rfl) (ev_neg (by omega) (ev_now ?_))
    simp only [List.all_nil, if_true]
    by_cases h4 : 400 < xs.length
    · rw [if_pos (by omega), if_pos h4]
    · rw [if_neg (by omega), if_neg h4]
  | y :: ys, m, h => by
    obtain ⟨hm, _, hd⟩ := drop_cons h
    refine ev_step (fun _ => rfl) (ev_pos (by omega) (ev_pos (by omega) ?_))
    rw [rdC h, w64 (by omega) (by omega)]
    refine ev_some (spec_l29Is_f _ _ _) ?_
    rw [List.all_cons, show isC y.f0 y.f1 y.f2 = isCm y from rfl]
    cases hc : isCm y
    · exact ev_neg (by simp) (ev_now (by simp))
    · refine ev_pos rfl (ev_eq (spec_l29Code_l0 xs hx ys (m + 1) hd) (by simp))
theorem spec_l29Code_f (xs : List S137) (hx : xs.length ≤ 9223372036854775807) : Ev (fun k => spec_l29Code.f k xs) (codeC xs) := spec_l29Code_l0 xs hx xs 0 rfl

end Go.Proofs.Ytgpdjpololkhbaa.Pure
