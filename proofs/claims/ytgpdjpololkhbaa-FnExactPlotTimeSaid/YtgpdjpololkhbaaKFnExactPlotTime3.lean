/-
  A part of the proof of FnExactPlotTime: contracts of the Go functions that it reaches, and plain statements on what they come to; each says its own conditions.
-/
import Derived.Test.YtgpdjpololkhbaaKFnExactPlotTime2

namespace Go.Proofs.Ytgpdjpololkhbaa.F
open Go.RowKit Go.Proofs.YtgpdjpololkhbaaW.PrintWords Go.Proofs.YtgpdjpololkhbaaW.PrintLast Go.Proofs.YtgpdjpololkhbaaW.PrintMore
abbrev d1_ := @List.setIfInBounds_toArray
abbrev d2_ := @List.set_cons_zero
abbrev d3_ := @List.set_cons_succ
abbrev b1_ := @blk_drewN
abbrev b2_ := @blk_drew
abbrev b3_ := @blk_alloc
abbrev b4_ := @below_alloc
abbrev b5_ := @pw_below_drewN
abbrev b6_ := @below_drew1
abbrev b7_ := @below_set
abbrev b8_ := @Kd.N_alloc
abbrev b9_ := @Kd.N_drewN
abbrev c1_ := @Kd.N_drew
abbrev c2_ := @Kd.R_alloc
abbrev c3_ := @Kd.R_drewN
abbrev c4_ := @Kd.R_drew
abbrev c5_ := @World.block_lt_of_cell?
abbrev c6_ := @blk_below
abbrev c7_ := @Nat.lt_of_lt_of_le
abbrev c8_ := @Nat.ne_of_lt
abbrev c9_ := @Aside0.mk
abbrev e1_ := @blk_cell
abbrev e2_ := @blk_frozen
abbrev e3_ := @add_block
abbrev e4_ := @cell_far
abbrev e5_ := @blk_far
abbrev e6_ := @Nat.le_trans
abbrev e7_ := @below_size
attribute [local go_sem] max2_int min2_int max_two min_two max_three min_three max_four min_four   -- for this text's walks alone
set_option linter.unusedVariables false
set_option linter.unusedSimpArgs false

/-! ### spec_l30All: function 111 -/
mutual
def spec_l30All.l0 : Nat → List (S137) → List (S90) → Int → Int → Int → Int → Bool → List (S110) → Int → Int → Int → Option (Int × Int × Int × Bool × (List (S110)) × Int × Int × Int × Int)
 | 0, _, _, _, _, _, _, _, _, _, _, _ => none
 | k + 1, x0, x6, x7, z0, z1, z3, jc, z2, z4, z5, z6 => if x7 < (x0.length : Int) then (if 0 ≤ x7 then ((spec_l30Step.f z0 z1 z3 jc ((rd_T137 x0 x7).f0) ((rd_T137 x0 x7).f1) ((rd_T137 x0 x7).f2)).bind fun ja => (if ja.2.2.2.2 = true then ((spec_l16Square.f z0 z1 ja.1 ja.2.1).bind fun t843 => ((spec_l01Root.f k t843).bind fun zV => (if ((rd_T137 x0 x7).f0) = 68 then (if (x6.length : Int) = 0 then ((some (([(⟨z0, z1⟩ : S90)] : List (S90)) : List (S90))).bind fun y846 => (if x6.length + y846.length < 8796093022208 then ((some (x6 ++ y846 : List (S90))).bind fun y849 => ((some (([(⟨ja.1, ja.2.1⟩ : S90)] : List (S90)) : List (S90))).bind fun y852 => (if y849.length + y852.length < 8796093022208 then (spec_l30All.j1 k x0 (y849 ++ y852) x7 z0 z1 z3 jc z2 z4 (wrap64 (z5 + zV)) z6 ja.1 ja.2.1 ja.2.2.1 ja.2.2.2.1) else (none)))) else (none))) else ((some (([(⟨ja.1, ja.2.1⟩ : S90)] : List (S90)) : List (S90))).bind fun y858 => (if x6.length + y858.length < 8796093022208 then (spec_l30All.j1 k x0 (x6 ++ y858) x7 z0 z1 z3 jc z2 z4 (wrap64 (z5 + zV)) z6 ja.1 ja.2.1 ja.2.2.1 ja.2.2.2.1) else (none)))) else (spec_l30All.j1 k x0 x6 x7 z0 z1 z3 jc z2 (wrap64 (z4 + zV)) z5 z6 ja.1 ja.2.1 ja.2.2.1 ja.2.2.2.1)))) else (some (0, 0, 0, false, ([] : List (S110)), 0, 0, 0, 5)))) else (none)) else (some (z0, z1, z3, jc, z2, z4, z5, z6, 0))
def spec_l30All.j1 : Nat → List (S137) → List (S90) → Int → Int → Int → Int → Bool → List (S110) → Int → Int → Int → Int → Int → Int → Bool → Option (Int × Int × Int × Bool × (List (S110)) × Int × Int × Int × Int)
 | 0, _, _, _, _, _, _, _, _, _, _, _, _, _, _, _ => none
 | k + 1, x0, x6, x7, z0, z1, z3, jc, z2, z4, z5, z6, jd, je, jf, jg => if 0 ≤ x7 then (if x7 < (x0.length : Int) then (if ((rd_T137 x0 x7).f0) = 80 then (spec_l30All.j2 k x0 x6 x7 z0 z1 z3 jc z2 z4 z5 (wrap64 (z6 + 1)) jd je jf jg) else (spec_l30All.j2 k x0 x6 x7 z0 z1 z3 jc z2 z4 z5 z6 jd je jf jg)) else (none)) else (none)
def spec_l30All.j2 : Nat → List (S137) → List (S90) → Int → Int → Int → Int → Bool → List (S110) → Int → Int → Int → Int → Int → Int → Bool → Option (Int × Int × Int × Bool × (List (S110)) × Int × Int × Int × Int)
 | 0, _, _, _, _, _, _, _, _, _, _, _, _, _, _, _ => none
 | k + 1, x0, x6, x7, z0, z1, z3, jc, z2, z4, z5, z6, jd, je, jf, jg => if (x6.length : Int) > 0 then (if (wrap64 (x7 + 1)) = (x0.length : Int) then (spec_l30All.j3 k x0 x6 x7 true z0 z1 z3 jc z2 z4 z5 z6 jd je jf jg) else (if 0 ≤ (wrap64 (x7 + 1)) then (if (wrap64 (x7 + 1)) < (x0.length : Int) then (spec_l30All.j3 k x0 x6 x7 (((rd_T137 x0 (wrap64 (x7 + 1))).f0) != 68) z0 z1 z3 jc z2 z4 z5 z6 jd je jf jg) else (none)) else (none))) else (spec_l30All.j3 k x0 x6 x7 false z0 z1 z3 jc z2 z4 z5 z6 jd je jf jg)
def spec_l30All.j3 : Nat → List (S137) → List (S90) → Int → Bool → Int → Int → Int → Bool → List (S110) → Int → Int → Int → Int → Int → Int → Bool → Option (Int × Int × Int × Bool × (List (S110)) × Int × Int × Int × Int)
 | 0, _, _, _, _, _, _, _, _, _, _, _, _, _, _, _, _ => none
 | k + 1, x0, x6, x7, x113, z0, z1, z3, jc, z2, z4, z5, z6, jd, je, jf, jg => if x113 = true then ((some (([] : List (S110)) : List (S110))).bind fun y866 => (if y866.length + z2.length < 4398046511104 then ((some (y866 ++ z2 : List (S110))).bind fun y869 => ((some (([(⟨z3, x6⟩ : S110)] : List (S110)) : List (S110))).bind fun y872 => (if y869.length + y872.length < 4398046511104 then (spec_l30All.l0 k x0 (([] : List (S90))) (wrap64 (x7 + 1)) jd je jf jg (y869 ++ y872) z4 z5 z6) else (none)))) else (none))) else (spec_l30All.l0 k x0 x6 (wrap64 (x7 + 1)) jd je jf jg z2 z4 z5 z6)
end
def spec_l30All.f (k : Nat) (l0 : List (S137)) : Option (Int × Int × Int × Bool × (List (S110)) × Int × Int × Int × Int) := (spec_l29Code.f k l0).bind fun t829 => (if t829 = 0 then (spec_l30All.l0 k l0 (([] : List (S90))) 0 0 0 0 false ([] : List (S110)) 0 0 0) else (some (0, 0, 0, false, ([] : List (S110)), 0, 0, 0, t829)))
theorem spec_l30All.mono_l : ∀ k, (∀ y0 y1 y2 y3 y4 y5 y6 y7 y8 y9 y10, LeO (spec_l30All.l0 k y0 y1 y2 y3 y4 y5 y6 y7 y8 y9 y10) (spec_l30All.l0 (k + 1) y0 y1 y2 y3 y4 y5 y6 y7 y8 y9 y10)) ∧ (∀ y0 y1 y2 y3 y4 y5 y6 y7 y8 y9 y10 y11 y12 y13 y14, LeO (spec_l30All.j1 k y0 y1 y2 y3 y4 y5 y6 y7 y8 y9 y10 y11 y12 y13 y14) (spec_l30All.j1 (k + 1) y0 y1 y2 y3 y4 y5 y6 y7 y8 y9 y10 y11 y12 y13 y14)) ∧ (∀ y0 y1 y2 y3 y4 y5 y6 y7 y8 y9 y10 y11 y12 y13 y14, LeO (spec_l30All.j2 k y0 y1 y2 y3 y4 y5 y6 y7 y8 y9 y10 y11 y12 y13 y14) (spec_l30All.j2 (k + 1) y0 y1 y2 y3 y4 y5 y6 y7 y8 y9 y10 y11 y12 y13 y14)) ∧ (∀ y0 y1 y2 y3 y4 y5 y6 y7 y8 y9 y10 y11 y12 y13 y14 y15, LeO (spec_l30All.j3 k y0 y1 y2 y3 y4 y5 y6 y7 y8 y9 y10 y11 y12 y13 y14 y15) (spec_l30All.j3 (k + 1) y0 y1 y2 y3 y4 y5 y6 y7 y8 y9 y10 y11 y12 y13 y14 y15))
 | 0 => ⟨fun _ _ _ _ _ _ _ _ _ _ _ r h => by simp [spec_l30All.l0] at h, fun _ _ _ _ _ _ _ _ _ _ _ _ _ _ _ r h => by simp [spec_l30All.j1] at h, fun _ _ _ _ _ _ _ _ _ _ _ _ _ _ _ r h => by simp [spec_l30All.j2] at h, fun _ _ _ _ _ _ _ _ _ _ _ _ _ _ _ _ r h => by simp [spec_l30All.j3] at h⟩
 | k + 1 => by
  obtain ⟨ih0, ih1, ih2, ih3⟩ := spec_l30All.mono_l k
  refine ⟨?_, ?_, ?_, ?_⟩
  ·
   intro y0 y1 y2 y3 y4 y5 y6 y7 y8 y9 y10
   unfold spec_l30All.l0
   repeat' first
   | (with_reducible exact ih0 _ _ _ _ _ _ _ _ _ _ _)
   | (with_reducible exact ih1 _ _ _ _ _ _ _ _ _ _ _ _ _ _ _)
   | (with_reducible exact ih2 _ _ _ _ _ _ _ _ _ _ _ _ _ _ _)
   | (with_reducible exact ih3 _ _ _ _ _ _ _ _ _ _ _ _ _ _ _ _)
   | (with_reducible exact spec_l01Root.mono _ _)
   | (with_reducible exact spec_l29Code.mono _ _)
   | (with_reducible exact LeO.refl _)
   | (with_reducible exact LeO.none _)
   | (with_reducible refine LeO.ite ?_ ?_)
   | (with_reducible refine LeO.bind ?_ (fun _ => ?_))
   | exact ih0 _ _ _ _ _ _ _ _ _ _ _
   | exact ih1 _ _ _ _ _ _ _ _ _ _ _ _ _ _ _
   | exact ih2 _ _ _ _ _ _ _ _ _ _ _ _ _ _ _
   | exact ih3 _ _ _ _ _ _ _ _ _ _ _ _ _ _ _ _
   | exact spec_l01Root.mono _ _
   | exact spec_l29Code.mono _ _
   | exact LeO.none _
   | refine LeO.ite ?_ ?_
   | refine LeO.bind ?_ (fun _ => ?_)
  ·
   intro y0 y1 y2 y3 y4 y5 y6 y7 y8 y9 y10 y11 y12 y13 y14
   unfold spec_l30All.j1
   repeat' first
   | (with_reducible exact ih0 _ _ _ _ _ _ _ _ _ _ _)
   | (with_reducible exact ih1 _ _ _ _ _ _ _ _ _ _ _ _ _ _ _)
   | (with_reducible exact ih2 _ _ _ _ _ _ _ _ _ _ _ _ _ _ _)
   | (with_reducible exact ih3 _ _ _ _ _ _ _ _ _ _ _ _ _ _ _ _)
   | (with_reducible exact spec_l01Root.mono _ _)
   | (with_reducible exact spec_l29Code.mono _ _)
   | (with_reducible exact LeO.refl _)
   | (with_reducible exact LeO.none _)
   | (with_reducible refine LeO.ite ?_ ?_)
   | (with_reducible refine LeO.bind ?_ (fun _ => ?_))
   | exact ih0 _ _ _ _ _ _ _ _ _ _ _
   | exact ih1 _ _ _ _ _ _ _ _ _ _ _ _ _ _ _
   | exact ih2 _ _ _ _ _ _ _ _ _ _ _ _ _ _ _
   | exact ih3 _ _ _ _ _ _ _ _ _ _ _ _ _ _ _ _
   | exact spec_l01Root.mono _ _
   | exact spec_l29Code.mono _ _
   | exact LeO.none _
   | refine LeO.ite ?_ ?_
   | refine LeO.bind ?_ (fun _ => ?_)
  ·
   intro y0 y1 y2 y3 y4 y5 y6 y7 y8 y9 y10 y11 y12 y13 y14
   unfold spec_l30All.j2
   repeat' first
   | (with_reducible exact ih0 _ _ _ _ _ _ _ _ _ _ _)
   | (with_reducible exact ih1 _ _ _ _ _ _ _ _ _ _ _ _ _ _ _)
   | (with_reducible exact ih2 _ _ _ _ _ _ _ _ _ _ _ _ _ _ _)
   | (with_reducible exact ih3 _ _ _ _ _ _ _ _ _ _ _ _ _ _ _ _)
   | (with_reducible exact spec_l01Root.mono _ _)
   | (with_reducible exact spec_l29Code.mono _ _)
   | (with_reducible exact LeO.refl _)
   | (with_reducible exact LeO.none _)
   | (with_reducible refine LeO.ite ?_ ?_)
   | (with_reducible refine LeO.bind ?_ (fun _ => ?_))
   | exact ih0 _ _ _ _ _ _ _ _ _ _ _
   | exact ih1 _ _ _ _ _ _ _ _ _ _ _ _ _ _ _
   | exact ih2 _ _ _ _ _ _ _ _ _ _ _ _ _ _ _
   | exact ih3 _ _ _ _ _ _ _ _ _ _ _ _ _ _ _ _
   | exact spec_l01Root.mono _ _
   | exact spec_l29Code.mono _ _
   | exact LeO.none _
   | refine LeO.ite ?_ ?_
   | refine LeO.bind ?_ (fun _ => ?_)
  ·
   intro y0 y1 y2 y3 y4 y5 y6 y7 y8 y9 y10 y11 y12 y13 y14 y15
   unfold spec_l30All.j3
   repeat' first
   | (with_reducible exact ih0 _ _ _ _ _ _ _ _ _ _ _)
   | (with_reducible exact ih1 _ _ _ _ _ _ _ _ _ _ _ _ _ _ _)
   | (with_reducible exact ih2 _ _ _ _ _ _ _ _ _ _ _ _ _ _ _)
   | (with_reducible exact ih3 _ _ _ _ _ _ _ _ _ _ _ _ _ _ _ _)
   | (with_reducible exact spec_l01Root.mono _ _)
   | (with_reducible exact spec_l29Code.mono _ _)
   | (with_reducible exact LeO.refl _)
   | (with_reducible exact LeO.none _)
   | (with_reducible refine LeO.ite ?_ ?_)
   | (with_reducible refine LeO.bind ?_ (fun _ => ?_))
   | exact ih0 _ _ _ _ _ _ _ _ _ _ _
   | exact ih1 _ _ _ _ _ _ _ _ _ _ _ _ _ _ _
   | exact ih2 _ _ _ _ _ _ _ _ _ _ _ _ _ _ _
   | exact ih3 _ _ _ _ _ _ _ _ _ _ _ _ _ _ _ _
   | exact spec_l01Root.mono _ _
   | exact spec_l29Code.mono _ _
   | exact LeO.none _
   | refine LeO.ite ?_ ?_
   | refine LeO.bind ?_ (fun _ => ?_)
theorem spec_l30All.mono : ∀ a0 k, LeO (spec_l30All.f k a0) (spec_l30All.f (k + 1) a0) := by
 intro a0 k
 obtain ⟨ih0, ih1, ih2, ih3⟩ := spec_l30All.mono_l k
 unfold spec_l30All.f
 repeat' first
   | (with_reducible exact ih0 _ _ _ _ _ _ _ _ _ _ _)
   | (with_reducible exact ih1 _ _ _ _ _ _ _ _ _ _ _ _ _ _ _)
   | (with_reducible exact ih2 _ _ _ _ _ _ _ _ _ _ _ _ _ _ _)
   | (with_reducible exact ih3 _ _ _ _ _ _ _ _ _ _ _ _ _ _ _ _)
   | (with_reducible exact spec_l01Root.mono _ _)
   | (with_reducible exact spec_l29Code.mono _ _)
   | (with_reducible exact LeO.refl _)
   | (with_reducible exact LeO.none _)
   | (with_reducible refine LeO.ite ?_ ?_)
   | (with_reducible refine LeO.bind ?_ (fun _ => ?_))
   | exact ih0 _ _ _ _ _ _ _ _ _ _ _
   | exact ih1 _ _ _ _ _ _ _ _ _ _ _ _ _ _ _
   | exact ih2 _ _ _ _ _ _ _ _ _ _ _ _ _ _ _
   | exact ih3 _ _ _ _ _ _ _ _ _ _ _ _ _ _ _ _
   | exact spec_l01Root.mono _ _
   | exact spec_l29Code.mono _ _
   | exact LeO.none _
   | refine LeO.ite ?_ ?_
   | refine LeO.bind ?_ (fun _ => ?_)
def spec_l30All.T10 : Bool × List (List Nat × List Nat) := (true, [([], []), ([0], [0]), ([], []), ([], []), ([2, 3], [2, 3]), ([4], [4]), ([1, 5], [1, 5]), ([6], [6]), ([7], [7]), ([7], [7]), ([], []), ([10, 8, 6, 0, 1, 2, 3, 4, 5, 6, 7, 8, 10], [8, 10]), ([9, 11, 0, 1, 2, 3, 4, 5, 6, 7, 8, 9, 10, 11], [9])])
def spec_l30All.B10 : List Nat := [0, 1, 0, 0, 12, 28, 63, 127, 255, 255, 0, 1535, 4095]
theorem spec_l30All.tab10 : rtab .any (opsOf Try.f111 10) = spec_l30All.T10 := by kernel_rfl
theorem spec_l30All.bits10 : waitsOk spec_l30All.T10.2 spec_l30All.B10 = true := by kernel_rfl
def spec_l30All.T25 : Bool × List (List Nat × List Nat) := (true, [([], []), ([], []), ([1], [1]), ([0, 2], [0, 2]), ([], []), ([4], [4]), ([5], [5]), ([], []), ([6, 7], [6, 7]), ([8], [8]), ([3, 9, 3], [3, 9]), ([10, 10, 0, 1, 2, 3, 4, 5, 6, 7, 8, 9, 10], [10])])
def spec_l30All.B25 : List Nat := [0, 0, 2, 7, 0, 16, 48, 0, 240, 496, 1023, 2047]
theorem spec_l30All.tab25 : rtab .any (opsOf Try.f111 25) = spec_l30All.T25 := by kernel_rfl
theorem spec_l30All.bits25 : waitsOk spec_l30All.T25.2 spec_l30All.B25 = true := by kernel_rfl
set_option maxHeartbeats 8000000 in
set_option maxRecDepth 100000 in
theorem spec_l30All.calls (k : Nat) (A0 : Option Addr) (c0 : Nat) (l0 : List (S137)) (r1 : Int) (r2 : Int) (r3 : Int) (r4 : Bool) (r5 : List (S110)) (r6 : Int) (r7 : Int) (r8 : Int) (r9 : Int) (w : World) (hr0 : Kd.C k137 w A0 l0.length l0) (hc0 : l0.length ≤ c0) (h : spec_l30All.f k l0 = some (r1, r2, r3, r4, r5, r6, r7, r8, r9)) :
  Calls Try.prog 111 #[.slice A0 l0.length c0] w fun e w' => ∃ v4_ : Value, e = .returned (.tuple #[.agg #[.int .i64 r1, .int .i64 r2, .int .i64 r3, .bool r4, v4_, .int .i64 r6, .int .i64 r7, .int .i64 r8], .int .i64 r9]) ∧ Kd.N k110 110 w' w.heap.size (fun k_ => (w.heap.size ≤ k_)) v4_ r5 ∧ Below w.heap.size w w' := by
 have hu153 := Try.underlying153
 have hu90 := Try.underlying90
 have hu75 := Try.underlying75
 have hu137 := Try.underlying137
 have hu110 := Try.underlying110
 have HR0 := c9_ hr0
 have HC0 := c9_ hc0
 clear hr0 hc0
 have HB := c9_ (Below.refl w.heap.size w)
 have H : ((spec_l29Code.f k l0).bind fun t829 => (if t829 = 0 then (spec_l30All.l0 k l0 (([] : List (S90))) 0 0 0 0 false ([] : List (S110)) 0 0 0) else (some (0, 0, 0, false, ([] : List (S110)), 0, 0, 0, t829)))) = some (r1, r2, r3, r4, r5, r6, r7, r8, r9) := h
 clear h
 replace H := Option.bind_eq_some_iff.mp H
 obtain ⟨t829, A20, H⟩ := H
 replace H : (if t829 = 0 then (spec_l30All.l0 k l0 (([] : List (S90))) 0 0 0 0 false ([] : List (S110)) 0 0 0) else (some (0, 0, 0, false, ([] : List (S110)), 0, 0, 0, t829))) = some (r1, r2, r3, r4, r5, r6, r7, r8, r9) := H
 have A2 := c9_ A20
 clear A20
 by_cases c3 : t829 = 0
 ·
  rw [if_pos c3] at H
  have c3b0 : (t829 == 0) = true := beq_iff_eq.mpr c3
  have c3b1 : (t829 != 0) = false := bne_eq_false_iff_eq.mpr c3
  clear c3
  obtain ⟨y831, hy831⟩ : ∃ y_ : List (S90), y_ = (([] : List (S90))) := ⟨_, rfl⟩
  replace H : (spec_l30All.l0 k l0 y831 0 0 0 0 false ([] : List (S110)) 0 0 0) = some (r1, r2, r3, r4, r5, r6, r7, r8, r9) := by first|(rw [hy831]; with_reducible exact H)|(have H2_ := (Option.bind_some _ _).symm.trans H; rw [hy831]; with_reducible exact H2_)|(have H2_ := (Option.bind_some _ _).symm.trans H; with_reducible exact H2_)|with_reducible exact H|(rw [hy831];exact H)|exact H
  have Ny831 := c9_ hy831
  clear hy831
  have H' := c9_ H
  clear H
  go_enter Try.func111, Try.ntmps111
  go_wp2_with (first|((with_reducible refine gate_dst (N := 2) rfl ?_);(try (refine gate_guard (by rfl) ?_; dsimp only));refine box_event ?hg (N := 2) ?hd (cs := #[.int .i64 0, .int .i64 0, .int .i64 0, .bool false, .slice none 0 0, .int .i64 0, .int .i64 0, .int .i64 0]) (t := 153) ?hr ?_;(case hd => rfl);(case hg => rfl);(case hr => first|(go_simp; done)|(go_simp; rfl)); intro zk hg w4 hbox hb;have n0_ := c9_ (below_step (by repeat (first|(with_reducible first|exact HB.out|apply b4_|apply b5_|apply b6_)|exact HB.out)) hb);have n1_ := c9_ (hbox);have n2_ := c9_ ((by rw [hg];exact (e7_ (by repeat (first|(with_reducible first|exact HB.out|apply b4_|apply b5_|apply b6_)|exact HB.out))) : w.heap.size ≤ zk));have n3_ := c9_ ((by rw [hg];exact (e7_ (by repeat (first|(with_reducible first|exact HB.out|apply b4_|apply b5_|apply b6_)|exact HB.out))) : w.heap.size ≤ zk));clear HB;have HB := n0_;have zi := n1_;have GW828 := n2_;have zF := n3_;clear n0_ n1_ n2_ n3_;clear hb hbox hg)|((with_reducible refine gate_callee (f := 88) rfl ?_);refine goesL_ (some 15) rfl rfl Try.func88 (by kernel_rfl) rfl #[.slice A0 l0.length c0] rfl (by (try simp only [List.map_toArray, List.map_cons, List.map_nil]); first|done|rfl|(simp only [List.length_drop, List.length_take]; rfl)) ?_;(with_reducible refine (spec_l29Code.calls k _ _ l0 t829 _ ?side1 ?side2 A2.out).mono ?_);(case side1 => repeat (first|exact (Kd.C_below HR0.out HB.out)|(with_reducible refine Kd.C_alloc ?_ _)|(with_reducible refine Kd.C_drewN ?_ _)|(with_reducible refine Kd.C_drew ?_)));(case side2 => exact HC0.out); rintro e w5 ⟨rfl, hb⟩;refine ⟨_, rfl, ?_⟩;have n0_ := c9_ (c6_ (g := zk) (by exact zi.out) hb);have n1_ := c9_ (below_step (by repeat (first|(with_reducible first|exact HB.out|apply b4_|apply b5_|apply b6_|refine b7_ ?_ zF.out)|exact HB.out)) hb);clear zi;clear HB;have zi := n0_;have HB := n1_;clear n0_ n1_;(try clear hb);(try clear hb2);(try clear hk);(try clear hi))|((with_reducible refine gate_dst (N := 5) rfl ?_);(try (refine gate_guard (by rfl) ?_; dsimp only));refine box_event ?hg (N := 5) ?hd (cs := #[.int .i64 0, .int .i64 0, .int .i64 0, .bool false, .slice none 0 0, .int .i64 0, .int .i64 0, .int .i64 0]) (t := 153) ?hr ?_;(case hd => rfl);(case hg => rfl);(case hr => first|(go_simp; done)|(go_simp; rfl)); intro zd hg w6 hbox hb;have n0_ := c9_ (c6_ (g := zk) (by exact zi.out) hb);have n1_ := c9_ (below_step (by repeat (first|(with_reducible first|exact HB.out|apply b4_|apply b5_|apply b6_|refine b7_ ?_ zF.out)|exact HB.out)) hb);have n2_ := c9_ (hbox);have n3_ := c9_ ((by rw [hg];exact (e7_ (by repeat (first|(with_reducible first|exact HB.out|apply b4_|apply b5_|apply b6_|refine b7_ ?_ zF.out)|exact HB.out))) : w.heap.size ≤ zd));have n4_ := c9_ ((by rw [hg];exact (e7_ (by repeat (first|(with_reducible first|exact HB.out|apply b4_|apply b5_|apply b6_|refine b7_ ?_ zF.out)|exact HB.out))) : w.heap.size ≤ zd));have n5_ := c9_ ((by rw [hg];exact c8_ (blk_lt (g := zk) (by exact zi.out)) : zk ≠ zd));have n6_ := c9_ ((by rw [hg];exact Nat.ne_of_gt (blk_lt (g := zk) (by exact zi.out)) : zd ≠ zk));clear zi;clear HB;have zi := n0_;have HB := n1_;have za := n2_;have GW830 := n3_;have zJ := n4_;have NB828_830 := n5_;have NB830_828 := n6_;clear n0_ n1_ n2_ n3_ n4_ n5_ n6_;clear hb hbox hg;have hnb7 := NB830_828.out;have hnc7 := NB828_830.out;have hcz8_0 : w6.cell? ⟨zd, 0, none⟩ = some (.int .i64 0) := (e1_ za.out 0).trans rfl;have hcz8_1 : w6.cell? ⟨zd, 1, none⟩ = some (.int .i64 0) := (e1_ za.out 1).trans rfl;have hcz8_2 : w6.cell? ⟨zd, 2, none⟩ = some (.int .i64 0) := (e1_ za.out 2).trans rfl;have hcz8_3 : w6.cell? ⟨zd, 3, none⟩ = some (.bool false) := (e1_ za.out 3).trans rfl;have hcz8_4 : w6.cell? ⟨zd, 4, none⟩ = some (.slice none 0 0) := (e1_ za.out 4).trans rfl;have hcz8_5 : w6.cell? ⟨zd, 5, none⟩ = some (.int .i64 0) := (e1_ za.out 5).trans rfl;have hcz8_6 : w6.cell? ⟨zd, 6, none⟩ = some (.int .i64 0) := (e1_ za.out 6).trans rfl;have hcz8_7 : w6.cell? ⟨zd, 7, none⟩ = some (.int .i64 0) := (e1_ za.out 7).trans rfl;have hfz8_0 := e2_ za.out 0;have hfz8_1 := e2_ za.out 1;have hfz8_2 := e2_ za.out 2;have hfz8_3 := e2_ za.out 3;have hfz8_4 := e2_ za.out 4;have hfz8_5 := e2_ za.out 5;have hfz8_6 := e2_ za.out 6;have hfz8_7 := e2_ za.out 7)|((with_reducible refine gate_dst (N := 21) rfl ?_);(try (refine gate_guard (by rfl) ?_; dsimp only));refine Kd.R_lit k90 _ 90 ?hg (N := 21) ?hd (xs := ([] : List (S90))) (inner := []) (ok := fun _ => True) (okp := fun _ => True) ?hr ?hp (fun _ hk => hk) trivial (Below.refl _ _) (Nat.le_refl _) (by simp) ?_;(case hd => rfl);(case hg => rfl);(case hr => first|(go_simp; done)|(go_simp; rfl));(case hp => exact (Reps.none _ _)); intro v832 w9 ho10 hb hg_ hnew_;clear hg_ hnew_;(first|rw [← Ny831.out] at ho10|(simp only [Int.reduceToNat] at ho10; rw [← Ny831.out] at ho10));have n0_ := c9_ (Kd.R_lower (Kd.R_newM (M := fun k_ => (w.heap.size ≤ k_)) ho10 (e7_ (by repeat (first|(with_reducible first|exact HB.out|apply b4_|apply b5_|apply b6_|refine b7_ ?_ zF.out|refine b7_ ?_ zJ.out)|exact HB.out))) (fun k_ h_ => h_)) (e7_ (by repeat (first|(with_reducible first|exact HB.out|apply b4_|apply b5_|apply b6_|refine b7_ ?_ zF.out|refine b7_ ?_ zJ.out)|exact HB.out))));have n1_ := c9_ (c6_ (g := zk) (o := .cells #[.int .i64 0, .int .i64 0, .int .i64 0, .bool false, .slice none 0 0, .int .i64 0, .int .i64 0, .int .i64 0] 153 (0, 0)) (by (with_reducible repeat (first|refine b1_ ?_ _|refine b2_ ?_|refine b3_ ?_ _));refine e5_ ?_ NB828_830.out _;(with_reducible repeat (first|refine b1_ ?_ _|refine b2_ ?_|refine b3_ ?_ _));refine e5_ ?_ NB828_830.out _;(with_reducible repeat (first|refine b1_ ?_ _|refine b2_ ?_|refine b3_ ?_ _));refine e5_ ?_ NB828_830.out _;(with_reducible repeat (first|refine b1_ ?_ _|refine b2_ ?_|refine b3_ ?_ _));refine e5_ ?_ NB828_830.out _;(with_reducible repeat (first|refine b1_ ?_ _|refine b2_ ?_|refine b3_ ?_ _));refine e5_ ?_ NB828_830.out _;(with_reducible repeat (first|refine b1_ ?_ _|refine b2_ ?_|refine b3_ ?_ _));refine e5_ ?_ NB828_830.out _;(with_reducible repeat (first|refine b1_ ?_ _|refine b2_ ?_|refine b3_ ?_ _));refine e5_ ?_ NB828_830.out _;(with_reducible repeat (first|refine b1_ ?_ _|refine b2_ ?_|refine b3_ ?_ _));refine e5_ ?_ NB828_830.out _;exact zi.out) hb);have n2_ := c9_ (c6_ (g := zd) (o := .cells #[.int .i64 0, .int .i64 0, .int .i64 0, .bool false, .slice none 0 0, .int .i64 0, .int .i64 0, .int .i64 0] 153 (0, 0)) (by (with_reducible repeat (first|refine b1_ ?_ _|refine b2_ ?_|refine b3_ ?_ _));refine blk_put (cs := #[.int .i64 0, .int .i64 0, .int .i64 0, .bool false, .slice none 0 0, .int .i64 0, .int .i64 0, .int .i64 0]) ?_ 7 _ rfl;(with_reducible repeat (first|refine b1_ ?_ _|refine b2_ ?_|refine b3_ ?_ _));refine blk_put (cs := #[.int .i64 0, .int .i64 0, .int .i64 0, .bool false, .slice none 0 0, .int .i64 0, .int .i64 0, .int .i64 0]) ?_ 6 _ rfl;(with_reducible repeat (first|refine b1_ ?_ _|refine b2_ ?_|refine b3_ ?_ _));refine blk_put (cs := #[.int .i64 0, .int .i64 0, .int .i64 0, .bool false, .slice none 0 0, .int .i64 0, .int .i64 0, .int .i64 0]) ?_ 5 _ rfl;(with_reducible repeat (first|refine b1_ ?_ _|refine b2_ ?_|refine b3_ ?_ _));refine blk_put (cs := #[.int .i64 0, .int .i64 0, .int .i64 0, .bool false, .slice none 0 0, .int .i64 0, .int .i64 0, .int .i64 0]) ?_ 4 _ rfl;(with_reducible repeat (first|refine b1_ ?_ _|refine b2_ ?_|refine b3_ ?_ _));refine blk_put (cs := #[.int .i64 0, .int .i64 0, .int .i64 0, .bool false, .slice none 0 0, .int .i64 0, .int .i64 0, .int .i64 0]) ?_ 3 _ rfl;(with_reducible repeat (first|refine b1_ ?_ _|refine b2_ ?_|refine b3_ ?_ _));refine blk_put (cs := #[.int .i64 0, .int .i64 0, .int .i64 0, .bool false, .slice none 0 0, .int .i64 0, .int .i64 0, .int .i64 0]) ?_ 2 _ rfl;(with_reducible repeat (first|refine b1_ ?_ _|refine b2_ ?_|refine b3_ ?_ _));refine blk_put (cs := #[.int .i64 0, .int .i64 0, .int .i64 0, .bool false, .slice none 0 0, .int .i64 0, .int .i64 0, .int .i64 0]) ?_ 1 _ rfl;(with_reducible repeat (first|refine b1_ ?_ _|refine b2_ ?_|refine b3_ ?_ _));refine blk_put (cs := #[.int .i64 0, .int .i64 0, .int .i64 0, .bool false, .slice none 0 0, .int .i64 0, .int .i64 0, .int .i64 0]) ?_ 0 _ rfl;exact za.out) hb);have n3_ := c9_ (below_step (by repeat (first|(with_reducible first|exact HB.out|apply b4_|apply b5_|apply b6_|refine b7_ ?_ zF.out|refine b7_ ?_ zJ.out)|exact HB.out)) hb);clear zi;clear za;clear HB;have HO833 := n0_;have zi := n1_;have za := n2_;have HB := n3_;clear n0_ n1_ n2_ n3_;clear hb ho10))
  go_loopg [6, 7] k (fun kq v6 v7 w' => ∃ (zT : List (S90)) (zB : Int) (zz : Int) (zx : Int) (zv : Int) (zu : Bool) (zt : Int) (zs : Int) (zp : Int) (zb : Int) (zc : Int) (ze : Int) (zh : Bool) (zl : List (S110)) (zr : Int) (zn : Int) (zq : Int) (zE : Value), v7 = .int .i64 zB ∧ Aside0 (spec_l30All.l0 kq l0 zT zB zb zc ze zh zl zr zn zq = some (r1, r2, r3, r4, r5, r6, r7, r8, r9)) ∧ Aside0 (kq ≤ k) ∧ Aside0 (Kd.R k90 90 w' w.heap.size (fun k_ => (w.heap.size ≤ k_)) v6 zT) ∧ Aside0 (Kd.N k110 110 w' w.heap.size (fun k_ => (w.heap.size ≤ k_) ∧ some k_ ≠ (v6 : Value).ownBlock ∧ k_ ≠ zk ∧ k_ ≠ zd) zE zl) ∧ Aside0 (w'.heap[zk]? = some (.cells #[.int .i64 zz, .int .i64 zx, .int .i64 zv, .bool zu, (.slice none 0 0), .int .i64 zt, .int .i64 zs, .int .i64 zp] 153 (0, 0))) ∧ Aside0 (w'.heap[zd]? = some (.cells #[.int .i64 zb, .int .i64 zc, .int .i64 ze, .bool zh, zE, .int .i64 zr, .int .i64 zn, .int .i64 zq] 153 (0, 0))) ∧ Aside0 (Below w.heap.size w w'))
  case atStart => exact ⟨(y831), (0), (0), (0), (0), (false), (0), (0), (0), (0), (0), (0), (false), (([] : List (S110))), (0), (0), (0), (.slice none 0 0), (by first|rfl|(simp; done)|(simp [*]; done)), H', ⟨Nat.le_refl _⟩, ⟨by (with_reducible repeat (first|apply c2_|apply c3_|apply c4_));exact Kd.R_mono HO833.out (fun _ hk => hk.1)⟩, ⟨by first|exact Kd.S_nil _ _ _ _ _|exact Kd.N_nil _ _ _ _ _|exact Kd.V_nil _ _ _ _ _|exact Kd.Q_nil _ _ _ _ _|exact Kd.R_nil _ _ _ _ _⟩, ⟨by exact zi.out⟩, ⟨by exact za.out⟩, ⟨by repeat (first|(with_reducible first|exact HB.out|apply b4_|apply b5_|apply b6_|refine b7_ ?_ zF.out|refine b7_ ?_ zJ.out)|exact HB.out)⟩⟩
  case round =>
   clear H'
   try clear c1
   try clear p2
   try clear c3
   try clear c3b0
   try clear c3b1
   try clear c7
   try clear c8
   try clear hcz8_0
   try clear hcz8_1
   try clear hcz8_2
   try clear hcz8_3
   try clear hcz8_4
   try clear hcz8_5
   try clear hcz8_6
   try clear hcz8_7
   try clear hfz8_0
   try clear hfz8_1
   try clear hfz8_2
   try clear hfz8_3
   try clear hfz8_4
   try clear hfz8_5
   try clear hfz8_6
   try clear hfz8_7
   obtain ⟨zT, zB, zz, zx, zv, zu, zt, zs, zp, zb, zc, ze, zh, zl, zr, zn, zq, zE, rfl, HA, HK1, zK, zg, zi, za, HB⟩ := hrel
   cases gk with
  |zero => exact absurd HA.out (by simp [spec_l30All.l0])
  |succ k1 =>
    have H := HA.out
    clear HA
    simp only [spec_l30All.l0] at H
    by_cases c11 : zB < (l0.length : Int)
    ·
     rw [if_pos c11] at H
     have c11b0 : decide (zB < (l0.length : Int)) = true := decide_eq_true c11
     clear c11
     by_cases c12 : 0 ≤ zB
     rotate_left
     ·
      rw [if_neg c12] at H
      exact absurd H (by simp)
     rw [if_pos c12] at H
     have c12b0 : decide (0 ≤ zB) = true := decide_eq_true c12
     clear c12
     replace H := Option.bind_eq_some_iff.mp H
     obtain ⟨⟨zw, zy, zQ, zR, t840⟩, A130, H⟩ := H
     replace H : (if t840 = true then ((spec_l16Square.f zb zc zw zy).bind fun t843 => ((spec_l01Root.f k1 t843).bind fun zV => (if ((rd_T137 l0 zB).f0) = 68 then (if (zT.length : Int) = 0 then ((some (([(⟨zb, zc⟩ : S90)] : List (S90)) : List (S90))).bind fun y846 => (if zT.length + y846.length < 8796093022208 then ((some (zT ++ y846 : List (S90))).bind fun y849 => ((some (([(⟨zw, zy⟩ : S90)] : List (S90)) : List (S90))).bind fun y852 => (if y849.length + y852.length < 8796093022208 then (spec_l30All.j1 k1 l0 (y849 ++ y852) zB zb zc ze zh zl zr (wrap64 (zn + zV)) zq zw zy zQ zR) else (none)))) else (none))) else ((some (([(⟨zw, zy⟩ : S90)] : List (S90)) : List (S90))).bind fun y858 => (if zT.length + y858.length < 8796093022208 then (spec_l30All.j1 k1 l0 (zT ++ y858) zB zb zc ze zh zl zr (wrap64 (zn + zV)) zq zw zy zQ zR) else (none)))) else (spec_l30All.j1 k1 l0 zT zB zb zc ze zh zl (wrap64 (zr + zV)) zn zq zw zy zQ zR)))) else (some (0, 0, 0, false, ([] : List (S110)), 0, 0, 0, 5))) = some (r1, r2, r3, r4, r5, r6, r7, r8, r9) := H
     have A13 := c9_ A130
     clear A130
     by_cases c14 : t840 = true
     ·
      subst c14
      have H1 : ((spec_l16Square.f zb zc zw zy).bind fun t843 => ((spec_l01Root.f k1 t843).bind fun zV => (if ((rd_T137 l0 zB).f0) = 68 then (if (zT.length : Int) = 0 then ((some (([(⟨zb, zc⟩ : S90)] : List (S90)) : List (S90))).bind fun y846 => (if zT.length + y846.length < 8796093022208 then ((some (zT ++ y846 : List (S90))).bind fun y849 => ((some (([(⟨zw, zy⟩ : S90)] : List (S90)) : List (S90))).bind fun y852 => (if y849.length + y852.length < 8796093022208 then (spec_l30All.j1 k1 l0 (y849 ++ y852) zB zb zc ze zh zl zr (wrap64 (zn + zV)) zq zw zy zQ zR) else (none)))) else (none))) else ((some (([(⟨zw, zy⟩ : S90)] : List (S90)) : List (S90))).bind fun y858 => (if zT.length + y858.length < 8796093022208 then (spec_l30All.j1 k1 l0 (zT ++ y858) zB zb zc ze zh zl zr (wrap64 (zn + zV)) zq zw zy zQ zR) else (none)))) else (spec_l30All.j1 k1 l0 zT zB zb zc ze zh zl (wrap64 (zr + zV)) zn zq zw zy zQ zR)))) = some (r1, r2, r3, r4, r5, r6, r7, r8, r9) := by rw [if_pos rfl] at H;exact H
      clear H
      have H := H1
      clear H1
      replace H := Option.bind_eq_some_iff.mp H
      obtain ⟨t843, A150, H⟩ := H
      replace H : ((spec_l01Root.f k1 t843).bind fun zV => (if ((rd_T137 l0 zB).f0) = 68 then (if (zT.length : Int) = 0 then ((some (([(⟨zb, zc⟩ : S90)] : List (S90)) : List (S90))).bind fun y846 => (if zT.length + y846.length < 8796093022208 then ((some (zT ++ y846 : List (S90))).bind fun y849 => ((some (([(⟨zw, zy⟩ : S90)] : List (S90)) : List (S90))).bind fun y852 => (if y849.length + y852.length < 8796093022208 then (spec_l30All.j1 k1 l0 (y849 ++ y852) zB zb zc ze zh zl zr (wrap64 (zn + zV)) zq zw zy zQ zR) else (none)))) else (none))) else ((some (([(⟨zw, zy⟩ : S90)] : List (S90)) : List (S90))).bind fun y858 => (if zT.length + y858.length < 8796093022208 then (spec_l30All.j1 k1 l0 (zT ++ y858) zB zb zc ze zh zl zr (wrap64 (zn + zV)) zq zw zy zQ zR) else (none)))) else (spec_l30All.j1 k1 l0 zT zB zb zc ze zh zl (wrap64 (zr + zV)) zn zq zw zy zQ zR))) = some (r1, r2, r3, r4, r5, r6, r7, r8, r9) := H
      have A15 := c9_ A150
      clear A150
      replace H := Option.bind_eq_some_iff.mp H
      obtain ⟨zV, A160, H⟩ := H
      replace H : (if ((rd_T137 l0 zB).f0) = 68 then (if (zT.length : Int) = 0 then ((some (([(⟨zb, zc⟩ : S90)] : List (S90)) : List (S90))).bind fun y846 => (if zT.length + y846.length < 8796093022208 then ((some (zT ++ y846 : List (S90))).bind fun y849 => ((some (([(⟨zw, zy⟩ : S90)] : List (S90)) : List (S90))).bind fun y852 => (if y849.length + y852.length < 8796093022208 then (spec_l30All.j1 k1 l0 (y849 ++ y852) zB zb zc ze zh zl zr (wrap64 (zn + zV)) zq zw zy zQ zR) else (none)))) else (none))) else ((some (([(⟨zw, zy⟩ : S90)] : List (S90)) : List (S90))).bind fun y858 => (if zT.length + y858.length < 8796093022208 then (spec_l30All.j1 k1 l0 (zT ++ y858) zB zb zc ze zh zl zr (wrap64 (zn + zV)) zq zw zy zQ zR) else (none)))) else (spec_l30All.j1 k1 l0 zT zB zb zc ze zh zl (wrap64 (zr + zV)) zn zq zw zy zQ zR)) = some (r1, r2, r3, r4, r5, r6, r7, r8, r9) := H
      have A16 := c9_ A160
      clear A160
      have HC17 := c9_ H
      clear H
      have hnb18 := NB830_828.out
      have hnc18 := NB828_830.out
      have hcz19_0 : wr.cell? ⟨zd, 0, none⟩ = some (.int .i64 zb) := (e1_ za.out 0).trans rfl
      have hcz19_1 : wr.cell? ⟨zd, 1, none⟩ = some (.int .i64 zc) := (e1_ za.out 1).trans rfl
      have hcz19_2 : wr.cell? ⟨zd, 2, none⟩ = some (.int .i64 ze) := (e1_ za.out 2).trans rfl
      have hcz19_3 : wr.cell? ⟨zd, 3, none⟩ = some (.bool zh) := (e1_ za.out 3).trans rfl
      have hcz19_4 : wr.cell? ⟨zd, 4, none⟩ = some (zE) := (e1_ za.out 4).trans rfl
      have hcz19_5 : wr.cell? ⟨zd, 5, none⟩ = some (.int .i64 zr) := (e1_ za.out 5).trans rfl
      have hcz19_6 : wr.cell? ⟨zd, 6, none⟩ = some (.int .i64 zn) := (e1_ za.out 6).trans rfl
      have hcz19_7 : wr.cell? ⟨zd, 7, none⟩ = some (.int .i64 zq) := (e1_ za.out 7).trans rfl
      have hfz19_0 := e2_ za.out 0
      have hfz19_1 := e2_ za.out 1
      have hfz19_2 := e2_ za.out 2
      have hfz19_3 := e2_ za.out 3
      have hfz19_4 := e2_ za.out 4
      have hfz19_5 := e2_ za.out 5
      have hfz19_6 := e2_ za.out 6
      have hfz19_7 := e2_ za.out 7
      try go_wp2_with (first|((with_reducible refine gate_dst (N := 8) rfl ?_);(try (refine gate_guard (by rfl) ?_; dsimp only));refine box_event ?hg (N := 8) ?hd (cs := #[.int .i64 0, .int .i64 0]) (t := 90) ?hr ?_;(case hd => rfl);(case hg => rfl);(case hr => first|(go_simp; done)|(go_simp; rfl)); intro zj hg w20 hbox hb;have n0_ := c9_ (Kd.R_below (Kd.R_elderB (by (with_reducible repeat (first|apply c2_|apply c3_|apply c4_));exact zK.out) zj (Nat.le_of_eq hg.symm)) hb);have n1_ := c9_ (Kd.N_below (Kd.N_elderB (by (with_reducible repeat (first|apply b8_|apply b9_|apply c1_));exact zg.out) zj (Nat.le_of_eq hg.symm)) hb);have n2_ := c9_ (c6_ (g := zk) (by exact zi.out) hb);have n3_ := c9_ (c6_ (g := zd) (by exact za.out) hb);have n4_ := c9_ (below_step (by repeat (first|(with_reducible first|exact HB.out|apply b4_|apply b5_|apply b6_|refine b7_ ?_ zF.out|refine b7_ ?_ zJ.out)|exact HB.out)) hb);have n5_ := c9_ (hbox);have n6_ := c9_ ((by rw [hg];exact (e7_ (by repeat (first|(with_reducible first|exact HB.out|apply b4_|apply b5_|apply b6_|refine b7_ ?_ zF.out|refine b7_ ?_ zJ.out)|exact HB.out))) : w.heap.size ≤ zj));have n7_ := c9_ ((by rw [hg];exact (e7_ (by repeat (first|(with_reducible first|exact HB.out|apply b4_|apply b5_|apply b6_|refine b7_ ?_ zF.out|refine b7_ ?_ zJ.out)|exact HB.out))) : w.heap.size ≤ zj));have n8_ := c9_ ((by rw [hg];exact c8_ (blk_lt (g := zk) (by exact zi.out)) : zk ≠ zj));have n9_ := c9_ ((by rw [hg];exact Nat.ne_of_gt (blk_lt (g := zk) (by exact zi.out)) : zj ≠ zk));have n10_ := c9_ ((by rw [hg];exact c8_ (blk_lt (g := zd) (by exact za.out)) : zd ≠ zj));have n11_ := c9_ ((by rw [hg];exact Nat.ne_of_gt (blk_lt (g := zd) (by exact za.out)) : zj ≠ zd));clear zK;clear zg;clear zi;clear za;clear HB;have zK := n0_;have zg := n1_;have zi := n2_;have za := n3_;have HB := n4_;have zm := n5_;have GW834 := n6_;have zL := n7_;have NB828_834 := n8_;have NB834_828 := n9_;have NB830_834 := n10_;have NB834_830 := n11_;clear n0_ n1_ n2_ n3_ n4_ n5_ n6_ n7_ n8_ n9_ n10_ n11_;clear hb hbox hg;have hnb21 := NB834_828.out;have hnc21 := NB828_834.out;have hnb22 := NB834_830.out;have hnc22 := NB830_834.out;have hcz23_0 : w20.cell? ⟨zj, 0, none⟩ = some (.int .i64 0) := (e1_ zm.out 0).trans rfl;have hcz23_1 : w20.cell? ⟨zj, 1, none⟩ = some (.int .i64 0) := (e1_ zm.out 1).trans rfl;have hfz23_0 := e2_ zm.out 0;have hfz23_1 := e2_ zm.out 1))
      have n0_ : Aside0 (Kd.R k90 90 ((w20.setCell ⟨zj, 0, none⟩ (.int .i64 zb)).setCell ⟨zj, 1, none⟩ (.int .i64 zc)) w.heap.size (fun k_ => (w.heap.size ≤ k_) ∧ k_ ≠ zj) u6 zT) := ⟨by (with_reducible repeat (first|apply c2_|apply c3_|apply c4_));exact Kd.R_mono (Kd.R_far (p := ⟨zj, 1, none⟩) (Kd.R_far (p := ⟨zj, 0, none⟩) (Kd.R_mono zK.out (fun k_ hk => (⟨hk, hk.2⟩ : _ ∧ k_ ≠ zj))) (fun _ hk => hk.2) (.int .i64 zb)) (fun _ hk => hk.2) (.int .i64 zc)) (fun _ hk => ⟨hk.1.1, hk.1.2⟩)⟩
      have n1_ : Aside0 (Kd.N k110 110 ((w20.setCell ⟨zj, 0, none⟩ (.int .i64 zb)).setCell ⟨zj, 1, none⟩ (.int .i64 zc)) w.heap.size (fun k_ => (w.heap.size ≤ k_) ∧ some k_ ≠ (u6 : Value).ownBlock ∧ k_ ≠ zk ∧ k_ ≠ zd ∧ k_ ≠ zj) zE zl) := ⟨by (with_reducible repeat (first|apply b8_|apply b9_|apply c1_));exact Kd.N_mono (Kd.N_far (p := ⟨zj, 1, none⟩) (Kd.N_far (p := ⟨zj, 0, none⟩) (Kd.N_mono zg.out (fun k_ hk => (⟨hk, hk.2⟩ : _ ∧ k_ ≠ zj))) (fun _ hk => hk.2) (.int .i64 zb)) (fun _ hk => hk.2) (.int .i64 zc)) (fun _ hk => ⟨hk.1.1.1, ⟨hk.1.1.2.1, ⟨hk.1.1.2.2.1, ⟨hk.1.1.2.2.2, hk.1.2⟩⟩⟩⟩)⟩
      have n2_ : Aside0 (((w20.setCell ⟨zj, 0, none⟩ (.int .i64 zb)).setCell ⟨zj, 1, none⟩ (.int .i64 zc)).heap[zk]? = some (.cells #[.int .i64 zz, .int .i64 zx, .int .i64 zv, .bool zu, .slice none 0 0, .int .i64 zt, .int .i64 zs, .int .i64 zp] 153 (0, 0))) := ⟨by (with_reducible repeat (first|refine b1_ ?_ _|refine b2_ ?_|refine b3_ ?_ _));refine e5_ ?_ NB828_834.out _;(with_reducible repeat (first|refine b1_ ?_ _|refine b2_ ?_|refine b3_ ?_ _));refine e5_ ?_ NB828_834.out _;exact zi.out⟩
      have n3_ : Aside0 (((w20.setCell ⟨zj, 0, none⟩ (.int .i64 zb)).setCell ⟨zj, 1, none⟩ (.int .i64 zc)).heap[zd]? = some (.cells #[.int .i64 zb, .int .i64 zc, .int .i64 ze, .bool zh, zE, .int .i64 zr, .int .i64 zn, .int .i64 zq] 153 (0, 0))) := ⟨by (with_reducible repeat (first|refine b1_ ?_ _|refine b2_ ?_|refine b3_ ?_ _));refine e5_ ?_ NB830_834.out _;(with_reducible repeat (first|refine b1_ ?_ _|refine b2_ ?_|refine b3_ ?_ _));refine e5_ ?_ NB830_834.out _;exact za.out⟩
      have n4_ : Aside0 (((w20.setCell ⟨zj, 0, none⟩ (.int .i64 zb)).setCell ⟨zj, 1, none⟩ (.int .i64 zc)).heap[zj]? = some (.cells #[.int .i64 zb, .int .i64 zc] 90 (0, 0))) := ⟨by (with_reducible repeat (first|refine b1_ ?_ _|refine b2_ ?_|refine b3_ ?_ _));refine blk_put (cs := #[.int .i64 zb, .int .i64 0]) ?_ 1 _ rfl;(with_reducible repeat (first|refine b1_ ?_ _|refine b2_ ?_|refine b3_ ?_ _));refine blk_put (cs := #[.int .i64 0, .int .i64 0]) ?_ 0 _ rfl;exact zm.out⟩
      have n5_ : Aside0 (Below w.heap.size w ((w20.setCell ⟨zj, 0, none⟩ (.int .i64 zb)).setCell ⟨zj, 1, none⟩ (.int .i64 zc))) := ⟨by repeat (first|(with_reducible first|exact HB.out|apply b4_|apply b5_|apply b6_|refine b7_ ?_ zF.out|refine b7_ ?_ zJ.out|refine b7_ ?_ zL.out)|exact HB.out)⟩
      (try clear zK)
      (try clear zg)
      (try clear zi)
      (try clear za)
      (try clear zm)
      (try clear HB)
      generalize ((w20.setCell ⟨zj, 0, none⟩ (.int .i64 zb)).setCell ⟨zj, 1, none⟩ (.int .i64 zc)) = w24 at n0_ n1_ n2_ n3_ n4_ n5_ ⊢
      have zK := n0_
      have zg := n1_
      have zi := n2_
      have za := n3_
      have zm := n4_
      have HB := n5_
      clear n0_ n1_ n2_ n3_ n4_ n5_
      have n0_ := c9_ (c4_ zK.out)
      have n1_ := c9_ (c1_ zg.out)
      have n2_ := c9_ (b2_ zi.out)
      have n3_ := c9_ (b2_ za.out)
      have n4_ := c9_ (b2_ zm.out)
      have n5_ := c9_ (b6_ HB.out)
      clear zK
      clear zg
      clear zi
      clear za
      clear zm
      clear HB
      have zK := n0_
      have zg := n1_
      have zi := n2_
      have za := n3_
      have zm := n4_
      have HB := n5_
      clear n0_ n1_ n2_ n3_ n4_ n5_
      have p835 : 0 ≤ (zB : Int) := of_decide_eq_true (by first|(with_reducible assumption)|assumption)
      have q835 : zB < (l0.length : Int) := of_decide_eq_true (by first|(with_reducible assumption)|assumption)
      obtain ⟨zW, e835, z7, z8, z9⟩ := at_T137 HR0.out zB p835 q835
      have zN := z9
      have zO := z8
      have zP := z7
      cases e835
      replace z7 := (HB.out.cell (c5_ w _ z7)).trans z7
      replace z8 := (HB.out.cell (c5_ w _ z8)).trans z8
      replace z9 := (HB.out.cell (c5_ w _ z9)).trans z9
      replace p835 := eq_true p835
      replace q835 := eq_true q835
      refine start_ (n := 13) (S := fun w' => w'.cell? ⟨zd, 0, none⟩ = some (.int .i64 zb) ∧ w'.cell? ⟨zd, 1, none⟩ = some (.int .i64 zc) ∧ w'.cell? ⟨zd, 2, none⟩ = some (.int .i64 ze) ∧ w'.cell? ⟨zd, 3, none⟩ = some (.bool zh) ∧ w'.cell? ⟨zd, 4, none⟩ = some (zE) ∧ w'.cell? ⟨zd, 5, none⟩ = some (.int .i64 zr) ∧ w'.cell? ⟨zd, 6, none⟩ = some (.int .i64 zn) ∧ w'.cell? ⟨zd, 7, none⟩ = some (.int .i64 zq) ∧ w'.cell? (zW.add ((zB).toNat * 3)) = some (.int .u8 ((rd_T137 l0 zB).f0)) ∧ w'.cell? ⟨(zW.add ((zB).toNat * 3)).block, (zW.add ((zB).toNat * 3)).off + 1, none⟩ = some (.int .i64 ((rd_T137 l0 zB).f1)) ∧ w'.cell? ⟨(zW.add ((zB).toNat * 3)).block, (zW.add ((zB).toNat * 3)).off + 2, none⟩ = some (.int .i64 ((rd_T137 l0 zB).f2))) (ds := []) #[false, false, false, false, false, false, false, false, false, false, false, false, false] (by kernel_rfl) rfl rfl ⟨(e1_ za.out 0).trans rfl, (e1_ za.out 1).trans rfl, (e1_ za.out 2).trans rfl, (e1_ za.out 3).trans rfl, (e1_ za.out 4).trans rfl, (e1_ za.out 5).trans rfl, (e1_ za.out 6).trans rfl, (e1_ za.out 7).trans rfl, ((HB.out.cell (c5_ w _ zP)).trans zP), ((HB.out.cell (c5_ w _ zO)).trans zO), ((HB.out.cell (c5_ w _ zN)).trans zN)⟩ (fun hHeld => ?_);refine with_tabW spec_l30All.tab10 spec_l30All.bits10 (fun HT_ HW_ => ?_)
      generalize w24.drew = w25 at zK zg zi za zm HB z7 z8 z9 hHeld ⊢
      refine pure_ (i := 0) (N := some 36) (v := ?_) (a' := ?_) #[true, false, false, false, false, false, false, false, false, false, false, false, false] rfl rfl (any_of HT_.out (by kernel_rfl)) (fun _ _ _ h => h) (Or.inl ⟨by rfl, ?_⟩) ?_ ?_
      rotate_left
      ·
       intro w'
       go_simp
       with_reducible rfl
      rotate_left
      ·
       simp only [Act.put, d1_, d2_, d3_, i64_w, i32_w]
       rfl
      refine pure_ (i := 2) (N := some 38) (v := ?_) (a' := ?_) #[true, false, true, false, false, false, false, false, false, false, false, false, false] rfl rfl (any_of HT_.out (by kernel_rfl)) (fun _ _ _ h => h) (Or.inl ⟨by rfl, ?_⟩) ?_ ?_
      rotate_left
      ·
       intro w'
       go_simp
       with_reducible rfl
      rotate_left
      ·
       simp only [Act.put, d1_, d2_, d3_, i64_w, i32_w]
       rfl
      refine pure_ (i := 3) (N := some 39) (v := ?_) (a' := ?_) #[true, false, true, true, false, false, false, false, false, false, false, false, false] rfl rfl (any_of HT_.out (by kernel_rfl)) (fun _ _ _ h => h) (Or.inl ⟨by rfl, ?_⟩) ?_ ?_
      rotate_left
      ·
       intro w'
       go_simp
       with_reducible rfl
      rotate_left
      ·
       simp only [Act.put, d1_, d2_, d3_, i64_w, i32_w]
       rfl
      refine pure_ (i := 4) (N := some 40) (v := ?_) (a' := ?_) #[true, false, true, true, true, false, false, false, false, false, false, false, false] rfl rfl (any_of HT_.out (by kernel_rfl)) (fun _ _ _ h => h) (Or.inl ⟨by rfl, ?_⟩) ?_ ?_
      rotate_left
      ·
       intro w'
       go_simp
       with_reducible rfl
      rotate_left
      ·
       simp only [Act.put, d1_, d2_, d3_, i64_w, i32_w]
       rfl
      refine take_ (i := 1) (N := some 37) (v := ?_) (a' := ?_) #[true, true, true, true, true, false, false, false, false, false, false, false, false] rfl rfl (take_ofW HT_.out HW_.out (by kernel_rfl)) (fun _ _ _ h => h) (Or.inl ⟨by rfl, ?_⟩) hHeld ?_ ?_
      rotate_left
      ·
       rintro w' ⟨s0, s1, s2, s3, s4, s5, s6, s7, s8, s9, s10⟩
       go_simp
       with_reducible rfl
      rotate_left
      ·
       simp only [Act.put, d1_, d2_, d3_, i64_w, i32_w]
       rfl
      refine take_ (i := 5) (N := some 41) (v := ?_) (a' := ?_) #[true, true, true, true, true, true, false, false, false, false, false, false, false] rfl rfl (take_ofW HT_.out HW_.out (by kernel_rfl)) (fun _ _ _ h => h) (Or.inl ⟨by rfl, ?_⟩) hHeld ?_ ?_
      rotate_left
      ·
       rintro w' ⟨s0, s1, s2, s3, s4, s5, s6, s7, s8, s9, s10⟩
       go_simp
       with_reducible rfl
      rotate_left
      ·
       simp only [Act.put, d1_, d2_, d3_, i64_w, i32_w]
       rfl
      refine join_ (σ := Nat) 2 #[true, true, true, true, true, true, true, true, true, true, true, false, false] (fun s_ => [(42, .tuple #[.agg #[.int .i64 zw, .int .i64 zy, .int .i64 zQ, .bool zR], .bool true]), (9, .pointer (some ⟨s_, 0, none⟩)), (35, .tuple #[.agg #[.int .i64 zw, .int .i64 zy, .int .i64 zQ, .bool zR], .bool true]), (43, .agg #[.int .i64 zw, .int .i64 zy, .int .i64 zQ, .bool zR]), (44, .bool true)]) (fun s_ w' => (w'.cell? ⟨zd, 0, none⟩ = some (.int .i64 zb) ∧ w'.cell? ⟨zd, 1, none⟩ = some (.int .i64 zc) ∧ w'.cell? ⟨zd, 2, none⟩ = some (.int .i64 ze) ∧ w'.cell? ⟨zd, 3, none⟩ = some (.bool zh) ∧ w'.cell? ⟨zd, 4, none⟩ = some (zE) ∧ w'.cell? ⟨zd, 5, none⟩ = some (.int .i64 zr) ∧ w'.cell? ⟨zd, 6, none⟩ = some (.int .i64 zn) ∧ w'.cell? ⟨zd, 7, none⟩ = some (.int .i64 zq) ∧ w'.cell? (zW.add ((zB).toNat * 3)) = some (.int .u8 ((rd_T137 l0 zB).f0)) ∧ w'.cell? ⟨(zW.add ((zB).toNat * 3)).block, (zW.add ((zB).toNat * 3)).off + 1, none⟩ = some (.int .i64 ((rd_T137 l0 zB).f1)) ∧ w'.cell? ⟨(zW.add ((zB).toNat * 3)).block, (zW.add ((zB).toNat * 3)).off + 2, none⟩ = some (.int .i64 ((rd_T137 l0 zB).f2))) ∧ (Kd.R k90 90 w' w.heap.size (fun k_ => (w.heap.size ≤ k_) ∧ k_ ≠ zj) u6 zT) ∧ (Kd.N k110 110 w' w.heap.size (fun k_ => (w.heap.size ≤ k_) ∧ some k_ ≠ (u6 : Value).ownBlock ∧ k_ ≠ zk ∧ k_ ≠ zd ∧ k_ ≠ zj ∧ k_ ≠ s_) zE zl) ∧ (w'.heap[zk]? = some (.cells #[.int .i64 zz, .int .i64 zx, .int .i64 zv, .bool zu, .slice none 0 0, .int .i64 zt, .int .i64 zs, .int .i64 zp] 153 (0, 0))) ∧ (w'.heap[zd]? = some (.cells #[.int .i64 zb, .int .i64 zc, .int .i64 ze, .bool zh, zE, .int .i64 zr, .int .i64 zn, .int .i64 zq] 153 (0, 0))) ∧ (w'.heap[zj]? = some (.cells #[.int .i64 zb, .int .i64 zc] 90 (0, 0))) ∧ (w'.heap[s_]? = some (.cells #[.int .i64 0, .int .i64 0, .int .i64 0, .bool false] 75 (0, 0))) ∧ (w.heap.size ≤ s_) ∧ (w.heap.size ≤ s_) ∧ (zk ≠ s_) ∧ (s_ ≠ zk) ∧ (zd ≠ s_) ∧ (s_ ≠ zd) ∧ (zj ≠ s_) ∧ (s_ ≠ zj) ∧ (Below w.heap.size w w')) ?_ ?_
      rotate_left
      ·
       intro hCont
       refine two_ (i := 6) (j := 10) (Ni := some 42) (Nj := some 9) #[true, true, true, true, true, true, true, false, false, false, false, false, false] #[true, true, true, true, true, true, false, false, false, false, true, false, false] rfl rfl rfl rfl (two_of HT_.out (by kernel_rfl)) (by decide) (by decide) (fun K hK => ?_) (fun K hK => ?_)
       ·
        skip
        refine goes_ Try.func159 (by kernel_rfl) rfl #[.agg #[.int .i64 zb, .int .i64 zc, .int .i64 ze, .bool zh], .agg #[.int .u8 ((rd_T137 l0 zB).f0), .int .i64 ((rd_T137 l0 zB).f1), .int .i64 ((rd_T137 l0 zB).f2)]] (by rfl) rfl rfl (by (try simp only [List.map_toArray, List.map_cons, List.map_nil]); first|done|rfl|(simp only [List.length_drop, List.length_take]; rfl)) ?_
        with_reducible refine (spec_l30Step.calls zb zc ze zh ((rd_T137 l0 zB).f0) ((rd_T137 l0 zB).f1) ((rd_T137 l0 zB).f2) zw zy zQ zR true _ A13.out).mono ?_
        rintro e w26 ⟨rfl, hb⟩
        refine ⟨_, rfl, ?_⟩
        have n0_ := c9_ (Kd.R_below (by (with_reducible repeat (first|apply c2_|apply c3_|apply c4_));exact zK.out) hb)
        have n1_ := c9_ (Kd.N_below (by (with_reducible repeat (first|apply b8_|apply b9_|apply c1_));exact zg.out) hb)
        have n2_ := c9_ (c6_ (g := zk) (by exact zi.out) hb)
        have n3_ := c9_ (c6_ (g := zd) (by exact za.out) hb)
        have n4_ := c9_ (c6_ (g := zj) (by exact zm.out) hb)
        have n5_ := c9_ (below_step (by repeat (first|(with_reducible first|exact HB.out|apply b4_|apply b5_|apply b6_|refine b7_ ?_ zF.out|refine b7_ ?_ zJ.out|refine b7_ ?_ zL.out)|exact HB.out)) hb)
        clear zK
        clear zg
        clear zi
        clear za
        clear zm
        clear HB
        have zK := n0_
        have zg := n1_
        have zi := n2_
        have za := n3_
        have zm := n4_
        have HB := n5_
        clear n0_ n1_ n2_ n3_ n4_ n5_
        (try clear hb)
        (try clear hb2)
        (try clear hk)
        (try clear hi)
        refine hK.out _ _ ⟨(e1_ za.out 0).trans rfl, (e1_ za.out 1).trans rfl, (e1_ za.out 2).trans rfl, (e1_ za.out 3).trans rfl, (e1_ za.out 4).trans rfl, (e1_ za.out 5).trans rfl, (e1_ za.out 6).trans rfl, (e1_ za.out 7).trans rfl, ((HB.out.cell (c5_ w _ zP)).trans zP), ((HB.out.cell (c5_ w _ zO)).trans zO), ((HB.out.cell (c5_ w _ zN)).trans zN)⟩ (fun hHeld => ?_)
        clear hK K
        refine norm_ (a' := ?_) ?_ ?_
        rotate_left
        ·
         show Act.put _ (some 42) _ = _
         simp only [Act.put, d1_, d2_, d3_, i64_w, i32_w]
         rfl
        refine pure_ (i := 7) (N := some 35) (v := ?_) (a' := ?_) #[true, true, true, true, true, true, true, true, false, false, false, false, false] rfl rfl (any_of HT_.out (by kernel_rfl)) (fun _ _ _ h => h) (Or.inl ⟨by rfl, ?_⟩) ?_ ?_
        rotate_left
        ·
         intro w'
         go_simp
         with_reducible rfl
        rotate_left
        ·
         simp only [Act.put, d1_, d2_, d3_, i64_w, i32_w]
         rfl
        refine pure_ (i := 8) (N := some 43) (v := ?_) (a' := ?_) #[true, true, true, true, true, true, true, true, true, false, false, false, false] rfl rfl (any_of HT_.out (by kernel_rfl)) (fun _ _ _ h => h) (Or.inl ⟨by rfl, ?_⟩) ?_ ?_
        rotate_left
        ·
         intro w'
         go_simp
         with_reducible rfl
        rotate_left
        ·
         simp only [Act.put, d1_, d2_, d3_, i64_w, i32_w]
         rfl
        refine pure_ (i := 9) (N := some 44) (v := ?_) (a' := ?_) #[true, true, true, true, true, true, true, true, true, true, false, false, false] rfl rfl (any_of HT_.out (by kernel_rfl)) (fun _ _ _ h => h) (Or.inl ⟨by rfl, ?_⟩) ?_ ?_
        rotate_left
        ·
         intro w'
         go_simp
         with_reducible rfl
        rotate_left
        ·
         simp only [Act.put, d1_, d2_, d3_, i64_w, i32_w]
         rfl
        refine one_ (i := 10) (N := some 9) #[true, true, true, true, true, true, true, true, true, true, true, false, false] rfl rfl (one_of HT_.out (by kernel_rfl)) (by decide) (fun K hK => ?_)
        refine box_step ?hg (N := 9) ?hd (cs := #[.int .i64 0, .int .i64 0, .int .i64 0, .bool false]) (t := 75) ?hr ?_;(case hd => rfl);(case hg => rfl);(case hr => first|(go_simp; done)|(go_simp; rfl))
        intro zf hg w27 hbox hb
        have n0_ := c9_ (Kd.R_below (by (with_reducible repeat (first|apply c2_|apply c3_|apply c4_));exact zK.out) hb)
        have n1_ := c9_ (Kd.N_below (Kd.N_elderB (by (with_reducible repeat (first|apply b8_|apply b9_|apply c1_));exact zg.out) zf (Nat.le_of_eq hg.symm)) hb)
        have n2_ := c9_ (c6_ (g := zk) (by exact zi.out) hb)
        have n3_ := c9_ (c6_ (g := zd) (by exact za.out) hb)
        have n4_ := c9_ (c6_ (g := zj) (by exact zm.out) hb)
        have n5_ := c9_ (below_step (by repeat (first|(with_reducible first|exact HB.out|apply b4_|apply b5_|apply b6_|refine b7_ ?_ zF.out|refine b7_ ?_ zJ.out|refine b7_ ?_ zL.out)|exact HB.out)) hb)
        have n6_ := c9_ (hbox)
        have n7_ := c9_ ((by rw [hg];exact (e7_ (by repeat (first|(with_reducible first|exact HB.out|apply b4_|apply b5_|apply b6_|refine b7_ ?_ zF.out|refine b7_ ?_ zJ.out|refine b7_ ?_ zL.out)|exact HB.out))) : w.heap.size ≤ zf))
        have n8_ := c9_ ((by rw [hg];exact (e7_ (by repeat (first|(with_reducible first|exact HB.out|apply b4_|apply b5_|apply b6_|refine b7_ ?_ zF.out|refine b7_ ?_ zJ.out|refine b7_ ?_ zL.out)|exact HB.out))) : w.heap.size ≤ zf))
        have n9_ := c9_ ((by rw [hg];exact c8_ (blk_lt (g := zk) (by exact zi.out)) : zk ≠ zf))
        have n10_ := c9_ ((by rw [hg];exact Nat.ne_of_gt (blk_lt (g := zk) (by exact zi.out)) : zf ≠ zk))
        have n11_ := c9_ ((by rw [hg];exact c8_ (blk_lt (g := zd) (by exact za.out)) : zd ≠ zf))
        have n12_ := c9_ ((by rw [hg];exact Nat.ne_of_gt (blk_lt (g := zd) (by exact za.out)) : zf ≠ zd))
        have n13_ := c9_ ((by rw [hg];exact c8_ (blk_lt (g := zj) (by exact zm.out)) : zj ≠ zf))
        have n14_ := c9_ ((by rw [hg];exact Nat.ne_of_gt (blk_lt (g := zj) (by exact zm.out)) : zf ≠ zj))
        clear zK
        clear zg
        clear zi
        clear za
        clear zm
        clear HB
        have zK := n0_
        have zg := n1_
        have zi := n2_
        have za := n3_
        have zm := n4_
        have HB := n5_
        have zo := n6_
        have zG := n7_
        have zM := n8_
        have NB828_841 := n9_
        have NB841_828 := n10_
        have NB830_841 := n11_
        have NB841_830 := n12_
        have NB834_841 := n13_
        have NB841_834 := n14_
        clear n0_ n1_ n2_ n3_ n4_ n5_ n6_ n7_ n8_ n9_ n10_ n11_ n12_ n13_ n14_
        clear hb hbox hg
        refine hK.out _ _ ⟨(e1_ za.out 0).trans rfl, (e1_ za.out 1).trans rfl, (e1_ za.out 2).trans rfl, (e1_ za.out 3).trans rfl, (e1_ za.out 4).trans rfl, (e1_ za.out 5).trans rfl, (e1_ za.out 6).trans rfl, (e1_ za.out 7).trans rfl, ((HB.out.cell (c5_ w _ zP)).trans zP), ((HB.out.cell (c5_ w _ zO)).trans zO), ((HB.out.cell (c5_ w _ zN)).trans zN)⟩ (fun hHeld => ?_)
        clear hK K
        refine norm_ (a' := ?_) ?_ ?_
        rotate_left
        ·
         show Act.put _ (some 9) _ = _
         simp only [Act.put, d1_, d2_, d3_, i64_w, i32_w]
         rfl
        exact norm_ (by simp only [putAll, Act.put, List.setIfInBounds_toArray, List.set_cons_zero, List.set_cons_succ]) (hCont (zf) _ ⟨hHeld, (by (with_reducible repeat (first|apply c2_|apply c3_|apply c4_));exact zK.out), (by (with_reducible repeat (first|apply b8_|apply b9_|apply c1_));exact Kd.N_mono zg.out (fun _ hk => ⟨hk.1.1, ⟨hk.1.2.1, ⟨hk.1.2.2.1, ⟨hk.1.2.2.2.1, ⟨hk.1.2.2.2.2, hk.2⟩⟩⟩⟩⟩)), (by exact zi.out), (by exact za.out), (by exact zm.out), (by exact zo.out), zG.out, zM.out, NB828_841.out, NB841_828.out, NB830_841.out, NB841_830.out, NB834_841.out, NB841_834.out, (by repeat (first|(with_reducible first|exact HB.out|apply b4_|apply b5_|apply b6_|refine b7_ ?_ zF.out|refine b7_ ?_ zJ.out|refine b7_ ?_ zL.out|refine b7_ ?_ zM.out)|exact HB.out))⟩)
       ·
        skip
        refine box_step ?hg (N := 9) ?hd (cs := #[.int .i64 0, .int .i64 0, .int .i64 0, .bool false]) (t := 75) ?hr ?_;(case hd => rfl);(case hg => rfl);(case hr => first|(go_simp; done)|(go_simp; rfl))
        intro zf hg w26 hbox hb
        have n0_ := c9_ (Kd.R_below (by (with_reducible repeat (first|apply c2_|apply c3_|apply c4_));exact zK.out) hb)
        have n1_ := c9_ (Kd.N_below (Kd.N_elderB (by (with_reducible repeat (first|apply b8_|apply b9_|apply c1_));exact zg.out) zf (Nat.le_of_eq hg.symm)) hb)
        have n2_ := c9_ (c6_ (g := zk) (by exact zi.out) hb)
        have n3_ := c9_ (c6_ (g := zd) (by exact za.out) hb)
        have n4_ := c9_ (c6_ (g := zj) (by exact zm.out) hb)
        have n5_ := c9_ (below_step (by repeat (first|(with_reducible first|exact HB.out|apply b4_|apply b5_|apply b6_|refine b7_ ?_ zF.out|refine b7_ ?_ zJ.out|refine b7_ ?_ zL.out)|exact HB.out)) hb)
        have n6_ := c9_ (hbox)
        have n7_ := c9_ ((by rw [hg];exact (e7_ (by repeat (first|(with_reducible first|exact HB.out|apply b4_|apply b5_|apply b6_|refine b7_ ?_ zF.out|refine b7_ ?_ zJ.out|refine b7_ ?_ zL.out)|exact HB.out))) : w.heap.size ≤ zf))
        have n8_ := c9_ ((by rw [hg];exact (e7_ (by repeat (first|(with_reducible first|exact HB.out|apply b4_|apply b5_|apply b6_|refine b7_ ?_ zF.out|refine b7_ ?_ zJ.out|refine b7_ ?_ zL.out)|exact HB.out))) : w.heap.size ≤ zf))
        have n9_ := c9_ ((by rw [hg];exact c8_ (blk_lt (g := zk) (by exact zi.out)) : zk ≠ zf))
        have n10_ := c9_ ((by rw [hg];exact Nat.ne_of_gt (blk_lt (g := zk) (by exact zi.out)) : zf ≠ zk))
        have n11_ := c9_ ((by rw [hg];exact c8_ (blk_lt (g := zd) (by exact za.out)) : zd ≠ zf))
        have n12_ := c9_ ((by rw [hg];exact Nat.ne_of_gt (blk_lt (g := zd) (by exact za.out)) : zf ≠ zd))
        have n13_ := c9_ ((by rw [hg];exact c8_ (blk_lt (g := zj) (by exact zm.out)) : zj ≠ zf))
        have n14_ := c9_ ((by rw [hg];exact Nat.ne_of_gt (blk_lt (g := zj) (by exact zm.out)) : zf ≠ zj))
        clear zK
        clear zg
        clear zi
        clear za
        clear zm
        clear HB
        have zK := n0_
        have zg := n1_
        have zi := n2_
        have za := n3_
        have zm := n4_
        have HB := n5_
        have zo := n6_
        have zG := n7_
        have zM := n8_
        have NB828_841 := n9_
        have NB841_828 := n10_
        have NB830_841 := n11_
        have NB841_830 := n12_
        have NB834_841 := n13_
        have NB841_834 := n14_
        clear n0_ n1_ n2_ n3_ n4_ n5_ n6_ n7_ n8_ n9_ n10_ n11_ n12_ n13_ n14_
        clear hb hbox hg
        refine hK.out _ _ ⟨(e1_ za.out 0).trans rfl, (e1_ za.out 1).trans rfl, (e1_ za.out 2).trans rfl, (e1_ za.out 3).trans rfl, (e1_ za.out 4).trans rfl, (e1_ za.out 5).trans rfl, (e1_ za.out 6).trans rfl, (e1_ za.out 7).trans rfl, ((HB.out.cell (c5_ w _ zP)).trans zP), ((HB.out.cell (c5_ w _ zO)).trans zO), ((HB.out.cell (c5_ w _ zN)).trans zN)⟩ (fun hHeld => ?_)
        clear hK K
        refine norm_ (a' := ?_) ?_ ?_
        rotate_left
        ·
         show Act.put _ (some 9) _ = _
         simp only [Act.put, d1_, d2_, d3_, i64_w, i32_w]
         rfl
        refine one_ (i := 6) (N := some 42) #[true, true, true, true, true, true, true, false, false, false, true, false, false] rfl rfl (one_of HT_.out (by kernel_rfl)) (by decide) (fun K hK => ?_)
        refine goes_ Try.func159 (by kernel_rfl) rfl #[.agg #[.int .i64 zb, .int .i64 zc, .int .i64 ze, .bool zh], .agg #[.int .u8 ((rd_T137 l0 zB).f0), .int .i64 ((rd_T137 l0 zB).f1), .int .i64 ((rd_T137 l0 zB).f2)]] (by rfl) rfl rfl (by (try simp only [List.map_toArray, List.map_cons, List.map_nil]); first|done|rfl|(simp only [List.length_drop, List.length_take]; rfl)) ?_
        with_reducible refine (spec_l30Step.calls zb zc ze zh ((rd_T137 l0 zB).f0) ((rd_T137 l0 zB).f1) ((rd_T137 l0 zB).f2) zw zy zQ zR true _ A13.out).mono ?_
        rintro e w27 ⟨rfl, hb⟩
        refine ⟨_, rfl, ?_⟩
        have n0_ := c9_ (Kd.R_below (by (with_reducible repeat (first|apply c2_|apply c3_|apply c4_));exact zK.out) hb)
        have n1_ := c9_ (Kd.N_below (by (with_reducible repeat (first|apply b8_|apply b9_|apply c1_));exact zg.out) hb)
        have n2_ := c9_ (c6_ (g := zk) (by exact zi.out) hb)
        have n3_ := c9_ (c6_ (g := zd) (by exact za.out) hb)
        have n4_ := c9_ (c6_ (g := zj) (by exact zm.out) hb)
        have n5_ := c9_ (c6_ (g := zf) (by exact zo.out) hb)
        have n6_ := c9_ (below_step (by repeat (first|(with_reducible first|exact HB.out|apply b4_|apply b5_|apply b6_|refine b7_ ?_ zF.out|refine b7_ ?_ zJ.out|refine b7_ ?_ zL.out|refine b7_ ?_ zM.out)|exact HB.out)) hb)
        clear zK
        clear zg
        clear zi
        clear za
        clear zm
        clear zo
        clear HB
        have zK := n0_
        have zg := n1_
        have zi := n2_
        have za := n3_
        have zm := n4_
        have zo := n5_
        have HB := n6_
        clear n0_ n1_ n2_ n3_ n4_ n5_ n6_
        (try clear hb)
        (try clear hb2)
        (try clear hk)
        (try clear hi)
        refine hK.out _ _ ⟨(e1_ za.out 0).trans rfl, (e1_ za.out 1).trans rfl, (e1_ za.out 2).trans rfl, (e1_ za.out 3).trans rfl, (e1_ za.out 4).trans rfl, (e1_ za.out 5).trans rfl, (e1_ za.out 6).trans rfl, (e1_ za.out 7).trans rfl, ((HB.out.cell (c5_ w _ zP)).trans zP), ((HB.out.cell (c5_ w _ zO)).trans zO), ((HB.out.cell (c5_ w _ zN)).trans zN)⟩ (fun hHeld => ?_)
        clear hK K
        refine norm_ (a' := ?_) ?_ ?_
        rotate_left
        ·
         show Act.put _ (some 42) _ = _
         simp only [Act.put, d1_, d2_, d3_, i64_w, i32_w]
         rfl
        refine pure_ (i := 7) (N := some 35) (v := ?_) (a' := ?_) #[true, true, true, true, true, true, true, true, false, false, true, false, false] rfl rfl (any_of HT_.out (by kernel_rfl)) (fun _ _ _ h => h) (Or.inl ⟨by rfl, ?_⟩) ?_ ?_
        rotate_left
        ·
         intro w'
         go_simp
         with_reducible rfl
        rotate_left
        ·
         simp only [Act.put, d1_, d2_, d3_, i64_w, i32_w]
         rfl
        refine pure_ (i := 8) (N := some 43) (v := ?_) (a' := ?_) #[true, true, true, true, true, true, true, true, true, false, true, false, false] rfl rfl (any_of HT_.out (by kernel_rfl)) (fun _ _ _ h => h) (Or.inl ⟨by rfl, ?_⟩) ?_ ?_
        rotate_left
        ·
         intro w'
         go_simp
         with_reducible rfl
        rotate_left
        ·
         simp only [Act.put, d1_, d2_, d3_, i64_w, i32_w]
         rfl
        refine pure_ (i := 9) (N := some 44) (v := ?_) (a' := ?_) #[true, true, true, true, true, true, true, true, true, true, true, false, false] rfl rfl (any_of HT_.out (by kernel_rfl)) (fun _ _ _ h => h) (Or.inl ⟨by rfl, ?_⟩) ?_ ?_
        rotate_left
        ·
         intro w'
         go_simp
         with_reducible rfl
        rotate_left
        ·
         simp only [Act.put, d1_, d2_, d3_, i64_w, i32_w]
         rfl
        exact norm_ (by simp only [putAll, Act.put, List.setIfInBounds_toArray, List.set_cons_zero, List.set_cons_succ]) (hCont (zf) _ ⟨hHeld, (by (with_reducible repeat (first|apply c2_|apply c3_|apply c4_));exact zK.out), (by (with_reducible repeat (first|apply b8_|apply b9_|apply c1_));exact Kd.N_mono zg.out (fun _ hk => ⟨hk.1.1, ⟨hk.1.2.1, ⟨hk.1.2.2.1, ⟨hk.1.2.2.2.1, ⟨hk.1.2.2.2.2, hk.2⟩⟩⟩⟩⟩)), (by exact zi.out), (by exact za.out), (by exact zm.out), (by exact zo.out), zG.out, zM.out, NB828_841.out, NB841_828.out, NB830_841.out, NB841_830.out, NB834_841.out, NB841_834.out, (by repeat (first|(with_reducible first|exact HB.out|apply b4_|apply b5_|apply b6_|refine b7_ ?_ zF.out|refine b7_ ?_ zJ.out|refine b7_ ?_ zL.out|refine b7_ ?_ zM.out)|exact HB.out))⟩)
      rintro zf w28 ⟨hS_, h0_, h1_, h2_, h3_, h4_, h5_, h6_, h7_, h8_, h9_, h10_, h11_, h12_, h13_, h14_⟩
      have n0_ : Aside0 (Kd.R k90 90 w28 w.heap.size (fun k_ => (w.heap.size ≤ k_) ∧ k_ ≠ zj) u6 zT) := ⟨h0_⟩
      have n1_ : Aside0 (Kd.N k110 110 w28 w.heap.size (fun k_ => (w.heap.size ≤ k_) ∧ some k_ ≠ (u6 : Value).ownBlock ∧ k_ ≠ zk ∧ k_ ≠ zd ∧ k_ ≠ zj ∧ k_ ≠ zf) zE zl) := ⟨h1_⟩
      have n2_ : Aside0 (w28.heap[zk]? = some (.cells #[.int .i64 zz, .int .i64 zx, .int .i64 zv, .bool zu, .slice none 0 0, .int .i64 zt, .int .i64 zs, .int .i64 zp] 153 (0, 0))) := ⟨h2_⟩
      have n3_ : Aside0 (w28.heap[zd]? = some (.cells #[.int .i64 zb, .int .i64 zc, .int .i64 ze, .bool zh, zE, .int .i64 zr, .int .i64 zn, .int .i64 zq] 153 (0, 0))) := ⟨h3_⟩
      have n4_ : Aside0 (w28.heap[zj]? = some (.cells #[.int .i64 zb, .int .i64 zc] 90 (0, 0))) := ⟨h4_⟩
      have n5_ : Aside0 (w28.heap[zf]? = some (.cells #[.int .i64 0, .int .i64 0, .int .i64 0, .bool false] 75 (0, 0))) := ⟨h5_⟩
      have n6_ : Aside0 (w.heap.size ≤ zf) := ⟨h6_⟩
      have n7_ : Aside0 (w.heap.size ≤ zf) := ⟨h7_⟩
      have n8_ : Aside0 (zk ≠ zf) := ⟨h8_⟩
      have n9_ : Aside0 (zf ≠ zk) := ⟨h9_⟩
      have n10_ : Aside0 (zd ≠ zf) := ⟨h10_⟩
      have n11_ : Aside0 (zf ≠ zd) := ⟨h11_⟩
      have n12_ : Aside0 (zj ≠ zf) := ⟨h12_⟩
      have n13_ : Aside0 (zf ≠ zj) := ⟨h13_⟩
      have n14_ : Aside0 (Below w.heap.size w w28) := ⟨h14_⟩
      clear zK
      clear zg
      clear zi
      clear za
      clear zm
      clear HB
      clear h0_ h1_ h2_ h3_ h4_ h5_ h6_ h7_ h8_ h9_ h10_ h11_ h12_ h13_ h14_
      have zK := n0_
      have zg := n1_
      have zi := n2_
      have za := n3_
      have zm := n4_
      have zo := n5_
      have zG := n6_
      have zM := n7_
      have NB828_841 := n8_
      have NB841_828 := n9_
      have NB830_841 := n10_
      have NB841_830 := n11_
      have NB834_841 := n12_
      have NB841_834 := n13_
      have HB := n14_
      clear n0_ n1_ n2_ n3_ n4_ n5_ n6_ n7_ n8_ n9_ n10_ n11_ n12_ n13_ n14_
      have hHeld : w28.cell? ⟨zd, 0, none⟩ = some (.int .i64 zb) ∧ w28.cell? ⟨zd, 1, none⟩ = some (.int .i64 zc) ∧ w28.cell? ⟨zd, 2, none⟩ = some (.int .i64 ze) ∧ w28.cell? ⟨zd, 3, none⟩ = some (.bool zh) ∧ w28.cell? ⟨zd, 4, none⟩ = some (zE) ∧ w28.cell? ⟨zd, 5, none⟩ = some (.int .i64 zr) ∧ w28.cell? ⟨zd, 6, none⟩ = some (.int .i64 zn) ∧ w28.cell? ⟨zd, 7, none⟩ = some (.int .i64 zq) ∧ w28.cell? (zW.add ((zB).toNat * 3)) = some (.int .u8 ((rd_T137 l0 zB).f0)) ∧ w28.cell? ⟨(zW.add ((zB).toNat * 3)).block, (zW.add ((zB).toNat * 3)).off + 1, none⟩ = some (.int .i64 ((rd_T137 l0 zB).f1)) ∧ w28.cell? ⟨(zW.add ((zB).toNat * 3)).block, (zW.add ((zB).toNat * 3)).off + 2, none⟩ = some (.int .i64 ((rd_T137 l0 zB).f2)) := hS_
      refine norm_ (a' := ?_) ?_ ?_
      rotate_left
      ·
       simp only [putAll, Act.put, List.setIfInBounds_toArray, List.set_cons_zero, List.set_cons_succ]
       rfl
      refine one_ (i := 11) (N := none) #[true, true, true, true, true, true, true, true, true, true, true, true, false] rfl rfl (one_of HT_.out (by kernel_rfl)) (by decide) (fun K hK => ?_)
      have hs29 : w28.cell? ⟨zf, 0, none⟩ = some (.int .i64 0) := (e1_ zo.out 0).trans rfl
      have hfs29 := e2_ zo.out 0
      have hns29_0 := NB828_841.out
      have hns29_1 := NB830_841.out
      have hns29_2 := NB834_841.out
      have hms29_0 := NB841_828.out
      have hms29_1 := NB841_830.out
      have hms29_2 := NB841_834.out
      have hs30 : w28.cell? ⟨zf, 1, none⟩ = some (.int .i64 0) := (e1_ zo.out 1).trans rfl
      have hfs30 := e2_ zo.out 1
      have hns30_0 := NB828_841.out
      have hns30_1 := NB830_841.out
      have hns30_2 := NB834_841.out
      have hms30_0 := NB841_828.out
      have hms30_1 := NB841_830.out
      have hms30_2 := NB841_834.out
      have hs31 : w28.cell? ⟨zf, 2, none⟩ = some (.int .i64 0) := (e1_ zo.out 2).trans rfl
      have hfs31 := e2_ zo.out 2
      have hns31_0 := NB828_841.out
      have hns31_1 := NB830_841.out
      have hns31_2 := NB834_841.out
      have hms31_0 := NB841_828.out
      have hms31_1 := NB841_830.out
      have hms31_2 := NB841_834.out
      have hs32 : w28.cell? ⟨zf, 3, none⟩ = some (.bool false) := (e1_ zo.out 3).trans rfl
      have hfs32 := e2_ zo.out 3
      have hns32_0 := NB828_841.out
      have hns32_1 := NB830_841.out
      have hns32_2 := NB834_841.out
      have hms32_0 := NB841_828.out
      have hms32_1 := NB841_830.out
      have hms32_2 := NB841_834.out
      refine skip_ (w1 := ?_) (by rfl) rfl ?_ ?_
      rotate_left
      ·
       go_simp
       rfl
      refine hK.out _ _ ⟨((e4_ (p := ⟨zf, _, none⟩) NB830_841.out _).trans (((e4_ (p := ⟨zf, _, none⟩) NB830_841.out _).trans (((e4_ (p := ⟨zf, _, none⟩) NB830_841.out _).trans (((e4_ (p := ⟨zf, _, none⟩) NB830_841.out _).trans (hHeld.1)))))))), ((e4_ (p := ⟨zf, _, none⟩) NB830_841.out _).trans (((e4_ (p := ⟨zf, _, none⟩) NB830_841.out _).trans (((e4_ (p := ⟨zf, _, none⟩) NB830_841.out _).trans (((e4_ (p := ⟨zf, _, none⟩) NB830_841.out _).trans (hHeld.2.1)))))))), ((e4_ (p := ⟨zf, _, none⟩) NB830_841.out _).trans (((e4_ (p := ⟨zf, _, none⟩) NB830_841.out _).trans (((e4_ (p := ⟨zf, _, none⟩) NB830_841.out _).trans (((e4_ (p := ⟨zf, _, none⟩) NB830_841.out _).trans (hHeld.2.2.1)))))))), ((e4_ (p := ⟨zf, _, none⟩) NB830_841.out _).trans (((e4_ (p := ⟨zf, _, none⟩) NB830_841.out _).trans (((e4_ (p := ⟨zf, _, none⟩) NB830_841.out _).trans (((e4_ (p := ⟨zf, _, none⟩) NB830_841.out _).trans (hHeld.2.2.2.1)))))))), ((e4_ (p := ⟨zf, _, none⟩) NB830_841.out _).trans (((e4_ (p := ⟨zf, _, none⟩) NB830_841.out _).trans (((e4_ (p := ⟨zf, _, none⟩) NB830_841.out _).trans (((e4_ (p := ⟨zf, _, none⟩) NB830_841.out _).trans (hHeld.2.2.2.2.1)))))))), ((e4_ (p := ⟨zf, _, none⟩) NB830_841.out _).trans (((e4_ (p := ⟨zf, _, none⟩) NB830_841.out _).trans (((e4_ (p := ⟨zf, _, none⟩) NB830_841.out _).trans (((e4_ (p := ⟨zf, _, none⟩) NB830_841.out _).trans (hHeld.2.2.2.2.2.1)))))))), ((e4_ (p := ⟨zf, _, none⟩) NB830_841.out _).trans (((e4_ (p := ⟨zf, _, none⟩) NB830_841.out _).trans (((e4_ (p := ⟨zf, _, none⟩) NB830_841.out _).trans (((e4_ (p := ⟨zf, _, none⟩) NB830_841.out _).trans (hHeld.2.2.2.2.2.2.1)))))))), ((e4_ (p := ⟨zf, _, none⟩) NB830_841.out _).trans (((e4_ (p := ⟨zf, _, none⟩) NB830_841.out _).trans (((e4_ (p := ⟨zf, _, none⟩) NB830_841.out _).trans (((e4_ (p := ⟨zf, _, none⟩) NB830_841.out _).trans (hHeld.2.2.2.2.2.2.2.1)))))))), ((e4_ (p := ⟨zf, _, none⟩) (by have q_ := c5_ _ _ zP;(try rw [e3_] at q_);first|exact c8_ (c7_ q_ zG.out)|(rw [e3_];exact c8_ (c7_ q_ zG.out))|(show (Addr.add _ _).block ≠ _;rw [e3_];exact c8_ (c7_ q_ zG.out))|(dsimp only;exact c8_ (c7_ q_ zG.out))) _).trans (((e4_ (p := ⟨zf, _, none⟩) (by have q_ := c5_ _ _ zP;(try rw [e3_] at q_);first|exact c8_ (c7_ q_ zG.out)|(rw [e3_];exact c8_ (c7_ q_ zG.out))|(show (Addr.add _ _).block ≠ _;rw [e3_];exact c8_ (c7_ q_ zG.out))|(dsimp only;exact c8_ (c7_ q_ zG.out))) _).trans (((e4_ (p := ⟨zf, _, none⟩) (by have q_ := c5_ _ _ zP;(try rw [e3_] at q_);first|exact c8_ (c7_ q_ zG.out)|(rw [e3_];exact c8_ (c7_ q_ zG.out))|(show (Addr.add _ _).block ≠ _;rw [e3_];exact c8_ (c7_ q_ zG.out))|(dsimp only;exact c8_ (c7_ q_ zG.out))) _).trans (((e4_ (p := ⟨zf, _, none⟩) (by have q_ := c5_ _ _ zP;(try rw [e3_] at q_);first|exact c8_ (c7_ q_ zG.out)|(rw [e3_];exact c8_ (c7_ q_ zG.out))|(show (Addr.add _ _).block ≠ _;rw [e3_];exact c8_ (c7_ q_ zG.out))|(dsimp only;exact c8_ (c7_ q_ zG.out))) _).trans (hHeld.2.2.2.2.2.2.2.2.1)))))))), ((e4_ (p := ⟨zf, _, none⟩) (by have q_ := c5_ _ _ zO;(try rw [e3_] at q_);first|exact c8_ (c7_ q_ zG.out)|(rw [e3_];exact c8_ (c7_ q_ zG.out))|(show (Addr.add _ _).block ≠ _;rw [e3_];exact c8_ (c7_ q_ zG.out))|(dsimp only;exact c8_ (c7_ q_ zG.out))) _).trans (((e4_ (p := ⟨zf, _, none⟩) (by have q_ := c5_ _ _ zO;(try rw [e3_] at q_);first|exact c8_ (c7_ q_ zG.out)|(rw [e3_];exact c8_ (c7_ q_ zG.out))|(show (Addr.add _ _).block ≠ _;rw [e3_];exact c8_ (c7_ q_ zG.out))|(dsimp only;exact c8_ (c7_ q_ zG.out))) _).trans (((e4_ (p := ⟨zf, _, none⟩) (by have q_ := c5_ _ _ zO;(try rw [e3_] at q_);first|exact c8_ (c7_ q_ zG.out)|(rw [e3_];exact c8_ (c7_ q_ zG.out))|(show (Addr.add _ _).block ≠ _;rw [e3_];exact c8_ (c7_ q_ zG.out))|(dsimp only;exact c8_ (c7_ q_ zG.out))) _).trans (((e4_ (p := ⟨zf, _, none⟩) (by have q_ := c5_ _ _ zO;(try rw [e3_] at q_);first|exact c8_ (c7_ q_ zG.out)|(rw [e3_];exact c8_ (c7_ q_ zG.out))|(show (Addr.add _ _).block ≠ _;rw [e3_];exact c8_ (c7_ q_ zG.out))|(dsimp only;exact c8_ (c7_ q_ zG.out))) _).trans (hHeld.2.2.2.2.2.2.2.2.2.1)))))))), ((e4_ (p := ⟨zf, _, none⟩) (by have q_ := c5_ _ _ zN;(try rw [e3_] at q_);first|exact c8_ (c7_ q_ zG.out)|(rw [e3_];exact c8_ (c7_ q_ zG.out))|(show (Addr.add _ _).block ≠ _;rw [e3_];exact c8_ (c7_ q_ zG.out))|(dsimp only;exact c8_ (c7_ q_ zG.out))) _).trans (((e4_ (p := ⟨zf, _, none⟩) (by have q_ := c5_ _ _ zN;(try rw [e3_] at q_);first|exact c8_ (c7_ q_ zG.out)|(rw [e3_];exact c8_ (c7_ q_ zG.out))|(show (Addr.add _ _).block ≠ _;rw [e3_];exact c8_ (c7_ q_ zG.out))|(dsimp only;exact c8_ (c7_ q_ zG.out))) _).trans (((e4_ (p := ⟨zf, _, none⟩) (by have q_ := c5_ _ _ zN;(try rw [e3_] at q_);first|exact c8_ (c7_ q_ zG.out)|(rw [e3_];exact c8_ (c7_ q_ zG.out))|(show (Addr.add _ _).block ≠ _;rw [e3_];exact c8_ (c7_ q_ zG.out))|(dsimp only;exact c8_ (c7_ q_ zG.out))) _).trans (((e4_ (p := ⟨zf, _, none⟩) (by have q_ := c5_ _ _ zN;(try rw [e3_] at q_);first|exact c8_ (c7_ q_ zG.out)|(rw [e3_];exact c8_ (c7_ q_ zG.out))|(show (Addr.add _ _).block ≠ _;rw [e3_];exact c8_ (c7_ q_ zG.out))|(dsimp only;exact c8_ (c7_ q_ zG.out))) _).trans (hHeld.2.2.2.2.2.2.2.2.2.2))))))))⟩ (fun hHeld => ?_)
      clear hK K
      refine pure_ (i := 12) (N := some 10) (v := ?_) (a' := ?_) #[true, true, true, true, true, true, true, true, true, true, true, true, true] rfl rfl (any_of HT_.out (by kernel_rfl)) (fun _ _ _ h => h) (Or.inl ⟨by rfl, ?_⟩) ?_ ?_
      rotate_left
      ·
       intro w'
       go_simp
       with_reducible rfl
      rotate_left
      ·
       simp only [Act.put, d1_, d2_, d3_, i64_w, i32_w]
       rfl
      refine done_ (done_of HT_.out (by kernel_rfl)) ?_
      have hnb33 := NB841_828.out
      have hnc33 := NB828_841.out
      have hnb34 := NB841_830.out
      have hnc34 := NB830_841.out
      have hnb35 := NB841_834.out
      have hnc35 := NB834_841.out
      have hcz36_0 : w28.cell? ⟨zf, 0, none⟩ = some (.int .i64 0) := (e1_ zo.out 0).trans rfl
      have hcz36_1 : w28.cell? ⟨zf, 1, none⟩ = some (.int .i64 0) := (e1_ zo.out 1).trans rfl
      have hcz36_2 : w28.cell? ⟨zf, 2, none⟩ = some (.int .i64 0) := (e1_ zo.out 2).trans rfl
      have hcz36_3 : w28.cell? ⟨zf, 3, none⟩ = some (.bool false) := (e1_ zo.out 3).trans rfl
      have hfz36_0 := e2_ zo.out 0
      have hfz36_1 := e2_ zo.out 1
      have hfz36_2 := e2_ zo.out 2
      have hfz36_3 := e2_ zo.out 3
      go_upto_block 2 with (first|((with_reducible refine gate_dst (N := 11) rfl ?_);(try (refine gate_guard (by rfl) ?_; dsimp only));refine box_event ?hg (N := 11) ?hd (cs := #[.int .i64 0, .int .i64 0]) (t := 90) ?hr ?_;(case hd => rfl);(case hg => rfl);(case hr => first|(go_simp; done)|(go_simp; rfl)); intro zA hg w37 hbox hb;have n0_ := c9_ (Kd.R_below (Kd.R_elderB (by (with_reducible repeat (first|apply c2_|apply c3_|apply c4_));exact (Kd.R_mono (Kd.R_far (p := ⟨zf, 3, none⟩) (Kd.R_far (p := ⟨zf, 2, none⟩) (Kd.R_far (p := ⟨zf, 1, none⟩) (Kd.R_far (p := ⟨zf, 0, none⟩) (Kd.R_types zK.out zo.out (by decide)) (fun _ hk => hk.2) (.int .i64 zw)) (fun _ hk => hk.2) (.int .i64 zy)) (fun _ hk => hk.2) (.int .i64 zQ)) (fun _ hk => hk.2) (.bool zR)) (fun _ h_ => h_.1))) zA (Nat.le_of_eq hg.symm)) hb);have n1_ := c9_ (Kd.N_below (Kd.N_elderB (by (with_reducible repeat (first|apply b8_|apply b9_|apply c1_));exact (Kd.N_mono (Kd.N_far (p := ⟨zf, 3, none⟩) (Kd.N_far (p := ⟨zf, 2, none⟩) (Kd.N_far (p := ⟨zf, 1, none⟩) (Kd.N_far (p := ⟨zf, 0, none⟩) (Kd.N_mono zg.out (fun k_ hk => (⟨hk, hk.2.2.2.2.2⟩ : _ ∧ k_ ≠ zf))) (fun _ hk => hk.2) (.int .i64 zw)) (fun _ hk => hk.2) (.int .i64 zy)) (fun _ hk => hk.2) (.int .i64 zQ)) (fun _ hk => hk.2) (.bool zR)) (fun _ h_ => h_.1))) zA (Nat.le_of_eq hg.symm)) hb);have n2_ := c9_ (c6_ (g := zk) (o := .cells #[.int .i64 zz, .int .i64 zx, .int .i64 zv, .bool zu, .slice none 0 0, .int .i64 zt, .int .i64 zs, .int .i64 zp] 153 (0, 0)) (by (with_reducible repeat (first|refine b1_ ?_ _|refine b2_ ?_|refine b3_ ?_ _));refine e5_ ?_ NB828_841.out _;(with_reducible repeat (first|refine b1_ ?_ _|refine b2_ ?_|refine b3_ ?_ _));refine e5_ ?_ NB828_841.out _;(with_reducible repeat (first|refine b1_ ?_ _|refine b2_ ?_|refine b3_ ?_ _));refine e5_ ?_ NB828_841.out _;(with_reducible repeat (first|refine b1_ ?_ _|refine b2_ ?_|refine b3_ ?_ _));refine e5_ ?_ NB828_841.out _;exact zi.out) hb);have n3_ := c9_ (c6_ (g := zd) (o := .cells #[.int .i64 zb, .int .i64 zc, .int .i64 ze, .bool zh, zE, .int .i64 zr, .int .i64 zn, .int .i64 zq] 153 (0, 0)) (by (with_reducible repeat (first|refine b1_ ?_ _|refine b2_ ?_|refine b3_ ?_ _));refine e5_ ?_ NB830_841.out _;(with_reducible repeat (first|refine b1_ ?_ _|refine b2_ ?_|refine b3_ ?_ _));refine e5_ ?_ NB830_841.out _;(with_reducible repeat (first|refine b1_ ?_ _|refine b2_ ?_|refine b3_ ?_ _));refine e5_ ?_ NB830_841.out _;(with_reducible repeat (first|refine b1_ ?_ _|refine b2_ ?_|refine b3_ ?_ _));refine e5_ ?_ NB830_841.out _;exact za.out) hb);have n4_ := c9_ (c6_ (g := zj) (o := .cells #[.int .i64 zb, .int .i64 zc] 90 (0, 0)) (by (with_reducible repeat (first|refine b1_ ?_ _|refine b2_ ?_|refine b3_ ?_ _));refine e5_ ?_ NB834_841.out _;(with_reducible repeat (first|refine b1_ ?_ _|refine b2_ ?_|refine b3_ ?_ _));refine e5_ ?_ NB834_841.out _;(with_reducible repeat (first|refine b1_ ?_ _|refine b2_ ?_|refine b3_ ?_ _));refine e5_ ?_ NB834_841.out _;(with_reducible repeat (first|refine b1_ ?_ _|refine b2_ ?_|refine b3_ ?_ _));refine e5_ ?_ NB834_841.out _;exact zm.out) hb);have n5_ := c9_ (c6_ (g := zf) (o := .cells #[.int .i64 zw, .int .i64 zy, .int .i64 zQ, .bool zR] 75 (0, 0)) (by (with_reducible repeat (first|refine b1_ ?_ _|refine b2_ ?_|refine b3_ ?_ _));refine blk_put (cs := #[.int .i64 zw, .int .i64 zy, .int .i64 zQ, .bool false]) ?_ 3 _ rfl;(with_reducible repeat (first|refine b1_ ?_ _|refine b2_ ?_|refine b3_ ?_ _));refine blk_put (cs := #[.int .i64 zw, .int .i64 zy, .int .i64 0, .bool false]) ?_ 2 _ rfl;(with_reducible repeat (first|refine b1_ ?_ _|refine b2_ ?_|refine b3_ ?_ _));refine blk_put (cs := #[.int .i64 zw, .int .i64 0, .int .i64 0, .bool false]) ?_ 1 _ rfl;(with_reducible repeat (first|refine b1_ ?_ _|refine b2_ ?_|refine b3_ ?_ _));refine blk_put (cs := #[.int .i64 0, .int .i64 0, .int .i64 0, .bool false]) ?_ 0 _ rfl;exact zo.out) hb);have n6_ := c9_ (below_step (by repeat (first|(with_reducible first|exact HB.out|apply b4_|apply b5_|apply b6_|refine b7_ ?_ zF.out|refine b7_ ?_ zJ.out|refine b7_ ?_ zL.out|refine b7_ ?_ zM.out)|exact HB.out)) hb);have n7_ := c9_ (hbox);have n8_ := c9_ ((by rw [hg];exact (e7_ (by repeat (first|(with_reducible first|exact HB.out|apply b4_|apply b5_|apply b6_|refine b7_ ?_ zF.out|refine b7_ ?_ zJ.out|refine b7_ ?_ zL.out|refine b7_ ?_ zM.out)|exact HB.out))) : w.heap.size ≤ zA));have n9_ := c9_ ((by rw [hg];exact (e7_ (by repeat (first|(with_reducible first|exact HB.out|apply b4_|apply b5_|apply b6_|refine b7_ ?_ zF.out|refine b7_ ?_ zJ.out|refine b7_ ?_ zL.out|refine b7_ ?_ zM.out)|exact HB.out))) : w.heap.size ≤ zA));have n10_ := c9_ ((by rw [hg];exact c8_ (blk_lt (g := zk) (o := .cells #[.int .i64 zz, .int .i64 zx, .int .i64 zv, .bool zu, .slice none 0 0, .int .i64 zt, .int .i64 zs, .int .i64 zp] 153 (0, 0)) (by (with_reducible repeat (first|refine b1_ ?_ _|refine b2_ ?_|refine b3_ ?_ _));refine e5_ ?_ NB828_841.out _;(with_reducible repeat (first|refine b1_ ?_ _|refine b2_ ?_|refine b3_ ?_ _));refine e5_ ?_ NB828_841.out _;(with_reducible repeat (first|refine b1_ ?_ _|refine b2_ ?_|refine b3_ ?_ _));refine e5_ ?_ NB828_841.out _;(with_reducible repeat (first|refine b1_ ?_ _|refine b2_ ?_|refine b3_ ?_ _));refine e5_ ?_ NB828_841.out _;exact zi.out)) : zk ≠ zA));have n11_ := c9_ ((by rw [hg];exact Nat.ne_of_gt (blk_lt (g := zk) (o := .cells #[.int .i64 zz, .int .i64 zx, .int .i64 zv, .bool zu, .slice none 0 0, .int .i64 zt, .int .i64 zs, .int .i64 zp] 153 (0, 0)) (by (with_reducible repeat (first|refine b1_ ?_ _|refine b2_ ?_|refine b3_ ?_ _));refine e5_ ?_ NB828_841.out _;(with_reducible repeat (first|refine b1_ ?_ _|refine b2_ ?_|refine b3_ ?_ _));refine e5_ ?_ NB828_841.out _;(with_reducible repeat (first|refine b1_ ?_ _|refine b2_ ?_|refine b3_ ?_ _));refine e5_ ?_ NB828_841.out _;(with_reducible repeat (first|refine b1_ ?_ _|refine b2_ ?_|refine b3_ ?_ _));refine e5_ ?_ NB828_841.out _;exact zi.out)) : zA ≠ zk));have n12_ := c9_ ((by rw [hg];exact c8_ (blk_lt (g := zd) (o := .cells #[.int .i64 zb, .int .i64 zc, .int .i64 ze, .bool zh, zE, .int .i64 zr, .int .i64 zn, .int .i64 zq] 153 (0, 0)) (by (with_reducible repeat (first|refine b1_ ?_ _|refine b2_ ?_|refine b3_ ?_ _));refine e5_ ?_ NB830_841.out _;(with_reducible repeat (first|refine b1_ ?_ _|refine b2_ ?_|refine b3_ ?_ _));refine e5_ ?_ NB830_841.out _;(with_reducible repeat (first|refine b1_ ?_ _|refine b2_ ?_|refine b3_ ?_ _));refine e5_ ?_ NB830_841.out _;(with_reducible repeat (first|refine b1_ ?_ _|refine b2_ ?_|refine b3_ ?_ _));refine e5_ ?_ NB830_841.out _;exact za.out)) : zd ≠ zA));have n13_ := c9_ ((by rw [hg];exact Nat.ne_of_gt (blk_lt (g := zd) (o := .cells #[.int .i64 zb, .int .i64 zc, .int .i64 ze, .bool zh, zE, .int .i64 zr, .int .i64 zn, .int .i64 zq] 153 (0, 0)) (by (with_reducible repeat (first|refine b1_ ?_ _|refine b2_ ?_|refine b3_ ?_ _));refine e5_ ?_ NB830_841.out _;(with_reducible repeat (first|refine b1_ ?_ _|refine b2_ ?_|refine b3_ ?_ _));refine e5_ ?_ NB830_841.out _;(with_reducible repeat (first|refine b1_ ?_ _|refine b2_ ?_|refine b3_ ?_ _));refine e5_ ?_ NB830_841.out _;(with_reducible repeat (first|refine b1_ ?_ _|refine b2_ ?_|refine b3_ ?_ _));refine e5_ ?_ NB830_841.out _;exact za.out)) : zA ≠ zd));have n14_ := c9_ ((by rw [hg];exact c8_ (blk_lt (g := zj) (o := .cells #[.int .i64 zb, .int .i64 zc] 90 (0, 0)) (by (with_reducible repeat (first|refine b1_ ?_ _|refine b2_ ?_|refine b3_ ?_ _));refine e5_ ?_ NB834_841.out _;(with_reducible repeat (first|refine b1_ ?_ _|refine b2_ ?_|refine b3_ ?_ _));refine e5_ ?_ NB834_841.out _;(with_reducible repeat (first|refine b1_ ?_ _|refine b2_ ?_|refine b3_ ?_ _));refine e5_ ?_ NB834_841.out _;(with_reducible repeat (first|refine b1_ ?_ _|refine b2_ ?_|refine b3_ ?_ _));refine e5_ ?_ NB834_841.out _;exact zm.out)) : zj ≠ zA));have n15_ := c9_ ((by rw [hg];exact Nat.ne_of_gt (blk_lt (g := zj) (o := .cells #[.int .i64 zb, .int .i64 zc] 90 (0, 0)) (by (with_reducible repeat (first|refine b1_ ?_ _|refine b2_ ?_|refine b3_ ?_ _));refine e5_ ?_ NB834_841.out _;(with_reducible repeat (first|refine b1_ ?_ _|refine b2_ ?_|refine b3_ ?_ _));refine e5_ ?_ NB834_841.out _;(with_reducible repeat (first|refine b1_ ?_ _|refine b2_ ?_|refine b3_ ?_ _));refine e5_ ?_ NB834_841.out _;(with_reducible repeat (first|refine b1_ ?_ _|refine b2_ ?_|refine b3_ ?_ _));refine e5_ ?_ NB834_841.out _;exact zm.out)) : zA ≠ zj));have n16_ := c9_ ((by rw [hg];exact c8_ (blk_lt (g := zf) (o := .cells #[.int .i64 zw, .int .i64 zy, .int .i64 zQ, .bool zR] 75 (0, 0)) (by (with_reducible repeat (first|refine b1_ ?_ _|refine b2_ ?_|refine b3_ ?_ _));refine blk_put (cs := #[.int .i64 zw, .int .i64 zy, .int .i64 zQ, .bool false]) ?_ 3 _ rfl;(with_reducible repeat (first|refine b1_ ?_ _|refine b2_ ?_|refine b3_ ?_ _));refine blk_put (cs := #[.int .i64 zw, .int .i64 zy, .int .i64 0, .bool false]) ?_ 2 _ rfl;(with_reducible repeat (first|refine b1_ ?_ _|refine b2_ ?_|refine b3_ ?_ _));refine blk_put (cs := #[.int .i64 zw, .int .i64 0, .int .i64 0, .bool false]) ?_ 1 _ rfl;(with_reducible repeat (first|refine b1_ ?_ _|refine b2_ ?_|refine b3_ ?_ _));refine blk_put (cs := #[.int .i64 0, .int .i64 0, .int .i64 0, .bool false]) ?_ 0 _ rfl;exact zo.out)) : zf ≠ zA));have n17_ := c9_ ((by rw [hg];exact Nat.ne_of_gt (blk_lt (g := zf) (o := .cells #[.int .i64 zw, .int .i64 zy, .int .i64 zQ, .bool zR] 75 (0, 0)) (by (with_reducible repeat (first|refine b1_ ?_ _|refine b2_ ?_|refine b3_ ?_ _));refine blk_put (cs := #[.int .i64 zw, .int .i64 zy, .int .i64 zQ, .bool false]) ?_ 3 _ rfl;(with_reducible repeat (first|refine b1_ ?_ _|refine b2_ ?_|refine b3_ ?_ _));refine blk_put (cs := #[.int .i64 zw, .int .i64 zy, .int .i64 0, .bool false]) ?_ 2 _ rfl;(with_reducible repeat (first|refine b1_ ?_ _|refine b2_ ?_|refine b3_ ?_ _));refine blk_put (cs := #[.int .i64 zw, .int .i64 0, .int .i64 0, .bool false]) ?_ 1 _ rfl;(with_reducible repeat (first|refine b1_ ?_ _|refine b2_ ?_|refine b3_ ?_ _));refine blk_put (cs := #[.int .i64 0, .int .i64 0, .int .i64 0, .bool false]) ?_ 0 _ rfl;exact zo.out)) : zA ≠ zf));clear zK;clear zg;clear zi;clear za;clear zm;clear zo;clear HB;have zK := n0_;have zg := n1_;have zi := n2_;have za := n3_;have zm := n4_;have zo := n5_;have HB := n6_;have zH := n7_;have GW842 := n8_;have zS := n9_;have NB828_842 := n10_;have NB842_828 := n11_;have NB830_842 := n12_;have NB842_830 := n13_;have NB834_842 := n14_;have NB842_834 := n15_;have NB841_842 := n16_;have NB842_841 := n17_;clear n0_ n1_ n2_ n3_ n4_ n5_ n6_ n7_ n8_ n9_ n10_ n11_ n12_ n13_ n14_ n15_ n16_ n17_;clear hb hbox hg;have hnb38 := NB842_828.out;have hnc38 := NB828_842.out;have hnb39 := NB842_830.out;have hnc39 := NB830_842.out;have hnb40 := NB842_834.out;have hnc40 := NB834_842.out;have hnb41 := NB842_841.out;have hnc41 := NB841_842.out;have hcz42_0 : w37.cell? ⟨zA, 0, none⟩ = some (.int .i64 0) := (e1_ zH.out 0).trans rfl;have hcz42_1 : w37.cell? ⟨zA, 1, none⟩ = some (.int .i64 0) := (e1_ zH.out 1).trans rfl;have hfz42_0 := e2_ zH.out 0;have hfz42_1 := e2_ zH.out 1;have hcz43_0 : w37.cell? ⟨zj, 0, none⟩ = some (.int .i64 zb) := (e1_ zm.out 0).trans rfl;have hcz43_1 : w37.cell? ⟨zj, 1, none⟩ = some (.int .i64 zc) := (e1_ zm.out 1).trans rfl;have hfz43_0 := e2_ zm.out 0;have hfz43_1 := e2_ zm.out 1)|((with_reducible refine gate_callee (f := 72) rfl ?_);refine goesL_ (some 55) rfl rfl Try.func72 (by kernel_rfl) rfl #[.agg #[.int .i64 zb, .int .i64 zc], .agg #[.int .i64 zw, .int .i64 zy]] rfl (by (try simp only [List.map_toArray, List.map_cons, List.map_nil]); first|done|rfl|(simp only [List.length_drop, List.length_take]; rfl)) ?_;(with_reducible refine (spec_l16Square.calls zb zc zw zy t843 _ A15.out).mono ?_); rintro e w44 ⟨rfl, hb⟩;refine ⟨_, rfl, ?_⟩;have n0_ := c9_ (Kd.R_below (by (with_reducible repeat (first|apply c2_|apply c3_|apply c4_));exact (Kd.R_mono (Kd.R_far (p := ⟨zA, 1, none⟩) (Kd.R_far (p := ⟨zA, 0, none⟩) (Kd.R_mono zK.out (fun k_ hk => (⟨hk, hk.2⟩ : _ ∧ k_ ≠ zA))) (fun _ hk => hk.2) (.int .i64 zw)) (fun _ hk => hk.2) (.int .i64 zy)) (fun _ h_ => h_.1))) hb);have n1_ := c9_ (Kd.N_below (by (with_reducible repeat (first|apply b8_|apply b9_|apply c1_));exact (Kd.N_mono (Kd.N_far (p := ⟨zA, 1, none⟩) (Kd.N_far (p := ⟨zA, 0, none⟩) (Kd.N_mono zg.out (fun k_ hk => (⟨hk, hk.2⟩ : _ ∧ k_ ≠ zA))) (fun _ hk => hk.2) (.int .i64 zw)) (fun _ hk => hk.2) (.int .i64 zy)) (fun _ h_ => h_.1))) hb);have n2_ := c9_ (c6_ (g := zk) (o := .cells #[.int .i64 zz, .int .i64 zx, .int .i64 zv, .bool zu, .slice none 0 0, .int .i64 zt, .int .i64 zs, .int .i64 zp] 153 (0, 0)) (by (with_reducible repeat (first|refine b1_ ?_ _|refine b2_ ?_|refine b3_ ?_ _));refine e5_ ?_ NB828_842.out _;(with_reducible repeat (first|refine b1_ ?_ _|refine b2_ ?_|refine b3_ ?_ _));refine e5_ ?_ NB828_842.out _;exact zi.out) hb);have n3_ := c9_ (c6_ (g := zd) (o := .cells #[.int .i64 zb, .int .i64 zc, .int .i64 ze, .bool zh, zE, .int .i64 zr, .int .i64 zn, .int .i64 zq] 153 (0, 0)) (by (with_reducible repeat (first|refine b1_ ?_ _|refine b2_ ?_|refine b3_ ?_ _));refine e5_ ?_ NB830_842.out _;(with_reducible repeat (first|refine b1_ ?_ _|refine b2_ ?_|refine b3_ ?_ _));refine e5_ ?_ NB830_842.out _;exact za.out) hb);have n4_ := c9_ (c6_ (g := zj) (o := .cells #[.int .i64 zb, .int .i64 zc] 90 (0, 0)) (by (with_reducible repeat (first|refine b1_ ?_ _|refine b2_ ?_|refine b3_ ?_ _));refine e5_ ?_ NB834_842.out _;(with_reducible repeat (first|refine b1_ ?_ _|refine b2_ ?_|refine b3_ ?_ _));refine e5_ ?_ NB834_842.out _;exact zm.out) hb);have n5_ := c9_ (c6_ (g := zf) (o := .cells #[.int .i64 zw, .int .i64 zy, .int .i64 zQ, .bool zR] 75 (0, 0)) (by (with_reducible repeat (first|refine b1_ ?_ _|refine b2_ ?_|refine b3_ ?_ _));refine e5_ ?_ NB841_842.out _;(with_reducible repeat (first|refine b1_ ?_ _|refine b2_ ?_|refine b3_ ?_ _));refine e5_ ?_ NB841_842.out _;exact zo.out) hb);have n6_ := c9_ (c6_ (g := zA) (o := .cells #[.int .i64 zw, .int .i64 zy] 90 (0, 0)) (by (with_reducible repeat (first|refine b1_ ?_ _|refine b2_ ?_|refine b3_ ?_ _));refine blk_put (cs := #[.int .i64 zw, .int .i64 0]) ?_ 1 _ rfl;(with_reducible repeat (first|refine b1_ ?_ _|refine b2_ ?_|refine b3_ ?_ _));refine blk_put (cs := #[.int .i64 0, .int .i64 0]) ?_ 0 _ rfl;exact zH.out) hb);have n7_ := c9_ (below_step (by repeat (first|(with_reducible first|exact HB.out|apply b4_|apply b5_|apply b6_|refine b7_ ?_ zF.out|refine b7_ ?_ zJ.out|refine b7_ ?_ zL.out|refine b7_ ?_ zM.out|refine b7_ ?_ zS.out)|exact HB.out)) hb);clear zK;clear zg;clear zi;clear za;clear zm;clear zo;clear zH;clear HB;have zK := n0_;have zg := n1_;have zi := n2_;have za := n3_;have zm := n4_;have zo := n5_;have zH := n6_;have HB := n7_;clear n0_ n1_ n2_ n3_ n4_ n5_ n6_ n7_;(try clear hb);(try clear hb2);(try clear hk);(try clear hi))|((with_reducible refine gate_callee (f := 71) rfl ?_);refine goesL_ (some 56) rfl rfl Try.func71 (by kernel_rfl) rfl #[.int .i64 t843] rfl (by (try simp only [List.map_toArray, List.map_cons, List.map_nil]); first|done|rfl|(simp only [List.length_drop, List.length_take]; rfl)) ?_;(with_reducible refine (spec_l01Root.calls k1 t843 zV _ A16.out).mono ?_); rintro e w' ⟨rfl, ⟨nd, rfl⟩⟩;refine ⟨_, rfl, ?_⟩;have p845 : 0 ≤ (zB : Int) := of_decide_eq_true (by first|(with_reducible assumption)|assumption);have q845 : zB < (l0.length : Int) := of_decide_eq_true (by first|(with_reducible assumption)|assumption); obtain ⟨ad845, e845, hx845_0, hx845_1, hx845_2⟩ := at_T137 HR0.out zB p845 q845; obtain rfl : zW = ad845 := (by injection e845); replace hx845_0 := (HB.out.cell (c5_ w _ hx845_0)).trans hx845_0; replace hx845_1 := (HB.out.cell (c5_ w _ hx845_1)).trans hx845_1; replace hx845_2 := (HB.out.cell (c5_ w _ hx845_2)).trans hx845_2; replace p845 := eq_true p845; replace q845 := eq_true q845))
      (try simp only [Act.put, List.setIfInBounds_toArray, List.set_cons_zero, List.set_cons_succ])
      go_cut [6] (fun v6 wc => ∃ (kq : Nat) (zU : List (S90)) (zC : Int) (zD : Int), Aside0 (spec_l30All.j1 kq l0 zU zB zb zc ze zh zl zC zD zq zw zy zQ zR = some (r1, r2, r3, r4, r5, r6, r7, r8, r9)) ∧ Aside0 (kq ≤ k1) ∧ Aside0 (Kd.R k90 90 wc w.heap.size (fun k_ => (w.heap.size ≤ k_) ∧ k_ ≠ zj ∧ k_ ≠ zA) v6 zU) ∧ Aside0 (Kd.N k110 110 wc w.heap.size (fun k_ => (w.heap.size ≤ k_) ∧ some k_ ≠ (v6 : Value).ownBlock ∧ k_ ≠ zk ∧ k_ ≠ zd ∧ k_ ≠ zj ∧ k_ ≠ zf ∧ k_ ≠ zA) zE zl) ∧ Aside0 (wc.heap[zk]? = some (.cells #[.int .i64 zz, .int .i64 zx, .int .i64 zv, .bool zu, (.slice none 0 0), .int .i64 zt, .int .i64 zs, .int .i64 zp] 153 (0, 0))) ∧ Aside0 (wc.heap[zd]? = some (.cells #[.int .i64 zb, .int .i64 zc, .int .i64 ze, .bool zh, zE, .int .i64 zC, .int .i64 zD, .int .i64 zq] 153 (0, 0))) ∧ Aside0 (wc.heap[zj]? = some (.cells #[.int .i64 zb, .int .i64 zc] 90 (0, 0))) ∧ Aside0 (wc.heap[zf]? = some (.cells #[.int .i64 zw, .int .i64 zy, .int .i64 zQ, .bool zR] 75 (0, 0))) ∧ Aside0 (wc.heap[zA]? = some (.cells #[.int .i64 zw, .int .i64 zy] 90 (0, 0))) ∧ Aside0 (Below w.heap.size w wc))
      case first =>
       have H := HC17.out
       clear HC17
       by_cases c45 : ((rd_T137 l0 zB).f0) = 68
       ·
        rw [if_pos c45] at H
        have c45b0 : (((rd_T137 l0 zB).f0) == 68) = true := beq_iff_eq.mpr c45
        have c45b1 : (((rd_T137 l0 zB).f0) != 68) = false := bne_eq_false_iff_eq.mpr c45
        clear c45
        (first|rw [c45b0]|(simp only [i64_w, i32_w]; rw [c45b0])|skip)
        by_cases c46 : (zT.length : Int) = 0
        ·
         rw [if_pos c46] at H
         have c46b0 : ((zT.length : Int) == 0) = true := beq_iff_eq.mpr c46
         have c46b1 : ((zT.length : Int) != 0) = false := bne_eq_false_iff_eq.mpr c46
         clear c46
         obtain ⟨y846, hy846⟩ : ∃ y_ : List (S90), y_ = (([(⟨zb, zc⟩ : S90)] : List (S90))) := ⟨_, rfl⟩
         replace H : (if zT.length + y846.length < 8796093022208 then ((some (zT ++ y846 : List (S90))).bind fun y849 => ((some (([(⟨zw, zy⟩ : S90)] : List (S90)) : List (S90))).bind fun y852 => (if y849.length + y852.length < 8796093022208 then (spec_l30All.j1 k1 l0 (y849 ++ y852) zB zb zc ze zh zl zr (wrap64 (zn + zV)) zq zw zy zQ zR) else (none)))) else (none)) = some (r1, r2, r3, r4, r5, r6, r7, r8, r9) := by first|(rw [hy846]; with_reducible exact H)|(have H2_ := (Option.bind_some _ _).symm.trans H; rw [hy846]; with_reducible exact H2_)|(have H2_ := (Option.bind_some _ _).symm.trans H; with_reducible exact H2_)|with_reducible exact H|(rw [hy846];exact H)|exact H
         have Ny846 := c9_ hy846
         clear hy846
         by_cases c47 : zT.length + y846.length < 8796093022208
         rotate_left
         ·
          rw [if_neg c47] at H
          exact absurd H (by simp)
         rw [if_pos c47] at H
         have LMc47 := c9_ c47
         clear c47
         obtain ⟨y849, hy849⟩ : ∃ y_ : List (S90), y_ = (zT ++ y846) := ⟨_, rfl⟩
         replace H : ((some (([(⟨zw, zy⟩ : S90)] : List (S90)) : List (S90))).bind fun y852 => (if y849.length + y852.length < 8796093022208 then (spec_l30All.j1 k1 l0 (y849 ++ y852) zB zb zc ze zh zl zr (wrap64 (zn + zV)) zq zw zy zQ zR) else (none))) = some (r1, r2, r3, r4, r5, r6, r7, r8, r9) := by first|(rw [hy849]; with_reducible exact H)|(have H2_ := (Option.bind_some _ _).symm.trans H; rw [hy849]; with_reducible exact H2_)|(have H2_ := (Option.bind_some _ _).symm.trans H; with_reducible exact H2_)|with_reducible exact H|(rw [hy849];exact H)|exact H
         have Ny849 := c9_ hy849
         clear hy849
         obtain ⟨y852, hy852⟩ : ∃ y_ : List (S90), y_ = (([(⟨zw, zy⟩ : S90)] : List (S90))) := ⟨_, rfl⟩
         replace H : (if y849.length + y852.length < 8796093022208 then (spec_l30All.j1 k1 l0 (y849 ++ y852) zB zb zc ze zh zl zr (wrap64 (zn + zV)) zq zw zy zQ zR) else (none)) = some (r1, r2, r3, r4, r5, r6, r7, r8, r9) := by first|(rw [hy852]; with_reducible exact H)|(have H2_ := (Option.bind_some _ _).symm.trans H; rw [hy852]; with_reducible exact H2_)|(have H2_ := (Option.bind_some _ _).symm.trans H; with_reducible exact H2_)|with_reducible exact H|(rw [hy852];exact H)|exact H
         have Ny852 := c9_ hy852
         clear hy852
         by_cases c48 : y849.length + y852.length < 8796093022208
         rotate_left
         ·
          rw [if_neg c48] at H
          exact absurd H (by simp)
         rw [if_pos c48] at H
         have LMc48 := c9_ c48
         clear c48
         obtain ⟨y855, hy855⟩ : ∃ y_ : List (S90), y_ = (y849 ++ y852) := ⟨_, rfl⟩
         replace H : (spec_l30All.j1 k1 l0 y855 zB zb zc ze zh zl zr (wrap64 (zn + zV)) zq zw zy zQ zR) = some (r1, r2, r3, r4, r5, r6, r7, r8, r9) := by first|(rw [hy855]; with_reducible exact H)|(have H2_ := (Option.bind_some _ _).symm.trans H; rw [hy855]; with_reducible exact H2_)|(have H2_ := (Option.bind_some _ _).symm.trans H; with_reducible exact H2_)|with_reducible exact H|(rw [hy855];exact H)|exact H
         have Ny855 := c9_ hy855
         clear hy855
         have H' := c9_ H
         clear H
         have hnb49 := NB830_828.out
         have hnc49 := NB828_830.out
         have hnb50 := NB830_834.out
         have hnc50 := NB834_830.out
         have hnb51 := NB830_841.out
         have hnc51 := NB841_830.out
         have hnb52 := NB830_842.out
         have hnc52 := NB842_830.out
         have hcz53_0 : w44.cell? ⟨zd, 0, none⟩ = some (.int .i64 zb) := (e1_ za.out 0).trans rfl
         have hcz53_1 : w44.cell? ⟨zd, 1, none⟩ = some (.int .i64 zc) := (e1_ za.out 1).trans rfl
         have hcz53_2 : w44.cell? ⟨zd, 2, none⟩ = some (.int .i64 ze) := (e1_ za.out 2).trans rfl
         have hcz53_3 : w44.cell? ⟨zd, 3, none⟩ = some (.bool zh) := (e1_ za.out 3).trans rfl
         have hcz53_4 : w44.cell? ⟨zd, 4, none⟩ = some (zE) := (e1_ za.out 4).trans rfl
         have hcz53_5 : w44.cell? ⟨zd, 5, none⟩ = some (.int .i64 zr) := (e1_ za.out 5).trans rfl
         have hcz53_6 : w44.cell? ⟨zd, 6, none⟩ = some (.int .i64 zn) := (e1_ za.out 6).trans rfl
         have hcz53_7 : w44.cell? ⟨zd, 7, none⟩ = some (.int .i64 zq) := (e1_ za.out 7).trans rfl
         have hfz53_0 := e2_ za.out 0
         have hfz53_1 := e2_ za.out 1
         have hfz53_2 := e2_ za.out 2
         have hfz53_3 := e2_ za.out 3
         have hfz53_4 := e2_ za.out 4
         have hfz53_5 := e2_ za.out 5
         have hfz53_6 := e2_ za.out 6
         have hfz53_7 := e2_ za.out 7
         obtain ⟨Ao54, co54, eo54⟩ := Kd.R_slice zK.out
         subst eo54
         have hnb55 := NB834_828.out
         have hnc55 := NB828_834.out
         have hnb56 := NB834_841.out
         have hnc56 := NB841_834.out
         have hnb57 := NB834_842.out
         have hnc57 := NB842_834.out
         have hcz58_0 : w44.cell? ⟨zj, 0, none⟩ = some (.int .i64 zb) := (e1_ zm.out 0).trans rfl
         have hcz58_1 : w44.cell? ⟨zj, 1, none⟩ = some (.int .i64 zc) := (e1_ zm.out 1).trans rfl
         have hfz58_0 := e2_ zm.out 0
         have hfz58_1 := e2_ zm.out 1
         go_wp2_with (first|((with_reducible refine gate_dst (N := 79) rfl ?_);(try (refine gate_guard (by rfl) ?_; dsimp only));refine Kd.R_lit k90 _ 90 ?hg (N := 79) ?hd (xs := ([(⟨zb, zc⟩ : S90)] : List (S90))) (inner := [.int .i64 zb, .int .i64 zc]) (ok := fun _ => True) (okp := fun _ => True) ?hr ?hp (fun _ hk => hk) trivial (Below.refl _ _) (Nat.le_refl _) (by simp) ?_;(case hd => rfl);(case hg => rfl);(case hr => first|(go_simp; done)|(go_simp; rfl));(case hp => exact (Reps.c2 (show Kd.M k90 _ _ _ (⟨zb, zc⟩ : S90) [.int .i64 zb, .int .i64 zc] from (k90_mkM _ _ _ (⟨zb, zc⟩ : S90) )) (Reps.none _ _))); intro v847 w59 ho60 hb hg_ hnew_;clear hg_ hnew_;(first|rw [← Ny846.out] at ho60|(simp only [Int.reduceToNat] at ho60; rw [← Ny846.out] at ho60));have n0_ := c9_ (Kd.R_elder' (by (with_reducible repeat (first|apply c2_|apply c3_|apply c4_));exact (Kd.R_mono (Kd.R_far (p := ⟨zd, 6, none⟩) (Kd.R_types zK.out za.out (by decide)) (fun _ hk => hk.2) (.int .i64 (wrap64 (zn + zV)))) (fun _ h_ => h_.1))) (Kd.R_base ho60) hb);have n1_ := c9_ (Kd.N_elder' (by (with_reducible repeat (first|apply b8_|apply b9_|apply c1_));exact (Kd.N_mono (Kd.N_far (p := ⟨zd, 6, none⟩) (Kd.N_mono zg.out (fun k_ hk => (⟨hk, hk.1.2.2.2.1⟩ : _ ∧ k_ ≠ zd))) (fun _ hk => hk.2) (.int .i64 (wrap64 (zn + zV)))) (fun _ h_ => h_.1))) (Kd.R_base ho60) hb);have n2_ := c9_ (Kd.R_lower (Kd.R_newB (Kd.R_newB (Kd.R_new' (Kd.R_newM (M := fun k_ => (w.heap.size ≤ k_)) ho60 (e7_ (by repeat (first|(with_reducible first|exact HB.out|apply b4_|apply b5_|apply b6_|refine b7_ ?_ zF.out|refine b7_ ?_ zJ.out|refine b7_ ?_ zL.out|refine b7_ ?_ zM.out|refine b7_ ?_ zS.out)|exact HB.out))) (fun k_ h_ => h_)) (Kd.R_lt (by (with_reducible repeat (first|apply c2_|apply c3_|apply c4_));exact (Kd.R_mono (Kd.R_far (p := ⟨zd, 6, none⟩) (Kd.R_types zK.out za.out (by decide)) (fun _ hk => hk.2) (.int .i64 (wrap64 (zn + zV)))) (fun _ h_ => h_.1))))) (g := zj) (o := .cells #[.int .i64 zb, .int .i64 zc] 90 (0, 0)) (by (with_reducible repeat (first|refine b1_ ?_ _|refine b2_ ?_|refine b3_ ?_ _));refine e5_ ?_ NB834_830.out _;exact zm.out)) (g := zA) (o := .cells #[.int .i64 zw, .int .i64 zy] 90 (0, 0)) (by (with_reducible repeat (first|refine b1_ ?_ _|refine b2_ ?_|refine b3_ ?_ _));refine e5_ ?_ NB842_830.out _;exact zH.out)) (e7_ (by repeat (first|(with_reducible first|exact HB.out|apply b4_|apply b5_|apply b6_|refine b7_ ?_ zF.out|refine b7_ ?_ zJ.out|refine b7_ ?_ zL.out|refine b7_ ?_ zM.out|refine b7_ ?_ zS.out)|exact HB.out))));have n3_ := c9_ (c6_ (g := zk) (o := .cells #[.int .i64 zz, .int .i64 zx, .int .i64 zv, .bool zu, .slice none 0 0, .int .i64 zt, .int .i64 zs, .int .i64 zp] 153 (0, 0)) (by (with_reducible repeat (first|refine b1_ ?_ _|refine b2_ ?_|refine b3_ ?_ _));refine e5_ ?_ NB828_830.out _;exact zi.out) hb);have n4_ := c9_ (c6_ (g := zd) (o := .cells #[.int .i64 zb, .int .i64 zc, .int .i64 ze, .bool zh, zE, .int .i64 zr, .int .i64 (wrap64 (zn + zV)), .int .i64 zq] 153 (0, 0)) (by (with_reducible repeat (first|refine b1_ ?_ _|refine b2_ ?_|refine b3_ ?_ _));refine blk_put (cs := #[.int .i64 zb, .int .i64 zc, .int .i64 ze, .bool zh, zE, .int .i64 zr, .int .i64 zn, .int .i64 zq]) ?_ 6 _ rfl;exact za.out) hb);have n5_ := c9_ (c6_ (g := zj) (o := .cells #[.int .i64 zb, .int .i64 zc] 90 (0, 0)) (by (with_reducible repeat (first|refine b1_ ?_ _|refine b2_ ?_|refine b3_ ?_ _));refine e5_ ?_ NB834_830.out _;exact zm.out) hb);have n6_ := c9_ (c6_ (g := zf) (o := .cells #[.int .i64 zw, .int .i64 zy, .int .i64 zQ, .bool zR] 75 (0, 0)) (by (with_reducible repeat (first|refine b1_ ?_ _|refine b2_ ?_|refine b3_ ?_ _));refine e5_ ?_ NB841_830.out _;exact zo.out) hb);have n7_ := c9_ (c6_ (g := zA) (o := .cells #[.int .i64 zw, .int .i64 zy] 90 (0, 0)) (by (with_reducible repeat (first|refine b1_ ?_ _|refine b2_ ?_|refine b3_ ?_ _));refine e5_ ?_ NB842_830.out _;exact zH.out) hb);have n8_ := c9_ (below_step (by repeat (first|(with_reducible first|exact HB.out|apply b4_|apply b5_|apply b6_|refine b7_ ?_ zF.out|refine b7_ ?_ zJ.out|refine b7_ ?_ zL.out|refine b7_ ?_ zM.out|refine b7_ ?_ zS.out)|exact HB.out)) hb);clear zK;clear zg;clear zi;clear za;clear zm;clear zo;clear zH;clear HB;have zK := n0_;have zg := n1_;have HO848 := n2_;have zi := n3_;have za := n4_;have zm := n5_;have zo := n6_;have zH := n7_;have HB := n8_;clear n0_ n1_ n2_ n3_ n4_ n5_ n6_ n7_ n8_;clear hb ho60; obtain ⟨Ao62, co62, eo62⟩ := Kd.R_slice HO848.out; subst eo62)|((with_reducible refine gate_builtin (b := .append) (xs := #[.tmp 77, .tmp 79]) rfl ?_);(try (refine gate_guard (by rfl) ?_; dsimp only)); at_builtin;refine Kd.R_append_rows k90 (w0 := w) w.heap.size rfl (.tmp 77) (.tmp 79) 108 90 (.agg #[(.int .i64 0), (.int .i64 0)]) 16 rfl Try.underlying108 info90 rfl (by decide) (by omega) (.slice Ao54 zT.length co54) zT y846 _ _ _ (fun k_ => (w.heap.size ≤ k_) ∧ some k_ ≠ (.slice Ao62 y846.length co62 : Value).ownBlock ∧ k_ ≠ zj ∧ k_ ≠ zA) (fun _ => False) rfl rfl ?aO ?aR (fun _ _ h => h) (fun _ h => h.elim) ?aF ?aB ?aS ?aL ?_;(case aR => repeat (first|exact (Kd.R_reads' HO848.out).2.2|(with_reducible refine Kd.C_alloc ?_ _)|(with_reducible refine Kd.C_drewN ?_ _)|(with_reducible refine Kd.C_drew ?_)));(case aB => exact (by repeat (first|(with_reducible first|exact HB.out|apply b4_|apply b5_|apply b6_|refine b7_ ?_ zF.out|refine b7_ ?_ zJ.out|refine b7_ ?_ zL.out|refine b7_ ?_ zM.out|refine b7_ ?_ zS.out)|exact HB.out)));(case aF => exact (fun k_ hk => ⟨(e6_ (e7_ (by repeat (first|(with_reducible first|exact HB.out|apply b4_|apply b5_|apply b6_|refine b7_ ?_ zF.out|refine b7_ ?_ zJ.out|refine b7_ ?_ zL.out|refine b7_ ?_ zM.out|refine b7_ ?_ zS.out)|exact HB.out))) hk), Kd.fresh' (Kd.R_lt (by (with_reducible repeat (first|apply c2_|apply c3_|apply c4_));exact HO848.out)) k_ hk, Kd.freshB (g := zj) (by exact zm.out) k_ hk, Kd.freshB (g := zA) (by exact zH.out) k_ hk⟩));(case aO => exact (by (with_reducible repeat (first|apply c2_|apply c3_|apply c4_));exact Kd.R_mono zK.out (fun _ hk => ⟨hk.1.1.1, ⟨hk.2, ⟨hk.1.1.2, hk.1.2⟩⟩⟩)));(case aS => exact (e7_ (by repeat (first|(with_reducible first|exact HB.out|apply b4_|apply b5_|apply b6_|refine b7_ ?_ zF.out|refine b7_ ?_ zJ.out|refine b7_ ?_ zL.out|refine b7_ ?_ zM.out|refine b7_ ?_ zS.out)|exact HB.out))));(case aL => have := LMc47.out; omega); intro v850 w61 ho hb hg hat; rw [← Ny849.out] at ho;have n0_ := c9_ (Kd.N_afterv (ok := (fun k_ => (w.heap.size ≤ k_) ∧ some k_ ≠ (.slice Ao62 y846.length co62 : Value).ownBlock ∧ k_ ≠ zk ∧ k_ ≠ zd ∧ k_ ≠ zj ∧ k_ ≠ zf ∧ k_ ≠ zA)) (by (with_reducible repeat (first|apply b8_|apply b9_|apply c1_));exact Kd.N_mono zg.out (fun _ hk => ⟨⟨hk.1.1.1, ⟨hk.2, ⟨hk.1.1.2.2.1, ⟨hk.1.1.2.2.2.1, ⟨hk.1.1.2.2.2.2.1, ⟨hk.1.1.2.2.2.2.2, hk.1.2⟩⟩⟩⟩⟩⟩, hk.1.1.2.1⟩)) hg hat);have n1_ := c9_ (blk_grown (g := zk) (by exact zi.out) hg (Kd.R_ne zK.out zi.out (by decide)));have n2_ := c9_ (blk_grown (g := zd) (by exact za.out) hg (Kd.R_ne zK.out za.out (by decide)));have n3_ := c9_ (blk_grown (g := zj) (by exact zm.out) hg (Kd.R_away zK.out (fun _ hk => hk.1.1.2)));have n4_ := c9_ (blk_grown (g := zf) (by exact zo.out) hg (Kd.R_ne zK.out zo.out (by decide)));have n5_ := c9_ (blk_grown (g := zA) (by exact zH.out) hg (Kd.R_away zK.out (fun _ hk => hk.1.2)));have n6_ := c9_ (Kd.R_after (ok := (fun k_ => (w.heap.size ≤ k_) ∧ k_ ≠ zj ∧ k_ ≠ zA)) (by (with_reducible repeat (first|apply c2_|apply c3_|apply c4_));exact Kd.R_mono HO848.out (fun _ hk => ⟨⟨hk.1.1.1.1, ⟨hk.1.2, hk.2⟩⟩, hk.1.1.2⟩)) hg hat);have n7_ := c9_ (hb);have n8_ := c9_ (ho);clear zg;clear zi;clear za;clear zm;clear zo;clear zH;clear HO848;clear HB;clear zK;have zg := n0_;have zi := n1_;have za := n2_;have zm := n3_;have zo := n4_;have zH := n5_;have HO848 := n6_;have HB := n7_;have HO851 := n8_;clear n0_ n1_ n2_ n3_ n4_ n5_ n6_ n7_ n8_;clear ho hb hg hat;have hnb63 := NB842_828.out;have hnc63 := NB828_842.out;have hnb64 := NB842_841.out;have hnc64 := NB841_842.out;have hcz65_0 : w61.cell? ⟨zA, 0, none⟩ = some (.int .i64 zw) := (e1_ zH.out 0).trans rfl;have hcz65_1 : w61.cell? ⟨zA, 1, none⟩ = some (.int .i64 zy) := (e1_ zH.out 1).trans rfl;have hfz65_0 := e2_ zH.out 0;have hfz65_1 := e2_ zH.out 1)|((with_reducible refine gate_dst (N := 83) rfl ?_);(try (refine gate_guard (by rfl) ?_; dsimp only));refine Kd.R_lit k90 _ 90 ?hg (N := 83) ?hd (xs := ([(⟨zw, zy⟩ : S90)] : List (S90))) (inner := [.int .i64 zw, .int .i64 zy]) (ok := fun _ => True) (okp := fun _ => True) ?hr ?hp (fun _ hk => hk) trivial (Below.refl _ _) (Nat.le_refl _) (by simp) ?_;(case hd => rfl);(case hg => rfl);(case hr => first|(go_simp; done)|(go_simp; rfl));(case hp => exact (Reps.c2 (show Kd.M k90 _ _ _ (⟨zw, zy⟩ : S90) [.int .i64 zw, .int .i64 zy] from (k90_mkM _ _ _ (⟨zw, zy⟩ : S90) )) (Reps.none _ _))); intro v853 w66 ho67 hb hg_ hnew_;clear hg_ hnew_;(first|rw [← Ny852.out] at ho67|(simp only [Int.reduceToNat] at ho67; rw [← Ny852.out] at ho67));have n0_ := c9_ (Kd.N_elder' (by (with_reducible repeat (first|apply b8_|apply b9_|apply c1_));exact zg.out) (Kd.R_base ho67) hb);have n1_ := c9_ (Kd.R_elder' (by (with_reducible repeat (first|apply c2_|apply c3_|apply c4_));exact HO848.out) (Kd.R_base ho67) hb);have n2_ := c9_ (Kd.R_elder' (by (with_reducible repeat (first|apply c2_|apply c3_|apply c4_));exact HO851.out) (Kd.R_base ho67) hb);have n3_ := c9_ (Kd.R_lower (Kd.R_newB (Kd.R_newB (Kd.R_new' (Kd.R_new' (Kd.R_newM (M := fun k_ => (w.heap.size ≤ k_)) ho67 (e7_ (by repeat (first|(with_reducible first|exact HB.out|apply b4_|apply b5_|apply b6_|refine b7_ ?_ zF.out|refine b7_ ?_ zJ.out|refine b7_ ?_ zL.out|refine b7_ ?_ zM.out|refine b7_ ?_ zS.out)|exact HB.out))) (fun k_ h_ => h_)) (Kd.R_lt (by (with_reducible repeat (first|apply c2_|apply c3_|apply c4_));exact HO848.out))) (Kd.R_lt (by (with_reducible repeat (first|apply c2_|apply c3_|apply c4_));exact HO851.out))) (g := zj) (by exact zm.out)) (g := zA) (by exact zH.out)) (e7_ (by repeat (first|(with_reducible first|exact HB.out|apply b4_|apply b5_|apply b6_|refine b7_ ?_ zF.out|refine b7_ ?_ zJ.out|refine b7_ ?_ zL.out|refine b7_ ?_ zM.out|refine b7_ ?_ zS.out)|exact HB.out))));have n4_ := c9_ (c6_ (g := zk) (by exact zi.out) hb);have n5_ := c9_ (c6_ (g := zd) (by exact za.out) hb);have n6_ := c9_ (c6_ (g := zj) (by exact zm.out) hb);have n7_ := c9_ (c6_ (g := zf) (by exact zo.out) hb);have n8_ := c9_ (c6_ (g := zA) (by exact zH.out) hb);have n9_ := c9_ (below_step (by repeat (first|(with_reducible first|exact HB.out|apply b4_|apply b5_|apply b6_|refine b7_ ?_ zF.out|refine b7_ ?_ zJ.out|refine b7_ ?_ zL.out|refine b7_ ?_ zM.out|refine b7_ ?_ zS.out)|exact HB.out)) hb);clear zg;clear HO848;clear HO851;clear zi;clear za;clear zm;clear zo;clear zH;clear HB;have zg := n0_;have HO848 := n1_;have HO851 := n2_;have HO854 := n3_;have zi := n4_;have za := n5_;have zm := n6_;have zo := n7_;have zH := n8_;have HB := n9_;clear n0_ n1_ n2_ n3_ n4_ n5_ n6_ n7_ n8_ n9_;clear hb ho67; obtain ⟨Ao69, co69, eo69⟩ := Kd.R_slice HO854.out; subst eo69)|((with_reducible refine gate_builtin (b := .append) (xs := #[.tmp 81, .tmp 83]) rfl ?_);(try (refine gate_guard (by rfl) ?_; dsimp only)); at_builtin;refine Kd.R_append_rows k90 (w0 := w) w.heap.size rfl (.tmp 81) (.tmp 83) 108 90 (.agg #[(.int .i64 0), (.int .i64 0)]) 16 rfl Try.underlying108 info90 rfl (by decide) (by omega) v850 y849 y852 _ _ _ (fun k_ => (w.heap.size ≤ k_) ∧ some k_ ≠ (.slice Ao62 y846.length co62 : Value).ownBlock ∧ some k_ ≠ (.slice Ao69 y852.length co69 : Value).ownBlock ∧ k_ ≠ zj ∧ k_ ≠ zA) (fun _ => False) rfl rfl ?aO ?aR (fun _ _ h => h) (fun _ h => h.elim) ?aF ?aB ?aS ?aL ?_;(case aR => repeat (first|exact (Kd.R_reads' HO854.out).2.2|(with_reducible refine Kd.C_alloc ?_ _)|(with_reducible refine Kd.C_drewN ?_ _)|(with_reducible refine Kd.C_drew ?_)));(case aB => exact (by repeat (first|(with_reducible first|exact HB.out|apply b4_|apply b5_|apply b6_|refine b7_ ?_ zF.out|refine b7_ ?_ zJ.out|refine b7_ ?_ zL.out|refine b7_ ?_ zM.out|refine b7_ ?_ zS.out)|exact HB.out)));(case aF => exact (fun k_ hk => ⟨(e6_ (e7_ (by repeat (first|(with_reducible first|exact HB.out|apply b4_|apply b5_|apply b6_|refine b7_ ?_ zF.out|refine b7_ ?_ zJ.out|refine b7_ ?_ zL.out|refine b7_ ?_ zM.out|refine b7_ ?_ zS.out)|exact HB.out))) hk), Kd.fresh' (Kd.R_lt (by (with_reducible repeat (first|apply c2_|apply c3_|apply c4_));exact HO848.out)) k_ hk, Kd.fresh' (Kd.R_lt (by (with_reducible repeat (first|apply c2_|apply c3_|apply c4_));exact HO854.out)) k_ hk, Kd.freshB (g := zj) (by exact zm.out) k_ hk, Kd.freshB (g := zA) (by exact zH.out) k_ hk⟩));(case aO => exact (by (with_reducible repeat (first|apply c2_|apply c3_|apply c4_));exact Kd.R_mono HO851.out (fun _ hk => ⟨hk.1.1, ⟨hk.1.2.1, ⟨hk.2, ⟨hk.1.2.2.1, hk.1.2.2.2⟩⟩⟩⟩)));(case aS => exact (e7_ (by repeat (first|(with_reducible first|exact HB.out|apply b4_|apply b5_|apply b6_|refine b7_ ?_ zF.out|refine b7_ ?_ zJ.out|refine b7_ ?_ zL.out|refine b7_ ?_ zM.out|refine b7_ ?_ zS.out)|exact HB.out))));(case aL => have := LMc48.out; omega); intro v856 w68 ho hb hg hat; rw [← Ny855.out] at ho;have n0_ := c9_ (Kd.N_afterv (ok := (fun k_ => (w.heap.size ≤ k_) ∧ some k_ ≠ (.slice Ao62 y846.length co62 : Value).ownBlock ∧ some k_ ≠ (.slice Ao69 y852.length co69 : Value).ownBlock ∧ k_ ≠ zk ∧ k_ ≠ zd ∧ k_ ≠ zj ∧ k_ ≠ zf ∧ k_ ≠ zA)) (by (with_reducible repeat (first|apply b8_|apply b9_|apply c1_));exact Kd.N_mono zg.out (fun _ hk => ⟨⟨hk.1.1.1, ⟨hk.1.1.2.1, ⟨hk.2, ⟨hk.1.1.2.2.1, ⟨hk.1.1.2.2.2.1, ⟨hk.1.1.2.2.2.2.1, ⟨hk.1.1.2.2.2.2.2.1, hk.1.1.2.2.2.2.2.2⟩⟩⟩⟩⟩⟩⟩, hk.1.2⟩)) hg hat);have n1_ := c9_ (blk_grown (g := zk) (by exact zi.out) hg (Kd.R_ne HO851.out zi.out (by decide)));have n2_ := c9_ (blk_grown (g := zd) (by exact za.out) hg (Kd.R_ne HO851.out za.out (by decide)));have n3_ := c9_ (blk_grown (g := zj) (by exact zm.out) hg (Kd.R_away HO851.out (fun _ hk => hk.1.2.2.1)));have n4_ := c9_ (blk_grown (g := zf) (by exact zo.out) hg (Kd.R_ne HO851.out zo.out (by decide)));have n5_ := c9_ (blk_grown (g := zA) (by exact zH.out) hg (Kd.R_away HO851.out (fun _ hk => hk.1.2.2.2)));have n6_ := c9_ (Kd.R_after (ok := (fun k_ => (w.heap.size ≤ k_) ∧ some k_ ≠ (.slice Ao69 y852.length co69 : Value).ownBlock ∧ k_ ≠ zj ∧ k_ ≠ zA)) (by (with_reducible repeat (first|apply c2_|apply c3_|apply c4_));exact Kd.R_mono HO848.out (fun _ hk => ⟨⟨hk.1.1.1, ⟨hk.2, ⟨hk.1.1.2.1, hk.1.1.2.2⟩⟩⟩, hk.1.2⟩)) hg hat);have n7_ := c9_ (Kd.R_after (ok := (fun k_ => (w.heap.size ≤ k_) ∧ some k_ ≠ (.slice Ao62 y846.length co62 : Value).ownBlock ∧ k_ ≠ zj ∧ k_ ≠ zA)) (by (with_reducible repeat (first|apply c2_|apply c3_|apply c4_));exact Kd.R_mono HO854.out (fun _ hk => ⟨⟨hk.1.1.1.1.1, ⟨hk.1.1.1.2, ⟨hk.1.2, hk.2⟩⟩⟩, hk.1.1.2⟩)) hg hat);have n8_ := c9_ (hb);have n9_ := c9_ (ho);clear zg;clear zi;clear za;clear zm;clear zo;clear zH;clear HO848;clear HO854;clear HB;clear HO851;have zg := n0_;have zi := n1_;have za := n2_;have zm := n3_;have zo := n4_;have zH := n5_;have HO848 := n6_;have HO854 := n7_;have HB := n8_;have HO857 := n9_;clear n0_ n1_ n2_ n3_ n4_ n5_ n6_ n7_ n8_ n9_;clear ho hb hg hat))
         go_meet
         case rel => exact ⟨_, (y855), (zr), (wrap64 (zn + zV)), H', ⟨by have := HK1.out; first|omega|exact Nat.le_refl _⟩, ⟨by (with_reducible repeat (first|apply c2_|apply c3_|apply c4_));exact Kd.R_mono HO857.out (fun _ hk => ⟨hk.1, ⟨hk.2.2.2.1, hk.2.2.2.2⟩⟩)⟩, ⟨by (with_reducible repeat (first|apply b8_|apply b9_|apply c1_));exact Kd.N_mono zg.out (fun _ hk => ⟨hk.1.1, ⟨hk.2, ⟨hk.1.2.2.2.1, ⟨hk.1.2.2.2.2.1, ⟨hk.1.2.2.2.2.2.1, ⟨hk.1.2.2.2.2.2.2.1, hk.1.2.2.2.2.2.2.2⟩⟩⟩⟩⟩⟩)⟩, ⟨by exact zi.out⟩, ⟨by exact za.out⟩, ⟨by exact zm.out⟩, ⟨by exact zo.out⟩, ⟨by exact zH.out⟩, ⟨by repeat (first|(with_reducible first|exact HB.out|apply b4_|apply b5_|apply b6_|refine b7_ ?_ zF.out|refine b7_ ?_ zJ.out|refine b7_ ?_ zL.out|refine b7_ ?_ zM.out|refine b7_ ?_ zS.out)|exact HB.out)⟩⟩
        ·
         rw [if_neg c46] at H
         have c46b0 : ((zT.length : Int) == 0) = false := beq_eq_false_iff_ne.mpr c46
         have c46b1 : ((zT.length : Int) != 0) = true := bne_iff_ne.mpr c46
         have c46b2 : ¬ (zT = []) := fun h_ => c46 (by rw [h_]; rfl)
         obtain ⟨y858, hy858⟩ : ∃ y_ : List (S90), y_ = (([(⟨zw, zy⟩ : S90)] : List (S90))) := ⟨_, rfl⟩
         replace H : (if zT.length + y858.length < 8796093022208 then (spec_l30All.j1 k1 l0 (zT ++ y858) zB zb zc ze zh zl zr (wrap64 (zn + zV)) zq zw zy zQ zR) else (none)) = some (r1, r2, r3, r4, r5, r6, r7, r8, r9) := by first|(rw [hy858]; with_reducible exact H)|(have H2_ := (Option.bind_some _ _).symm.trans H; rw [hy858]; with_reducible exact H2_)|(have H2_ := (Option.bind_some _ _).symm.trans H; with_reducible exact H2_)|with_reducible exact H|(rw [hy858];exact H)|exact H
         have Ny858 := c9_ hy858
         clear hy858
         by_cases c70 : zT.length + y858.length < 8796093022208
         rotate_left
         ·
          rw [if_neg c70] at H
          exact absurd H (by simp)
         rw [if_pos c70] at H
         have LMc70 := c9_ c70
         clear c70
         obtain ⟨y861, hy861⟩ : ∃ y_ : List (S90), y_ = (zT ++ y858) := ⟨_, rfl⟩
         replace H : (spec_l30All.j1 k1 l0 y861 zB zb zc ze zh zl zr (wrap64 (zn + zV)) zq zw zy zQ zR) = some (r1, r2, r3, r4, r5, r6, r7, r8, r9) := by first|(rw [hy861]; with_reducible exact H)|(have H2_ := (Option.bind_some _ _).symm.trans H; rw [hy861]; with_reducible exact H2_)|(have H2_ := (Option.bind_some _ _).symm.trans H; with_reducible exact H2_)|with_reducible exact H|(rw [hy861];exact H)|exact H
         have Ny861 := c9_ hy861
         clear hy861
         have H' := c9_ H
         clear H
         have hnb71 := NB830_828.out
         have hnc71 := NB828_830.out
         have hnb72 := NB830_834.out
         have hnc72 := NB834_830.out
         have hnb73 := NB830_841.out
         have hnc73 := NB841_830.out
         have hnb74 := NB830_842.out
         have hnc74 := NB842_830.out
         have hcz75_0 : w44.cell? ⟨zd, 0, none⟩ = some (.int .i64 zb) := (e1_ za.out 0).trans rfl
         have hcz75_1 : w44.cell? ⟨zd, 1, none⟩ = some (.int .i64 zc) := (e1_ za.out 1).trans rfl
         have hcz75_2 : w44.cell? ⟨zd, 2, none⟩ = some (.int .i64 ze) := (e1_ za.out 2).trans rfl
         have hcz75_3 : w44.cell? ⟨zd, 3, none⟩ = some (.bool zh) := (e1_ za.out 3).trans rfl
         have hcz75_4 : w44.cell? ⟨zd, 4, none⟩ = some (zE) := (e1_ za.out 4).trans rfl
         have hcz75_5 : w44.cell? ⟨zd, 5, none⟩ = some (.int .i64 zr) := (e1_ za.out 5).trans rfl
         have hcz75_6 : w44.cell? ⟨zd, 6, none⟩ = some (.int .i64 zn) := (e1_ za.out 6).trans rfl
         have hcz75_7 : w44.cell? ⟨zd, 7, none⟩ = some (.int .i64 zq) := (e1_ za.out 7).trans rfl
         have hfz75_0 := e2_ za.out 0
         have hfz75_1 := e2_ za.out 1
         have hfz75_2 := e2_ za.out 2
         have hfz75_3 := e2_ za.out 3
         have hfz75_4 := e2_ za.out 4
         have hfz75_5 := e2_ za.out 5
         have hfz75_6 := e2_ za.out 6
         have hfz75_7 := e2_ za.out 7
         obtain ⟨Ao76, co76, eo76⟩ := Kd.R_slice zK.out
         subst eo76
         have hnb77 := NB842_828.out
         have hnc77 := NB828_842.out
         have hnb78 := NB842_834.out
         have hnc78 := NB834_842.out
         have hnb79 := NB842_841.out
         have hnc79 := NB841_842.out
         have hcz80_0 : w44.cell? ⟨zA, 0, none⟩ = some (.int .i64 zw) := (e1_ zH.out 0).trans rfl
         have hcz80_1 : w44.cell? ⟨zA, 1, none⟩ = some (.int .i64 zy) := (e1_ zH.out 1).trans rfl
         have hfz80_0 := e2_ zH.out 0
         have hfz80_1 := e2_ zH.out 1
         go_wp2_with (first|((with_reducible refine gate_dst (N := 83) rfl ?_);(try (refine gate_guard (by rfl) ?_; dsimp only));refine Kd.R_lit k90 _ 90 ?hg (N := 83) ?hd (xs := ([(⟨zw, zy⟩ : S90)] : List (S90))) (inner := [.int .i64 zw, .int .i64 zy]) (ok := fun _ => True) (okp := fun _ => True) ?hr ?hp (fun _ hk => hk) trivial (Below.refl _ _) (Nat.le_refl _) (by simp) ?_;(case hd => rfl);(case hg => rfl);(case hr => first|(go_simp; done)|(go_simp; rfl));(case hp => exact (Reps.c2 (show Kd.M k90 _ _ _ (⟨zw, zy⟩ : S90) [.int .i64 zw, .int .i64 zy] from (k90_mkM _ _ _ (⟨zw, zy⟩ : S90) )) (Reps.none _ _))); intro v859 w81 ho82 hb hg_ hnew_;clear hg_ hnew_;(first|rw [← Ny858.out] at ho82|(simp only [Int.reduceToNat] at ho82; rw [← Ny858.out] at ho82));have n0_ := c9_ (Kd.R_elder' (by (with_reducible repeat (first|apply c2_|apply c3_|apply c4_));exact (Kd.R_mono (Kd.R_far (p := ⟨zd, 6, none⟩) (Kd.R_types zK.out za.out (by decide)) (fun _ hk => hk.2) (.int .i64 (wrap64 (zn + zV)))) (fun _ h_ => h_.1))) (Kd.R_base ho82) hb);have n1_ := c9_ (Kd.N_elder' (by (with_reducible repeat (first|apply b8_|apply b9_|apply c1_));exact (Kd.N_mono (Kd.N_far (p := ⟨zd, 6, none⟩) (Kd.N_mono zg.out (fun k_ hk => (⟨hk, hk.1.2.2.2.1⟩ : _ ∧ k_ ≠ zd))) (fun _ hk => hk.2) (.int .i64 (wrap64 (zn + zV)))) (fun _ h_ => h_.1))) (Kd.R_base ho82) hb);have n2_ := c9_ (Kd.R_lower (Kd.R_newB (Kd.R_newB (Kd.R_new' (Kd.R_newM (M := fun k_ => (w.heap.size ≤ k_)) ho82 (e7_ (by repeat (first|(with_reducible first|exact HB.out|apply b4_|apply b5_|apply b6_|refine b7_ ?_ zF.out|refine b7_ ?_ zJ.out|refine b7_ ?_ zL.out|refine b7_ ?_ zM.out|refine b7_ ?_ zS.out)|exact HB.out))) (fun k_ h_ => h_)) (Kd.R_lt (by (with_reducible repeat (first|apply c2_|apply c3_|apply c4_));exact (Kd.R_mono (Kd.R_far (p := ⟨zd, 6, none⟩) (Kd.R_types zK.out za.out (by decide)) (fun _ hk => hk.2) (.int .i64 (wrap64 (zn + zV)))) (fun _ h_ => h_.1))))) (g := zj) (o := .cells #[.int .i64 zb, .int .i64 zc] 90 (0, 0)) (by (with_reducible repeat (first|refine b1_ ?_ _|refine b2_ ?_|refine b3_ ?_ _));refine e5_ ?_ NB834_830.out _;exact zm.out)) (g := zA) (o := .cells #[.int .i64 zw, .int .i64 zy] 90 (0, 0)) (by (with_reducible repeat (first|refine b1_ ?_ _|refine b2_ ?_|refine b3_ ?_ _));refine e5_ ?_ NB842_830.out _;exact zH.out)) (e7_ (by repeat (first|(with_reducible first|exact HB.out|apply b4_|apply b5_|apply b6_|refine b7_ ?_ zF.out|refine b7_ ?_ zJ.out|refine b7_ ?_ zL.out|refine b7_ ?_ zM.out|refine b7_ ?_ zS.out)|exact HB.out))));have n3_ := c9_ (c6_ (g := zk) (o := .cells #[.int .i64 zz, .int .i64 zx, .int .i64 zv, .bool zu, .slice none 0 0, .int .i64 zt, .int .i64 zs, .int .i64 zp] 153 (0, 0)) (by (with_reducible repeat (first|refine b1_ ?_ _|refine b2_ ?_|refine b3_ ?_ _));refine e5_ ?_ NB828_830.out _;exact zi.out) hb);have n4_ := c9_ (c6_ (g := zd) (o := .cells #[.int .i64 zb, .int .i64 zc, .int .i64 ze, .bool zh, zE, .int .i64 zr, .int .i64 (wrap64 (zn + zV)), .int .i64 zq] 153 (0, 0)) (by (with_reducible repeat (first|refine b1_ ?_ _|refine b2_ ?_|refine b3_ ?_ _));refine blk_put (cs := #[.int .i64 zb, .int .i64 zc, .int .i64 ze, .bool zh, zE, .int .i64 zr, .int .i64 zn, .int .i64 zq]) ?_ 6 _ rfl;exact za.out) hb);have n5_ := c9_ (c6_ (g := zj) (o := .cells #[.int .i64 zb, .int .i64 zc] 90 (0, 0)) (by (with_reducible repeat (first|refine b1_ ?_ _|refine b2_ ?_|refine b3_ ?_ _));refine e5_ ?_ NB834_830.out _;exact zm.out) hb);have n6_ := c9_ (c6_ (g := zf) (o := .cells #[.int .i64 zw, .int .i64 zy, .int .i64 zQ, .bool zR] 75 (0, 0)) (by (with_reducible repeat (first|refine b1_ ?_ _|refine b2_ ?_|refine b3_ ?_ _));refine e5_ ?_ NB841_830.out _;exact zo.out) hb);have n7_ := c9_ (c6_ (g := zA) (o := .cells #[.int .i64 zw, .int .i64 zy] 90 (0, 0)) (by (with_reducible repeat (first|refine b1_ ?_ _|refine b2_ ?_|refine b3_ ?_ _));refine e5_ ?_ NB842_830.out _;exact zH.out) hb);have n8_ := c9_ (below_step (by repeat (first|(with_reducible first|exact HB.out|apply b4_|apply b5_|apply b6_|refine b7_ ?_ zF.out|refine b7_ ?_ zJ.out|refine b7_ ?_ zL.out|refine b7_ ?_ zM.out|refine b7_ ?_ zS.out)|exact HB.out)) hb);clear zK;clear zg;clear zi;clear za;clear zm;clear zo;clear zH;clear HB;have zK := n0_;have zg := n1_;have HO860 := n2_;have zi := n3_;have za := n4_;have zm := n5_;have zo := n6_;have zH := n7_;have HB := n8_;clear n0_ n1_ n2_ n3_ n4_ n5_ n6_ n7_ n8_;clear hb ho82; obtain ⟨Ao84, co84, eo84⟩ := Kd.R_slice HO860.out; subst eo84)|((with_reducible refine gate_builtin (b := .append) (xs := #[.tmp 81, .tmp 83]) rfl ?_);(try (refine gate_guard (by rfl) ?_; dsimp only)); at_builtin;refine Kd.R_append_rows k90 (w0 := w) w.heap.size rfl (.tmp 81) (.tmp 83) 108 90 (.agg #[(.int .i64 0), (.int .i64 0)]) 16 rfl Try.underlying108 info90 rfl (by decide) (by omega) (.slice Ao76 zT.length co76) zT y858 _ _ _ (fun k_ => (w.heap.size ≤ k_) ∧ some k_ ≠ (.slice Ao84 y858.length co84 : Value).ownBlock ∧ k_ ≠ zj ∧ k_ ≠ zA) (fun _ => False) rfl rfl ?aO ?aR (fun _ _ h => h) (fun _ h => h.elim) ?aF ?aB ?aS ?aL ?_;(case aR => repeat (first|exact (Kd.R_reads' HO860.out).2.2|(with_reducible refine Kd.C_alloc ?_ _)|(with_reducible refine Kd.C_drewN ?_ _)|(with_reducible refine Kd.C_drew ?_)));(case aB => exact (by repeat (first|(with_reducible first|exact HB.out|apply b4_|apply b5_|apply b6_|refine b7_ ?_ zF.out|refine b7_ ?_ zJ.out|refine b7_ ?_ zL.out|refine b7_ ?_ zM.out|refine b7_ ?_ zS.out)|exact HB.out)));(case aF => exact (fun k_ hk => ⟨(e6_ (e7_ (by repeat (first|(with_reducible first|exact HB.out|apply b4_|apply b5_|apply b6_|refine b7_ ?_ zF.out|refine b7_ ?_ zJ.out|refine b7_ ?_ zL.out|refine b7_ ?_ zM.out|refine b7_ ?_ zS.out)|exact HB.out))) hk), Kd.fresh' (Kd.R_lt (by (with_reducible repeat (first|apply c2_|apply c3_|apply c4_));exact HO860.out)) k_ hk, Kd.freshB (g := zj) (by exact zm.out) k_ hk, Kd.freshB (g := zA) (by exact zH.out) k_ hk⟩));(case aO => exact (by (with_reducible repeat (first|apply c2_|apply c3_|apply c4_));exact Kd.R_mono zK.out (fun _ hk => ⟨hk.1.1.1, ⟨hk.2, ⟨hk.1.1.2, hk.1.2⟩⟩⟩)));(case aS => exact (e7_ (by repeat (first|(with_reducible first|exact HB.out|apply b4_|apply b5_|apply b6_|refine b7_ ?_ zF.out|refine b7_ ?_ zJ.out|refine b7_ ?_ zL.out|refine b7_ ?_ zM.out|refine b7_ ?_ zS.out)|exact HB.out))));(case aL => have := LMc70.out; omega); intro v862 w83 ho hb hg hat; rw [← Ny861.out] at ho;have n0_ := c9_ (Kd.N_afterv (ok := (fun k_ => (w.heap.size ≤ k_) ∧ some k_ ≠ (.slice Ao84 y858.length co84 : Value).ownBlock ∧ k_ ≠ zk ∧ k_ ≠ zd ∧ k_ ≠ zj ∧ k_ ≠ zf ∧ k_ ≠ zA)) (by (with_reducible repeat (first|apply b8_|apply b9_|apply c1_));exact Kd.N_mono zg.out (fun _ hk => ⟨⟨hk.1.1.1, ⟨hk.2, ⟨hk.1.1.2.2.1, ⟨hk.1.1.2.2.2.1, ⟨hk.1.1.2.2.2.2.1, ⟨hk.1.1.2.2.2.2.2, hk.1.2⟩⟩⟩⟩⟩⟩, hk.1.1.2.1⟩)) hg hat);have n1_ := c9_ (blk_grown (g := zk) (by exact zi.out) hg (Kd.R_ne zK.out zi.out (by decide)));have n2_ := c9_ (blk_grown (g := zd) (by exact za.out) hg (Kd.R_ne zK.out za.out (by decide)));have n3_ := c9_ (blk_grown (g := zj) (by exact zm.out) hg (Kd.R_away zK.out (fun _ hk => hk.1.1.2)));have n4_ := c9_ (blk_grown (g := zf) (by exact zo.out) hg (Kd.R_ne zK.out zo.out (by decide)));have n5_ := c9_ (blk_grown (g := zA) (by exact zH.out) hg (Kd.R_away zK.out (fun _ hk => hk.1.2)));have n6_ := c9_ (Kd.R_after (ok := (fun k_ => (w.heap.size ≤ k_) ∧ k_ ≠ zj ∧ k_ ≠ zA)) (by (with_reducible repeat (first|apply c2_|apply c3_|apply c4_));exact Kd.R_mono HO860.out (fun _ hk => ⟨⟨hk.1.1.1.1, ⟨hk.1.2, hk.2⟩⟩, hk.1.1.2⟩)) hg hat);have n7_ := c9_ (hb);have n8_ := c9_ (ho);clear zg;clear zi;clear za;clear zm;clear zo;clear zH;clear HO860;clear HB;clear zK;have zg := n0_;have zi := n1_;have za := n2_;have zm := n3_;have zo := n4_;have zH := n5_;have HO860 := n6_;have HB := n7_;have HO863 := n8_;clear n0_ n1_ n2_ n3_ n4_ n5_ n6_ n7_ n8_;clear ho hb hg hat))
         go_meet
         case rel => exact ⟨_, (y861), (zr), (wrap64 (zn + zV)), H', ⟨by have := HK1.out; first|omega|exact Nat.le_refl _⟩, ⟨by (with_reducible repeat (first|apply c2_|apply c3_|apply c4_));exact Kd.R_mono HO863.out (fun _ hk => ⟨hk.1, ⟨hk.2.2.1, hk.2.2.2⟩⟩)⟩, ⟨by (with_reducible repeat (first|apply b8_|apply b9_|apply c1_));exact Kd.N_mono zg.out (fun _ hk => ⟨hk.1.1, ⟨hk.2, ⟨hk.1.2.2.1, ⟨hk.1.2.2.2.1, ⟨hk.1.2.2.2.2.1, ⟨hk.1.2.2.2.2.2.1, hk.1.2.2.2.2.2.2⟩⟩⟩⟩⟩⟩)⟩, ⟨by exact zi.out⟩, ⟨by exact za.out⟩, ⟨by exact zm.out⟩, ⟨by exact zo.out⟩, ⟨by exact zH.out⟩, ⟨by repeat (first|(with_reducible first|exact HB.out|apply b4_|apply b5_|apply b6_|refine b7_ ?_ zF.out|refine b7_ ?_ zJ.out|refine b7_ ?_ zL.out|refine b7_ ?_ zM.out|refine b7_ ?_ zS.out)|exact HB.out)⟩⟩
       ·
        rw [if_neg c45] at H
        have c45b0 : (((rd_T137 l0 zB).f0) == 68) = false := beq_eq_false_iff_ne.mpr c45
        have c45b1 : (((rd_T137 l0 zB).f0) != 68) = true := bne_iff_ne.mpr c45
        (first|rw [c45b0]|(simp only [i64_w, i32_w]; rw [c45b0])|skip)
        have H' := c9_ H
        clear H
        have hnb85 := NB830_828.out
        have hnc85 := NB828_830.out
        have hnb86 := NB830_834.out
        have hnc86 := NB834_830.out
        have hnb87 := NB830_841.out
        have hnc87 := NB841_830.out
        have hnb88 := NB830_842.out
        have hnc88 := NB842_830.out
        have hcz89_0 : w44.cell? ⟨zd, 0, none⟩ = some (.int .i64 zb) := (e1_ za.out 0).trans rfl
        have hcz89_1 : w44.cell? ⟨zd, 1, none⟩ = some (.int .i64 zc) := (e1_ za.out 1).trans rfl
        have hcz89_2 : w44.cell? ⟨zd, 2, none⟩ = some (.int .i64 ze) := (e1_ za.out 2).trans rfl
        have hcz89_3 : w44.cell? ⟨zd, 3, none⟩ = some (.bool zh) := (e1_ za.out 3).trans rfl
        have hcz89_4 : w44.cell? ⟨zd, 4, none⟩ = some (zE) := (e1_ za.out 4).trans rfl
        have hcz89_5 : w44.cell? ⟨zd, 5, none⟩ = some (.int .i64 zr) := (e1_ za.out 5).trans rfl
        have hcz89_6 : w44.cell? ⟨zd, 6, none⟩ = some (.int .i64 zn) := (e1_ za.out 6).trans rfl
        have hcz89_7 : w44.cell? ⟨zd, 7, none⟩ = some (.int .i64 zq) := (e1_ za.out 7).trans rfl
        have hfz89_0 := e2_ za.out 0
        have hfz89_1 := e2_ za.out 1
        have hfz89_2 := e2_ za.out 2
        have hfz89_3 := e2_ za.out 3
        have hfz89_4 := e2_ za.out 4
        have hfz89_5 := e2_ za.out 5
        have hfz89_6 := e2_ za.out 6
        have hfz89_7 := e2_ za.out 7
        go_wp2
        go_meet
        case rel => exact ⟨_, (zT), (wrap64 (zr + zV)), (zn), H', ⟨by have := HK1.out; first|omega|exact Nat.le_refl _⟩, ⟨by (with_reducible repeat (first|apply c2_|apply c3_|apply c4_));exact Kd.R_mono (Kd.R_far (p := ⟨zd, 5, none⟩) (Kd.R_types zK.out za.out (by decide)) (fun _ hk => hk.2) (.int .i64 (wrap64 (zr + zV)))) (fun _ hk => ⟨hk.1.1.1, ⟨hk.1.1.2, hk.1.2⟩⟩)⟩, ⟨by (with_reducible repeat (first|apply b8_|apply b9_|apply c1_));exact Kd.N_mono (Kd.N_far (p := ⟨zd, 5, none⟩) (Kd.N_mono zg.out (fun k_ hk => (⟨hk, hk.1.2.2.2.1⟩ : _ ∧ k_ ≠ zd))) (fun _ hk => hk.2) (.int .i64 (wrap64 (zr + zV)))) (fun _ hk => ⟨hk.1.1.1, ⟨hk.1.1.2.1, ⟨hk.1.1.2.2.1, ⟨hk.1.1.2.2.2.1, ⟨hk.1.1.2.2.2.2.1, ⟨hk.1.1.2.2.2.2.2, hk.1.2⟩⟩⟩⟩⟩⟩)⟩, ⟨by (with_reducible repeat (first|refine b1_ ?_ _|refine b2_ ?_|refine b3_ ?_ _));refine e5_ ?_ NB828_830.out _;exact zi.out⟩, ⟨by (with_reducible repeat (first|refine b1_ ?_ _|refine b2_ ?_|refine b3_ ?_ _));refine blk_put (cs := #[.int .i64 zb, .int .i64 zc, .int .i64 ze, .bool zh, zE, .int .i64 zr, .int .i64 zn, .int .i64 zq]) ?_ 5 _ rfl;exact za.out⟩, ⟨by (with_reducible repeat (first|refine b1_ ?_ _|refine b2_ ?_|refine b3_ ?_ _));refine e5_ ?_ NB834_830.out _;exact zm.out⟩, ⟨by (with_reducible repeat (first|refine b1_ ?_ _|refine b2_ ?_|refine b3_ ?_ _));refine e5_ ?_ NB841_830.out _;exact zo.out⟩, ⟨by (with_reducible repeat (first|refine b1_ ?_ _|refine b2_ ?_|refine b3_ ?_ _));refine e5_ ?_ NB842_830.out _;exact zH.out⟩, ⟨by repeat (first|(with_reducible first|exact HB.out|apply b4_|apply b5_|apply b6_|refine b7_ ?_ zF.out|refine b7_ ?_ zJ.out|refine b7_ ?_ zL.out|refine b7_ ?_ zM.out|refine b7_ ?_ zS.out)|exact HB.out)⟩⟩
      case rest =>
       clear HC17
       try clear c1
       try clear c2
       try clear p2
       try clear c3
       try clear c4
       try clear c5
       try clear c6
       try clear p6
       try clear c7
       try clear c8
       try clear p8
       try clear q8
       try clear hx8
       try clear c15
       try clear c33
       try clear c34
       try clear c35
       try clear c38
       try clear c39
       try clear c40
       try clear c41
       try clear c45
       try clear c45b0
       try clear c45b1
       try clear c46
       try clear c46b0
       try clear c46b1
       try clear c46b2
       try clear c47
       try clear c48
       try clear c49
       try clear c50
       try clear c51
       try clear c52
       try clear c55
       try clear c56
       try clear c57
       try clear c63
       try clear c64
       try clear p64
       try clear c70
       try clear c71
       try clear c72
       try clear c73
       try clear c74
       try clear c77
       try clear c78
       try clear c79
       try clear p83
       try clear q83
       try clear hx83
       try clear p84
       try clear q84
       try clear hx84
       try clear c85
       try clear c86
       try clear c87
       try clear c88
       try clear hcz36_0
       try clear hcz36_1
       try clear hcz36_2
       try clear hcz36_3
       try clear hcz42_0
       try clear hcz42_1
       try clear hcz43_0
       try clear hcz43_1
       try clear hcz53_0
       try clear hcz53_1
       try clear hcz53_2
       try clear hcz53_3
       try clear hcz53_4
       try clear hcz53_5
       try clear hcz53_6
       try clear hcz53_7
       try clear hcz58_0
       try clear hcz58_1
       try clear hcz65_0
       try clear hcz65_1
       try clear hcz75_0
       try clear hcz75_1
       try clear hcz75_2
       try clear hcz75_3
       try clear hcz75_4
       try clear hcz75_5
       try clear hcz75_6
       try clear hcz75_7
       try clear hcz80_0
       try clear hcz80_1
       try clear hcz89_0
       try clear hcz89_1
       try clear hcz89_2
       try clear hcz89_3
       try clear hcz89_4
       try clear hcz89_5
       try clear hcz89_6
       try clear hcz89_7
       try clear hfz36_0
       try clear hfz36_1
       try clear hfz36_2
       try clear hfz36_3
       try clear hfz42_0
       try clear hfz42_1
       try clear hfz43_0
       try clear hfz43_1
       try clear hfz53_0
       try clear hfz53_1
       try clear hfz53_2
       try clear hfz53_3
       try clear hfz53_4
       try clear hfz53_5
       try clear hfz53_6
       try clear hfz53_7
       try clear hfz58_0
       try clear hfz58_1
       try clear hfz65_0
       try clear hfz65_1
       try clear hfz75_0
       try clear hfz75_1
       try clear hfz75_2
       try clear hfz75_3
       try clear hfz75_4
       try clear hfz75_5
       try clear hfz75_6
       try clear hfz75_7
       try clear hfz80_0
       try clear hfz80_1
       try clear hfz89_0
       try clear hfz89_1
       try clear hfz89_2
       try clear hfz89_3
       try clear hfz89_4
       try clear hfz89_5
       try clear hfz89_6
       try clear hfz89_7
       try clear z7
       try clear z8
       try clear z9
       try clear hx845_0
       try clear hx845_1
       try clear hx845_2
       try clear p835
       try clear p845
       try clear q835
       try clear q845
       obtain ⟨kq, zU, zC, zD, HA, HJ16, zK, zg, zi, za, zm, zo, zH, HB⟩ := hcut
       cases kq with
      |zero => exact absurd HA.out (by simp [spec_l30All.j1])
      |succ kj16 =>
        have H := HA.out
        clear HA
        simp only [spec_l30All.j1] at H
        by_cases c90 : 0 ≤ zB
        rotate_left
        ·
         rw [if_neg c90] at H
         exact absurd H (by simp)
        rw [if_pos c90] at H
        have c90b0 : decide (0 ≤ zB) = true := decide_eq_true c90
        clear c90
        by_cases c91 : zB < (l0.length : Int)
        rotate_left
        ·
         rw [if_neg c91] at H
         exact absurd H (by simp)
        rw [if_pos c91] at H
        have c91b0 : decide (zB < (l0.length : Int)) = true := decide_eq_true c91
        clear c91
        have HC92 := c9_ H
        clear H
        have p864 : 0 ≤ (zB : Int) := of_decide_eq_true (by first|(with_reducible assumption)|assumption)
        have q864 : zB < (l0.length : Int) := of_decide_eq_true (by first|(with_reducible assumption)|assumption)
        obtain ⟨ad864, e864, hx864_0, hx864_1, hx864_2⟩ := at_T137 HR0.out zB p864 q864
        obtain rfl : zW = ad864 := (by injection e864)
        replace hx864_0 := (HB.out.cell (c5_ w _ hx864_0)).trans hx864_0
        replace hx864_1 := (HB.out.cell (c5_ w _ hx864_1)).trans hx864_1
        replace hx864_2 := (HB.out.cell (c5_ w _ hx864_2)).trans hx864_2
        replace p864 := eq_true p864
        replace q864 := eq_true q864
        go_upto_if 90 with (fail)
        go_cut [] (fun wc => ∃ (kq : Nat) (zI : Int), Aside0 (spec_l30All.j2 kq l0 zU zB zb zc ze zh zl zC zD zI zw zy zQ zR = some (r1, r2, r3, r4, r5, r6, r7, r8, r9)) ∧ Aside0 (kq ≤ kj16) ∧ Aside0 (Kd.R k90 90 wc w.heap.size (fun k_ => (w.heap.size ≤ k_) ∧ k_ ≠ zj ∧ k_ ≠ zA) u6 zU) ∧ Aside0 (Kd.N k110 110 wc w.heap.size (fun k_ => (w.heap.size ≤ k_) ∧ some k_ ≠ (u6 : Value).ownBlock ∧ k_ ≠ zk ∧ k_ ≠ zd ∧ k_ ≠ zj ∧ k_ ≠ zf ∧ k_ ≠ zA) zE zl) ∧ Aside0 (wc.heap[zk]? = some (.cells #[.int .i64 zz, .int .i64 zx, .int .i64 zv, .bool zu, (.slice none 0 0), .int .i64 zt, .int .i64 zs, .int .i64 zp] 153 (0, 0))) ∧ Aside0 (wc.heap[zd]? = some (.cells #[.int .i64 zb, .int .i64 zc, .int .i64 ze, .bool zh, zE, .int .i64 zC, .int .i64 zD, .int .i64 zI] 153 (0, 0))) ∧ Aside0 (wc.heap[zj]? = some (.cells #[.int .i64 zb, .int .i64 zc] 90 (0, 0))) ∧ Aside0 (wc.heap[zf]? = some (.cells #[.int .i64 zw, .int .i64 zy, .int .i64 zQ, .bool zR] 75 (0, 0))) ∧ Aside0 (wc.heap[zA]? = some (.cells #[.int .i64 zw, .int .i64 zy] 90 (0, 0))) ∧ Aside0 (Below w.heap.size w wc))
        case first =>
         have H := HC92.out
         clear HC92
         by_cases c93 : ((rd_T137 l0 zB).f0) = 80
         ·
          rw [if_pos c93] at H
          have c93b0 : (((rd_T137 l0 zB).f0) == 80) = true := beq_iff_eq.mpr c93
          have c93b1 : (((rd_T137 l0 zB).f0) != 80) = false := bne_eq_false_iff_eq.mpr c93
          clear c93
          (first|rw [c93b0]|(simp only [i64_w, i32_w]; rw [c93b0])|skip)
          have H' := c9_ H
          clear H
          have hnb94 := NB830_828.out
          have hnc94 := NB828_830.out
          have hnb95 := NB830_834.out
          have hnc95 := NB834_830.out
          have hnb96 := NB830_841.out
          have hnc96 := NB841_830.out
          have hnb97 := NB830_842.out
          have hnc97 := NB842_830.out
          have hcz98_0 : wc.cell? ⟨zd, 0, none⟩ = some (.int .i64 zb) := (e1_ za.out 0).trans rfl
          have hcz98_1 : wc.cell? ⟨zd, 1, none⟩ = some (.int .i64 zc) := (e1_ za.out 1).trans rfl
          have hcz98_2 : wc.cell? ⟨zd, 2, none⟩ = some (.int .i64 ze) := (e1_ za.out 2).trans rfl
          have hcz98_3 : wc.cell? ⟨zd, 3, none⟩ = some (.bool zh) := (e1_ za.out 3).trans rfl
          have hcz98_4 : wc.cell? ⟨zd, 4, none⟩ = some (zE) := (e1_ za.out 4).trans rfl
          have hcz98_5 : wc.cell? ⟨zd, 5, none⟩ = some (.int .i64 zC) := (e1_ za.out 5).trans rfl
          have hcz98_6 : wc.cell? ⟨zd, 6, none⟩ = some (.int .i64 zD) := (e1_ za.out 6).trans rfl
          have hcz98_7 : wc.cell? ⟨zd, 7, none⟩ = some (.int .i64 zq) := (e1_ za.out 7).trans rfl
          have hfz98_0 := e2_ za.out 0
          have hfz98_1 := e2_ za.out 1
          have hfz98_2 := e2_ za.out 2
          have hfz98_3 := e2_ za.out 3
          have hfz98_4 := e2_ za.out 4
          have hfz98_5 := e2_ za.out 5
          have hfz98_6 := e2_ za.out 6
          have hfz98_7 := e2_ za.out 7
          go_wp2
          go_meet
          case rel => exact ⟨_, (wrap64 (zq + 1)), H', ⟨by have := HK1.out;have := HJ16.out; first|omega|exact Nat.le_refl _⟩, ⟨by (with_reducible repeat (first|apply c2_|apply c3_|apply c4_));exact Kd.R_mono (Kd.R_far (p := ⟨zd, 7, none⟩) (Kd.R_types zK.out za.out (by decide)) (fun _ hk => hk.2) (.int .i64 (wrap64 (zq + 1)))) (fun _ hk => ⟨hk.1.1, ⟨hk.1.2.1, hk.1.2.2⟩⟩)⟩, ⟨by (with_reducible repeat (first|apply b8_|apply b9_|apply c1_));exact Kd.N_mono (Kd.N_far (p := ⟨zd, 7, none⟩) (Kd.N_mono zg.out (fun k_ hk => (⟨hk, hk.2.2.2.1⟩ : _ ∧ k_ ≠ zd))) (fun _ hk => hk.2) (.int .i64 (wrap64 (zq + 1)))) (fun _ hk => ⟨hk.1.1, ⟨hk.1.2.1, ⟨hk.1.2.2.1, ⟨hk.1.2.2.2.1, ⟨hk.1.2.2.2.2.1, ⟨hk.1.2.2.2.2.2.1, hk.1.2.2.2.2.2.2⟩⟩⟩⟩⟩⟩)⟩, ⟨by (with_reducible repeat (first|refine b1_ ?_ _|refine b2_ ?_|refine b3_ ?_ _));refine e5_ ?_ NB828_830.out _;exact zi.out⟩, ⟨by (with_reducible repeat (first|refine b1_ ?_ _|refine b2_ ?_|refine b3_ ?_ _));refine blk_put (cs := #[.int .i64 zb, .int .i64 zc, .int .i64 ze, .bool zh, zE, .int .i64 zC, .int .i64 zD, .int .i64 zq]) ?_ 7 _ rfl;exact za.out⟩, ⟨by (with_reducible repeat (first|refine b1_ ?_ _|refine b2_ ?_|refine b3_ ?_ _));refine e5_ ?_ NB834_830.out _;exact zm.out⟩, ⟨by (with_reducible repeat (first|refine b1_ ?_ _|refine b2_ ?_|refine b3_ ?_ _));refine e5_ ?_ NB841_830.out _;exact zo.out⟩, ⟨by (with_reducible repeat (first|refine b1_ ?_ _|refine b2_ ?_|refine b3_ ?_ _));refine e5_ ?_ NB842_830.out _;exact zH.out⟩, ⟨by repeat (first|(with_reducible first|exact HB.out|apply b4_|apply b5_|apply b6_|refine b7_ ?_ zF.out|refine b7_ ?_ zJ.out|refine b7_ ?_ zL.out|refine b7_ ?_ zM.out|refine b7_ ?_ zS.out)|exact HB.out)⟩⟩
         ·
          rw [if_neg c93] at H
          have c93b0 : (((rd_T137 l0 zB).f0) == 80) = false := beq_eq_false_iff_ne.mpr c93
          have c93b1 : (((rd_T137 l0 zB).f0) != 80) = true := bne_iff_ne.mpr c93
          (first|rw [c93b0]|(simp only [i64_w, i32_w]; rw [c93b0])|skip)
          have H' := c9_ H
          clear H
          go_wp2
          go_meet
          case rel => exact ⟨_, (zq), H', ⟨by have := HK1.out;have := HJ16.out; first|omega|exact Nat.le_refl _⟩, ⟨by (with_reducible repeat (first|apply c2_|apply c3_|apply c4_));exact zK.out⟩, ⟨by (with_reducible repeat (first|apply b8_|apply b9_|apply c1_));exact zg.out⟩, ⟨by exact zi.out⟩, ⟨by exact za.out⟩, ⟨by exact zm.out⟩, ⟨by exact zo.out⟩, ⟨by exact zH.out⟩, ⟨by repeat (first|(with_reducible first|exact HB.out|apply b4_|apply b5_|apply b6_|refine b7_ ?_ zF.out|refine b7_ ?_ zJ.out|refine b7_ ?_ zL.out|refine b7_ ?_ zM.out|refine b7_ ?_ zS.out)|exact HB.out)⟩⟩
        case rest =>
         clear HC92
         try clear c1
         try clear c2
         try clear p2
         try clear c3
         try clear c4
         try clear c5
         try clear c6
         try clear p6
         try clear c7
         try clear c8
         try clear p8
         try clear q8
         try clear hx8
         try clear c9
         try clear c15
         try clear c33
         try clear c34
         try clear c35
         try clear c38
         try clear c39
         try clear c40
         try clear c41
         try clear c45
         try clear c45b0
         try clear c45b1
         try clear c46
         try clear c46b0
         try clear c46b1
         try clear c46b2
         try clear c47
         try clear c48
         try clear c49
         try clear c50
         try clear c51
         try clear c52
         try clear c55
         try clear c56
         try clear c57
         try clear c63
         try clear c64
         try clear p64
         try clear c70
         try clear c71
         try clear c72
         try clear c73
         try clear c74
         try clear c77
         try clear c78
         try clear c79
         try clear p83
         try clear q83
         try clear hx83
         try clear p84
         try clear q84
         try clear hx84
         try clear c85
         try clear c86
         try clear p86
         try clear q86
         try clear hx86
         try clear c87
         try clear c88
         try clear c90
         try clear c90b0
         try clear c91
         try clear c91b0
         try clear c93
         try clear c93b0
         try clear c93b1
         try clear c94
         try clear c95
         try clear c96
         try clear c97
         try clear hcz36_0
         try clear hcz36_1
         try clear hcz36_2
         try clear hcz36_3
         try clear hcz42_0
         try clear hcz42_1
         try clear hcz43_0
         try clear hcz43_1
         try clear hcz53_0
         try clear hcz53_1
         try clear hcz53_2
         try clear hcz53_3
         try clear hcz53_4
         try clear hcz53_5
         try clear hcz53_6
         try clear hcz53_7
         try clear hcz58_0
         try clear hcz58_1
         try clear hcz65_0
         try clear hcz65_1
         try clear hcz75_0
         try clear hcz75_1
         try clear hcz75_2
         try clear hcz75_3
         try clear hcz75_4
         try clear hcz75_5
         try clear hcz75_6
         try clear hcz75_7
         try clear hcz80_0
         try clear hcz80_1
         try clear hcz89_0
         try clear hcz89_1
         try clear hcz89_2
         try clear hcz89_3
         try clear hcz89_4
         try clear hcz89_5
         try clear hcz89_6
         try clear hcz89_7
         try clear hcz98_0
         try clear hcz98_1
         try clear hcz98_2
         try clear hcz98_3
         try clear hcz98_4
         try clear hcz98_5
         try clear hcz98_6
         try clear hcz98_7
         try clear hfz36_0
         try clear hfz36_1
         try clear hfz36_2
         try clear hfz36_3
         try clear hfz42_0
         try clear hfz42_1
         try clear hfz43_0
         try clear hfz43_1
         try clear hfz53_0
         try clear hfz53_1
         try clear hfz53_2
         try clear hfz53_3
         try clear hfz53_4
         try clear hfz53_5
         try clear hfz53_6
         try clear hfz53_7
         try clear hfz58_0
         try clear hfz58_1
         try clear hfz65_0
         try clear hfz65_1
         try clear hfz75_0
         try clear hfz75_1
         try clear hfz75_2
         try clear hfz75_3
         try clear hfz75_4
         try clear hfz75_5
         try clear hfz75_6
         try clear hfz75_7
         try clear hfz80_0
         try clear hfz80_1
         try clear hfz89_0
         try clear hfz89_1
         try clear hfz89_2
         try clear hfz89_3
         try clear hfz89_4
         try clear hfz89_5
         try clear hfz89_6
         try clear hfz89_7
         try clear hfz98_0
         try clear hfz98_1
         try clear hfz98_2
         try clear hfz98_3
         try clear hfz98_4
         try clear hfz98_5
         try clear hfz98_6
         try clear hfz98_7
         try clear z7
         try clear z8
         try clear z9
         try clear hx845_0
         try clear hx845_1
         try clear hx845_2
         try clear hx864_0
         try clear hx864_1
         try clear hx864_2
         try clear p2
         try clear p6
         try clear p64
         try clear p8
         try clear p83
         try clear p835
         try clear p84
         try clear p845
         try clear p864
         try clear q8
         try clear q83
         try clear q835
         try clear q84
         try clear q845
         try clear q864
         obtain ⟨kq, zI, HA, HJ91, zK, zg, zi, za, zm, zo, zH, HB⟩ := hcut
         cases kq with
        |zero => exact absurd HA.out (by simp [spec_l30All.j2])
        |succ kj91 =>
          have H := HA.out
          clear HA
          simp only [spec_l30All.j2] at H
          have HC99 := c9_ H
          clear H
          go_upto_region 24 with (fail)
          go_cut [113] (fun v113 wc => ∃ (kq : Nat) (x113_98 : Bool), v113 = .bool x113_98 ∧ Aside0 (spec_l30All.j3 kq l0 zU zB x113_98 zb zc ze zh zl zC zD zI zw zy zQ zR = some (r1, r2, r3, r4, r5, r6, r7, r8, r9)) ∧ Aside0 (kq ≤ kj91) ∧ Aside0 (Kd.R k90 90 wc w.heap.size (fun k_ => (w.heap.size ≤ k_) ∧ k_ ≠ zj ∧ k_ ≠ zA) u6 zU) ∧ Aside0 (Kd.N k110 110 wc w.heap.size (fun k_ => (w.heap.size ≤ k_) ∧ some k_ ≠ (u6 : Value).ownBlock ∧ k_ ≠ zk ∧ k_ ≠ zd ∧ k_ ≠ zj ∧ k_ ≠ zf ∧ k_ ≠ zA) zE zl) ∧ Aside0 (wc.heap[zk]? = some (.cells #[.int .i64 zz, .int .i64 zx, .int .i64 zv, .bool zu, (.slice none 0 0), .int .i64 zt, .int .i64 zs, .int .i64 zp] 153 (0, 0))) ∧ Aside0 (wc.heap[zd]? = some (.cells #[.int .i64 zb, .int .i64 zc, .int .i64 ze, .bool zh, zE, .int .i64 zC, .int .i64 zD, .int .i64 zI] 153 (0, 0))) ∧ Aside0 (wc.heap[zj]? = some (.cells #[.int .i64 zb, .int .i64 zc] 90 (0, 0))) ∧ Aside0 (wc.heap[zf]? = some (.cells #[.int .i64 zw, .int .i64 zy, .int .i64 zQ, .bool zR] 75 (0, 0))) ∧ Aside0 (wc.heap[zA]? = some (.cells #[.int .i64 zw, .int .i64 zy] 90 (0, 0))) ∧ Aside0 (Below w.heap.size w wc))
          case first =>
           have H := HC99.out
           clear HC99
           by_cases c100 : (zU.length : Int) > 0
           ·
            rw [if_pos c100] at H
            have c100b0 : decide (0 < (zU.length : Int)) = true := decide_eq_true c100
            have c100b1 : decide (0 < zU.length) = true := decide_eq_true (by omega)
            clear c100
            (first|rw [c100b0]|(simp only [i64_w, i32_w]; rw [c100b0])|skip)
            by_cases c101 : (wrap64 (zB + 1)) = (l0.length : Int)
            ·
             rw [if_pos c101] at H
             have c101b0 : ((wrap64 (zB + 1)) == (l0.length : Int)) = true := beq_iff_eq.mpr c101
             have c101b1 : ((wrap64 (zB + 1)) != (l0.length : Int)) = false := bne_eq_false_iff_eq.mpr c101
             clear c101
             have H' := c9_ H
             clear H
             obtain ⟨Ao102, co102, eo102⟩ := Kd.R_slice zK.out
             subst eo102
             go_wp2
             go_meet
             case rel => exact ⟨_, (true), (by first|rfl|(simp; done)|(simp [*]; done)), H', ⟨by have := HK1.out;have := HJ16.out;have := HJ91.out; first|omega|exact Nat.le_refl _⟩, ⟨by (with_reducible repeat (first|apply c2_|apply c3_|apply c4_));exact zK.out⟩, ⟨by (with_reducible repeat (first|apply b8_|apply b9_|apply c1_));exact zg.out⟩, ⟨by exact zi.out⟩, ⟨by exact za.out⟩, ⟨by exact zm.out⟩, ⟨by exact zo.out⟩, ⟨by exact zH.out⟩, ⟨by repeat (first|(with_reducible first|exact HB.out|apply b4_|apply b5_|apply b6_|refine b7_ ?_ zF.out|refine b7_ ?_ zJ.out|refine b7_ ?_ zL.out|refine b7_ ?_ zM.out|refine b7_ ?_ zS.out)|exact HB.out)⟩⟩
            ·
             rw [if_neg c101] at H
             have c101b0 : ((wrap64 (zB + 1)) == (l0.length : Int)) = false := beq_eq_false_iff_ne.mpr c101
             have c101b1 : ((wrap64 (zB + 1)) != (l0.length : Int)) = true := bne_iff_ne.mpr c101
             obtain ⟨ji103, hji103⟩ : ∃ j_ : Int, (wrap64 (zB + 1)) = j_ := ⟨_, rfl⟩
             replace H : (if 0 ≤ (ji103) then (if (ji103) < (l0.length : Int) then (spec_l30All.j3 kj91 l0 zU zB (((rd_T137 l0 (ji103)).f0) != 68) zb zc ze zh zl zC zD zI zw zy zQ zR) else (none)) else (none)) = some (r1, r2, r3, r4, r5, r6, r7, r8, r9) := by first|(rw [hji103] at H;exact H)|(simp only [hji103] at H ⊢;exact H)
             (try rw [hji103] at c101b0)
             (try rw [hji103] at c101b1)
             have hji103w : (IntKind.i64.wrap (zB + 1)) = ji103 := (i64_w _).trans hji103
             by_cases c104 : 0 ≤ (ji103)
             rotate_left
             ·
              rw [if_neg c104] at H
              exact absurd H (by simp)
             rw [if_pos c104] at H
             have c104b0 : decide (0 ≤ (ji103)) = true := decide_eq_true c104
             clear c104
             by_cases c105 : (ji103) < (l0.length : Int)
             rotate_left
             ·
              rw [if_neg c105] at H
              exact absurd H (by simp)
             rw [if_pos c105] at H
             have c105b0 : decide ((ji103) < (l0.length : Int)) = true := decide_eq_true c105
             clear c105
             have H' := c9_ H
             clear H
             obtain ⟨Ao106, co106, eo106⟩ := Kd.R_slice zK.out
             subst eo106
             have p865 : 0 ≤ ((ji103) : Int) := of_decide_eq_true (by first|(with_reducible assumption)|assumption)
             have q865 : (ji103) < (l0.length : Int) := of_decide_eq_true (by first|(with_reducible assumption)|assumption)
             obtain ⟨ad865, e865, hx865_0, hx865_1, hx865_2⟩ := at_T137 HR0.out (ji103) p865 q865
             obtain rfl : zW = ad865 := (by injection e865)
             replace hx865_0 := (HB.out.cell (c5_ w _ hx865_0)).trans hx865_0
             replace hx865_1 := (HB.out.cell (c5_ w _ hx865_1)).trans hx865_1
             replace hx865_2 := (HB.out.cell (c5_ w _ hx865_2)).trans hx865_2
             replace p865 := eq_true p865
             replace q865 := eq_true q865
             go_wp2
             go_meet
             case rel => exact ⟨_, ((((rd_T137 l0 (ji103)).f0) != 68)), (by first|rfl|(simp; done)|(simp only [← hji103] <;> (first|rfl|simp))|(simp [*]; done)), H', ⟨by have := HK1.out;have := HJ16.out;have := HJ91.out; first|omega|exact Nat.le_refl _⟩, ⟨by (with_reducible repeat (first|apply c2_|apply c3_|apply c4_));exact zK.out⟩, ⟨by (with_reducible repeat (first|apply b8_|apply b9_|apply c1_));exact zg.out⟩, ⟨by exact zi.out⟩, ⟨by exact za.out⟩, ⟨by exact zm.out⟩, ⟨by exact zo.out⟩, ⟨by exact zH.out⟩, ⟨by repeat (first|(with_reducible first|exact HB.out|apply b4_|apply b5_|apply b6_|refine b7_ ?_ zF.out|refine b7_ ?_ zJ.out|refine b7_ ?_ zL.out|refine b7_ ?_ zM.out|refine b7_ ?_ zS.out)|exact HB.out)⟩⟩
           ·
            rw [if_neg c100] at H
            have c100b0 : decide (0 < (zU.length : Int)) = false := decide_eq_false c100
            have c100b1 : decide (0 < zU.length) = false := decide_eq_false (by omega)
            clear c100
            (first|rw [c100b0]|(simp only [i64_w, i32_w]; rw [c100b0])|skip)
            have H' := c9_ H
            clear H
            obtain ⟨Ao107, co107, eo107⟩ := Kd.R_slice zK.out
            subst eo107
            go_wp2
            go_meet
            case rel => exact ⟨_, (false), (by first|rfl|(simp; done)|(simp [*]; done)), H', ⟨by have := HK1.out;have := HJ16.out;have := HJ91.out; first|omega|exact Nat.le_refl _⟩, ⟨by (with_reducible repeat (first|apply c2_|apply c3_|apply c4_));exact zK.out⟩, ⟨by (with_reducible repeat (first|apply b8_|apply b9_|apply c1_));exact zg.out⟩, ⟨by exact zi.out⟩, ⟨by exact za.out⟩, ⟨by exact zm.out⟩, ⟨by exact zo.out⟩, ⟨by exact zH.out⟩, ⟨by repeat (first|(with_reducible first|exact HB.out|apply b4_|apply b5_|apply b6_|refine b7_ ?_ zF.out|refine b7_ ?_ zJ.out|refine b7_ ?_ zL.out|refine b7_ ?_ zM.out|refine b7_ ?_ zS.out)|exact HB.out)⟩⟩
          case rest =>
           clear HC99
           try clear c1
           try clear c2
           try clear p2
           try clear c3
           try clear c4
           try clear c5
           try clear c6
           try clear p6
           try clear c7
           try clear c8
           try clear p8
           try clear q8
           try clear hx8
           try clear c9
           try clear c10
           try clear c15
           try clear c33
           try clear c34
           try clear c35
           try clear c38
           try clear c39
           try clear c40
           try clear c41
           try clear c45
           try clear c45b0
           try clear c45b1
           try clear c46
           try clear c46b0
           try clear c46b1
           try clear c46b2
           try clear c47
           try clear c48
           try clear c49
           try clear c50
           try clear c51
           try clear c52
           try clear c55
           try clear c56
           try clear c57
           try clear c63
           try clear c64
           try clear p64
           try clear c70
           try clear c71
           try clear c72
           try clear c73
           try clear c74
           try clear c77
           try clear c78
           try clear c79
           try clear p83
           try clear q83
           try clear hx83
           try clear p84
           try clear q84
           try clear hx84
           try clear c85
           try clear c86
           try clear p86
           try clear q86
           try clear hx86
           try clear c87
           try clear c88
           try clear c90
           try clear c90b0
           try clear c91
           try clear c91b0
           try clear c93
           try clear c93b0
           try clear c93b1
           try clear c94
           try clear c95
           try clear c96
           try clear c97
           try clear c100
           try clear c100b0
           try clear c100b1
           try clear c101
           try clear c101b0
           try clear c101b1
           try clear c104
           try clear c104b0
           try clear c105
           try clear c105b0
           try clear hcz36_0
           try clear hcz36_1
           try clear hcz36_2
           try clear hcz36_3
           try clear hcz42_0
           try clear hcz42_1
           try clear hcz43_0
           try clear hcz43_1
           try clear hcz53_0
           try clear hcz53_1
           try clear hcz53_2
           try clear hcz53_3
           try clear hcz53_4
           try clear hcz53_5
           try clear hcz53_6
           try clear hcz53_7
           try clear hcz58_0
           try clear hcz58_1
           try clear hcz65_0
           try clear hcz65_1
           try clear hcz75_0
           try clear hcz75_1
           try clear hcz75_2
           try clear hcz75_3
           try clear hcz75_4
           try clear hcz75_5
           try clear hcz75_6
           try clear hcz75_7
           try clear hcz80_0
           try clear hcz80_1
           try clear hcz89_0
           try clear hcz89_1
           try clear hcz89_2
           try clear hcz89_3
           try clear hcz89_4
           try clear hcz89_5
           try clear hcz89_6
           try clear hcz89_7
           try clear hcz98_0
           try clear hcz98_1
           try clear hcz98_2
           try clear hcz98_3
           try clear hcz98_4
           try clear hcz98_5
           try clear hcz98_6
           try clear hcz98_7
           try clear hfz36_0
           try clear hfz36_1
           try clear hfz36_2
           try clear hfz36_3
           try clear hfz42_0
           try clear hfz42_1
           try clear hfz43_0
           try clear hfz43_1
           try clear hfz53_0
           try clear hfz53_1
           try clear hfz53_2
           try clear hfz53_3
           try clear hfz53_4
           try clear hfz53_5
           try clear hfz53_6
           try clear hfz53_7
           try clear hfz58_0
           try clear hfz58_1
           try clear hfz65_0
           try clear hfz65_1
           try clear hfz75_0
           try clear hfz75_1
           try clear hfz75_2
           try clear hfz75_3
           try clear hfz75_4
           try clear hfz75_5
           try clear hfz75_6
           try clear hfz75_7
           try clear hfz80_0
           try clear hfz80_1
           try clear hfz89_0
           try clear hfz89_1
           try clear hfz89_2
           try clear hfz89_3
           try clear hfz89_4
           try clear hfz89_5
           try clear hfz89_6
           try clear hfz89_7
           try clear hfz98_0
           try clear hfz98_1
           try clear hfz98_2
           try clear hfz98_3
           try clear hfz98_4
           try clear hfz98_5
           try clear hfz98_6
           try clear hfz98_7
           try clear z7
           try clear z8
           try clear z9
           try clear hx845_0
           try clear hx845_1
           try clear hx845_2
           try clear hx864_0
           try clear hx864_1
           try clear hx864_2
           try clear hx865_0
           try clear hx865_1
           try clear hx865_2
           try clear p2
           try clear p6
           try clear p64
           try clear p8
           try clear p83
           try clear p835
           try clear p84
           try clear p845
           try clear p86
           try clear p864
           try clear p865
           try clear q8
           try clear q83
           try clear q835
           try clear q84
           try clear q845
           try clear q86
           try clear q864
           try clear q865
           obtain ⟨kq, x113_98, rfl, HA, HJ98, zK, zg, zi, za, zm, zo, zH, HB⟩ := hcut
           cases kq with
          |zero => exact absurd HA.out (by simp [spec_l30All.j3])
          |succ kj98 =>
            have H := HA.out
            clear HA
            simp only [spec_l30All.j3] at H
            by_cases c108 : x113_98 = true
            ·
             subst c108
             have H1 : ((some (([] : List (S110)) : List (S110))).bind fun y866 => (if y866.length + zl.length < 4398046511104 then ((some (y866 ++ zl : List (S110))).bind fun y869 => ((some (([(⟨ze, zU⟩ : S110)] : List (S110)) : List (S110))).bind fun y872 => (if y869.length + y872.length < 4398046511104 then (spec_l30All.l0 kj98 l0 (([] : List (S90))) (wrap64 (zB + 1)) zw zy zQ zR (y869 ++ y872) zC zD zI) else (none)))) else (none))) = some (r1, r2, r3, r4, r5, r6, r7, r8, r9) := by rw [if_pos rfl] at H;exact H
             clear H
             have H := H1
             clear H1
             obtain ⟨y866, hy866⟩ : ∃ y_ : List (S110), y_ = (([] : List (S110))) := ⟨_, rfl⟩
             replace H : (if y866.length + zl.length < 4398046511104 then ((some (y866 ++ zl : List (S110))).bind fun y869 => ((some (([(⟨ze, zU⟩ : S110)] : List (S110)) : List (S110))).bind fun y872 => (if y869.length + y872.length < 4398046511104 then (spec_l30All.l0 kj98 l0 (([] : List (S90))) (wrap64 (zB + 1)) zw zy zQ zR (y869 ++ y872) zC zD zI) else (none)))) else (none)) = some (r1, r2, r3, r4, r5, r6, r7, r8, r9) := by first|(rw [hy866]; with_reducible exact H)|(have H2_ := (Option.bind_some _ _).symm.trans H; rw [hy866]; with_reducible exact H2_)|(have H2_ := (Option.bind_some _ _).symm.trans H; with_reducible exact H2_)|with_reducible exact H|(rw [hy866];exact H)|exact H
             have Ny866 := c9_ hy866
             clear hy866
             by_cases c109 : y866.length + zl.length < 4398046511104
             rotate_left
             ·
              rw [if_neg c109] at H
              exact absurd H (by simp)
             rw [if_pos c109] at H
             have LMc109 := c9_ c109
             clear c109
             obtain ⟨y869, hy869⟩ : ∃ y_ : List (S110), y_ = (y866 ++ zl) := ⟨_, rfl⟩
             replace H : ((some (([(⟨ze, zU⟩ : S110)] : List (S110)) : List (S110))).bind fun y872 => (if y869.length + y872.length < 4398046511104 then (spec_l30All.l0 kj98 l0 (([] : List (S90))) (wrap64 (zB + 1)) zw zy zQ zR (y869 ++ y872) zC zD zI) else (none))) = some (r1, r2, r3, r4, r5, r6, r7, r8, r9) := by first|(rw [hy869]; with_reducible exact H)|(have H2_ := (Option.bind_some _ _).symm.trans H; rw [hy869]; with_reducible exact H2_)|(have H2_ := (Option.bind_some _ _).symm.trans H; with_reducible exact H2_)|with_reducible exact H|(rw [hy869];exact H)|exact H
             have Ny869 := c9_ hy869
             clear hy869
             obtain ⟨y872, hy872⟩ : ∃ y_ : List (S110), y_ = (([(⟨ze, zU⟩ : S110)] : List (S110))) := ⟨_, rfl⟩
             replace H : (if y869.length + y872.length < 4398046511104 then (spec_l30All.l0 kj98 l0 (([] : List (S90))) (wrap64 (zB + 1)) zw zy zQ zR (y869 ++ y872) zC zD zI) else (none)) = some (r1, r2, r3, r4, r5, r6, r7, r8, r9) := by first|(rw [hy872]; with_reducible exact H)|(have H2_ := (Option.bind_some _ _).symm.trans H; rw [hy872]; with_reducible exact H2_)|(have H2_ := (Option.bind_some _ _).symm.trans H; with_reducible exact H2_)|with_reducible exact H|(rw [hy872];exact H)|exact H
             have Ny872 := c9_ hy872
             clear hy872
             by_cases c110 : y869.length + y872.length < 4398046511104
             rotate_left
             ·
              rw [if_neg c110] at H
              exact absurd H (by simp)
             rw [if_pos c110] at H
             have LMc110 := c9_ c110
             clear c110
             obtain ⟨y875, hy875⟩ : ∃ y_ : List (S110), y_ = (y869 ++ y872) := ⟨_, rfl⟩
             replace H : (spec_l30All.l0 kj98 l0 (([] : List (S90))) (wrap64 (zB + 1)) zw zy zQ zR y875 zC zD zI) = some (r1, r2, r3, r4, r5, r6, r7, r8, r9) := by first|(rw [hy875]; with_reducible exact H)|(have H2_ := (Option.bind_some _ _).symm.trans H; rw [hy875]; with_reducible exact H2_)|(have H2_ := (Option.bind_some _ _).symm.trans H; with_reducible exact H2_)|with_reducible exact H|(rw [hy875];exact H)|exact H
             have Ny875 := c9_ hy875
             clear hy875
             obtain ⟨y878, hy878⟩ : ∃ y_ : List (S90), y_ = (([] : List (S90))) := ⟨_, rfl⟩
             replace H : (spec_l30All.l0 kj98 l0 y878 (wrap64 (zB + 1)) zw zy zQ zR y875 zC zD zI) = some (r1, r2, r3, r4, r5, r6, r7, r8, r9) := by first|(rw [hy878]; with_reducible exact H)|(have H2_ := (Option.bind_some _ _).symm.trans H; rw [hy878]; with_reducible exact H2_)|(have H2_ := (Option.bind_some _ _).symm.trans H; with_reducible exact H2_)|with_reducible exact H|(rw [hy878];exact H)|exact H
             have Ny878 := c9_ hy878
             clear hy878
             have H' := c9_ H
             clear H
             obtain ⟨Ao111, co111, eo111⟩ := Kd.N_slice zg.out
             subst eo111
             try go_wp2
             have n0_ := c9_ (c4_ zK.out)
             have n1_ := c9_ (c1_ zg.out)
             have n2_ := c9_ (b2_ zi.out)
             have n3_ := c9_ (b2_ za.out)
             have n4_ := c9_ (b2_ zm.out)
             have n5_ := c9_ (b2_ zo.out)
             have n6_ := c9_ (b2_ zH.out)
             have n7_ := c9_ (b6_ HB.out)
             clear zK
             clear zg
             clear zi
             clear za
             clear zm
             clear zo
             clear zH
             clear HB
             have zK := n0_
             have zg := n1_
             have zi := n2_
             have za := n3_
             have zm := n4_
             have zo := n5_
             have zH := n6_
             have HB := n7_
             clear n0_ n1_ n2_ n3_ n4_ n5_ n6_ n7_
             obtain ⟨Ao113, co113, eo113⟩ := Kd.R_slice zK.out
             (first|subst eo113|(injection eo113 with f1_ f2_ f3_;have f4_ := f1_.symm;have f5_ := f3_.symm;clear f1_ f2_ f3_; subst f4_; subst f5_))
             refine start_ (n := 12) (S := fun w' => w'.cell? ⟨zd, 0, none⟩ = some (.int .i64 zb) ∧ w'.cell? ⟨zd, 1, none⟩ = some (.int .i64 zc) ∧ w'.cell? ⟨zd, 2, none⟩ = some (.int .i64 ze) ∧ w'.cell? ⟨zd, 3, none⟩ = some (.bool zh) ∧ w'.cell? ⟨zd, 4, none⟩ = some (.slice Ao111 zl.length co111) ∧ w'.cell? ⟨zd, 5, none⟩ = some (.int .i64 zC) ∧ w'.cell? ⟨zd, 6, none⟩ = some (.int .i64 zD) ∧ w'.cell? ⟨zd, 7, none⟩ = some (.int .i64 zI)) (ds := []) #[false, false, false, false, false, false, false, false, false, false, false, false] (by kernel_rfl) rfl rfl ⟨(e1_ za.out 0).trans rfl, (e1_ za.out 1).trans rfl, (e1_ za.out 2).trans rfl, (e1_ za.out 3).trans rfl, (e1_ za.out 4).trans rfl, (e1_ za.out 5).trans rfl, (e1_ za.out 6).trans rfl, (e1_ za.out 7).trans rfl⟩ (fun hHeld => ?_);refine with_tabW spec_l30All.tab25 spec_l30All.bits25 (fun HT_ HW_ => ?_)
             generalize wc.drew = w112 at zK zg zi za zm zo zH HB hHeld ⊢
             refine pure_ (i := 1) (N := some 115) (v := ?_) (a' := ?_) #[false, true, false, false, false, false, false, false, false, false, false, false] rfl rfl (any_of HT_.out (by kernel_rfl)) (fun _ _ _ h => h) (Or.inl ⟨by rfl, ?_⟩) ?_ ?_
             rotate_left
             ·
              intro w'
              go_simp
              with_reducible rfl
             rotate_left
             ·
              simp only [Act.put, d1_, d2_, d3_, i64_w, i32_w]
              rfl
             refine pure_ (i := 4) (N := some 118) (v := ?_) (a' := ?_) #[false, true, false, false, true, false, false, false, false, false, false, false] rfl rfl (any_of HT_.out (by kernel_rfl)) (fun _ _ _ h => h) (Or.inl ⟨by rfl, ?_⟩) ?_ ?_
             rotate_left
             ·
              intro w'
              go_simp
              with_reducible rfl
             rotate_left
             ·
              simp only [Act.put, d1_, d2_, d3_, i64_w, i32_w]
              rfl
             refine pure_ (i := 5) (N := some 119) (v := ?_) (a' := ?_) #[false, true, false, false, true, true, false, false, false, false, false, false] rfl rfl (any_of HT_.out (by kernel_rfl)) (fun _ _ _ h => h) (Or.inl ⟨by rfl, ?_⟩) ?_ ?_
             rotate_left
             ·
              intro w'
              go_simp
              with_reducible rfl
             rotate_left
             ·
              simp only [Act.put, d1_, d2_, d3_, i64_w, i32_w]
              rfl
             refine pure_ (i := 7) (N := some 121) (v := ?_) (a' := ?_) #[false, true, false, false, true, true, false, true, false, false, false, false] rfl rfl (any_of HT_.out (by kernel_rfl)) (fun _ _ _ h => h) (Or.inl ⟨by rfl, ?_⟩) ?_ ?_
             rotate_left
             ·
              intro w'
              go_simp
              with_reducible rfl
             rotate_left
             ·
              simp only [Act.put, d1_, d2_, d3_, i64_w, i32_w]
              rfl
             refine take_ (i := 2) (N := some 116) (v := ?_) (a' := ?_) #[false, true, true, false, true, true, false, true, false, false, false, false] rfl rfl (take_ofW HT_.out HW_.out (by kernel_rfl)) (fun _ _ _ h => h) (Or.inl ⟨by rfl, ?_⟩) hHeld ?_ ?_
             rotate_left
             ·
              rintro w' ⟨s0, s1, s2, s3, s4, s5, s6, s7⟩
              go_simp
              with_reducible rfl
             rotate_left
             ·
              simp only [Act.put, d1_, d2_, d3_, i64_w, i32_w]
              rfl
             refine take_ (i := 6) (N := some 120) (v := ?_) (a' := ?_) #[false, true, true, false, true, true, true, true, false, false, false, false] rfl rfl (take_ofW HT_.out HW_.out (by kernel_rfl)) (fun _ _ _ h => h) (Or.inl ⟨by rfl, ?_⟩) hHeld ?_ ?_
             rotate_left
             ·
              rintro w' ⟨s0, s1, s2, s3, s4, s5, s6, s7⟩
              go_simp
              with_reducible rfl
             rotate_left
             ·
              simp only [Act.put, d1_, d2_, d3_, i64_w, i32_w]
              rfl
             refine pure_ (i := 8) (N := some 122) (v := ?_) (a' := ?_) #[false, true, true, false, true, true, true, true, true, false, false, false] rfl rfl (any_of HT_.out (by kernel_rfl)) (fun _ _ _ h => h) (Or.inl ⟨by rfl, ?_⟩) ?_ ?_
             rotate_left
             ·
              intro w'
              go_simp
              with_reducible rfl
             rotate_left
             ·
              simp only [Act.put, d1_, d2_, d3_, i64_w, i32_w]
              rfl
             refine join_ (σ := Value × Value × Value) 2 #[true, true, true, true, true, true, true, true, true, true, false, false] (fun s_ => [(114, s_.1), (117, s_.2.1), (123, s_.2.2)]) (fun s_ w' => (w'.cell? ⟨zd, 0, none⟩ = some (.int .i64 zb) ∧ w'.cell? ⟨zd, 1, none⟩ = some (.int .i64 zc) ∧ w'.cell? ⟨zd, 2, none⟩ = some (.int .i64 ze) ∧ w'.cell? ⟨zd, 3, none⟩ = some (.bool zh) ∧ w'.cell? ⟨zd, 4, none⟩ = some (.slice Ao111 zl.length co111) ∧ w'.cell? ⟨zd, 5, none⟩ = some (.int .i64 zC) ∧ w'.cell? ⟨zd, 6, none⟩ = some (.int .i64 zD) ∧ w'.cell? ⟨zd, 7, none⟩ = some (.int .i64 zI)) ∧ (Kd.N k110 110 w' w.heap.size (fun k_ => (w.heap.size ≤ k_) ∧ some k_ ≠ (s_.2.2 : Value).ownBlock ∧ k_ ≠ zk ∧ k_ ≠ zd ∧ k_ ≠ zj ∧ k_ ≠ zf ∧ k_ ≠ zA) s_.2.1 y869) ∧ (Kd.N k110 110 w' w.heap.size (fun k_ => (w.heap.size ≤ k_) ∧ some k_ ≠ (s_.2.1 : Value).ownBlock ∧ some k_ ≠ (.slice Ao111 zl.length co111 : Value).ownBlock ∧ k_ ≠ zk ∧ k_ ≠ zd ∧ k_ ≠ zj ∧ k_ ≠ zf ∧ k_ ≠ zA) s_.2.2 y872) ∧ (Kd.N k110 110 w' w.heap.size (fun k_ => (w.heap.size ≤ k_) ∧ some k_ ≠ (s_.2.1 : Value).ownBlock ∧ some k_ ≠ (s_.2.2 : Value).ownBlock ∧ k_ ≠ zk ∧ k_ ≠ zd ∧ k_ ≠ zj ∧ k_ ≠ zf ∧ k_ ≠ zA) (.slice Ao111 zl.length co111) zl) ∧ (w'.heap[zk]? = some (.cells #[.int .i64 zz, .int .i64 zx, .int .i64 zv, .bool zu, .slice none 0 0, .int .i64 zt, .int .i64 zs, .int .i64 zp] 153 (0, 0))) ∧ (w'.heap[zd]? = some (.cells #[.int .i64 zb, .int .i64 zc, .int .i64 ze, .bool zh, .slice Ao111 zl.length co111, .int .i64 zC, .int .i64 zD, .int .i64 zI] 153 (0, 0))) ∧ (w'.heap[zj]? = some (.cells #[.int .i64 zb, .int .i64 zc] 90 (0, 0))) ∧ (w'.heap[zf]? = some (.cells #[.int .i64 zw, .int .i64 zy, .int .i64 zQ, .bool zR] 75 (0, 0))) ∧ (w'.heap[zA]? = some (.cells #[.int .i64 zw, .int .i64 zy] 90 (0, 0))) ∧ (Below w.heap.size w w')) ?_ ?_
             rotate_left
             ·
              intro hCont
              refine two_ (i := 0) (j := 9) (Ni := some 114) (Nj := some 123) #[true, true, true, false, true, true, true, true, true, false, false, false] #[false, true, true, false, true, true, true, true, true, true, false, false] rfl rfl rfl rfl (two_of HT_.out (by kernel_rfl)) (by decide) (by decide) (fun K hK => ?_) (fun K hK => ?_)
              ·
               skip
               refine Kd.N_lit_step k110 _ 110 ?hg (N' := 114) ?hd (xs := ([] : List (S110))) (inner := []) (ok := (fun k_ => (w.heap.size ≤ k_) ∧ some k_ ≠ (.slice Ao113 zU.length co113 : Value).ownBlock ∧ some k_ ≠ (.slice Ao111 zl.length co111 : Value).ownBlock ∧ k_ ≠ zk ∧ k_ ≠ zd ∧ k_ ≠ zj ∧ k_ ≠ zf ∧ k_ ≠ zA)) (okp := (fun k_ => (w.heap.size ≤ k_) ∧ some k_ ≠ (.slice Ao113 zU.length co113 : Value).ownBlock ∧ some k_ ≠ (.slice Ao111 zl.length co111 : Value).ownBlock ∧ k_ ≠ zk ∧ k_ ≠ zd ∧ k_ ≠ zj ∧ k_ ≠ zf ∧ k_ ≠ zA)) ?hr ?hp (fun _ hk => hk) ((show ∀ k_, w112.heap.size ≤ k_ → (fun k_ => (w.heap.size ≤ k_) ∧ some k_ ≠ (.slice Ao113 zU.length co113 : Value).ownBlock ∧ some k_ ≠ (.slice Ao111 zl.length co111 : Value).ownBlock ∧ k_ ≠ zk ∧ k_ ≠ zd ∧ k_ ≠ zj ∧ k_ ≠ zf ∧ k_ ≠ zA) k_ from fun k_ hk => ⟨(e6_ (e7_ (by repeat (first|(with_reducible first|exact HB.out|apply b4_|apply b5_|apply b6_|refine b7_ ?_ zF.out|refine b7_ ?_ zJ.out|refine b7_ ?_ zL.out|refine b7_ ?_ zM.out|refine b7_ ?_ zS.out)|exact HB.out))) hk), Kd.fresh' (Kd.R_lt (by (with_reducible repeat (first|apply c2_|apply c3_|apply c4_));exact zK.out)) k_ hk, Kd.fresh' (Kd.N_lt (by (with_reducible repeat (first|apply b8_|apply b9_|apply c1_));exact zg.out)) k_ hk, Kd.freshB (g := zk) (by exact zi.out) k_ hk, Kd.freshB (g := zd) (by exact za.out) k_ hk, Kd.freshB (g := zj) (by exact zm.out) k_ hk, Kd.freshB (g := zf) (by exact zo.out) k_ hk, Kd.freshB (g := zA) (by exact zH.out) k_ hk⟩) _ (Nat.le_refl _)) (Below.refl _ _) (Nat.le_refl _) (by simp) ?_;(case hd => rfl);(case hg => rfl);(case hr => first|(go_simp; done)|(go_simp; rfl));(case hp => exact (Reps.none _ _))
               intro v867 w114 ho115 hb hg_ hnew_
               clear hg_ hnew_
               (first|rw [← Ny866.out] at ho115|(simp only [Int.reduceToNat] at ho115; rw [← Ny866.out] at ho115))
               have n0_ := c9_ (Kd.R_below (by (with_reducible repeat (first|apply c2_|apply c3_|apply c4_));exact zK.out) hb)
               have n1_ := c9_ (Kd.N_elder' (by (with_reducible repeat (first|apply b8_|apply b9_|apply c1_));exact zg.out) (Kd.N_base ho115) hb)
               have n2_ := c9_ (Kd.N_lower ho115 (e7_ (by repeat (first|(with_reducible first|exact HB.out|apply b4_|apply b5_|apply b6_|refine b7_ ?_ zF.out|refine b7_ ?_ zJ.out|refine b7_ ?_ zL.out|refine b7_ ?_ zM.out|refine b7_ ?_ zS.out)|exact HB.out))))
               have n3_ := c9_ (c6_ (g := zk) (by exact zi.out) hb)
               have n4_ := c9_ (c6_ (g := zd) (by exact za.out) hb)
               have n5_ := c9_ (c6_ (g := zj) (by exact zm.out) hb)
               have n6_ := c9_ (c6_ (g := zf) (by exact zo.out) hb)
               have n7_ := c9_ (c6_ (g := zA) (by exact zH.out) hb)
               have n8_ := c9_ (below_step (by repeat (first|(with_reducible first|exact HB.out|apply b4_|apply b5_|apply b6_|refine b7_ ?_ zF.out|refine b7_ ?_ zJ.out|refine b7_ ?_ zL.out|refine b7_ ?_ zM.out|refine b7_ ?_ zS.out)|exact HB.out)) hb)
               clear zK
               clear zg
               clear zi
               clear za
               clear zm
               clear zo
               clear zH
               clear HB
               have zK := n0_
               have zg := n1_
               have zX := n2_
               have zi := n3_
               have za := n4_
               have zm := n5_
               have zo := n6_
               have zH := n7_
               have HB := n8_
               clear n0_ n1_ n2_ n3_ n4_ n5_ n6_ n7_ n8_
               clear hb ho115
               refine hK.out _ _ ⟨(e1_ za.out 0).trans rfl, (e1_ za.out 1).trans rfl, (e1_ za.out 2).trans rfl, (e1_ za.out 3).trans rfl, (e1_ za.out 4).trans rfl, (e1_ za.out 5).trans rfl, (e1_ za.out 6).trans rfl, (e1_ za.out 7).trans rfl⟩ (fun hHeld => ?_)
               clear hK K
               refine norm_ (a' := ?_) ?_ ?_
               rotate_left
               ·
                show Act.put _ (some 114) _ = _
                simp only [Act.put, d1_, d2_, d3_, i64_w, i32_w]
                rfl
               refine two_ (i := 3) (j := 9) (Ni := some 117) (Nj := some 123) #[true, true, true, true, true, true, true, true, true, false, false, false] #[true, true, true, false, true, true, true, true, true, true, false, false] rfl rfl rfl rfl (two_of HT_.out (by kernel_rfl)) (by decide) (by decide) (fun K hK => ?_) (fun K hK => ?_)
               ·
                skip
                refine Kd.N_append_rows_step k110 (w0 := w) w.heap.size (by rfl) (.tmp 114) (.tmp 116) 27 110 (.agg #[(.int .i64 0), (.slice none 0 0)]) 32 rfl Try.underlying27 info110 rfl (by decide) (by omega) v867 y866 zl _ _ _ (fun k_ => (w.heap.size ≤ k_) ∧ some k_ ≠ (.slice Ao113 zU.length co113 : Value).ownBlock ∧ k_ ≠ zk ∧ k_ ≠ zd ∧ k_ ≠ zj ∧ k_ ≠ zf ∧ k_ ≠ zA) (fun k_ => ((fun k_ => (w.heap.size ≤ k_) ∧ some k_ ≠ (.slice Ao113 zU.length co113 : Value).ownBlock ∧ k_ ≠ zk ∧ k_ ≠ zd ∧ k_ ≠ zj ∧ k_ ≠ zf ∧ k_ ≠ zA)) k_ ∧ some k_ ≠ (v867 : Value).ownBlock) rfl rfl ?aO ?aR (fun _ hk => hk) ?aF ?aB ?aS ?aL ?_
                (case aR => exact (by skip;exact Kd.N_F (Kd.N_mono (ok' := (fun k_ => ((fun k_ => (w.heap.size ≤ k_) ∧ some k_ ≠ (.slice Ao113 zU.length co113 : Value).ownBlock ∧ k_ ≠ zk ∧ k_ ≠ zd ∧ k_ ≠ zj ∧ k_ ≠ zf ∧ k_ ≠ zA)) k_ ∧ some k_ ≠ (v867 : Value).ownBlock)) (zg.out) (fun k_ hk => ⟨⟨hk.1.1, ⟨hk.1.2.1, ⟨hk.1.2.2.1, ⟨hk.1.2.2.2.1, ⟨hk.1.2.2.2.2.1, ⟨hk.1.2.2.2.2.2.1, hk.1.2.2.2.2.2.2⟩⟩⟩⟩⟩⟩, hk.2⟩))))
                (case aB => exact (by repeat (first|(with_reducible first|exact HB.out|apply b4_|apply b5_|apply b6_|refine b7_ ?_ zF.out|refine b7_ ?_ zJ.out|refine b7_ ?_ zL.out|refine b7_ ?_ zM.out|refine b7_ ?_ zS.out)|exact HB.out)))
                (case aF => exact (fun k_ hk => ⟨(e6_ (e7_ (by repeat (first|(with_reducible first|exact HB.out|apply b4_|apply b5_|apply b6_|refine b7_ ?_ zF.out|refine b7_ ?_ zJ.out|refine b7_ ?_ zL.out|refine b7_ ?_ zM.out|refine b7_ ?_ zS.out)|exact HB.out))) hk), Kd.fresh' (Kd.R_lt (by (with_reducible repeat (first|apply c2_|apply c3_|apply c4_));exact zK.out)) k_ hk, Kd.freshB (g := zk) (by exact zi.out) k_ hk, Kd.freshB (g := zd) (by exact za.out) k_ hk, Kd.freshB (g := zj) (by exact zm.out) k_ hk, Kd.freshB (g := zf) (by exact zo.out) k_ hk, Kd.freshB (g := zA) (by exact zH.out) k_ hk⟩))
                (case aO => exact (by (with_reducible repeat (first|apply b8_|apply b9_|apply c1_));exact Kd.N_mono zX.out (fun _ hk => ⟨hk.1, ⟨hk.2.1, ⟨hk.2.2.2.1, ⟨hk.2.2.2.2.1, ⟨hk.2.2.2.2.2.1, ⟨hk.2.2.2.2.2.2.1, hk.2.2.2.2.2.2.2⟩⟩⟩⟩⟩⟩)))
                (case aS => exact (e7_ (by repeat (first|(with_reducible first|exact HB.out|apply b4_|apply b5_|apply b6_|refine b7_ ?_ zF.out|refine b7_ ?_ zJ.out|refine b7_ ?_ zL.out|refine b7_ ?_ zM.out|refine b7_ ?_ zS.out)|exact HB.out))))
                (case aL => have := LMc109.out; omega)
                intro v870 w116 ho hb hg hat
                rw [← Ny869.out] at ho
                have n0_ := c9_ (Kd.R_over' (by (with_reducible repeat (first|apply c2_|apply c3_|apply c4_));exact zK.out) (Kd.N_typed (by (with_reducible repeat (first|apply b8_|apply b9_|apply c1_));exact zX.out)) (by decide) hg)
                have n1_ := c9_ (Kd.N_afterv (ok := (fun k_ => (w.heap.size ≤ k_) ∧ some k_ ≠ (.slice Ao113 zU.length co113 : Value).ownBlock ∧ k_ ≠ zk ∧ k_ ≠ zd ∧ k_ ≠ zj ∧ k_ ≠ zf ∧ k_ ≠ zA)) (by (with_reducible repeat (first|apply b8_|apply b9_|apply c1_));exact zg.out) hg hat)
                have n2_ := c9_ (blk_grown (g := zk) (by exact zi.out) hg (Kd.N_ne zX.out zi.out (by decide)))
                have n3_ := c9_ (blk_grown (g := zd) (by exact za.out) hg (Kd.N_ne zX.out za.out (by decide)))
                have n4_ := c9_ (blk_grown (g := zj) (by exact zm.out) hg (Kd.N_ne zX.out zm.out (by decide)))
                have n5_ := c9_ (blk_grown (g := zf) (by exact zo.out) hg (Kd.N_ne zX.out zo.out (by decide)))
                have n6_ := c9_ (blk_grown (g := zA) (by exact zH.out) hg (Kd.N_ne zX.out zH.out (by decide)))
                have n7_ := c9_ (hb)
                have n8_ := c9_ (ho)
                clear zK
                clear zg
                clear zi
                clear za
                clear zm
                clear zo
                clear zH
                clear HB
                clear zX
                have zK := n0_
                have zg := n1_
                have zi := n2_
                have za := n3_
                have zm := n4_
                have zo := n5_
                have zH := n6_
                have HB := n7_
                have jb := n8_
                clear n0_ n1_ n2_ n3_ n4_ n5_ n6_ n7_ n8_
                clear ho hb hg hat
                refine hK.out _ _ ⟨(e1_ za.out 0).trans rfl, (e1_ za.out 1).trans rfl, (e1_ za.out 2).trans rfl, (e1_ za.out 3).trans rfl, (e1_ za.out 4).trans rfl, (e1_ za.out 5).trans rfl, (e1_ za.out 6).trans rfl, (e1_ za.out 7).trans rfl⟩ (fun hHeld => ?_)
                clear hK K
                refine norm_ (a' := ?_) ?_ ?_
                rotate_left
                ·
                 show Act.put _ (some 117) _ = _
                 simp only [Act.put, d1_, d2_, d3_, i64_w, i32_w]
                 rfl
                refine one_ (i := 9) (N := some 123) #[true, true, true, true, true, true, true, true, true, true, false, false] rfl rfl (one_of HT_.out (by kernel_rfl)) (by decide) (fun K hK => ?_)
                refine Kd.N_lit_step k110 _ 110 ?hg (N' := 123) ?hd (xs := ([(⟨ze, zU⟩ : S110)] : List (S110))) (inner := [.int .i64 ze, .slice Ao113 zU.length co113]) (ok := (fun k_ => (w.heap.size ≤ k_) ∧ some k_ ≠ (.slice Ao111 zl.length co111 : Value).ownBlock ∧ some k_ ≠ (v870 : Value).ownBlock ∧ k_ ≠ zk ∧ k_ ≠ zd ∧ k_ ≠ zj ∧ k_ ≠ zf ∧ k_ ≠ zA)) (okp := (fun k_ => (w.heap.size ≤ k_) ∧ some k_ ≠ (.slice Ao111 zl.length co111 : Value).ownBlock ∧ some k_ ≠ (v870 : Value).ownBlock ∧ k_ ≠ zk ∧ k_ ≠ zd ∧ k_ ≠ zj ∧ k_ ≠ zf ∧ k_ ≠ zA)) ?hr ?hp (fun _ hk => hk) ((show ∀ k_, w116.heap.size ≤ k_ → (fun k_ => (w.heap.size ≤ k_) ∧ some k_ ≠ (.slice Ao111 zl.length co111 : Value).ownBlock ∧ some k_ ≠ (v870 : Value).ownBlock ∧ k_ ≠ zk ∧ k_ ≠ zd ∧ k_ ≠ zj ∧ k_ ≠ zf ∧ k_ ≠ zA) k_ from fun k_ hk => ⟨(e6_ (e7_ (by repeat (first|(with_reducible first|exact HB.out|apply b4_|apply b5_|apply b6_|refine b7_ ?_ zF.out|refine b7_ ?_ zJ.out|refine b7_ ?_ zL.out|refine b7_ ?_ zM.out|refine b7_ ?_ zS.out)|exact HB.out))) hk), Kd.fresh' (Kd.N_lt (by (with_reducible repeat (first|apply b8_|apply b9_|apply c1_));exact zg.out)) k_ hk, Kd.fresh' (Kd.N_lt (by (with_reducible repeat (first|apply b8_|apply b9_|apply c1_));exact jb.out)) k_ hk, Kd.freshB (g := zk) (by exact zi.out) k_ hk, Kd.freshB (g := zd) (by exact za.out) k_ hk, Kd.freshB (g := zj) (by exact zm.out) k_ hk, Kd.freshB (g := zf) (by exact zo.out) k_ hk, Kd.freshB (g := zA) (by exact zH.out) k_ hk⟩) _ (Nat.le_refl _)) (Below.refl _ _) (Nat.le_refl _) (by simp) ?_;(case hd => rfl);(case hg => rfl);(case hr => first|(go_simp; done)|(go_simp; rfl));(case hp => exact (Reps.c2 (show Kd.FK k110 _ _ (⟨ze, zU⟩ : S110) [.int .i64 ze, .slice Ao113 zU.length co113] from (k110_mkF _ _ (⟨ze, zU⟩ : S110) (Kd.R_reads' (Kd.R_mono (ok' := (fun k_ => (w.heap.size ≤ k_) ∧ some k_ ≠ (.slice Ao111 zl.length co111 : Value).ownBlock ∧ some k_ ≠ (v870 : Value).ownBlock ∧ k_ ≠ zk ∧ k_ ≠ zd ∧ k_ ≠ zj ∧ k_ ≠ zf ∧ k_ ≠ zA)) (Kd.R_types (Kd.R_types (Kd.R_types (Kd.R_apart' (Kd.R_apart' (zK.out) (Kd.N_typed zg.out) (by decide)) (Kd.N_typed jb.out) (by decide)) zi.out (by decide)) za.out (by decide)) zo.out (by decide)) (fun k_ hk => ⟨hk.1.1.1.1.1.1, ⟨hk.1.1.1.1.2, ⟨hk.1.1.1.2, ⟨hk.1.1.2, ⟨hk.1.2, ⟨hk.1.1.1.1.1.2.1, ⟨hk.2, hk.1.1.1.1.1.2.2⟩⟩⟩⟩⟩⟩⟩))).2.1 (Kd.R_F (Kd.R_mono (ok' := (fun k_ => (w.heap.size ≤ k_) ∧ some k_ ≠ (.slice Ao111 zl.length co111 : Value).ownBlock ∧ some k_ ≠ (v870 : Value).ownBlock ∧ k_ ≠ zk ∧ k_ ≠ zd ∧ k_ ≠ zj ∧ k_ ≠ zf ∧ k_ ≠ zA)) (Kd.R_types (Kd.R_types (Kd.R_types (Kd.R_apart' (Kd.R_apart' (zK.out) (Kd.N_typed zg.out) (by decide)) (Kd.N_typed jb.out) (by decide)) zi.out (by decide)) za.out (by decide)) zo.out (by decide)) (fun k_ hk => ⟨hk.1.1.1.1.1.1, ⟨hk.1.1.1.1.2, ⟨hk.1.1.1.2, ⟨hk.1.1.2, ⟨hk.1.2, ⟨hk.1.1.1.1.1.2.1, ⟨hk.2, hk.1.1.1.1.1.2.2⟩⟩⟩⟩⟩⟩⟩))))) (Reps.none _ _)))
                intro v873 w117 ho118 hb hg_ hnew_
                clear hg_ hnew_
                (first|rw [← Ny872.out] at ho118|(simp only [Int.reduceToNat] at ho118; rw [← Ny872.out] at ho118))
                have n0_ := c9_ (Kd.N_elder' (by (with_reducible repeat (first|apply b8_|apply b9_|apply c1_));exact zg.out) (Kd.N_base ho118) hb)
                have n1_ := c9_ (Kd.N_elder' (by (with_reducible repeat (first|apply b8_|apply b9_|apply c1_));exact jb.out) (Kd.N_base ho118) hb)
                have n2_ := c9_ (Kd.N_lower ho118 (e7_ (by repeat (first|(with_reducible first|exact HB.out|apply b4_|apply b5_|apply b6_|refine b7_ ?_ zF.out|refine b7_ ?_ zJ.out|refine b7_ ?_ zL.out|refine b7_ ?_ zM.out|refine b7_ ?_ zS.out)|exact HB.out))))
                have n3_ := c9_ (c6_ (g := zk) (by exact zi.out) hb)
                have n4_ := c9_ (c6_ (g := zd) (by exact za.out) hb)
                have n5_ := c9_ (c6_ (g := zj) (by exact zm.out) hb)
                have n6_ := c9_ (c6_ (g := zf) (by exact zo.out) hb)
                have n7_ := c9_ (c6_ (g := zA) (by exact zH.out) hb)
                have n8_ := c9_ (below_step (by repeat (first|(with_reducible first|exact HB.out|apply b4_|apply b5_|apply b6_|refine b7_ ?_ zF.out|refine b7_ ?_ zJ.out|refine b7_ ?_ zL.out|refine b7_ ?_ zM.out|refine b7_ ?_ zS.out)|exact HB.out)) hb)
                clear zg
                clear jb
                clear zi
                clear za
                clear zm
                clear zo
                clear zH
                clear HB
                clear zK
                have zg := n0_
                have jb := n1_
                have zY := n2_
                have zi := n3_
                have za := n4_
                have zm := n5_
                have zo := n6_
                have zH := n7_
                have HB := n8_
                clear n0_ n1_ n2_ n3_ n4_ n5_ n6_ n7_ n8_
                clear hb ho118
                refine hK.out _ _ ⟨(e1_ za.out 0).trans rfl, (e1_ za.out 1).trans rfl, (e1_ za.out 2).trans rfl, (e1_ za.out 3).trans rfl, (e1_ za.out 4).trans rfl, (e1_ za.out 5).trans rfl, (e1_ za.out 6).trans rfl, (e1_ za.out 7).trans rfl⟩ (fun hHeld => ?_)
                clear hK K
                refine norm_ (a' := ?_) ?_ ?_
                rotate_left
                ·
                 show Act.put _ (some 123) _ = _
                 simp only [Act.put, d1_, d2_, d3_, i64_w, i32_w]
                 rfl
                exact norm_ (by simp only [putAll, Act.put, List.setIfInBounds_toArray, List.set_cons_zero, List.set_cons_succ]) (hCont (v867, v870, v873) _ ⟨hHeld, (by (with_reducible repeat (first|apply b8_|apply b9_|apply c1_));exact Kd.N_mono jb.out (fun _ hk => ⟨hk.1.1, ⟨hk.2, ⟨hk.1.2.2.1, ⟨hk.1.2.2.2.1, ⟨hk.1.2.2.2.2.1, ⟨hk.1.2.2.2.2.2.1, hk.1.2.2.2.2.2.2⟩⟩⟩⟩⟩⟩)), (by (with_reducible repeat (first|apply b8_|apply b9_|apply c1_));exact Kd.N_mono zY.out (fun _ hk => ⟨hk.1, ⟨hk.2.2.1, ⟨hk.2.1, ⟨hk.2.2.2.1, ⟨hk.2.2.2.2.1, ⟨hk.2.2.2.2.2.1, ⟨hk.2.2.2.2.2.2.1, hk.2.2.2.2.2.2.2⟩⟩⟩⟩⟩⟩⟩)), (by (with_reducible repeat (first|apply b8_|apply b9_|apply c1_));exact Kd.N_mono zg.out (fun _ hk => ⟨hk.1.1.1, ⟨hk.1.2, ⟨hk.2, ⟨hk.1.1.2.2.1, ⟨hk.1.1.2.2.2.1, ⟨hk.1.1.2.2.2.2.1, ⟨hk.1.1.2.2.2.2.2.1, hk.1.1.2.2.2.2.2.2⟩⟩⟩⟩⟩⟩⟩)), (by exact zi.out), (by exact za.out), (by exact zm.out), (by exact zo.out), (by exact zH.out), (by repeat (first|(with_reducible first|exact HB.out|apply b4_|apply b5_|apply b6_|refine b7_ ?_ zF.out|refine b7_ ?_ zJ.out|refine b7_ ?_ zL.out|refine b7_ ?_ zM.out|refine b7_ ?_ zS.out)|exact HB.out))⟩)
               ·
                skip
                refine Kd.N_lit_step k110 _ 110 ?hg (N' := 123) ?hd (xs := ([(⟨ze, zU⟩ : S110)] : List (S110))) (inner := [.int .i64 ze, .slice Ao113 zU.length co113]) (ok := (fun k_ => (w.heap.size ≤ k_) ∧ some k_ ≠ (.slice Ao111 zl.length co111 : Value).ownBlock ∧ some k_ ≠ (v867 : Value).ownBlock ∧ k_ ≠ zk ∧ k_ ≠ zd ∧ k_ ≠ zj ∧ k_ ≠ zf ∧ k_ ≠ zA)) (okp := (fun k_ => (w.heap.size ≤ k_) ∧ some k_ ≠ (.slice Ao111 zl.length co111 : Value).ownBlock ∧ some k_ ≠ (v867 : Value).ownBlock ∧ k_ ≠ zk ∧ k_ ≠ zd ∧ k_ ≠ zj ∧ k_ ≠ zf ∧ k_ ≠ zA)) ?hr ?hp (fun _ hk => hk) ((show ∀ k_, w114.heap.size ≤ k_ → (fun k_ => (w.heap.size ≤ k_) ∧ some k_ ≠ (.slice Ao111 zl.length co111 : Value).ownBlock ∧ some k_ ≠ (v867 : Value).ownBlock ∧ k_ ≠ zk ∧ k_ ≠ zd ∧ k_ ≠ zj ∧ k_ ≠ zf ∧ k_ ≠ zA) k_ from fun k_ hk => ⟨(e6_ (e7_ (by repeat (first|(with_reducible first|exact HB.out|apply b4_|apply b5_|apply b6_|refine b7_ ?_ zF.out|refine b7_ ?_ zJ.out|refine b7_ ?_ zL.out|refine b7_ ?_ zM.out|refine b7_ ?_ zS.out)|exact HB.out))) hk), Kd.fresh' (Kd.N_lt (by (with_reducible repeat (first|apply b8_|apply b9_|apply c1_));exact zg.out)) k_ hk, Kd.fresh' (Kd.N_lt (by (with_reducible repeat (first|apply b8_|apply b9_|apply c1_));exact zX.out)) k_ hk, Kd.freshB (g := zk) (by exact zi.out) k_ hk, Kd.freshB (g := zd) (by exact za.out) k_ hk, Kd.freshB (g := zj) (by exact zm.out) k_ hk, Kd.freshB (g := zf) (by exact zo.out) k_ hk, Kd.freshB (g := zA) (by exact zH.out) k_ hk⟩) _ (Nat.le_refl _)) (Below.refl _ _) (Nat.le_refl _) (by simp) ?_;(case hd => rfl);(case hg => rfl);(case hr => first|(go_simp; done)|(go_simp; rfl));(case hp => exact (Reps.c2 (show Kd.FK k110 _ _ (⟨ze, zU⟩ : S110) [.int .i64 ze, .slice Ao113 zU.length co113] from (k110_mkF _ _ (⟨ze, zU⟩ : S110) (Kd.R_reads' (Kd.R_mono (ok' := (fun k_ => (w.heap.size ≤ k_) ∧ some k_ ≠ (.slice Ao111 zl.length co111 : Value).ownBlock ∧ some k_ ≠ (v867 : Value).ownBlock ∧ k_ ≠ zk ∧ k_ ≠ zd ∧ k_ ≠ zj ∧ k_ ≠ zf ∧ k_ ≠ zA)) (Kd.R_types (Kd.R_types (Kd.R_types (Kd.R_apart' (Kd.R_apart' (zK.out) (Kd.N_typed zg.out) (by decide)) (Kd.N_typed zX.out) (by decide)) zi.out (by decide)) za.out (by decide)) zo.out (by decide)) (fun k_ hk => ⟨hk.1.1.1.1.1.1, ⟨hk.1.1.1.1.2, ⟨hk.1.1.1.2, ⟨hk.1.1.2, ⟨hk.1.2, ⟨hk.1.1.1.1.1.2.1, ⟨hk.2, hk.1.1.1.1.1.2.2⟩⟩⟩⟩⟩⟩⟩))).2.1 (Kd.R_F (Kd.R_mono (ok' := (fun k_ => (w.heap.size ≤ k_) ∧ some k_ ≠ (.slice Ao111 zl.length co111 : Value).ownBlock ∧ some k_ ≠ (v867 : Value).ownBlock ∧ k_ ≠ zk ∧ k_ ≠ zd ∧ k_ ≠ zj ∧ k_ ≠ zf ∧ k_ ≠ zA)) (Kd.R_types (Kd.R_types (Kd.R_types (Kd.R_apart' (Kd.R_apart' (zK.out) (Kd.N_typed zg.out) (by decide)) (Kd.N_typed zX.out) (by decide)) zi.out (by decide)) za.out (by decide)) zo.out (by decide)) (fun k_ hk => ⟨hk.1.1.1.1.1.1, ⟨hk.1.1.1.1.2, ⟨hk.1.1.1.2, ⟨hk.1.1.2, ⟨hk.1.2, ⟨hk.1.1.1.1.1.2.1, ⟨hk.2, hk.1.1.1.1.1.2.2⟩⟩⟩⟩⟩⟩⟩))))) (Reps.none _ _)))
                intro v873 w116 ho117 hb hg_ hnew_
                clear hg_ hnew_
                (first|rw [← Ny872.out] at ho117|(simp only [Int.reduceToNat] at ho117; rw [← Ny872.out] at ho117))
                have n0_ := c9_ (Kd.N_elder' (by (with_reducible repeat (first|apply b8_|apply b9_|apply c1_));exact zg.out) (Kd.N_base ho117) hb)
                have n1_ := c9_ (Kd.N_elder' (by (with_reducible repeat (first|apply b8_|apply b9_|apply c1_));exact zX.out) (Kd.N_base ho117) hb)
                have n2_ := c9_ (Kd.N_lower ho117 (e7_ (by repeat (first|(with_reducible first|exact HB.out|apply b4_|apply b5_|apply b6_|refine b7_ ?_ zF.out|refine b7_ ?_ zJ.out|refine b7_ ?_ zL.out|refine b7_ ?_ zM.out|refine b7_ ?_ zS.out)|exact HB.out))))
                have n3_ := c9_ (c6_ (g := zk) (by exact zi.out) hb)
                have n4_ := c9_ (c6_ (g := zd) (by exact za.out) hb)
                have n5_ := c9_ (c6_ (g := zj) (by exact zm.out) hb)
                have n6_ := c9_ (c6_ (g := zf) (by exact zo.out) hb)
                have n7_ := c9_ (c6_ (g := zA) (by exact zH.out) hb)
                have n8_ := c9_ (below_step (by repeat (first|(with_reducible first|exact HB.out|apply b4_|apply b5_|apply b6_|refine b7_ ?_ zF.out|refine b7_ ?_ zJ.out|refine b7_ ?_ zL.out|refine b7_ ?_ zM.out|refine b7_ ?_ zS.out)|exact HB.out)) hb)
                clear zg
                clear zX
                clear zi
                clear za
                clear zm
                clear zo
                clear zH
                clear HB
                clear zK
                have zg := n0_
                have zX := n1_
                have zY := n2_
                have zi := n3_
                have za := n4_
                have zm := n5_
                have zo := n6_
                have zH := n7_
                have HB := n8_
                clear n0_ n1_ n2_ n3_ n4_ n5_ n6_ n7_ n8_
                clear hb ho117
                refine hK.out _ _ ⟨(e1_ za.out 0).trans rfl, (e1_ za.out 1).trans rfl, (e1_ za.out 2).trans rfl, (e1_ za.out 3).trans rfl, (e1_ za.out 4).trans rfl, (e1_ za.out 5).trans rfl, (e1_ za.out 6).trans rfl, (e1_ za.out 7).trans rfl⟩ (fun hHeld => ?_)
                clear hK K
                refine norm_ (a' := ?_) ?_ ?_
                rotate_left
                ·
                 show Act.put _ (some 123) _ = _
                 simp only [Act.put, d1_, d2_, d3_, i64_w, i32_w]
                 rfl
                refine one_ (i := 3) (N := some 117) #[true, true, true, true, true, true, true, true, true, true, false, false] rfl rfl (one_of HT_.out (by kernel_rfl)) (by decide) (fun K hK => ?_)
                refine Kd.N_append_rows_step k110 (w0 := w) w.heap.size (by rfl) (.tmp 114) (.tmp 116) 27 110 (.agg #[(.int .i64 0), (.slice none 0 0)]) 32 rfl Try.underlying27 info110 rfl (by decide) (by omega) v867 y866 zl _ _ _ (fun k_ => (w.heap.size ≤ k_) ∧ some k_ ≠ (v873 : Value).ownBlock ∧ k_ ≠ zk ∧ k_ ≠ zd ∧ k_ ≠ zj ∧ k_ ≠ zf ∧ k_ ≠ zA) (fun k_ => ((fun k_ => (w.heap.size ≤ k_) ∧ some k_ ≠ (v873 : Value).ownBlock ∧ k_ ≠ zk ∧ k_ ≠ zd ∧ k_ ≠ zj ∧ k_ ≠ zf ∧ k_ ≠ zA)) k_ ∧ some k_ ≠ (v867 : Value).ownBlock) rfl rfl ?aO ?aR (fun _ hk => hk) ?aF ?aB ?aS ?aL ?_
                (case aR => exact (by skip;exact Kd.N_F (Kd.N_mono (ok' := (fun k_ => ((fun k_ => (w.heap.size ≤ k_) ∧ some k_ ≠ (v873 : Value).ownBlock ∧ k_ ≠ zk ∧ k_ ≠ zd ∧ k_ ≠ zj ∧ k_ ≠ zf ∧ k_ ≠ zA)) k_ ∧ some k_ ≠ (v867 : Value).ownBlock)) (zg.out) (fun k_ hk => ⟨⟨hk.1.1.1, ⟨hk.2, ⟨hk.1.1.2.2.1, ⟨hk.1.1.2.2.2.1, ⟨hk.1.1.2.2.2.2.1, ⟨hk.1.1.2.2.2.2.2.1, hk.1.1.2.2.2.2.2.2⟩⟩⟩⟩⟩⟩, hk.1.2⟩))))
                (case aB => exact (by repeat (first|(with_reducible first|exact HB.out|apply b4_|apply b5_|apply b6_|refine b7_ ?_ zF.out|refine b7_ ?_ zJ.out|refine b7_ ?_ zL.out|refine b7_ ?_ zM.out|refine b7_ ?_ zS.out)|exact HB.out)))
                (case aF => exact (fun k_ hk => ⟨(e6_ (e7_ (by repeat (first|(with_reducible first|exact HB.out|apply b4_|apply b5_|apply b6_|refine b7_ ?_ zF.out|refine b7_ ?_ zJ.out|refine b7_ ?_ zL.out|refine b7_ ?_ zM.out|refine b7_ ?_ zS.out)|exact HB.out))) hk), Kd.fresh' (Kd.N_lt (by (with_reducible repeat (first|apply b8_|apply b9_|apply c1_));exact zY.out)) k_ hk, Kd.freshB (g := zk) (by exact zi.out) k_ hk, Kd.freshB (g := zd) (by exact za.out) k_ hk, Kd.freshB (g := zj) (by exact zm.out) k_ hk, Kd.freshB (g := zf) (by exact zo.out) k_ hk, Kd.freshB (g := zA) (by exact zH.out) k_ hk⟩))
                (case aO => exact (by (with_reducible repeat (first|apply b8_|apply b9_|apply c1_));exact Kd.N_mono zX.out (fun _ hk => ⟨hk.1.1, ⟨hk.2, ⟨hk.1.2.2.2.1, ⟨hk.1.2.2.2.2.1, ⟨hk.1.2.2.2.2.2.1, ⟨hk.1.2.2.2.2.2.2.1, hk.1.2.2.2.2.2.2.2⟩⟩⟩⟩⟩⟩)))
                (case aS => exact (e7_ (by repeat (first|(with_reducible first|exact HB.out|apply b4_|apply b5_|apply b6_|refine b7_ ?_ zF.out|refine b7_ ?_ zJ.out|refine b7_ ?_ zL.out|refine b7_ ?_ zM.out|refine b7_ ?_ zS.out)|exact HB.out))))
                (case aL => have := LMc109.out; omega)
                intro v870 w118 ho hb hg hat
                rw [← Ny869.out] at ho
                have n0_ := c9_ (Kd.N_afterv (ok := (fun k_ => (w.heap.size ≤ k_) ∧ some k_ ≠ (v873 : Value).ownBlock ∧ k_ ≠ zk ∧ k_ ≠ zd ∧ k_ ≠ zj ∧ k_ ≠ zf ∧ k_ ≠ zA)) (by (with_reducible repeat (first|apply b8_|apply b9_|apply c1_));exact Kd.N_mono zg.out (fun _ hk => ⟨⟨hk.1.1.1, ⟨hk.2, ⟨hk.1.1.2.2.1, ⟨hk.1.1.2.2.2.1, ⟨hk.1.1.2.2.2.2.1, ⟨hk.1.1.2.2.2.2.2.1, hk.1.1.2.2.2.2.2.2⟩⟩⟩⟩⟩⟩, hk.1.2⟩)) hg hat)
                have n1_ := c9_ (blk_grown (g := zk) (by exact zi.out) hg (Kd.N_ne zX.out zi.out (by decide)))
                have n2_ := c9_ (blk_grown (g := zd) (by exact za.out) hg (Kd.N_ne zX.out za.out (by decide)))
                have n3_ := c9_ (blk_grown (g := zj) (by exact zm.out) hg (Kd.N_ne zX.out zm.out (by decide)))
                have n4_ := c9_ (blk_grown (g := zf) (by exact zo.out) hg (Kd.N_ne zX.out zo.out (by decide)))
                have n5_ := c9_ (blk_grown (g := zA) (by exact zH.out) hg (Kd.N_ne zX.out zH.out (by decide)))
                have n6_ := c9_ (Kd.N_afterv (ok := (fun k_ => (w.heap.size ≤ k_) ∧ some k_ ≠ (.slice Ao111 zl.length co111 : Value).ownBlock ∧ k_ ≠ zk ∧ k_ ≠ zd ∧ k_ ≠ zj ∧ k_ ≠ zf ∧ k_ ≠ zA)) (by (with_reducible repeat (first|apply b8_|apply b9_|apply c1_));exact Kd.N_mono zY.out (fun _ hk => ⟨⟨hk.1, ⟨hk.2.1, ⟨hk.2.2.2.1, ⟨hk.2.2.2.2.1, ⟨hk.2.2.2.2.2.1, ⟨hk.2.2.2.2.2.2.1, hk.2.2.2.2.2.2.2⟩⟩⟩⟩⟩⟩, hk.2.2.1⟩)) hg hat)
                have n7_ := c9_ (hb)
                have n8_ := c9_ (ho)
                clear zg
                clear zi
                clear za
                clear zm
                clear zo
                clear zH
                clear zY
                clear HB
                clear zX
                have zg := n0_
                have zi := n1_
                have za := n2_
                have zm := n3_
                have zo := n4_
                have zH := n5_
                have zY := n6_
                have HB := n7_
                have jb := n8_
                clear n0_ n1_ n2_ n3_ n4_ n5_ n6_ n7_ n8_
                clear ho hb hg hat
                refine hK.out _ _ ⟨(e1_ za.out 0).trans rfl, (e1_ za.out 1).trans rfl, (e1_ za.out 2).trans rfl, (e1_ za.out 3).trans rfl, (e1_ za.out 4).trans rfl, (e1_ za.out 5).trans rfl, (e1_ za.out 6).trans rfl, (e1_ za.out 7).trans rfl⟩ (fun hHeld => ?_)
                clear hK K
                refine norm_ (a' := ?_) ?_ ?_
                rotate_left
                ·
                 show Act.put _ (some 117) _ = _
                 simp only [Act.put, d1_, d2_, d3_, i64_w, i32_w]
                 rfl
                exact norm_ (by simp only [putAll, Act.put, List.setIfInBounds_toArray, List.set_cons_zero, List.set_cons_succ]) (hCont (v867, v870, v873) _ ⟨hHeld, (by (with_reducible repeat (first|apply b8_|apply b9_|apply c1_));exact jb.out), (by (with_reducible repeat (first|apply b8_|apply b9_|apply c1_));exact Kd.N_mono zY.out (fun _ hk => ⟨hk.1.1, ⟨hk.2, ⟨hk.1.2.1, ⟨hk.1.2.2.1, ⟨hk.1.2.2.2.1, ⟨hk.1.2.2.2.2.1, ⟨hk.1.2.2.2.2.2.1, hk.1.2.2.2.2.2.2⟩⟩⟩⟩⟩⟩⟩)), (by (with_reducible repeat (first|apply b8_|apply b9_|apply c1_));exact Kd.N_mono zg.out (fun _ hk => ⟨hk.1.1, ⟨hk.2, ⟨hk.1.2.1, ⟨hk.1.2.2.1, ⟨hk.1.2.2.2.1, ⟨hk.1.2.2.2.2.1, ⟨hk.1.2.2.2.2.2.1, hk.1.2.2.2.2.2.2⟩⟩⟩⟩⟩⟩⟩)), (by exact zi.out), (by exact za.out), (by exact zm.out), (by exact zo.out), (by exact zH.out), (by repeat (first|(with_reducible first|exact HB.out|apply b4_|apply b5_|apply b6_|refine b7_ ?_ zF.out|refine b7_ ?_ zJ.out|refine b7_ ?_ zL.out|refine b7_ ?_ zM.out|refine b7_ ?_ zS.out)|exact HB.out))⟩)
              ·
               skip
               refine Kd.N_lit_step k110 _ 110 ?hg (N' := 123) ?hd (xs := ([(⟨ze, zU⟩ : S110)] : List (S110))) (inner := [.int .i64 ze, .slice Ao113 zU.length co113]) (ok := (fun k_ => (w.heap.size ≤ k_) ∧ some k_ ≠ (.slice Ao111 zl.length co111 : Value).ownBlock ∧ k_ ≠ zk ∧ k_ ≠ zd ∧ k_ ≠ zj ∧ k_ ≠ zf ∧ k_ ≠ zA)) (okp := (fun k_ => (w.heap.size ≤ k_) ∧ some k_ ≠ (.slice Ao111 zl.length co111 : Value).ownBlock ∧ k_ ≠ zk ∧ k_ ≠ zd ∧ k_ ≠ zj ∧ k_ ≠ zf ∧ k_ ≠ zA)) ?hr ?hp (fun _ hk => hk) ((show ∀ k_, w112.heap.size ≤ k_ → (fun k_ => (w.heap.size ≤ k_) ∧ some k_ ≠ (.slice Ao111 zl.length co111 : Value).ownBlock ∧ k_ ≠ zk ∧ k_ ≠ zd ∧ k_ ≠ zj ∧ k_ ≠ zf ∧ k_ ≠ zA) k_ from fun k_ hk => ⟨(e6_ (e7_ (by repeat (first|(with_reducible first|exact HB.out|apply b4_|apply b5_|apply b6_|refine b7_ ?_ zF.out|refine b7_ ?_ zJ.out|refine b7_ ?_ zL.out|refine b7_ ?_ zM.out|refine b7_ ?_ zS.out)|exact HB.out))) hk), Kd.fresh' (Kd.N_lt (by (with_reducible repeat (first|apply b8_|apply b9_|apply c1_));exact zg.out)) k_ hk, Kd.freshB (g := zk) (by exact zi.out) k_ hk, Kd.freshB (g := zd) (by exact za.out) k_ hk, Kd.freshB (g := zj) (by exact zm.out) k_ hk, Kd.freshB (g := zf) (by exact zo.out) k_ hk, Kd.freshB (g := zA) (by exact zH.out) k_ hk⟩) _ (Nat.le_refl _)) (Below.refl _ _) (Nat.le_refl _) (by simp) ?_;(case hd => rfl);(case hg => rfl);(case hr => first|(go_simp; done)|(go_simp; rfl));(case hp => exact (Reps.c2 (show Kd.FK k110 _ _ (⟨ze, zU⟩ : S110) [.int .i64 ze, .slice Ao113 zU.length co113] from (k110_mkF _ _ (⟨ze, zU⟩ : S110) (Kd.R_reads' (Kd.R_mono (ok' := (fun k_ => (w.heap.size ≤ k_) ∧ some k_ ≠ (.slice Ao111 zl.length co111 : Value).ownBlock ∧ k_ ≠ zk ∧ k_ ≠ zd ∧ k_ ≠ zj ∧ k_ ≠ zf ∧ k_ ≠ zA)) (Kd.R_types (Kd.R_types (Kd.R_types (Kd.R_apart' (zK.out) (Kd.N_typed zg.out) (by decide)) zi.out (by decide)) za.out (by decide)) zo.out (by decide)) (fun k_ hk => ⟨hk.1.1.1.1.1, ⟨hk.1.1.1.2, ⟨hk.1.1.2, ⟨hk.1.2, ⟨hk.1.1.1.1.2.1, ⟨hk.2, hk.1.1.1.1.2.2⟩⟩⟩⟩⟩⟩))).2.1 (Kd.R_F (Kd.R_mono (ok' := (fun k_ => (w.heap.size ≤ k_) ∧ some k_ ≠ (.slice Ao111 zl.length co111 : Value).ownBlock ∧ k_ ≠ zk ∧ k_ ≠ zd ∧ k_ ≠ zj ∧ k_ ≠ zf ∧ k_ ≠ zA)) (Kd.R_types (Kd.R_types (Kd.R_types (Kd.R_apart' (zK.out) (Kd.N_typed zg.out) (by decide)) zi.out (by decide)) za.out (by decide)) zo.out (by decide)) (fun k_ hk => ⟨hk.1.1.1.1.1, ⟨hk.1.1.1.2, ⟨hk.1.1.2, ⟨hk.1.2, ⟨hk.1.1.1.1.2.1, ⟨hk.2, hk.1.1.1.1.2.2⟩⟩⟩⟩⟩⟩))))) (Reps.none _ _)))
               intro v873 w114 ho115 hb hg_ hnew_
               clear hg_ hnew_
               (first|rw [← Ny872.out] at ho115|(simp only [Int.reduceToNat] at ho115; rw [← Ny872.out] at ho115))
               have n0_ := c9_ (Kd.N_elder' (by (with_reducible repeat (first|apply b8_|apply b9_|apply c1_));exact zg.out) (Kd.N_base ho115) hb)
               have n1_ := c9_ (Kd.N_lower ho115 (e7_ (by repeat (first|(with_reducible first|exact HB.out|apply b4_|apply b5_|apply b6_|refine b7_ ?_ zF.out|refine b7_ ?_ zJ.out|refine b7_ ?_ zL.out|refine b7_ ?_ zM.out|refine b7_ ?_ zS.out)|exact HB.out))))
               have n2_ := c9_ (c6_ (g := zk) (by exact zi.out) hb)
               have n3_ := c9_ (c6_ (g := zd) (by exact za.out) hb)
               have n4_ := c9_ (c6_ (g := zj) (by exact zm.out) hb)
               have n5_ := c9_ (c6_ (g := zf) (by exact zo.out) hb)
               have n6_ := c9_ (c6_ (g := zA) (by exact zH.out) hb)
               have n7_ := c9_ (below_step (by repeat (first|(with_reducible first|exact HB.out|apply b4_|apply b5_|apply b6_|refine b7_ ?_ zF.out|refine b7_ ?_ zJ.out|refine b7_ ?_ zL.out|refine b7_ ?_ zM.out|refine b7_ ?_ zS.out)|exact HB.out)) hb)
               clear zg
               clear zi
               clear za
               clear zm
               clear zo
               clear zH
               clear HB
               clear zK
               have zg := n0_
               have zY := n1_
               have zi := n2_
               have za := n3_
               have zm := n4_
               have zo := n5_
               have zH := n6_
               have HB := n7_
               clear n0_ n1_ n2_ n3_ n4_ n5_ n6_ n7_
               clear hb ho115
               refine hK.out _ _ ⟨(e1_ za.out 0).trans rfl, (e1_ za.out 1).trans rfl, (e1_ za.out 2).trans rfl, (e1_ za.out 3).trans rfl, (e1_ za.out 4).trans rfl, (e1_ za.out 5).trans rfl, (e1_ za.out 6).trans rfl, (e1_ za.out 7).trans rfl⟩ (fun hHeld => ?_)
               clear hK K
               refine norm_ (a' := ?_) ?_ ?_
               rotate_left
               ·
                show Act.put _ (some 123) _ = _
                simp only [Act.put, d1_, d2_, d3_, i64_w, i32_w]
                rfl
               refine one_ (i := 0) (N := some 114) #[true, true, true, false, true, true, true, true, true, true, false, false] rfl rfl (one_of HT_.out (by kernel_rfl)) (by decide) (fun K hK => ?_)
               refine Kd.N_lit_step k110 _ 110 ?hg (N' := 114) ?hd (xs := ([] : List (S110))) (inner := []) (ok := (fun k_ => (w.heap.size ≤ k_) ∧ some k_ ≠ (.slice Ao111 zl.length co111 : Value).ownBlock ∧ some k_ ≠ (v873 : Value).ownBlock ∧ k_ ≠ zk ∧ k_ ≠ zd ∧ k_ ≠ zj ∧ k_ ≠ zf ∧ k_ ≠ zA)) (okp := (fun k_ => (w.heap.size ≤ k_) ∧ some k_ ≠ (.slice Ao111 zl.length co111 : Value).ownBlock ∧ some k_ ≠ (v873 : Value).ownBlock ∧ k_ ≠ zk ∧ k_ ≠ zd ∧ k_ ≠ zj ∧ k_ ≠ zf ∧ k_ ≠ zA)) ?hr ?hp (fun _ hk => hk) ((show ∀ k_, w114.heap.size ≤ k_ → (fun k_ => (w.heap.size ≤ k_) ∧ some k_ ≠ (.slice Ao111 zl.length co111 : Value).ownBlock ∧ some k_ ≠ (v873 : Value).ownBlock ∧ k_ ≠ zk ∧ k_ ≠ zd ∧ k_ ≠ zj ∧ k_ ≠ zf ∧ k_ ≠ zA) k_ from fun k_ hk => ⟨(e6_ (e7_ (by repeat (first|(with_reducible first|exact HB.out|apply b4_|apply b5_|apply b6_|refine b7_ ?_ zF.out|refine b7_ ?_ zJ.out|refine b7_ ?_ zL.out|refine b7_ ?_ zM.out|refine b7_ ?_ zS.out)|exact HB.out))) hk), Kd.fresh' (Kd.N_lt (by (with_reducible repeat (first|apply b8_|apply b9_|apply c1_));exact zg.out)) k_ hk, Kd.fresh' (Kd.N_lt (by (with_reducible repeat (first|apply b8_|apply b9_|apply c1_));exact zY.out)) k_ hk, Kd.freshB (g := zk) (by exact zi.out) k_ hk, Kd.freshB (g := zd) (by exact za.out) k_ hk, Kd.freshB (g := zj) (by exact zm.out) k_ hk, Kd.freshB (g := zf) (by exact zo.out) k_ hk, Kd.freshB (g := zA) (by exact zH.out) k_ hk⟩) _ (Nat.le_refl _)) (Below.refl _ _) (Nat.le_refl _) (by simp) ?_;(case hd => rfl);(case hg => rfl);(case hr => first|(go_simp; done)|(go_simp; rfl));(case hp => exact (Reps.none _ _))
               intro v867 w116 ho117 hb hg_ hnew_
               clear hg_ hnew_
               (first|rw [← Ny866.out] at ho117|(simp only [Int.reduceToNat] at ho117; rw [← Ny866.out] at ho117))
               have n0_ := c9_ (Kd.N_elder' (by (with_reducible repeat (first|apply b8_|apply b9_|apply c1_));exact zg.out) (Kd.N_base ho117) hb)
               have n1_ := c9_ (Kd.N_elder' (by (with_reducible repeat (first|apply b8_|apply b9_|apply c1_));exact zY.out) (Kd.N_base ho117) hb)
               have n2_ := c9_ (Kd.N_lower ho117 (e7_ (by repeat (first|(with_reducible first|exact HB.out|apply b4_|apply b5_|apply b6_|refine b7_ ?_ zF.out|refine b7_ ?_ zJ.out|refine b7_ ?_ zL.out|refine b7_ ?_ zM.out|refine b7_ ?_ zS.out)|exact HB.out))))
               have n3_ := c9_ (c6_ (g := zk) (by exact zi.out) hb)
               have n4_ := c9_ (c6_ (g := zd) (by exact za.out) hb)
               have n5_ := c9_ (c6_ (g := zj) (by exact zm.out) hb)
               have n6_ := c9_ (c6_ (g := zf) (by exact zo.out) hb)
               have n7_ := c9_ (c6_ (g := zA) (by exact zH.out) hb)
               have n8_ := c9_ (below_step (by repeat (first|(with_reducible first|exact HB.out|apply b4_|apply b5_|apply b6_|refine b7_ ?_ zF.out|refine b7_ ?_ zJ.out|refine b7_ ?_ zL.out|refine b7_ ?_ zM.out|refine b7_ ?_ zS.out)|exact HB.out)) hb)
               clear zg
               clear zY
               clear zi
               clear za
               clear zm
               clear zo
               clear zH
               clear HB
               have zg := n0_
               have zY := n1_
               have zX := n2_
               have zi := n3_
               have za := n4_
               have zm := n5_
               have zo := n6_
               have zH := n7_
               have HB := n8_
               clear n0_ n1_ n2_ n3_ n4_ n5_ n6_ n7_ n8_
               clear hb ho117
               refine hK.out _ _ ⟨(e1_ za.out 0).trans rfl, (e1_ za.out 1).trans rfl, (e1_ za.out 2).trans rfl, (e1_ za.out 3).trans rfl, (e1_ za.out 4).trans rfl, (e1_ za.out 5).trans rfl, (e1_ za.out 6).trans rfl, (e1_ za.out 7).trans rfl⟩ (fun hHeld => ?_)
               clear hK K
               refine norm_ (a' := ?_) ?_ ?_
               rotate_left
               ·
                show Act.put _ (some 114) _ = _
                simp only [Act.put, d1_, d2_, d3_, i64_w, i32_w]
                rfl
               refine one_ (i := 3) (N := some 117) #[true, true, true, true, true, true, true, true, true, true, false, false] rfl rfl (one_of HT_.out (by kernel_rfl)) (by decide) (fun K hK => ?_)
               refine Kd.N_append_rows_step k110 (w0 := w) w.heap.size (by rfl) (.tmp 114) (.tmp 116) 27 110 (.agg #[(.int .i64 0), (.slice none 0 0)]) 32 rfl Try.underlying27 info110 rfl (by decide) (by omega) v867 y866 zl _ _ _ (fun k_ => (w.heap.size ≤ k_) ∧ some k_ ≠ (v873 : Value).ownBlock ∧ k_ ≠ zk ∧ k_ ≠ zd ∧ k_ ≠ zj ∧ k_ ≠ zf ∧ k_ ≠ zA) (fun k_ => ((fun k_ => (w.heap.size ≤ k_) ∧ some k_ ≠ (v873 : Value).ownBlock ∧ k_ ≠ zk ∧ k_ ≠ zd ∧ k_ ≠ zj ∧ k_ ≠ zf ∧ k_ ≠ zA)) k_ ∧ some k_ ≠ (v867 : Value).ownBlock) rfl rfl ?aO ?aR (fun _ hk => hk) ?aF ?aB ?aS ?aL ?_
               (case aR => exact (by skip;exact Kd.N_F (Kd.N_mono (ok' := (fun k_ => ((fun k_ => (w.heap.size ≤ k_) ∧ some k_ ≠ (v873 : Value).ownBlock ∧ k_ ≠ zk ∧ k_ ≠ zd ∧ k_ ≠ zj ∧ k_ ≠ zf ∧ k_ ≠ zA)) k_ ∧ some k_ ≠ (v867 : Value).ownBlock)) (zg.out) (fun k_ hk => ⟨⟨hk.1.1.1, ⟨hk.1.2, ⟨hk.1.1.2.2.1, ⟨hk.1.1.2.2.2.1, ⟨hk.1.1.2.2.2.2.1, ⟨hk.1.1.2.2.2.2.2.1, hk.1.1.2.2.2.2.2.2⟩⟩⟩⟩⟩⟩, hk.2⟩))))
               (case aB => exact (by repeat (first|(with_reducible first|exact HB.out|apply b4_|apply b5_|apply b6_|refine b7_ ?_ zF.out|refine b7_ ?_ zJ.out|refine b7_ ?_ zL.out|refine b7_ ?_ zM.out|refine b7_ ?_ zS.out)|exact HB.out)))
               (case aF => exact (fun k_ hk => ⟨(e6_ (e7_ (by repeat (first|(with_reducible first|exact HB.out|apply b4_|apply b5_|apply b6_|refine b7_ ?_ zF.out|refine b7_ ?_ zJ.out|refine b7_ ?_ zL.out|refine b7_ ?_ zM.out|refine b7_ ?_ zS.out)|exact HB.out))) hk), Kd.fresh' (Kd.N_lt (by (with_reducible repeat (first|apply b8_|apply b9_|apply c1_));exact zY.out)) k_ hk, Kd.freshB (g := zk) (by exact zi.out) k_ hk, Kd.freshB (g := zd) (by exact za.out) k_ hk, Kd.freshB (g := zj) (by exact zm.out) k_ hk, Kd.freshB (g := zf) (by exact zo.out) k_ hk, Kd.freshB (g := zA) (by exact zH.out) k_ hk⟩))
               (case aO => exact (by (with_reducible repeat (first|apply b8_|apply b9_|apply c1_));exact Kd.N_mono zX.out (fun _ hk => ⟨hk.1, ⟨hk.2.2.1, ⟨hk.2.2.2.1, ⟨hk.2.2.2.2.1, ⟨hk.2.2.2.2.2.1, ⟨hk.2.2.2.2.2.2.1, hk.2.2.2.2.2.2.2⟩⟩⟩⟩⟩⟩)))
               (case aS => exact (e7_ (by repeat (first|(with_reducible first|exact HB.out|apply b4_|apply b5_|apply b6_|refine b7_ ?_ zF.out|refine b7_ ?_ zJ.out|refine b7_ ?_ zL.out|refine b7_ ?_ zM.out|refine b7_ ?_ zS.out)|exact HB.out))))
               (case aL => have := LMc109.out; omega)
               intro v870 w118 ho hb hg hat
               rw [← Ny869.out] at ho
               have n0_ := c9_ (Kd.N_afterv (ok := (fun k_ => (w.heap.size ≤ k_) ∧ some k_ ≠ (v873 : Value).ownBlock ∧ k_ ≠ zk ∧ k_ ≠ zd ∧ k_ ≠ zj ∧ k_ ≠ zf ∧ k_ ≠ zA)) (by (with_reducible repeat (first|apply b8_|apply b9_|apply c1_));exact Kd.N_mono zg.out (fun _ hk => ⟨⟨hk.1.1.1, ⟨hk.1.2, ⟨hk.1.1.2.2.1, ⟨hk.1.1.2.2.2.1, ⟨hk.1.1.2.2.2.2.1, ⟨hk.1.1.2.2.2.2.2.1, hk.1.1.2.2.2.2.2.2⟩⟩⟩⟩⟩⟩, hk.2⟩)) hg hat)
               have n1_ := c9_ (blk_grown (g := zk) (by exact zi.out) hg (Kd.N_ne zX.out zi.out (by decide)))
               have n2_ := c9_ (blk_grown (g := zd) (by exact za.out) hg (Kd.N_ne zX.out za.out (by decide)))
               have n3_ := c9_ (blk_grown (g := zj) (by exact zm.out) hg (Kd.N_ne zX.out zm.out (by decide)))
               have n4_ := c9_ (blk_grown (g := zf) (by exact zo.out) hg (Kd.N_ne zX.out zo.out (by decide)))
               have n5_ := c9_ (blk_grown (g := zA) (by exact zH.out) hg (Kd.N_ne zX.out zH.out (by decide)))
               have n6_ := c9_ (Kd.N_afterv (ok := (fun k_ => (w.heap.size ≤ k_) ∧ some k_ ≠ (.slice Ao111 zl.length co111 : Value).ownBlock ∧ k_ ≠ zk ∧ k_ ≠ zd ∧ k_ ≠ zj ∧ k_ ≠ zf ∧ k_ ≠ zA)) (by (with_reducible repeat (first|apply b8_|apply b9_|apply c1_));exact zY.out) hg hat)
               have n7_ := c9_ (hb)
               have n8_ := c9_ (ho)
               clear zg
               clear zi
               clear za
               clear zm
               clear zo
               clear zH
               clear zY
               clear HB
               clear zX
               have zg := n0_
               have zi := n1_
               have za := n2_
               have zm := n3_
               have zo := n4_
               have zH := n5_
               have zY := n6_
               have HB := n7_
               have jb := n8_
               clear n0_ n1_ n2_ n3_ n4_ n5_ n6_ n7_ n8_
               clear ho hb hg hat
               refine hK.out _ _ ⟨(e1_ za.out 0).trans rfl, (e1_ za.out 1).trans rfl, (e1_ za.out 2).trans rfl, (e1_ za.out 3).trans rfl, (e1_ za.out 4).trans rfl, (e1_ za.out 5).trans rfl, (e1_ za.out 6).trans rfl, (e1_ za.out 7).trans rfl⟩ (fun hHeld => ?_)
               clear hK K
               refine norm_ (a' := ?_) ?_ ?_
               rotate_left
               ·
                show Act.put _ (some 117) _ = _
                simp only [Act.put, d1_, d2_, d3_, i64_w, i32_w]
                rfl
               exact norm_ (by simp only [putAll, Act.put, List.setIfInBounds_toArray, List.set_cons_zero, List.set_cons_succ]) (hCont (v867, v870, v873) _ ⟨hHeld, (by (with_reducible repeat (first|apply b8_|apply b9_|apply c1_));exact jb.out), (by (with_reducible repeat (first|apply b8_|apply b9_|apply c1_));exact Kd.N_mono zY.out (fun _ hk => ⟨hk.1.1, ⟨hk.2, ⟨hk.1.2.1, ⟨hk.1.2.2.1, ⟨hk.1.2.2.2.1, ⟨hk.1.2.2.2.2.1, ⟨hk.1.2.2.2.2.2.1, hk.1.2.2.2.2.2.2⟩⟩⟩⟩⟩⟩⟩)), (by (with_reducible repeat (first|apply b8_|apply b9_|apply c1_));exact Kd.N_mono zg.out (fun _ hk => ⟨hk.1.1, ⟨hk.2, ⟨hk.1.2.1, ⟨hk.1.2.2.1, ⟨hk.1.2.2.2.1, ⟨hk.1.2.2.2.2.1, ⟨hk.1.2.2.2.2.2.1, hk.1.2.2.2.2.2.2⟩⟩⟩⟩⟩⟩⟩)), (by exact zi.out), (by exact za.out), (by exact zm.out), (by exact zo.out), (by exact zH.out), (by repeat (first|(with_reducible first|exact HB.out|apply b4_|apply b5_|apply b6_|refine b7_ ?_ zF.out|refine b7_ ?_ zJ.out|refine b7_ ?_ zL.out|refine b7_ ?_ zM.out|refine b7_ ?_ zS.out)|exact HB.out))⟩)
             rintro ⟨v867, v870, v873⟩ w119 ⟨hS_, h0_, h1_, h2_, h3_, h4_, h5_, h6_, h7_, h8_⟩
             have n0_ : Aside0 (Kd.N k110 110 w119 w.heap.size (fun k_ => (w.heap.size ≤ k_) ∧ some k_ ≠ (v873 : Value).ownBlock ∧ k_ ≠ zk ∧ k_ ≠ zd ∧ k_ ≠ zj ∧ k_ ≠ zf ∧ k_ ≠ zA) v870 y869) := ⟨h0_⟩
             have n1_ : Aside0 (Kd.N k110 110 w119 w.heap.size (fun k_ => (w.heap.size ≤ k_) ∧ some k_ ≠ (v870 : Value).ownBlock ∧ some k_ ≠ (.slice Ao111 zl.length co111 : Value).ownBlock ∧ k_ ≠ zk ∧ k_ ≠ zd ∧ k_ ≠ zj ∧ k_ ≠ zf ∧ k_ ≠ zA) v873 y872) := ⟨h1_⟩
             have n2_ : Aside0 (Kd.N k110 110 w119 w.heap.size (fun k_ => (w.heap.size ≤ k_) ∧ some k_ ≠ (v870 : Value).ownBlock ∧ some k_ ≠ (v873 : Value).ownBlock ∧ k_ ≠ zk ∧ k_ ≠ zd ∧ k_ ≠ zj ∧ k_ ≠ zf ∧ k_ ≠ zA) (.slice Ao111 zl.length co111) zl) := ⟨h2_⟩
             have n3_ : Aside0 (w119.heap[zk]? = some (.cells #[.int .i64 zz, .int .i64 zx, .int .i64 zv, .bool zu, .slice none 0 0, .int .i64 zt, .int .i64 zs, .int .i64 zp] 153 (0, 0))) := ⟨h3_⟩
             have n4_ : Aside0 (w119.heap[zd]? = some (.cells #[.int .i64 zb, .int .i64 zc, .int .i64 ze, .bool zh, .slice Ao111 zl.length co111, .int .i64 zC, .int .i64 zD, .int .i64 zI] 153 (0, 0))) := ⟨h4_⟩
             have n5_ : Aside0 (w119.heap[zj]? = some (.cells #[.int .i64 zb, .int .i64 zc] 90 (0, 0))) := ⟨h5_⟩
             have n6_ : Aside0 (w119.heap[zf]? = some (.cells #[.int .i64 zw, .int .i64 zy, .int .i64 zQ, .bool zR] 75 (0, 0))) := ⟨h6_⟩
             have n7_ : Aside0 (w119.heap[zA]? = some (.cells #[.int .i64 zw, .int .i64 zy] 90 (0, 0))) := ⟨h7_⟩
             have n8_ : Aside0 (Below w.heap.size w w119) := ⟨h8_⟩
             clear zK
             clear zg
             clear zi
             clear za
             clear zm
             clear zo
             clear zH
             clear HB
             clear h0_ h1_ h2_ h3_ h4_ h5_ h6_ h7_ h8_
             have jb := n0_
             have zY := n1_
             have zg := n2_
             have zi := n3_
             have za := n4_
             have zm := n5_
             have zo := n6_
             have zH := n7_
             have HB := n8_
             clear n0_ n1_ n2_ n3_ n4_ n5_ n6_ n7_ n8_
             have hHeld : w119.cell? ⟨zd, 0, none⟩ = some (.int .i64 zb) ∧ w119.cell? ⟨zd, 1, none⟩ = some (.int .i64 zc) ∧ w119.cell? ⟨zd, 2, none⟩ = some (.int .i64 ze) ∧ w119.cell? ⟨zd, 3, none⟩ = some (.bool zh) ∧ w119.cell? ⟨zd, 4, none⟩ = some (.slice Ao111 zl.length co111) ∧ w119.cell? ⟨zd, 5, none⟩ = some (.int .i64 zC) ∧ w119.cell? ⟨zd, 6, none⟩ = some (.int .i64 zD) ∧ w119.cell? ⟨zd, 7, none⟩ = some (.int .i64 zI) := hS_
             obtain ⟨Ao121, co121, eo121⟩ := Kd.N_slice zY.out
             (first|subst eo121|(injection eo121 with f1_ f2_ f3_;have f4_ := f1_.symm;have f5_ := f3_.symm;clear f1_ f2_ f3_; subst f4_; subst f5_))
             refine norm_ (a' := ?_) ?_ ?_
             rotate_left
             ·
              simp only [putAll, Act.put, List.setIfInBounds_toArray, List.set_cons_zero, List.set_cons_succ]
              rfl
             refine one_ (i := 10) (N := some 124) #[true, true, true, true, true, true, true, true, true, true, true, false] rfl rfl (one_of HT_.out (by kernel_rfl)) (by decide) (fun K hK => ?_)
             refine Kd.N_append_rows_step k110 (w0 := w) w.heap.size (by rfl) (.tmp 117) (.tmp 123) 27 110 (.agg #[(.int .i64 0), (.slice none 0 0)]) 32 rfl Try.underlying27 info110 rfl (by decide) (by omega) v870 y869 y872 _ _ _ (fun k_ => (w.heap.size ≤ k_) ∧ k_ ≠ zk ∧ k_ ≠ zd ∧ k_ ≠ zj ∧ k_ ≠ zf ∧ k_ ≠ zA) (fun k_ => ((fun k_ => (w.heap.size ≤ k_) ∧ k_ ≠ zk ∧ k_ ≠ zd ∧ k_ ≠ zj ∧ k_ ≠ zf ∧ k_ ≠ zA)) k_ ∧ some k_ ≠ (v870 : Value).ownBlock) rfl rfl ?aO ?aR (fun _ hk => hk) ?aF ?aB ?aS ?aL ?_
             (case aR => exact (by skip;exact Kd.N_F (Kd.N_mono (ok' := (fun k_ => ((fun k_ => (w.heap.size ≤ k_) ∧ k_ ≠ zk ∧ k_ ≠ zd ∧ k_ ≠ zj ∧ k_ ≠ zf ∧ k_ ≠ zA)) k_ ∧ some k_ ≠ (v870 : Value).ownBlock)) (zY.out) (fun k_ hk => ⟨⟨hk.1, ⟨hk.2.2.2.1, ⟨hk.2.2.2.2.1, ⟨hk.2.2.2.2.2.1, ⟨hk.2.2.2.2.2.2.1, hk.2.2.2.2.2.2.2⟩⟩⟩⟩⟩, hk.2.1⟩))))
             (case aB => exact (by repeat (first|(with_reducible first|exact HB.out|apply b4_|apply b5_|apply b6_|refine b7_ ?_ zF.out|refine b7_ ?_ zJ.out|refine b7_ ?_ zL.out|refine b7_ ?_ zM.out|refine b7_ ?_ zS.out)|exact HB.out)))
             (case aF => exact (fun k_ hk => ⟨(e6_ (e7_ (by repeat (first|(with_reducible first|exact HB.out|apply b4_|apply b5_|apply b6_|refine b7_ ?_ zF.out|refine b7_ ?_ zJ.out|refine b7_ ?_ zL.out|refine b7_ ?_ zM.out|refine b7_ ?_ zS.out)|exact HB.out))) hk), Kd.freshB (g := zk) (by exact zi.out) k_ hk, Kd.freshB (g := zd) (by exact za.out) k_ hk, Kd.freshB (g := zj) (by exact zm.out) k_ hk, Kd.freshB (g := zf) (by exact zo.out) k_ hk, Kd.freshB (g := zA) (by exact zH.out) k_ hk⟩))
             (case aO => exact (by (with_reducible repeat (first|apply b8_|apply b9_|apply c1_));exact Kd.N_mono jb.out (fun _ hk => ⟨hk.1, ⟨hk.2.2.1, ⟨hk.2.2.2.1, ⟨hk.2.2.2.2.1, ⟨hk.2.2.2.2.2.1, hk.2.2.2.2.2.2⟩⟩⟩⟩⟩)))
             (case aS => exact (e7_ (by repeat (first|(with_reducible first|exact HB.out|apply b4_|apply b5_|apply b6_|refine b7_ ?_ zF.out|refine b7_ ?_ zJ.out|refine b7_ ?_ zL.out|refine b7_ ?_ zM.out|refine b7_ ?_ zS.out)|exact HB.out))))
             (case aL => have := LMc110.out; omega)
             intro v876 w120 ho hb hg hat
             rw [← Ny875.out] at ho
             have n0_ := c9_ (Kd.N_afterv (ok := (fun k_ => (w.heap.size ≤ k_) ∧ some k_ ≠ (.slice Ao121 y872.length co121 : Value).ownBlock ∧ k_ ≠ zk ∧ k_ ≠ zd ∧ k_ ≠ zj ∧ k_ ≠ zf ∧ k_ ≠ zA)) (by (with_reducible repeat (first|apply b8_|apply b9_|apply c1_));exact Kd.N_mono zg.out (fun _ hk => ⟨⟨hk.1, ⟨hk.2.2.1, ⟨hk.2.2.2.1, ⟨hk.2.2.2.2.1, ⟨hk.2.2.2.2.2.1, ⟨hk.2.2.2.2.2.2.1, hk.2.2.2.2.2.2.2⟩⟩⟩⟩⟩⟩, hk.2.1⟩)) hg hat)
             have n1_ := c9_ (blk_grown (g := zk) (by exact zi.out) hg (Kd.N_ne jb.out zi.out (by decide)))
             have n2_ := c9_ (blk_grown (g := zd) (by exact za.out) hg (Kd.N_ne jb.out za.out (by decide)))
             have n3_ := c9_ (blk_grown (g := zj) (by exact zm.out) hg (Kd.N_ne jb.out zm.out (by decide)))
             have n4_ := c9_ (blk_grown (g := zf) (by exact zo.out) hg (Kd.N_ne jb.out zo.out (by decide)))
             have n5_ := c9_ (blk_grown (g := zA) (by exact zH.out) hg (Kd.N_ne jb.out zH.out (by decide)))
             have n6_ := c9_ (Kd.N_afterv (ok := (fun k_ => (w.heap.size ≤ k_) ∧ some k_ ≠ (.slice Ao111 zl.length co111 : Value).ownBlock ∧ k_ ≠ zk ∧ k_ ≠ zd ∧ k_ ≠ zj ∧ k_ ≠ zf ∧ k_ ≠ zA)) (by (with_reducible repeat (first|apply b8_|apply b9_|apply c1_));exact Kd.N_mono zY.out (fun _ hk => ⟨⟨hk.1, ⟨hk.2.2.1, ⟨hk.2.2.2.1, ⟨hk.2.2.2.2.1, ⟨hk.2.2.2.2.2.1, ⟨hk.2.2.2.2.2.2.1, hk.2.2.2.2.2.2.2⟩⟩⟩⟩⟩⟩, hk.2.1⟩)) hg hat)
             have n7_ := c9_ (hb)
             have n8_ := c9_ (ho)
             clear zg
             clear zi
             clear za
             clear zm
             clear zo
             clear zH
             clear zY
             clear HB
             clear jb
             have zg := n0_
             have zi := n1_
             have za := n2_
             have zm := n3_
             have zo := n4_
             have zH := n5_
             have zY := n6_
             have HB := n7_
             have HO877 := n8_
             clear n0_ n1_ n2_ n3_ n4_ n5_ n6_ n7_ n8_
             clear ho hb hg hat
             refine hK.out _ _ ⟨(e1_ za.out 0).trans rfl, (e1_ za.out 1).trans rfl, (e1_ za.out 2).trans rfl, (e1_ za.out 3).trans rfl, (e1_ za.out 4).trans rfl, (e1_ za.out 5).trans rfl, (e1_ za.out 6).trans rfl, (e1_ za.out 7).trans rfl⟩ (fun hHeld => ?_)
             clear hK K
             refine norm_ (a' := ?_) ?_ ?_
             rotate_left
             ·
              show Act.put _ (some 124) _ = _
              simp only [Act.put, d1_, d2_, d3_, i64_w, i32_w]
              rfl
             refine pure_ (i := 11) (N := some 13) (v := ?_) (a' := ?_) #[true, true, true, true, true, true, true, true, true, true, true, true] rfl rfl (any_of HT_.out (by kernel_rfl)) (fun _ _ _ h => h) (Or.inl ⟨by rfl, ?_⟩) ?_ ?_
             rotate_left
             ·
              intro w'
              go_simp
              with_reducible rfl
             rotate_left
             ·
              simp only [Act.put, d1_, d2_, d3_, i64_w, i32_w]
              rfl
             refine done_ (done_of HT_.out (by kernel_rfl)) ?_
             obtain ⟨Ao122, co122, eo122⟩ := Kd.N_slice HO877.out
             subst eo122
             have hnb123 := NB830_828.out
             have hnc123 := NB828_830.out
             have hnb124 := NB830_834.out
             have hnc124 := NB834_830.out
             have hnb125 := NB830_841.out
             have hnc125 := NB841_830.out
             have hnb126 := NB830_842.out
             have hnc126 := NB842_830.out
             have hcz127_0 : w120.cell? ⟨zd, 0, none⟩ = some (.int .i64 zb) := (e1_ za.out 0).trans rfl
             have hcz127_1 : w120.cell? ⟨zd, 1, none⟩ = some (.int .i64 zc) := (e1_ za.out 1).trans rfl
             have hcz127_2 : w120.cell? ⟨zd, 2, none⟩ = some (.int .i64 ze) := (e1_ za.out 2).trans rfl
             have hcz127_3 : w120.cell? ⟨zd, 3, none⟩ = some (.bool zh) := (e1_ za.out 3).trans rfl
             have hcz127_4 : w120.cell? ⟨zd, 4, none⟩ = some (.slice Ao111 zl.length co111) := (e1_ za.out 4).trans rfl
             have hcz127_5 : w120.cell? ⟨zd, 5, none⟩ = some (.int .i64 zC) := (e1_ za.out 5).trans rfl
             have hcz127_6 : w120.cell? ⟨zd, 6, none⟩ = some (.int .i64 zD) := (e1_ za.out 6).trans rfl
             have hcz127_7 : w120.cell? ⟨zd, 7, none⟩ = some (.int .i64 zI) := (e1_ za.out 7).trans rfl
             have hfz127_0 := e2_ za.out 0
             have hfz127_1 := e2_ za.out 1
             have hfz127_2 := e2_ za.out 2
             have hfz127_3 := e2_ za.out 3
             have hfz127_4 := e2_ za.out 4
             have hfz127_5 := e2_ za.out 5
             have hfz127_6 := e2_ za.out 6
             have hfz127_7 := e2_ za.out 7
             try go_wp2_with (first|((with_reducible refine gate_dst (N := 127) rfl ?_);(try (refine gate_guard (by rfl) ?_; dsimp only));refine Kd.R_lit k90 _ 90 ?hg (N := 127) ?hd (xs := ([] : List (S90))) (inner := []) (ok := fun _ => True) (okp := fun _ => True) ?hr ?hp (fun _ hk => hk) trivial (Below.refl _ _) (Nat.le_refl _) (by simp) ?_;(case hd => rfl);(case hg => rfl);(case hr => first|(go_simp; done)|(go_simp; rfl));(case hp => exact (Reps.none _ _)); intro v879 w128 ho129 hb hg_ hnew_;clear hg_ hnew_;(first|rw [← Ny878.out] at ho129|(simp only [Int.reduceToNat] at ho129; rw [← Ny878.out] at ho129));have n0_ := c9_ (Kd.N_elder' (by (with_reducible repeat (first|apply b8_|apply b9_|apply c1_));exact (Kd.N_mono (Kd.N_far (p := ⟨zd, 4, none⟩) (Kd.N_mono zg.out (fun k_ hk => (⟨hk, hk.1.2.2.2.1⟩ : _ ∧ k_ ≠ zd))) (fun _ hk => hk.2) (.slice Ao122 y875.length co122)) (fun _ h_ => h_.1))) (Kd.R_base ho129) hb);have n1_ := c9_ (Kd.N_elder' (by (with_reducible repeat (first|apply b8_|apply b9_|apply c1_));exact (Kd.N_mono (Kd.N_far (p := ⟨zd, 4, none⟩) (Kd.N_mono zY.out (fun k_ hk => (⟨hk, hk.1.2.2.2.1⟩ : _ ∧ k_ ≠ zd))) (fun _ hk => hk.2) (.slice Ao122 y875.length co122)) (fun _ h_ => h_.1))) (Kd.R_base ho129) hb);have n2_ := c9_ (Kd.N_elder' (by (with_reducible repeat (first|apply b8_|apply b9_|apply c1_));exact (Kd.N_mono (Kd.N_far (p := ⟨zd, 4, none⟩) (Kd.N_mono HO877.out (fun k_ hk => (⟨hk, hk.2.2.1⟩ : _ ∧ k_ ≠ zd))) (fun _ hk => hk.2) (.slice Ao122 y875.length co122)) (fun _ h_ => h_.1))) (Kd.R_base ho129) hb);have n3_ := c9_ (Kd.R_lower (Kd.R_newB (Kd.R_newB (Kd.R_newM (M := fun k_ => (w.heap.size ≤ k_)) ho129 (e7_ (by repeat (first|(with_reducible first|exact HB.out|apply b4_|apply b5_|apply b6_|refine b7_ ?_ zF.out|refine b7_ ?_ zJ.out|refine b7_ ?_ zL.out|refine b7_ ?_ zM.out|refine b7_ ?_ zS.out)|exact HB.out))) (fun k_ h_ => h_)) (g := zj) (o := .cells #[.int .i64 zb, .int .i64 zc] 90 (0, 0)) (by (with_reducible repeat (first|refine b1_ ?_ _|refine b2_ ?_|refine b3_ ?_ _));refine e5_ ?_ NB834_830.out _;exact zm.out)) (g := zA) (o := .cells #[.int .i64 zw, .int .i64 zy] 90 (0, 0)) (by (with_reducible repeat (first|refine b1_ ?_ _|refine b2_ ?_|refine b3_ ?_ _));refine e5_ ?_ NB842_830.out _;exact zH.out)) (e7_ (by repeat (first|(with_reducible first|exact HB.out|apply b4_|apply b5_|apply b6_|refine b7_ ?_ zF.out|refine b7_ ?_ zJ.out|refine b7_ ?_ zL.out|refine b7_ ?_ zM.out|refine b7_ ?_ zS.out)|exact HB.out))));have n4_ := c9_ (c6_ (g := zk) (o := .cells #[.int .i64 zz, .int .i64 zx, .int .i64 zv, .bool zu, .slice none 0 0, .int .i64 zt, .int .i64 zs, .int .i64 zp] 153 (0, 0)) (by (with_reducible repeat (first|refine b1_ ?_ _|refine b2_ ?_|refine b3_ ?_ _));refine e5_ ?_ NB828_830.out _;exact zi.out) hb);have n5_ := c9_ (c6_ (g := zd) (o := .cells #[.int .i64 zb, .int .i64 zc, .int .i64 ze, .bool zh, .slice Ao122 y875.length co122, .int .i64 zC, .int .i64 zD, .int .i64 zI] 153 (0, 0)) (by (with_reducible repeat (first|refine b1_ ?_ _|refine b2_ ?_|refine b3_ ?_ _));refine blk_put (cs := #[.int .i64 zb, .int .i64 zc, .int .i64 ze, .bool zh, .slice Ao111 zl.length co111, .int .i64 zC, .int .i64 zD, .int .i64 zI]) ?_ 4 _ rfl;exact za.out) hb);have n6_ := c9_ (c6_ (g := zj) (o := .cells #[.int .i64 zb, .int .i64 zc] 90 (0, 0)) (by (with_reducible repeat (first|refine b1_ ?_ _|refine b2_ ?_|refine b3_ ?_ _));refine e5_ ?_ NB834_830.out _;exact zm.out) hb);have n7_ := c9_ (c6_ (g := zf) (o := .cells #[.int .i64 zw, .int .i64 zy, .int .i64 zQ, .bool zR] 75 (0, 0)) (by (with_reducible repeat (first|refine b1_ ?_ _|refine b2_ ?_|refine b3_ ?_ _));refine e5_ ?_ NB841_830.out _;exact zo.out) hb);have n8_ := c9_ (c6_ (g := zA) (o := .cells #[.int .i64 zw, .int .i64 zy] 90 (0, 0)) (by (with_reducible repeat (first|refine b1_ ?_ _|refine b2_ ?_|refine b3_ ?_ _));refine e5_ ?_ NB842_830.out _;exact zH.out) hb);have n9_ := c9_ (below_step (by repeat (first|(with_reducible first|exact HB.out|apply b4_|apply b5_|apply b6_|refine b7_ ?_ zF.out|refine b7_ ?_ zJ.out|refine b7_ ?_ zL.out|refine b7_ ?_ zM.out|refine b7_ ?_ zS.out)|exact HB.out)) hb);clear zg;clear zY;clear HO877;clear zi;clear za;clear zm;clear zo;clear zH;clear HB;have zg := n0_;have zY := n1_;have HO877 := n2_;have HO880 := n3_;have zi := n4_;have za := n5_;have zm := n6_;have zo := n7_;have zH := n8_;have HB := n9_;clear n0_ n1_ n2_ n3_ n4_ n5_ n6_ n7_ n8_ n9_;clear hb ho129;have hnb130 := NB841_828.out;have hnc130 := NB828_841.out;have hnb131 := NB841_834.out;have hnc131 := NB834_841.out;have hnb132 := NB841_842.out;have hnc132 := NB842_841.out;have hcz133_0 : w128.cell? ⟨zf, 0, none⟩ = some (.int .i64 zw) := (e1_ zo.out 0).trans rfl;have hcz133_1 : w128.cell? ⟨zf, 1, none⟩ = some (.int .i64 zy) := (e1_ zo.out 1).trans rfl;have hcz133_2 : w128.cell? ⟨zf, 2, none⟩ = some (.int .i64 zQ) := (e1_ zo.out 2).trans rfl;have hcz133_3 : w128.cell? ⟨zf, 3, none⟩ = some (.bool zR) := (e1_ zo.out 3).trans rfl;have hfz133_0 := e2_ zo.out 0;have hfz133_1 := e2_ zo.out 1;have hfz133_2 := e2_ zo.out 2;have hfz133_3 := e2_ zo.out 3;have hcz134_0 : w128.cell? ⟨zd, 0, none⟩ = some (.int .i64 zb) := (e1_ za.out 0).trans rfl;have hcz134_1 : w128.cell? ⟨zd, 1, none⟩ = some (.int .i64 zc) := (e1_ za.out 1).trans rfl;have hcz134_2 : w128.cell? ⟨zd, 2, none⟩ = some (.int .i64 ze) := (e1_ za.out 2).trans rfl;have hcz134_3 : w128.cell? ⟨zd, 3, none⟩ = some (.bool zh) := (e1_ za.out 3).trans rfl;have hcz134_4 : w128.cell? ⟨zd, 4, none⟩ = some (.slice Ao122 y875.length co122) := (e1_ za.out 4).trans rfl;have hcz134_5 : w128.cell? ⟨zd, 5, none⟩ = some (.int .i64 zC) := (e1_ za.out 5).trans rfl;have hcz134_6 : w128.cell? ⟨zd, 6, none⟩ = some (.int .i64 zD) := (e1_ za.out 6).trans rfl;have hcz134_7 : w128.cell? ⟨zd, 7, none⟩ = some (.int .i64 zI) := (e1_ za.out 7).trans rfl;have hfz134_0 := e2_ za.out 0;have hfz134_1 := e2_ za.out 1;have hfz134_2 := e2_ za.out 2;have hfz134_3 := e2_ za.out 3;have hfz134_4 := e2_ za.out 4;have hfz134_5 := e2_ za.out 5;have hfz134_6 := e2_ za.out 6;have hfz134_7 := e2_ za.out 7))
             go_roundg kj98
             case measure => have := HK1.out;have := HJ16.out;have := HJ91.out;have := HJ98.out; omega
             case rel => exact ⟨(y878), (wrap64 (zB + 1)), (zz), (zx), (zv), (zu), (zt), (zs), (zp), (zw), (zy), (zQ), (zR), (y875), (zC), (zD), (zI), (.slice Ao122 y875.length co122), (by first|rfl|(simp; done)|(simp [*]; done)), H', ⟨by have := HK1.out;have := HJ16.out;have := HJ91.out;have := HJ98.out; omega⟩, ⟨by (with_reducible repeat (first|apply c2_|apply c3_|apply c4_));exact Kd.R_mono (Kd.R_far (p := ⟨zd, 3, none⟩) (Kd.R_far (p := ⟨zd, 2, none⟩) (Kd.R_far (p := ⟨zd, 1, none⟩) (Kd.R_far (p := ⟨zd, 0, none⟩) (Kd.R_types HO880.out za.out (by decide)) (fun _ hk => hk.2) (.int .i64 zw)) (fun _ hk => hk.2) (.int .i64 zy)) (fun _ hk => hk.2) (.int .i64 zQ)) (fun _ hk => hk.2) (.bool zR)) (fun _ hk => hk.1.1.1.1)⟩, ⟨by (with_reducible repeat (first|apply b8_|apply b9_|apply c1_));exact Kd.N_mono (Kd.N_far (p := ⟨zd, 3, none⟩) (Kd.N_far (p := ⟨zd, 2, none⟩) (Kd.N_far (p := ⟨zd, 1, none⟩) (Kd.N_far (p := ⟨zd, 0, none⟩) (Kd.N_mono HO877.out (fun k_ hk => (⟨hk, hk.1.2.2.1⟩ : _ ∧ k_ ≠ zd))) (fun _ hk => hk.2) (.int .i64 zw)) (fun _ hk => hk.2) (.int .i64 zy)) (fun _ hk => hk.2) (.int .i64 zQ)) (fun _ hk => hk.2) (.bool zR)) (fun _ hk => ⟨hk.1.1.1, ⟨hk.1.2, ⟨hk.1.1.2.1, hk.1.1.2.2.1⟩⟩⟩)⟩, ⟨by (with_reducible repeat (first|refine b1_ ?_ _|refine b2_ ?_|refine b3_ ?_ _));refine e5_ ?_ NB828_830.out _;(with_reducible repeat (first|refine b1_ ?_ _|refine b2_ ?_|refine b3_ ?_ _));refine e5_ ?_ NB828_830.out _;(with_reducible repeat (first|refine b1_ ?_ _|refine b2_ ?_|refine b3_ ?_ _));refine e5_ ?_ NB828_830.out _;(with_reducible repeat (first|refine b1_ ?_ _|refine b2_ ?_|refine b3_ ?_ _));refine e5_ ?_ NB828_830.out _;exact zi.out⟩, ⟨by (with_reducible repeat (first|refine b1_ ?_ _|refine b2_ ?_|refine b3_ ?_ _));refine blk_put (cs := #[.int .i64 zw, .int .i64 zy, .int .i64 zQ, .bool zh, .slice Ao122 y875.length co122, .int .i64 zC, .int .i64 zD, .int .i64 zI]) ?_ 3 _ rfl;(with_reducible repeat (first|refine b1_ ?_ _|refine b2_ ?_|refine b3_ ?_ _));refine blk_put (cs := #[.int .i64 zw, .int .i64 zy, .int .i64 ze, .bool zh, .slice Ao122 y875.length co122, .int .i64 zC, .int .i64 zD, .int .i64 zI]) ?_ 2 _ rfl;(with_reducible repeat (first|refine b1_ ?_ _|refine b2_ ?_|refine b3_ ?_ _));refine blk_put (cs := #[.int .i64 zw, .int .i64 zc, .int .i64 ze, .bool zh, .slice Ao122 y875.length co122, .int .i64 zC, .int .i64 zD, .int .i64 zI]) ?_ 1 _ rfl;(with_reducible repeat (first|refine b1_ ?_ _|refine b2_ ?_|refine b3_ ?_ _));refine blk_put (cs := #[.int .i64 zb, .int .i64 zc, .int .i64 ze, .bool zh, .slice Ao122 y875.length co122, .int .i64 zC, .int .i64 zD, .int .i64 zI]) ?_ 0 _ rfl;exact za.out⟩, ⟨by repeat (first|(with_reducible first|exact HB.out|apply b4_|apply b5_|apply b6_|refine b7_ ?_ zF.out|refine b7_ ?_ zJ.out|refine b7_ ?_ zL.out|refine b7_ ?_ zM.out|refine b7_ ?_ zS.out)|exact HB.out)⟩⟩
            ·
             replace c108 := Bool.eq_false_iff.mpr c108
             subst c108
             have H1 : (spec_l30All.l0 kj98 l0 zU (wrap64 (zB + 1)) zw zy zQ zR zl zC zD zI) = some (r1, r2, r3, r4, r5, r6, r7, r8, r9) := by rw [if_neg (show ¬ (false = true) by decide)] at H;exact H
             clear H
             have H := H1
             clear H1
             have H' := c9_ H
             clear H
             have hnb135 := NB841_828.out
             have hnc135 := NB828_841.out
             have hnb136 := NB841_830.out
             have hnc136 := NB830_841.out
             have hnb137 := NB841_834.out
             have hnc137 := NB834_841.out
             have hnb138 := NB841_842.out
             have hnc138 := NB842_841.out
             have hcz139_0 : wc.cell? ⟨zf, 0, none⟩ = some (.int .i64 zw) := (e1_ zo.out 0).trans rfl
             have hcz139_1 : wc.cell? ⟨zf, 1, none⟩ = some (.int .i64 zy) := (e1_ zo.out 1).trans rfl
             have hcz139_2 : wc.cell? ⟨zf, 2, none⟩ = some (.int .i64 zQ) := (e1_ zo.out 2).trans rfl
             have hcz139_3 : wc.cell? ⟨zf, 3, none⟩ = some (.bool zR) := (e1_ zo.out 3).trans rfl
             have hfz139_0 := e2_ zo.out 0
             have hfz139_1 := e2_ zo.out 1
             have hfz139_2 := e2_ zo.out 2
             have hfz139_3 := e2_ zo.out 3
             have hnb140 := NB830_828.out
             have hnc140 := NB828_830.out
             have hnb141 := NB830_834.out
             have hnc141 := NB834_830.out
             have hnb142 := NB830_842.out
             have hnc142 := NB842_830.out
             have hcz143_0 : wc.cell? ⟨zd, 0, none⟩ = some (.int .i64 zb) := (e1_ za.out 0).trans rfl
             have hcz143_1 : wc.cell? ⟨zd, 1, none⟩ = some (.int .i64 zc) := (e1_ za.out 1).trans rfl
             have hcz143_2 : wc.cell? ⟨zd, 2, none⟩ = some (.int .i64 ze) := (e1_ za.out 2).trans rfl
             have hcz143_3 : wc.cell? ⟨zd, 3, none⟩ = some (.bool zh) := (e1_ za.out 3).trans rfl
             have hcz143_4 : wc.cell? ⟨zd, 4, none⟩ = some (zE) := (e1_ za.out 4).trans rfl
             have hcz143_5 : wc.cell? ⟨zd, 5, none⟩ = some (.int .i64 zC) := (e1_ za.out 5).trans rfl
             have hcz143_6 : wc.cell? ⟨zd, 6, none⟩ = some (.int .i64 zD) := (e1_ za.out 6).trans rfl
             have hcz143_7 : wc.cell? ⟨zd, 7, none⟩ = some (.int .i64 zI) := (e1_ za.out 7).trans rfl
             have hfz143_0 := e2_ za.out 0
             have hfz143_1 := e2_ za.out 1
             have hfz143_2 := e2_ za.out 2
             have hfz143_3 := e2_ za.out 3
             have hfz143_4 := e2_ za.out 4
             have hfz143_5 := e2_ za.out 5
             have hfz143_6 := e2_ za.out 6
             have hfz143_7 := e2_ za.out 7
             go_wp2
             go_roundg kj98
             case measure => have := HK1.out;have := HJ16.out;have := HJ91.out;have := HJ98.out; omega
             case rel => exact ⟨(zU), (wrap64 (zB + 1)), (zz), (zx), (zv), (zu), (zt), (zs), (zp), (zw), (zy), (zQ), (zR), (zl), (zC), (zD), (zI), (zE), (by first|rfl|(simp; done)|(simp [*]; done)), H', ⟨by have := HK1.out;have := HJ16.out;have := HJ91.out;have := HJ98.out; omega⟩, ⟨by (with_reducible repeat (first|apply c2_|apply c3_|apply c4_));exact Kd.R_mono (Kd.R_far (p := ⟨zd, 3, none⟩) (Kd.R_far (p := ⟨zd, 2, none⟩) (Kd.R_far (p := ⟨zd, 1, none⟩) (Kd.R_far (p := ⟨zd, 0, none⟩) (Kd.R_types zK.out za.out (by decide)) (fun _ hk => hk.2) (.int .i64 zw)) (fun _ hk => hk.2) (.int .i64 zy)) (fun _ hk => hk.2) (.int .i64 zQ)) (fun _ hk => hk.2) (.bool zR)) (fun _ hk => hk.1.1)⟩, ⟨by (with_reducible repeat (first|apply b8_|apply b9_|apply c1_));exact Kd.N_mono (Kd.N_far (p := ⟨zd, 3, none⟩) (Kd.N_far (p := ⟨zd, 2, none⟩) (Kd.N_far (p := ⟨zd, 1, none⟩) (Kd.N_far (p := ⟨zd, 0, none⟩) (Kd.N_mono zg.out (fun k_ hk => (⟨hk, hk.2.2.2.1⟩ : _ ∧ k_ ≠ zd))) (fun _ hk => hk.2) (.int .i64 zw)) (fun _ hk => hk.2) (.int .i64 zy)) (fun _ hk => hk.2) (.int .i64 zQ)) (fun _ hk => hk.2) (.bool zR)) (fun _ hk => ⟨hk.1.1, ⟨hk.1.2.1, ⟨hk.1.2.2.1, hk.1.2.2.2.1⟩⟩⟩)⟩, ⟨by (with_reducible repeat (first|refine b1_ ?_ _|refine b2_ ?_|refine b3_ ?_ _));refine e5_ ?_ NB828_830.out _;(with_reducible repeat (first|refine b1_ ?_ _|refine b2_ ?_|refine b3_ ?_ _));refine e5_ ?_ NB828_830.out _;(with_reducible repeat (first|refine b1_ ?_ _|refine b2_ ?_|refine b3_ ?_ _));refine e5_ ?_ NB828_830.out _;(with_reducible repeat (first|refine b1_ ?_ _|refine b2_ ?_|refine b3_ ?_ _));refine e5_ ?_ NB828_830.out _;exact zi.out⟩, ⟨by (with_reducible repeat (first|refine b1_ ?_ _|refine b2_ ?_|refine b3_ ?_ _));refine blk_put (cs := #[.int .i64 zw, .int .i64 zy, .int .i64 zQ, .bool zh, zE, .int .i64 zC, .int .i64 zD, .int .i64 zI]) ?_ 3 _ rfl;(with_reducible repeat (first|refine b1_ ?_ _|refine b2_ ?_|refine b3_ ?_ _));refine blk_put (cs := #[.int .i64 zw, .int .i64 zy, .int .i64 ze, .bool zh, zE, .int .i64 zC, .int .i64 zD, .int .i64 zI]) ?_ 2 _ rfl;(with_reducible repeat (first|refine b1_ ?_ _|refine b2_ ?_|refine b3_ ?_ _));refine blk_put (cs := #[.int .i64 zw, .int .i64 zc, .int .i64 ze, .bool zh, zE, .int .i64 zC, .int .i64 zD, .int .i64 zI]) ?_ 1 _ rfl;(with_reducible repeat (first|refine b1_ ?_ _|refine b2_ ?_|refine b3_ ?_ _));refine blk_put (cs := #[.int .i64 zb, .int .i64 zc, .int .i64 ze, .bool zh, zE, .int .i64 zC, .int .i64 zD, .int .i64 zI]) ?_ 0 _ rfl;exact za.out⟩, ⟨by repeat (first|(with_reducible first|exact HB.out|apply b4_|apply b5_|apply b6_|refine b7_ ?_ zF.out|refine b7_ ?_ zJ.out|refine b7_ ?_ zL.out|refine b7_ ?_ zM.out|refine b7_ ?_ zS.out)|exact HB.out)⟩⟩
     ·
      replace c14 := Bool.eq_false_iff.mpr c14
      subst c14
      have H1 : (some (0, 0, 0, false, ([] : List (S110)), 0, 0, 0, 5)) = some (r1, r2, r3, r4, r5, r6, r7, r8, r9) := by rw [if_neg (show ¬ (false = true) by decide)] at H;exact H
      clear H
      have H := H1
      clear H1
      simp only [Option.some.injEq, Prod.mk.injEq] at H
      obtain ⟨rfl, rfl, rfl, rfl, rfl, rfl, rfl, rfl, rfl⟩ := H
      have hnb144 := NB830_828.out
      have hnc144 := NB828_830.out
      have hcz145_0 : wr.cell? ⟨zd, 0, none⟩ = some (.int .i64 zb) := (e1_ za.out 0).trans rfl
      have hcz145_1 : wr.cell? ⟨zd, 1, none⟩ = some (.int .i64 zc) := (e1_ za.out 1).trans rfl
      have hcz145_2 : wr.cell? ⟨zd, 2, none⟩ = some (.int .i64 ze) := (e1_ za.out 2).trans rfl
      have hcz145_3 : wr.cell? ⟨zd, 3, none⟩ = some (.bool zh) := (e1_ za.out 3).trans rfl
      have hcz145_4 : wr.cell? ⟨zd, 4, none⟩ = some (zE) := (e1_ za.out 4).trans rfl
      have hcz145_5 : wr.cell? ⟨zd, 5, none⟩ = some (.int .i64 zr) := (e1_ za.out 5).trans rfl
      have hcz145_6 : wr.cell? ⟨zd, 6, none⟩ = some (.int .i64 zn) := (e1_ za.out 6).trans rfl
      have hcz145_7 : wr.cell? ⟨zd, 7, none⟩ = some (.int .i64 zq) := (e1_ za.out 7).trans rfl
      have hfz145_0 := e2_ za.out 0
      have hfz145_1 := e2_ za.out 1
      have hfz145_2 := e2_ za.out 2
      have hfz145_3 := e2_ za.out 3
      have hfz145_4 := e2_ za.out 4
      have hfz145_5 := e2_ za.out 5
      have hfz145_6 := e2_ za.out 6
      have hfz145_7 := e2_ za.out 7
      try go_wp2_with (first|((with_reducible refine gate_dst (N := 8) rfl ?_);(try (refine gate_guard (by rfl) ?_; dsimp only));refine box_event ?hg (N := 8) ?hd (cs := #[.int .i64 0, .int .i64 0]) (t := 90) ?hr ?_;(case hd => rfl);(case hg => rfl);(case hr => first|(go_simp; done)|(go_simp; rfl)); intro zj hg w146 hbox hb;have n0_ := c9_ (Kd.R_below (Kd.R_elderB (by (with_reducible repeat (first|apply c2_|apply c3_|apply c4_));exact zK.out) zj (Nat.le_of_eq hg.symm)) hb);have n1_ := c9_ (Kd.N_below (Kd.N_elderB (by (with_reducible repeat (first|apply b8_|apply b9_|apply c1_));exact zg.out) zj (Nat.le_of_eq hg.symm)) hb);have n2_ := c9_ (c6_ (g := zk) (by exact zi.out) hb);have n3_ := c9_ (c6_ (g := zd) (by exact za.out) hb);have n4_ := c9_ (below_step (by repeat (first|(with_reducible first|exact HB.out|apply b4_|apply b5_|apply b6_|refine b7_ ?_ zF.out|refine b7_ ?_ zJ.out)|exact HB.out)) hb);have n5_ := c9_ (hbox);have n6_ := c9_ ((by rw [hg];exact (e7_ (by repeat (first|(with_reducible first|exact HB.out|apply b4_|apply b5_|apply b6_|refine b7_ ?_ zF.out|refine b7_ ?_ zJ.out)|exact HB.out))) : w.heap.size ≤ zj));have n7_ := c9_ ((by rw [hg];exact (e7_ (by repeat (first|(with_reducible first|exact HB.out|apply b4_|apply b5_|apply b6_|refine b7_ ?_ zF.out|refine b7_ ?_ zJ.out)|exact HB.out))) : w.heap.size ≤ zj));have n8_ := c9_ ((by rw [hg];exact c8_ (blk_lt (g := zk) (by exact zi.out)) : zk ≠ zj));have n9_ := c9_ ((by rw [hg];exact Nat.ne_of_gt (blk_lt (g := zk) (by exact zi.out)) : zj ≠ zk));have n10_ := c9_ ((by rw [hg];exact c8_ (blk_lt (g := zd) (by exact za.out)) : zd ≠ zj));have n11_ := c9_ ((by rw [hg];exact Nat.ne_of_gt (blk_lt (g := zd) (by exact za.out)) : zj ≠ zd));clear zK;clear zg;clear zi;clear za;clear HB;have zK := n0_;have zg := n1_;have zi := n2_;have za := n3_;have HB := n4_;have zm := n5_;have GW834 := n6_;have zL := n7_;have NB828_834 := n8_;have NB834_828 := n9_;have NB830_834 := n10_;have NB834_830 := n11_;clear n0_ n1_ n2_ n3_ n4_ n5_ n6_ n7_ n8_ n9_ n10_ n11_;clear hb hbox hg;have hnb147 := NB834_828.out;have hnc147 := NB828_834.out;have hnb148 := NB834_830.out;have hnc148 := NB830_834.out;have hcz149_0 : w146.cell? ⟨zj, 0, none⟩ = some (.int .i64 0) := (e1_ zm.out 0).trans rfl;have hcz149_1 : w146.cell? ⟨zj, 1, none⟩ = some (.int .i64 0) := (e1_ zm.out 1).trans rfl;have hfz149_0 := e2_ zm.out 0;have hfz149_1 := e2_ zm.out 1))
      have n0_ : Aside0 (Kd.R k90 90 ((w146.setCell ⟨zj, 0, none⟩ (.int .i64 zb)).setCell ⟨zj, 1, none⟩ (.int .i64 zc)) w.heap.size (fun k_ => (w.heap.size ≤ k_) ∧ k_ ≠ zj) u6 zT) := ⟨by (with_reducible repeat (first|apply c2_|apply c3_|apply c4_));exact Kd.R_mono (Kd.R_far (p := ⟨zj, 1, none⟩) (Kd.R_far (p := ⟨zj, 0, none⟩) (Kd.R_mono zK.out (fun k_ hk => (⟨hk, hk.2⟩ : _ ∧ k_ ≠ zj))) (fun _ hk => hk.2) (.int .i64 zb)) (fun _ hk => hk.2) (.int .i64 zc)) (fun _ hk => ⟨hk.1.1, hk.1.2⟩)⟩
      have n1_ : Aside0 (Kd.N k110 110 ((w146.setCell ⟨zj, 0, none⟩ (.int .i64 zb)).setCell ⟨zj, 1, none⟩ (.int .i64 zc)) w.heap.size (fun k_ => (w.heap.size ≤ k_) ∧ some k_ ≠ (u6 : Value).ownBlock ∧ k_ ≠ zk ∧ k_ ≠ zd ∧ k_ ≠ zj) zE zl) := ⟨by (with_reducible repeat (first|apply b8_|apply b9_|apply c1_));exact Kd.N_mono (Kd.N_far (p := ⟨zj, 1, none⟩) (Kd.N_far (p := ⟨zj, 0, none⟩) (Kd.N_mono zg.out (fun k_ hk => (⟨hk, hk.2⟩ : _ ∧ k_ ≠ zj))) (fun _ hk => hk.2) (.int .i64 zb)) (fun _ hk => hk.2) (.int .i64 zc)) (fun _ hk => ⟨hk.1.1.1, ⟨hk.1.1.2.1, ⟨hk.1.1.2.2.1, ⟨hk.1.1.2.2.2, hk.1.2⟩⟩⟩⟩)⟩
      have n2_ : Aside0 (((w146.setCell ⟨zj, 0, none⟩ (.int .i64 zb)).setCell ⟨zj, 1, none⟩ (.int .i64 zc)).heap[zk]? = some (.cells #[.int .i64 zz, .int .i64 zx, .int .i64 zv, .bool zu, .slice none 0 0, .int .i64 zt, .int .i64 zs, .int .i64 zp] 153 (0, 0))) := ⟨by (with_reducible repeat (first|refine b1_ ?_ _|refine b2_ ?_|refine b3_ ?_ _));refine e5_ ?_ NB828_834.out _;(with_reducible repeat (first|refine b1_ ?_ _|refine b2_ ?_|refine b3_ ?_ _));refine e5_ ?_ NB828_834.out _;exact zi.out⟩
      have n3_ : Aside0 (((w146.setCell ⟨zj, 0, none⟩ (.int .i64 zb)).setCell ⟨zj, 1, none⟩ (.int .i64 zc)).heap[zd]? = some (.cells #[.int .i64 zb, .int .i64 zc, .int .i64 ze, .bool zh, zE, .int .i64 zr, .int .i64 zn, .int .i64 zq] 153 (0, 0))) := ⟨by (with_reducible repeat (first|refine b1_ ?_ _|refine b2_ ?_|refine b3_ ?_ _));refine e5_ ?_ NB830_834.out _;(with_reducible repeat (first|refine b1_ ?_ _|refine b2_ ?_|refine b3_ ?_ _));refine e5_ ?_ NB830_834.out _;exact za.out⟩
      have n4_ : Aside0 (((w146.setCell ⟨zj, 0, none⟩ (.int .i64 zb)).setCell ⟨zj, 1, none⟩ (.int .i64 zc)).heap[zj]? = some (.cells #[.int .i64 zb, .int .i64 zc] 90 (0, 0))) := ⟨by (with_reducible repeat (first|refine b1_ ?_ _|refine b2_ ?_|refine b3_ ?_ _));refine blk_put (cs := #[.int .i64 zb, .int .i64 0]) ?_ 1 _ rfl;(with_reducible repeat (first|refine b1_ ?_ _|refine b2_ ?_|refine b3_ ?_ _));refine blk_put (cs := #[.int .i64 0, .int .i64 0]) ?_ 0 _ rfl;exact zm.out⟩
      have n5_ : Aside0 (Below w.heap.size w ((w146.setCell ⟨zj, 0, none⟩ (.int .i64 zb)).setCell ⟨zj, 1, none⟩ (.int .i64 zc))) := ⟨by repeat (first|(with_reducible first|exact HB.out|apply b4_|apply b5_|apply b6_|refine b7_ ?_ zF.out|refine b7_ ?_ zJ.out|refine b7_ ?_ zL.out)|exact HB.out)⟩
      (try clear zK)
      (try clear zg)
      (try clear zi)
      (try clear za)
      (try clear zm)
      (try clear HB)
      generalize ((w146.setCell ⟨zj, 0, none⟩ (.int .i64 zb)).setCell ⟨zj, 1, none⟩ (.int .i64 zc)) = w150 at n0_ n1_ n2_ n3_ n4_ n5_ ⊢
      have zK := n0_
      have zg := n1_
      have zi := n2_
      have za := n3_
      have zm := n4_
      have HB := n5_
      clear n0_ n1_ n2_ n3_ n4_ n5_
      have n0_ := c9_ (c4_ zK.out)
      have n1_ := c9_ (c1_ zg.out)
      have n2_ := c9_ (b2_ zi.out)
      have n3_ := c9_ (b2_ za.out)
      have n4_ := c9_ (b2_ zm.out)
      have n5_ := c9_ (b6_ HB.out)
      clear zK
      clear zg
      clear zi
      clear za
      clear zm
      clear HB
      have zK := n0_
      have zg := n1_
      have zi := n2_
      have za := n3_
      have zm := n4_
      have HB := n5_
      clear n0_ n1_ n2_ n3_ n4_ n5_
      have p835 : 0 ≤ (zB : Int) := of_decide_eq_true (by first|(with_reducible assumption)|assumption)
      have q835 : zB < (l0.length : Int) := of_decide_eq_true (by first|(with_reducible assumption)|assumption)
      obtain ⟨zW, e835, z7, z8, z9⟩ := at_T137 HR0.out zB p835 q835
      have zN := z9
      have zO := z8
      have zP := z7
      cases e835
      replace z7 := (HB.out.cell (c5_ w _ z7)).trans z7
      replace z8 := (HB.out.cell (c5_ w _ z8)).trans z8
      replace z9 := (HB.out.cell (c5_ w _ z9)).trans z9
      replace p835 := eq_true p835
      replace q835 := eq_true q835
      refine start_ (n := 13) (S := fun w' => w'.cell? ⟨zd, 0, none⟩ = some (.int .i64 zb) ∧ w'.cell? ⟨zd, 1, none⟩ = some (.int .i64 zc) ∧ w'.cell? ⟨zd, 2, none⟩ = some (.int .i64 ze) ∧ w'.cell? ⟨zd, 3, none⟩ = some (.bool zh) ∧ w'.cell? ⟨zd, 4, none⟩ = some (zE) ∧ w'.cell? ⟨zd, 5, none⟩ = some (.int .i64 zr) ∧ w'.cell? ⟨zd, 6, none⟩ = some (.int .i64 zn) ∧ w'.cell? ⟨zd, 7, none⟩ = some (.int .i64 zq) ∧ w'.cell? (zW.add ((zB).toNat * 3)) = some (.int .u8 ((rd_T137 l0 zB).f0)) ∧ w'.cell? ⟨(zW.add ((zB).toNat * 3)).block, (zW.add ((zB).toNat * 3)).off + 1, none⟩ = some (.int .i64 ((rd_T137 l0 zB).f1)) ∧ w'.cell? ⟨(zW.add ((zB).toNat * 3)).block, (zW.add ((zB).toNat * 3)).off + 2, none⟩ = some (.int .i64 ((rd_T137 l0 zB).f2))) (ds := []) #[false, false, false, false, false, false, false, false, false, false, false, false, false] (by kernel_rfl) rfl rfl ⟨(e1_ za.out 0).trans rfl, (e1_ za.out 1).trans rfl, (e1_ za.out 2).trans rfl, (e1_ za.out 3).trans rfl, (e1_ za.out 4).trans rfl, (e1_ za.out 5).trans rfl, (e1_ za.out 6).trans rfl, (e1_ za.out 7).trans rfl, ((HB.out.cell (c5_ w _ zP)).trans zP), ((HB.out.cell (c5_ w _ zO)).trans zO), ((HB.out.cell (c5_ w _ zN)).trans zN)⟩ (fun hHeld => ?_);refine with_tabW spec_l30All.tab10 spec_l30All.bits10 (fun HT_ HW_ => ?_)
      generalize w150.drew = w151 at zK zg zi za zm HB z7 z8 z9 hHeld ⊢
      refine pure_ (i := 0) (N := some 36) (v := ?_) (a' := ?_) #[true, false, false, false, false, false, false, false, false, false, false, false, false] rfl rfl (any_of HT_.out (by kernel_rfl)) (fun _ _ _ h => h) (Or.inl ⟨by rfl, ?_⟩) ?_ ?_
      rotate_left
      ·
       intro w'
       go_simp
       with_reducible rfl
      rotate_left
      ·
       simp only [Act.put, d1_, d2_, d3_, i64_w, i32_w]
       rfl
      refine pure_ (i := 2) (N := some 38) (v := ?_) (a' := ?_) #[true, false, true, false, false, false, false, false, false, false, false, false, false] rfl rfl (any_of HT_.out (by kernel_rfl)) (fun _ _ _ h => h) (Or.inl ⟨by rfl, ?_⟩) ?_ ?_
      rotate_left
      ·
       intro w'
       go_simp
       with_reducible rfl
      rotate_left
      ·
       simp only [Act.put, d1_, d2_, d3_, i64_w, i32_w]
       rfl
      refine pure_ (i := 3) (N := some 39) (v := ?_) (a' := ?_) #[true, false, true, true, false, false, false, false, false, false, false, false, false] rfl rfl (any_of HT_.out (by kernel_rfl)) (fun _ _ _ h => h) (Or.inl ⟨by rfl, ?_⟩) ?_ ?_
      rotate_left
      ·
       intro w'
       go_simp
       with_reducible rfl
      rotate_left
      ·
       simp only [Act.put, d1_, d2_, d3_, i64_w, i32_w]
       rfl
      refine pure_ (i := 4) (N := some 40) (v := ?_) (a' := ?_) #[true, false, true, true, true, false, false, false, false, false, false, false, false] rfl rfl (any_of HT_.out (by kernel_rfl)) (fun _ _ _ h => h) (Or.inl ⟨by rfl, ?_⟩) ?_ ?_
      rotate_left
      ·
       intro w'
       go_simp
       with_reducible rfl
      rotate_left
      ·
       simp only [Act.put, d1_, d2_, d3_, i64_w, i32_w]
       rfl
      refine take_ (i := 1) (N := some 37) (v := ?_) (a' := ?_) #[true, true, true, true, true, false, false, false, false, false, false, false, false] rfl rfl (take_ofW HT_.out HW_.out (by kernel_rfl)) (fun _ _ _ h => h) (Or.inl ⟨by rfl, ?_⟩) hHeld ?_ ?_
      rotate_left
      ·
       rintro w' ⟨s0, s1, s2, s3, s4, s5, s6, s7, s8, s9, s10⟩
       go_simp
       with_reducible rfl
      rotate_left
      ·
       simp only [Act.put, d1_, d2_, d3_, i64_w, i32_w]
       rfl
      refine take_ (i := 5) (N := some 41) (v := ?_) (a' := ?_) #[true, true, true, true, true, true, false, false, false, false, false, false, false] rfl rfl (take_ofW HT_.out HW_.out (by kernel_rfl)) (fun _ _ _ h => h) (Or.inl ⟨by rfl, ?_⟩) hHeld ?_ ?_
      rotate_left
      ·
       rintro w' ⟨s0, s1, s2, s3, s4, s5, s6, s7, s8, s9, s10⟩
       go_simp
       with_reducible rfl
      rotate_left
      ·
       simp only [Act.put, d1_, d2_, d3_, i64_w, i32_w]
       rfl
      refine join_ (σ := Nat) 2 #[true, true, true, true, true, true, true, true, true, true, true, false, false] (fun s_ => [(42, .tuple #[.agg #[.int .i64 zw, .int .i64 zy, .int .i64 zQ, .bool zR], .bool false]), (9, .pointer (some ⟨s_, 0, none⟩)), (35, .tuple #[.agg #[.int .i64 zw, .int .i64 zy, .int .i64 zQ, .bool zR], .bool false]), (43, .agg #[.int .i64 zw, .int .i64 zy, .int .i64 zQ, .bool zR]), (44, .bool false)]) (fun s_ w' => (w'.cell? ⟨zd, 0, none⟩ = some (.int .i64 zb) ∧ w'.cell? ⟨zd, 1, none⟩ = some (.int .i64 zc) ∧ w'.cell? ⟨zd, 2, none⟩ = some (.int .i64 ze) ∧ w'.cell? ⟨zd, 3, none⟩ = some (.bool zh) ∧ w'.cell? ⟨zd, 4, none⟩ = some (zE) ∧ w'.cell? ⟨zd, 5, none⟩ = some (.int .i64 zr) ∧ w'.cell? ⟨zd, 6, none⟩ = some (.int .i64 zn) ∧ w'.cell? ⟨zd, 7, none⟩ = some (.int .i64 zq) ∧ w'.cell? (zW.add ((zB).toNat * 3)) = some (.int .u8 ((rd_T137 l0 zB).f0)) ∧ w'.cell? ⟨(zW.add ((zB).toNat * 3)).block, (zW.add ((zB).toNat * 3)).off + 1, none⟩ = some (.int .i64 ((rd_T137 l0 zB).f1)) ∧ w'.cell? ⟨(zW.add ((zB).toNat * 3)).block, (zW.add ((zB).toNat * 3)).off + 2, none⟩ = some (.int .i64 ((rd_T137 l0 zB).f2))) ∧ (Kd.R k90 90 w' w.heap.size (fun k_ => (w.heap.size ≤ k_) ∧ k_ ≠ zj) u6 zT) ∧ (Kd.N k110 110 w' w.heap.size (fun k_ => (w.heap.size ≤ k_) ∧ some k_ ≠ (u6 : Value).ownBlock ∧ k_ ≠ zk ∧ k_ ≠ zd ∧ k_ ≠ zj ∧ k_ ≠ s_) zE zl) ∧ (w'.heap[zk]? = some (.cells #[.int .i64 zz, .int .i64 zx, .int .i64 zv, .bool zu, .slice none 0 0, .int .i64 zt, .int .i64 zs, .int .i64 zp] 153 (0, 0))) ∧ (w'.heap[zd]? = some (.cells #[.int .i64 zb, .int .i64 zc, .int .i64 ze, .bool zh, zE, .int .i64 zr, .int .i64 zn, .int .i64 zq] 153 (0, 0))) ∧ (w'.heap[zj]? = some (.cells #[.int .i64 zb, .int .i64 zc] 90 (0, 0))) ∧ (w'.heap[s_]? = some (.cells #[.int .i64 0, .int .i64 0, .int .i64 0, .bool false] 75 (0, 0))) ∧ (w.heap.size ≤ s_) ∧ (w.heap.size ≤ s_) ∧ (zk ≠ s_) ∧ (s_ ≠ zk) ∧ (zd ≠ s_) ∧ (s_ ≠ zd) ∧ (zj ≠ s_) ∧ (s_ ≠ zj) ∧ (Below w.heap.size w w')) ?_ ?_
      rotate_left
      ·
       intro hCont
       refine two_ (i := 6) (j := 10) (Ni := some 42) (Nj := some 9) #[true, true, true, true, true, true, true, false, false, false, false, false, false] #[true, true, true, true, true, true, false, false, false, false, true, false, false] rfl rfl rfl rfl (two_of HT_.out (by kernel_rfl)) (by decide) (by decide) (fun K hK => ?_) (fun K hK => ?_)
       ·
        skip
        refine goes_ Try.func159 (by kernel_rfl) rfl #[.agg #[.int .i64 zb, .int .i64 zc, .int .i64 ze, .bool zh], .agg #[.int .u8 ((rd_T137 l0 zB).f0), .int .i64 ((rd_T137 l0 zB).f1), .int .i64 ((rd_T137 l0 zB).f2)]] (by rfl) rfl rfl (by (try simp only [List.map_toArray, List.map_cons, List.map_nil]); first|done|rfl|(simp only [List.length_drop, List.length_take]; rfl)) ?_
        with_reducible refine (spec_l30Step.calls zb zc ze zh ((rd_T137 l0 zB).f0) ((rd_T137 l0 zB).f1) ((rd_T137 l0 zB).f2) zw zy zQ zR false _ A13.out).mono ?_
        rintro e w152 ⟨rfl, hb⟩
        refine ⟨_, rfl, ?_⟩
        have n0_ := c9_ (Kd.R_below (by (with_reducible repeat (first|apply c2_|apply c3_|apply c4_));exact zK.out) hb)
        have n1_ := c9_ (Kd.N_below (by (with_reducible repeat (first|apply b8_|apply b9_|apply c1_));exact zg.out) hb)
        have n2_ := c9_ (c6_ (g := zk) (by exact zi.out) hb)
        have n3_ := c9_ (c6_ (g := zd) (by exact za.out) hb)
        have n4_ := c9_ (c6_ (g := zj) (by exact zm.out) hb)
        have n5_ := c9_ (below_step (by repeat (first|(with_reducible first|exact HB.out|apply b4_|apply b5_|apply b6_|refine b7_ ?_ zF.out|refine b7_ ?_ zJ.out|refine b7_ ?_ zL.out)|exact HB.out)) hb)
        clear zK
        clear zg
        clear zi
        clear za
        clear zm
        clear HB
        have zK := n0_
        have zg := n1_
        have zi := n2_
        have za := n3_
        have zm := n4_
        have HB := n5_
        clear n0_ n1_ n2_ n3_ n4_ n5_
        (try clear hb)
        (try clear hb2)
        (try clear hk)
        (try clear hi)
        refine hK.out _ _ ⟨(e1_ za.out 0).trans rfl, (e1_ za.out 1).trans rfl, (e1_ za.out 2).trans rfl, (e1_ za.out 3).trans rfl, (e1_ za.out 4).trans rfl, (e1_ za.out 5).trans rfl, (e1_ za.out 6).trans rfl, (e1_ za.out 7).trans rfl, ((HB.out.cell (c5_ w _ zP)).trans zP), ((HB.out.cell (c5_ w _ zO)).trans zO), ((HB.out.cell (c5_ w _ zN)).trans zN)⟩ (fun hHeld => ?_)
        clear hK K
        refine norm_ (a' := ?_) ?_ ?_
        rotate_left
        ·
         show Act.put _ (some 42) _ = _
         simp only [Act.put, d1_, d2_, d3_, i64_w, i32_w]
         rfl
        refine pure_ (i := 7) (N := some 35) (v := ?_) (a' := ?_) #[true, true, true, true, true, true, true, true, false, false, false, false, false] rfl rfl (any_of HT_.out (by kernel_rfl)) (fun _ _ _ h => h) (Or.inl ⟨by rfl, ?_⟩) ?_ ?_
        rotate_left
        ·
         intro w'
         go_simp
         with_reducible rfl
        rotate_left
        ·
         simp only [Act.put, d1_, d2_, d3_, i64_w, i32_w]
         rfl
        refine pure_ (i := 8) (N := some 43) (v := ?_) (a' := ?_) #[true, true, true, true, true, true, true, true, true, false, false, false, false] rfl rfl (any_of HT_.out (by kernel_rfl)) (fun _ _ _ h => h) (Or.inl ⟨by rfl, ?_⟩) ?_ ?_
        rotate_left
        ·
         intro w'
         go_simp
         with_reducible rfl
        rotate_left
        ·
         simp only [Act.put, d1_, d2_, d3_, i64_w, i32_w]
         rfl
        refine pure_ (i := 9) (N := some 44) (v := ?_) (a' := ?_) #[true, true, true, true, true, true, true, true, true, true, false, false, false] rfl rfl (any_of HT_.out (by kernel_rfl)) (fun _ _ _ h => h) (Or.inl ⟨by rfl, ?_⟩) ?_ ?_
        rotate_left
        ·
         intro w'
         go_simp
         with_reducible rfl
        rotate_left
        ·
         simp only [Act.put, d1_, d2_, d3_, i64_w, i32_w]
         rfl
        refine one_ (i := 10) (N := some 9) #[true, true, true, true, true, true, true, true, true, true, true, false, false] rfl rfl (one_of HT_.out (by kernel_rfl)) (by decide) (fun K hK => ?_)
        refine box_step ?hg (N := 9) ?hd (cs := #[.int .i64 0, .int .i64 0, .int .i64 0, .bool false]) (t := 75) ?hr ?_;(case hd => rfl);(case hg => rfl);(case hr => first|(go_simp; done)|(go_simp; rfl))
        intro zf hg w153 hbox hb
        have n0_ := c9_ (Kd.R_below (by (with_reducible repeat (first|apply c2_|apply c3_|apply c4_));exact zK.out) hb)
        have n1_ := c9_ (Kd.N_below (Kd.N_elderB (by (with_reducible repeat (first|apply b8_|apply b9_|apply c1_));exact zg.out) zf (Nat.le_of_eq hg.symm)) hb)
        have n2_ := c9_ (c6_ (g := zk) (by exact zi.out) hb)
        have n3_ := c9_ (c6_ (g := zd) (by exact za.out) hb)
        have n4_ := c9_ (c6_ (g := zj) (by exact zm.out) hb)
        have n5_ := c9_ (below_step (by repeat (first|(with_reducible first|exact HB.out|apply b4_|apply b5_|apply b6_|refine b7_ ?_ zF.out|refine b7_ ?_ zJ.out|refine b7_ ?_ zL.out)|exact HB.out)) hb)
        have n6_ := c9_ (hbox)
        have n7_ := c9_ ((by rw [hg];exact (e7_ (by repeat (first|(with_reducible first|exact HB.out|apply b4_|apply b5_|apply b6_|refine b7_ ?_ zF.out|refine b7_ ?_ zJ.out|refine b7_ ?_ zL.out)|exact HB.out))) : w.heap.size ≤ zf))
        have n8_ := c9_ ((by rw [hg];exact (e7_ (by repeat (first|(with_reducible first|exact HB.out|apply b4_|apply b5_|apply b6_|refine b7_ ?_ zF.out|refine b7_ ?_ zJ.out|refine b7_ ?_ zL.out)|exact HB.out))) : w.heap.size ≤ zf))
        have n9_ := c9_ ((by rw [hg];exact c8_ (blk_lt (g := zk) (by exact zi.out)) : zk ≠ zf))
        have n10_ := c9_ ((by rw [hg];exact Nat.ne_of_gt (blk_lt (g := zk) (by exact zi.out)) : zf ≠ zk))
        have n11_ := c9_ ((by rw [hg];exact c8_ (blk_lt (g := zd) (by exact za.out)) : zd ≠ zf))
        have n12_ := c9_ ((by rw [hg];exact Nat.ne_of_gt (blk_lt (g := zd) (by exact za.out)) : zf ≠ zd))
        have n13_ := c9_ ((by rw [hg];exact c8_ (blk_lt (g := zj) (by exact zm.out)) : zj ≠ zf))
        have n14_ := c9_ ((by rw [hg];exact Nat.ne_of_gt (blk_lt (g := zj) (by exact zm.out)) : zf ≠ zj))
        clear zK
        clear zg
        clear zi
        clear za
        clear zm
        clear HB
        have zK := n0_
        have zg := n1_
        have zi := n2_
        have za := n3_
        have zm := n4_
        have HB := n5_
        have zo := n6_
        have zG := n7_
        have zM := n8_
        have NB828_841 := n9_
        have NB841_828 := n10_
        have NB830_841 := n11_
        have NB841_830 := n12_
        have NB834_841 := n13_
        have NB841_834 := n14_
        clear n0_ n1_ n2_ n3_ n4_ n5_ n6_ n7_ n8_ n9_ n10_ n11_ n12_ n13_ n14_
        clear hb hbox hg
        refine hK.out _ _ ⟨(e1_ za.out 0).trans rfl, (e1_ za.out 1).trans rfl, (e1_ za.out 2).trans rfl, (e1_ za.out 3).trans rfl, (e1_ za.out 4).trans rfl, (e1_ za.out 5).trans rfl, (e1_ za.out 6).trans rfl, (e1_ za.out 7).trans rfl, ((HB.out.cell (c5_ w _ zP)).trans zP), ((HB.out.cell (c5_ w _ zO)).trans zO), ((HB.out.cell (c5_ w _ zN)).trans zN)⟩ (fun hHeld => ?_)
        clear hK K
        refine norm_ (a' := ?_) ?_ ?_
        rotate_left
        ·
         show Act.put _ (some 9) _ = _
         simp only [Act.put, d1_, d2_, d3_, i64_w, i32_w]
         rfl
        exact norm_ (by simp only [putAll, Act.put, List.setIfInBounds_toArray, List.set_cons_zero, List.set_cons_succ]) (hCont (zf) _ ⟨hHeld, (by (with_reducible repeat (first|apply c2_|apply c3_|apply c4_));exact zK.out), (by (with_reducible repeat (first|apply b8_|apply b9_|apply c1_));exact Kd.N_mono zg.out (fun _ hk => ⟨hk.1.1, ⟨hk.1.2.1, ⟨hk.1.2.2.1, ⟨hk.1.2.2.2.1, ⟨hk.1.2.2.2.2, hk.2⟩⟩⟩⟩⟩)), (by exact zi.out), (by exact za.out), (by exact zm.out), (by exact zo.out), zG.out, zM.out, NB828_841.out, NB841_828.out, NB830_841.out, NB841_830.out, NB834_841.out, NB841_834.out, (by repeat (first|(with_reducible first|exact HB.out|apply b4_|apply b5_|apply b6_|refine b7_ ?_ zF.out|refine b7_ ?_ zJ.out|refine b7_ ?_ zL.out|refine b7_ ?_ zM.out)|exact HB.out))⟩)
       ·
        skip
        refine box_step ?hg (N := 9) ?hd (cs := #[.int .i64 0, .int .i64 0, .int .i64 0, .bool false]) (t := 75) ?hr ?_;(case hd => rfl);(case hg => rfl);(case hr => first|(go_simp; done)|(go_simp; rfl))
        intro zf hg w152 hbox hb
        have n0_ := c9_ (Kd.R_below (by (with_reducible repeat (first|apply c2_|apply c3_|apply c4_));exact zK.out) hb)
        have n1_ := c9_ (Kd.N_below (Kd.N_elderB (by (with_reducible repeat (first|apply b8_|apply b9_|apply c1_));exact zg.out) zf (Nat.le_of_eq hg.symm)) hb)
        have n2_ := c9_ (c6_ (g := zk) (by exact zi.out) hb)
        have n3_ := c9_ (c6_ (g := zd) (by exact za.out) hb)
        have n4_ := c9_ (c6_ (g := zj) (by exact zm.out) hb)
        have n5_ := c9_ (below_step (by repeat (first|(with_reducible first|exact HB.out|apply b4_|apply b5_|apply b6_|refine b7_ ?_ zF.out|refine b7_ ?_ zJ.out|refine b7_ ?_ zL.out)|exact HB.out)) hb)
        have n6_ := c9_ (hbox)
        have n7_ := c9_ ((by rw [hg];exact (e7_ (by repeat (first|(with_reducible first|exact HB.out|apply b4_|apply b5_|apply b6_|refine b7_ ?_ zF.out|refine b7_ ?_ zJ.out|refine b7_ ?_ zL.out)|exact HB.out))) : w.heap.size ≤ zf))
        have n8_ := c9_ ((by rw [hg];exact (e7_ (by repeat (first|(with_reducible first|exact HB.out|apply b4_|apply b5_|apply b6_|refine b7_ ?_ zF.out|refine b7_ ?_ zJ.out|refine b7_ ?_ zL.out)|exact HB.out))) : w.heap.size ≤ zf))
        have n9_ := c9_ ((by rw [hg];exact c8_ (blk_lt (g := zk) (by exact zi.out)) : zk ≠ zf))
        have n10_ := c9_ ((by rw [hg];exact Nat.ne_of_gt (blk_lt (g := zk) (by exact zi.out)) : zf ≠ zk))
        have n11_ := c9_ ((by rw [hg];exact c8_ (blk_lt (g := zd) (by exact za.out)) : zd ≠ zf))
        have n12_ := c9_ ((by rw [hg];exact Nat.ne_of_gt (blk_lt (g := zd) (by exact za.out)) : zf ≠ zd))
        have n13_ := c9_ ((by rw [hg];exact c8_ (blk_lt (g := zj) (by exact zm.out)) : zj ≠ zf))
        have n14_ := c9_ ((by rw [hg];exact Nat.ne_of_gt (blk_lt (g := zj) (by exact zm.out)) : zf ≠ zj))
        clear zK
        clear zg
        clear zi
        clear za
        clear zm
        clear HB
        have zK := n0_
        have zg := n1_
        have zi := n2_
        have za := n3_
        have zm := n4_
        have HB := n5_
        have zo := n6_
        have zG := n7_
        have zM := n8_
        have NB828_841 := n9_
        have NB841_828 := n10_
        have NB830_841 := n11_
        have NB841_830 := n12_
        have NB834_841 := n13_
        have NB841_834 := n14_
        clear n0_ n1_ n2_ n3_ n4_ n5_ n6_ n7_ n8_ n9_ n10_ n11_ n12_ n13_ n14_
        clear hb hbox hg
        refine hK.out _ _ ⟨(e1_ za.out 0).trans rfl, (e1_ za.out 1).trans rfl, (e1_ za.out 2).trans rfl, (e1_ za.out 3).trans rfl, (e1_ za.out 4).trans rfl, (e1_ za.out 5).trans rfl, (e1_ za.out 6).trans rfl, (e1_ za.out 7).trans rfl, ((HB.out.cell (c5_ w _ zP)).trans zP), ((HB.out.cell (c5_ w _ zO)).trans zO), ((HB.out.cell (c5_ w _ zN)).trans zN)⟩ (fun hHeld => ?_)
        clear hK K
        refine norm_ (a' := ?_) ?_ ?_
        rotate_left
        ·
         show Act.put _ (some 9) _ = _
         simp only [Act.put, d1_, d2_, d3_, i64_w, i32_w]
         rfl
        refine one_ (i := 6) (N := some 42) #[true, true, true, true, true, true, true, false, false, false, true, false, false] rfl rfl (one_of HT_.out (by kernel_rfl)) (by decide) (fun K hK => ?_)
        refine goes_ Try.func159 (by kernel_rfl) rfl #[.agg #[.int .i64 zb, .int .i64 zc, .int .i64 ze, .bool zh], .agg #[.int .u8 ((rd_T137 l0 zB).f0), .int .i64 ((rd_T137 l0 zB).f1), .int .i64 ((rd_T137 l0 zB).f2)]] (by rfl) rfl rfl (by (try simp only [List.map_toArray, List.map_cons, List.map_nil]); first|done|rfl|(simp only [List.length_drop, List.length_take]; rfl)) ?_
        with_reducible refine (spec_l30Step.calls zb zc ze zh ((rd_T137 l0 zB).f0) ((rd_T137 l0 zB).f1) ((rd_T137 l0 zB).f2) zw zy zQ zR false _ A13.out).mono ?_
        rintro e w153 ⟨rfl, hb⟩
        refine ⟨_, rfl, ?_⟩
        have n0_ := c9_ (Kd.R_below (by (with_reducible repeat (first|apply c2_|apply c3_|apply c4_));exact zK.out) hb)
        have n1_ := c9_ (Kd.N_below (by (with_reducible repeat (first|apply b8_|apply b9_|apply c1_));exact zg.out) hb)
        have n2_ := c9_ (c6_ (g := zk) (by exact zi.out) hb)
        have n3_ := c9_ (c6_ (g := zd) (by exact za.out) hb)
        have n4_ := c9_ (c6_ (g := zj) (by exact zm.out) hb)
        have n5_ := c9_ (c6_ (g := zf) (by exact zo.out) hb)
        have n6_ := c9_ (below_step (by repeat (first|(with_reducible first|exact HB.out|apply b4_|apply b5_|apply b6_|refine b7_ ?_ zF.out|refine b7_ ?_ zJ.out|refine b7_ ?_ zL.out|refine b7_ ?_ zM.out)|exact HB.out)) hb)
        clear zK
        clear zg
        clear zi
        clear za
        clear zm
        clear zo
        clear HB
        have zK := n0_
        have zg := n1_
        have zi := n2_
        have za := n3_
        have zm := n4_
        have zo := n5_
        have HB := n6_
        clear n0_ n1_ n2_ n3_ n4_ n5_ n6_
        (try clear hb)
        (try clear hb2)
        (try clear hk)
        (try clear hi)
        refine hK.out _ _ ⟨(e1_ za.out 0).trans rfl, (e1_ za.out 1).trans rfl, (e1_ za.out 2).trans rfl, (e1_ za.out 3).trans rfl, (e1_ za.out 4).trans rfl, (e1_ za.out 5).trans rfl, (e1_ za.out 6).trans rfl, (e1_ za.out 7).trans rfl, ((HB.out.cell (c5_ w _ zP)).trans zP), ((HB.out.cell (c5_ w _ zO)).trans zO), ((HB.out.cell (c5_ w _ zN)).trans zN)⟩ (fun hHeld => ?_)
        clear hK K
        refine norm_ (a' := ?_) ?_ ?_
        rotate_left
        ·
         show Act.put _ (some 42) _ = _
         simp only [Act.put, d1_, d2_, d3_, i64_w, i32_w]
         rfl
        refine pure_ (i := 7) (N := some 35) (v := ?_) (a' := ?_) #[true, true, true, true, true, true, true, true, false, false, true, false, false] rfl rfl (any_of HT_.out (by kernel_rfl)) (fun _ _ _ h => h) (Or.inl ⟨by rfl, ?_⟩) ?_ ?_
        rotate_left
        ·
         intro w'
         go_simp
         with_reducible rfl
        rotate_left
        ·
         simp only [Act.put, d1_, d2_, d3_, i64_w, i32_w]
         rfl
        refine pure_ (i := 8) (N := some 43) (v := ?_) (a' := ?_) #[true, true, true, true, true, true, true, true, true, false, true, false, false] rfl rfl (any_of HT_.out (by kernel_rfl)) (fun _ _ _ h => h) (Or.inl ⟨by rfl, ?_⟩) ?_ ?_
        rotate_left
        ·
         intro w'
         go_simp
         with_reducible rfl
        rotate_left
        ·
         simp only [Act.put, d1_, d2_, d3_, i64_w, i32_w]
         rfl
        refine pure_ (i := 9) (N := some 44) (v := ?_) (a' := ?_) #[true, true, true, true, true, true, true, true, true, true, true, false, false] rfl rfl (any_of HT_.out (by kernel_rfl)) (fun _ _ _ h => h) (Or.inl ⟨by rfl, ?_⟩) ?_ ?_
        rotate_left
        ·
         intro w'
         go_simp
         with_reducible rfl
        rotate_left
        ·
         simp only [Act.put, d1_, d2_, d3_, i64_w, i32_w]
         rfl
        exact norm_ (by simp only [putAll, Act.put, List.setIfInBounds_toArray, List.set_cons_zero, List.set_cons_succ]) (hCont (zf) _ ⟨hHeld, (by (with_reducible repeat (first|apply c2_|apply c3_|apply c4_));exact zK.out), (by (with_reducible repeat (first|apply b8_|apply b9_|apply c1_));exact Kd.N_mono zg.out (fun _ hk => ⟨hk.1.1, ⟨hk.1.2.1, ⟨hk.1.2.2.1, ⟨hk.1.2.2.2.1, ⟨hk.1.2.2.2.2, hk.2⟩⟩⟩⟩⟩)), (by exact zi.out), (by exact za.out), (by exact zm.out), (by exact zo.out), zG.out, zM.out, NB828_841.out, NB841_828.out, NB830_841.out, NB841_830.out, NB834_841.out, NB841_834.out, (by repeat (first|(with_reducible first|exact HB.out|apply b4_|apply b5_|apply b6_|refine b7_ ?_ zF.out|refine b7_ ?_ zJ.out|refine b7_ ?_ zL.out|refine b7_ ?_ zM.out)|exact HB.out))⟩)
      rintro zf zZ ⟨hS_, h0_, h1_, h2_, h3_, h4_, h5_, h6_, h7_, h8_, h9_, h10_, h11_, h12_, h13_, h14_⟩
      have n0_ : Aside0 (Kd.R k90 90 zZ w.heap.size (fun k_ => (w.heap.size ≤ k_) ∧ k_ ≠ zj) u6 zT) := ⟨h0_⟩
      have n1_ : Aside0 (Kd.N k110 110 zZ w.heap.size (fun k_ => (w.heap.size ≤ k_) ∧ some k_ ≠ (u6 : Value).ownBlock ∧ k_ ≠ zk ∧ k_ ≠ zd ∧ k_ ≠ zj ∧ k_ ≠ zf) zE zl) := ⟨h1_⟩
      have n2_ : Aside0 (zZ.heap[zk]? = some (.cells #[.int .i64 zz, .int .i64 zx, .int .i64 zv, .bool zu, .slice none 0 0, .int .i64 zt, .int .i64 zs, .int .i64 zp] 153 (0, 0))) := ⟨h2_⟩
      have n3_ : Aside0 (zZ.heap[zd]? = some (.cells #[.int .i64 zb, .int .i64 zc, .int .i64 ze, .bool zh, zE, .int .i64 zr, .int .i64 zn, .int .i64 zq] 153 (0, 0))) := ⟨h3_⟩
      have n4_ : Aside0 (zZ.heap[zj]? = some (.cells #[.int .i64 zb, .int .i64 zc] 90 (0, 0))) := ⟨h4_⟩
      have n5_ : Aside0 (zZ.heap[zf]? = some (.cells #[.int .i64 0, .int .i64 0, .int .i64 0, .bool false] 75 (0, 0))) := ⟨h5_⟩
      have n6_ : Aside0 (w.heap.size ≤ zf) := ⟨h6_⟩
      have n7_ : Aside0 (w.heap.size ≤ zf) := ⟨h7_⟩
      have n8_ : Aside0 (zk ≠ zf) := ⟨h8_⟩
      have n9_ : Aside0 (zf ≠ zk) := ⟨h9_⟩
      have n10_ : Aside0 (zd ≠ zf) := ⟨h10_⟩
      have n11_ : Aside0 (zf ≠ zd) := ⟨h11_⟩
      have n12_ : Aside0 (zj ≠ zf) := ⟨h12_⟩
      have n13_ : Aside0 (zf ≠ zj) := ⟨h13_⟩
      have n14_ : Aside0 (Below w.heap.size w zZ) := ⟨h14_⟩
      clear zK
      clear zg
      clear zi
      clear za
      clear zm
      clear HB
      clear h0_ h1_ h2_ h3_ h4_ h5_ h6_ h7_ h8_ h9_ h10_ h11_ h12_ h13_ h14_
      have zK := n0_
      have zg := n1_
      have zi := n2_
      have za := n3_
      have zm := n4_
      have zo := n5_
      have zG := n6_
      have zM := n7_
      have NB828_841 := n8_
      have NB841_828 := n9_
      have NB830_841 := n10_
      have NB841_830 := n11_
      have NB834_841 := n12_
      have NB841_834 := n13_
      have HB := n14_
      clear n0_ n1_ n2_ n3_ n4_ n5_ n6_ n7_ n8_ n9_ n10_ n11_ n12_ n13_ n14_
      have hHeld : zZ.cell? ⟨zd, 0, none⟩ = some (.int .i64 zb) ∧ zZ.cell? ⟨zd, 1, none⟩ = some (.int .i64 zc) ∧ zZ.cell? ⟨zd, 2, none⟩ = some (.int .i64 ze) ∧ zZ.cell? ⟨zd, 3, none⟩ = some (.bool zh) ∧ zZ.cell? ⟨zd, 4, none⟩ = some (zE) ∧ zZ.cell? ⟨zd, 5, none⟩ = some (.int .i64 zr) ∧ zZ.cell? ⟨zd, 6, none⟩ = some (.int .i64 zn) ∧ zZ.cell? ⟨zd, 7, none⟩ = some (.int .i64 zq) ∧ zZ.cell? (zW.add ((zB).toNat * 3)) = some (.int .u8 ((rd_T137 l0 zB).f0)) ∧ zZ.cell? ⟨(zW.add ((zB).toNat * 3)).block, (zW.add ((zB).toNat * 3)).off + 1, none⟩ = some (.int .i64 ((rd_T137 l0 zB).f1)) ∧ zZ.cell? ⟨(zW.add ((zB).toNat * 3)).block, (zW.add ((zB).toNat * 3)).off + 2, none⟩ = some (.int .i64 ((rd_T137 l0 zB).f2)) := hS_
      refine norm_ (a' := ?_) ?_ ?_
      rotate_left
      ·
       simp only [putAll, Act.put, List.setIfInBounds_toArray, List.set_cons_zero, List.set_cons_succ]
       rfl
      refine one_ (i := 11) (N := none) #[true, true, true, true, true, true, true, true, true, true, true, true, false] rfl rfl (one_of HT_.out (by kernel_rfl)) (by decide) (fun K hK => ?_)
      have hs155 : zZ.cell? ⟨zf, 0, none⟩ = some (.int .i64 0) := (e1_ zo.out 0).trans rfl
      have hfs155 := e2_ zo.out 0
      have hns155_0 := NB828_841.out
      have hns155_1 := NB830_841.out
      have hns155_2 := NB834_841.out
      have hms155_0 := NB841_828.out
      have hms155_1 := NB841_830.out
      have hms155_2 := NB841_834.out
      have hs156 : zZ.cell? ⟨zf, 1, none⟩ = some (.int .i64 0) := (e1_ zo.out 1).trans rfl
      have hfs156 := e2_ zo.out 1
      have hns156_0 := NB828_841.out
      have hns156_1 := NB830_841.out
      have hns156_2 := NB834_841.out
      have hms156_0 := NB841_828.out
      have hms156_1 := NB841_830.out
      have hms156_2 := NB841_834.out
      have hs157 : zZ.cell? ⟨zf, 2, none⟩ = some (.int .i64 0) := (e1_ zo.out 2).trans rfl
      have hfs157 := e2_ zo.out 2
      have hns157_0 := NB828_841.out
      have hns157_1 := NB830_841.out
      have hns157_2 := NB834_841.out
      have hms157_0 := NB841_828.out
      have hms157_1 := NB841_830.out
      have hms157_2 := NB841_834.out
      have hs158 : zZ.cell? ⟨zf, 3, none⟩ = some (.bool false) := (e1_ zo.out 3).trans rfl
      have hfs158 := e2_ zo.out 3
      have hns158_0 := NB828_841.out
      have hns158_1 := NB830_841.out
      have hns158_2 := NB834_841.out
      have hms158_0 := NB841_828.out
      have hms158_1 := NB841_830.out
      have hms158_2 := NB841_834.out
      refine skip_ (w1 := ?_) (by rfl) rfl ?_ ?_
      rotate_left
      ·
       go_simp
       rfl
      refine hK.out _ _ ⟨((e4_ (p := ⟨zf, _, none⟩) NB830_841.out _).trans (((e4_ (p := ⟨zf, _, none⟩) NB830_841.out _).trans (((e4_ (p := ⟨zf, _, none⟩) NB830_841.out _).trans (((e4_ (p := ⟨zf, _, none⟩) NB830_841.out _).trans (hHeld.1)))))))), ((e4_ (p := ⟨zf, _, none⟩) NB830_841.out _).trans (((e4_ (p := ⟨zf, _, none⟩) NB830_841.out _).trans (((e4_ (p := ⟨zf, _, none⟩) NB830_841.out _).trans (((e4_ (p := ⟨zf, _, none⟩) NB830_841.out _).trans (hHeld.2.1)))))))), ((e4_ (p := ⟨zf, _, none⟩) NB830_841.out _).trans (((e4_ (p := ⟨zf, _, none⟩) NB830_841.out _).trans (((e4_ (p := ⟨zf, _, none⟩) NB830_841.out _).trans (((e4_ (p := ⟨zf, _, none⟩) NB830_841.out _).trans (hHeld.2.2.1)))))))), ((e4_ (p := ⟨zf, _, none⟩) NB830_841.out _).trans (((e4_ (p := ⟨zf, _, none⟩) NB830_841.out _).trans (((e4_ (p := ⟨zf, _, none⟩) NB830_841.out _).trans (((e4_ (p := ⟨zf, _, none⟩) NB830_841.out _).trans (hHeld.2.2.2.1)))))))), ((e4_ (p := ⟨zf, _, none⟩) NB830_841.out _).trans (((e4_ (p := ⟨zf, _, none⟩) NB830_841.out _).trans (((e4_ (p := ⟨zf, _, none⟩) NB830_841.out _).trans (((e4_ (p := ⟨zf, _, none⟩) NB830_841.out _).trans (hHeld.2.2.2.2.1)))))))), ((e4_ (p := ⟨zf, _, none⟩) NB830_841.out _).trans (((e4_ (p := ⟨zf, _, none⟩) NB830_841.out _).trans (((e4_ (p := ⟨zf, _, none⟩) NB830_841.out _).trans (((e4_ (p := ⟨zf, _, none⟩) NB830_841.out _).trans (hHeld.2.2.2.2.2.1)))))))), ((e4_ (p := ⟨zf, _, none⟩) NB830_841.out _).trans (((e4_ (p := ⟨zf, _, none⟩) NB830_841.out _).trans (((e4_ (p := ⟨zf, _, none⟩) NB830_841.out _).trans (((e4_ (p := ⟨zf, _, none⟩) NB830_841.out _).trans (hHeld.2.2.2.2.2.2.1)))))))), ((e4_ (p := ⟨zf, _, none⟩) NB830_841.out _).trans (((e4_ (p := ⟨zf, _, none⟩) NB830_841.out _).trans (((e4_ (p := ⟨zf, _, none⟩) NB830_841.out _).trans (((e4_ (p := ⟨zf, _, none⟩) NB830_841.out _).trans (hHeld.2.2.2.2.2.2.2.1)))))))), ((e4_ (p := ⟨zf, _, none⟩) (by have q_ := c5_ _ _ zP;(try rw [e3_] at q_);first|exact c8_ (c7_ q_ zG.out)|(rw [e3_];exact c8_ (c7_ q_ zG.out))|(show (Addr.add _ _).block ≠ _;rw [e3_];exact c8_ (c7_ q_ zG.out))|(dsimp only;exact c8_ (c7_ q_ zG.out))) _).trans (((e4_ (p := ⟨zf, _, none⟩) (by have q_ := c5_ _ _ zP;(try rw [e3_] at q_);first|exact c8_ (c7_ q_ zG.out)|(rw [e3_];exact c8_ (c7_ q_ zG.out))|(show (Addr.add _ _).block ≠ _;rw [e3_];exact c8_ (c7_ q_ zG.out))|(dsimp only;exact c8_ (c7_ q_ zG.out))) _).trans (((e4_ (p := ⟨zf, _, none⟩) (by have q_ := c5_ _ _ zP;(try rw [e3_] at q_);first|exact c8_ (c7_ q_ zG.out)|(rw [e3_];exact c8_ (c7_ q_ zG.out))|(show (Addr.add _ _).block ≠ _;rw [e3_];exact c8_ (c7_ q_ zG.out))|(dsimp only;exact c8_ (c7_ q_ zG.out))) _).trans (((e4_ (p := ⟨zf, _, none⟩) (by have q_ := c5_ _ _ zP;(try rw [e3_] at q_);first|exact c8_ (c7_ q_ zG.out)|(rw [e3_];exact c8_ (c7_ q_ zG.out))|(show (Addr.add _ _).block ≠ _;rw [e3_];exact c8_ (c7_ q_ zG.out))|(dsimp only;exact c8_ (c7_ q_ zG.out))) _).trans (hHeld.2.2.2.2.2.2.2.2.1)))))))), ((e4_ (p := ⟨zf, _, none⟩) (by have q_ := c5_ _ _ zO;(try rw [e3_] at q_);first|exact c8_ (c7_ q_ zG.out)|(rw [e3_];exact c8_ (c7_ q_ zG.out))|(show (Addr.add _ _).block ≠ _;rw [e3_];exact c8_ (c7_ q_ zG.out))|(dsimp only;exact c8_ (c7_ q_ zG.out))) _).trans (((e4_ (p := ⟨zf, _, none⟩) (by have q_ := c5_ _ _ zO;(try rw [e3_] at q_);first|exact c8_ (c7_ q_ zG.out)|(rw [e3_];exact c8_ (c7_ q_ zG.out))|(show (Addr.add _ _).block ≠ _;rw [e3_];exact c8_ (c7_ q_ zG.out))|(dsimp only;exact c8_ (c7_ q_ zG.out))) _).trans (((e4_ (p := ⟨zf, _, none⟩) (by have q_ := c5_ _ _ zO;(try rw [e3_] at q_);first|exact c8_ (c7_ q_ zG.out)|(rw [e3_];exact c8_ (c7_ q_ zG.out))|(show (Addr.add _ _).block ≠ _;rw [e3_];exact c8_ (c7_ q_ zG.out))|(dsimp only;exact c8_ (c7_ q_ zG.out))) _).trans (((e4_ (p := ⟨zf, _, none⟩) (by have q_ := c5_ _ _ zO;(try rw [e3_] at q_);first|exact c8_ (c7_ q_ zG.out)|(rw [e3_];exact c8_ (c7_ q_ zG.out))|(show (Addr.add _ _).block ≠ _;rw [e3_];exact c8_ (c7_ q_ zG.out))|(dsimp only;exact c8_ (c7_ q_ zG.out))) _).trans (hHeld.2.2.2.2.2.2.2.2.2.1)))))))), ((e4_ (p := ⟨zf, _, none⟩) (by have q_ := c5_ _ _ zN;(try rw [e3_] at q_);first|exact c8_ (c7_ q_ zG.out)|(rw [e3_];exact c8_ (c7_ q_ zG.out))|(show (Addr.add _ _).block ≠ _;rw [e3_];exact c8_ (c7_ q_ zG.out))|(dsimp only;exact c8_ (c7_ q_ zG.out))) _).trans (((e4_ (p := ⟨zf, _, none⟩) (by have q_ := c5_ _ _ zN;(try rw [e3_] at q_);first|exact c8_ (c7_ q_ zG.out)|(rw [e3_];exact c8_ (c7_ q_ zG.out))|(show (Addr.add _ _).block ≠ _;rw [e3_];exact c8_ (c7_ q_ zG.out))|(dsimp only;exact c8_ (c7_ q_ zG.out))) _).trans (((e4_ (p := ⟨zf, _, none⟩) (by have q_ := c5_ _ _ zN;(try rw [e3_] at q_);first|exact c8_ (c7_ q_ zG.out)|(rw [e3_];exact c8_ (c7_ q_ zG.out))|(show (Addr.add _ _).block ≠ _;rw [e3_];exact c8_ (c7_ q_ zG.out))|(dsimp only;exact c8_ (c7_ q_ zG.out))) _).trans (((e4_ (p := ⟨zf, _, none⟩) (by have q_ := c5_ _ _ zN;(try rw [e3_] at q_);first|exact c8_ (c7_ q_ zG.out)|(rw [e3_];exact c8_ (c7_ q_ zG.out))|(show (Addr.add _ _).block ≠ _;rw [e3_];exact c8_ (c7_ q_ zG.out))|(dsimp only;exact c8_ (c7_ q_ zG.out))) _).trans (hHeld.2.2.2.2.2.2.2.2.2.2))))))))⟩ (fun hHeld => ?_)
      clear hK K
      refine pure_ (i := 12) (N := some 10) (v := ?_) (a' := ?_) #[true, true, true, true, true, true, true, true, true, true, true, true, true] rfl rfl (any_of HT_.out (by kernel_rfl)) (fun _ _ _ h => h) (Or.inl ⟨by rfl, ?_⟩) ?_ ?_
      rotate_left
      ·
       intro w'
       go_simp
       with_reducible rfl
      rotate_left
      ·
       simp only [Act.put, d1_, d2_, d3_, i64_w, i32_w]
       rfl
      refine done_ (done_of HT_.out (by kernel_rfl)) ?_
      have hnb159 := NB828_841.out
      have hnc159 := NB841_828.out
      have hcz160_0 : zZ.cell? ⟨zk, 0, none⟩ = some (.int .i64 zz) := (e1_ zi.out 0).trans rfl
      have hcz160_1 : zZ.cell? ⟨zk, 1, none⟩ = some (.int .i64 zx) := (e1_ zi.out 1).trans rfl
      have hcz160_2 : zZ.cell? ⟨zk, 2, none⟩ = some (.int .i64 zv) := (e1_ zi.out 2).trans rfl
      have hcz160_3 : zZ.cell? ⟨zk, 3, none⟩ = some (.bool zu) := (e1_ zi.out 3).trans rfl
      have hcz160_4 : zZ.cell? ⟨zk, 4, none⟩ = some (.slice none 0 0) := (e1_ zi.out 4).trans rfl
      have hcz160_5 : zZ.cell? ⟨zk, 5, none⟩ = some (.int .i64 zt) := (e1_ zi.out 5).trans rfl
      have hcz160_6 : zZ.cell? ⟨zk, 6, none⟩ = some (.int .i64 zs) := (e1_ zi.out 6).trans rfl
      have hcz160_7 : zZ.cell? ⟨zk, 7, none⟩ = some (.int .i64 zp) := (e1_ zi.out 7).trans rfl
      have hfz160_0 := e2_ zi.out 0
      have hfz160_1 := e2_ zi.out 1
      have hfz160_2 := e2_ zi.out 2
      have hfz160_3 := e2_ zi.out 3
      have hfz160_4 := e2_ zi.out 4
      have hfz160_5 := e2_ zi.out 5
      have hfz160_6 := e2_ zi.out 6
      have hfz160_7 := e2_ zi.out 7
      try go_wp2
      refine bodyPost_ret (results_ct rfl _ _ zk 153 #[.int .i64 0, .int .i64 0, .int .i64 0, .bool false, .slice none 0 0, .int .i64 0, .int .i64 0, .int .i64 0] (0, 0) _ rfl (by (with_reducible repeat (first|refine b1_ ?_ _|refine b2_ ?_|refine b3_ ?_ _));refine blk_put (cs := #[.int .i64 0, .int .i64 0, .int .i64 0, .bool false, .slice none 0 0, .int .i64 0, .int .i64 0, .int .i64 zp]) ?_ 7 _ rfl;(with_reducible repeat (first|refine b1_ ?_ _|refine b2_ ?_|refine b3_ ?_ _));refine blk_put (cs := #[.int .i64 0, .int .i64 0, .int .i64 0, .bool false, .slice none 0 0, .int .i64 0, .int .i64 zs, .int .i64 zp]) ?_ 6 _ rfl;(with_reducible repeat (first|refine b1_ ?_ _|refine b2_ ?_|refine b3_ ?_ _));refine blk_put (cs := #[.int .i64 0, .int .i64 0, .int .i64 0, .bool false, .slice none 0 0, .int .i64 zt, .int .i64 zs, .int .i64 zp]) ?_ 5 _ rfl;(with_reducible repeat (first|refine b1_ ?_ _|refine b2_ ?_|refine b3_ ?_ _));refine blk_put (cs := #[.int .i64 0, .int .i64 0, .int .i64 0, .bool false, .slice none 0 0, .int .i64 zt, .int .i64 zs, .int .i64 zp]) ?_ 4 _ rfl;(with_reducible repeat (first|refine b1_ ?_ _|refine b2_ ?_|refine b3_ ?_ _));refine blk_put (cs := #[.int .i64 0, .int .i64 0, .int .i64 0, .bool zu, .slice none 0 0, .int .i64 zt, .int .i64 zs, .int .i64 zp]) ?_ 3 _ rfl;(with_reducible repeat (first|refine b1_ ?_ _|refine b2_ ?_|refine b3_ ?_ _));refine blk_put (cs := #[.int .i64 0, .int .i64 0, .int .i64 zv, .bool zu, .slice none 0 0, .int .i64 zt, .int .i64 zs, .int .i64 zp]) ?_ 2 _ rfl;(with_reducible repeat (first|refine b1_ ?_ _|refine b2_ ?_|refine b3_ ?_ _));refine blk_put (cs := #[.int .i64 0, .int .i64 zx, .int .i64 zv, .bool zu, .slice none 0 0, .int .i64 zt, .int .i64 zs, .int .i64 zp]) ?_ 1 _ rfl;(with_reducible repeat (first|refine b1_ ?_ _|refine b2_ ?_|refine b3_ ?_ _));refine blk_put (cs := #[.int .i64 zz, .int .i64 zx, .int .i64 zv, .bool zu, .slice none 0 0, .int .i64 zt, .int .i64 zs, .int .i64 zp]) ?_ 0 _ rfl;(with_reducible repeat (first|refine b1_ ?_ _|refine b2_ ?_|refine b3_ ?_ _));refine e5_ ?_ NB828_841.out _;(with_reducible repeat (first|refine b1_ ?_ _|refine b2_ ?_|refine b3_ ?_ _));refine e5_ ?_ NB828_841.out _;(with_reducible repeat (first|refine b1_ ?_ _|refine b2_ ?_|refine b3_ ?_ _));refine e5_ ?_ NB828_841.out _;(with_reducible repeat (first|refine b1_ ?_ _|refine b2_ ?_|refine b3_ ?_ _));refine e5_ ?_ NB828_841.out _;exact zi.out) Try.underlying153 rfl (by kernel_rfl)) rfl ?_
      exact ⟨_, by first|rfl|(simp [errW_none, errW_some] <;> rfl)|(simp [*, errW_none, errW_some] <;> rfl), by first|exact Kd.S_nil _ _ _ _ _|exact Kd.N_nil _ _ _ _ _|exact Kd.V_nil _ _ _ _ _|exact Kd.Q_nil _ _ _ _ _|exact Kd.R_nil _ _ _ _ _, by repeat (first|(with_reducible first|exact HB.out|apply b4_|apply b5_|apply b6_|refine b7_ ?_ zF.out|refine b7_ ?_ zJ.out|refine b7_ ?_ zL.out|refine b7_ ?_ zM.out)|exact HB.out)⟩
    ·
     rw [if_neg c11] at H
     have c11b0 : decide (zB < (l0.length : Int)) = false := decide_eq_false c11
     clear c11
     simp only [Option.some.injEq, Prod.mk.injEq] at H
     obtain ⟨rfl, rfl, rfl, rfl, rfl, rfl, rfl, rfl, rfl⟩ := H
     have hnb161 := NB830_828.out
     have hnc161 := NB828_830.out
     have hcz162_0 : wr.cell? ⟨zd, 0, none⟩ = some (.int .i64 zb) := (e1_ za.out 0).trans rfl
     have hcz162_1 : wr.cell? ⟨zd, 1, none⟩ = some (.int .i64 zc) := (e1_ za.out 1).trans rfl
     have hcz162_2 : wr.cell? ⟨zd, 2, none⟩ = some (.int .i64 ze) := (e1_ za.out 2).trans rfl
     have hcz162_3 : wr.cell? ⟨zd, 3, none⟩ = some (.bool zh) := (e1_ za.out 3).trans rfl
     have hcz162_4 : wr.cell? ⟨zd, 4, none⟩ = some (zE) := (e1_ za.out 4).trans rfl
     have hcz162_5 : wr.cell? ⟨zd, 5, none⟩ = some (.int .i64 zr) := (e1_ za.out 5).trans rfl
     have hcz162_6 : wr.cell? ⟨zd, 6, none⟩ = some (.int .i64 zn) := (e1_ za.out 6).trans rfl
     have hcz162_7 : wr.cell? ⟨zd, 7, none⟩ = some (.int .i64 zq) := (e1_ za.out 7).trans rfl
     have hfz162_0 := e2_ za.out 0
     have hfz162_1 := e2_ za.out 1
     have hfz162_2 := e2_ za.out 2
     have hfz162_3 := e2_ za.out 3
     have hfz162_4 := e2_ za.out 4
     have hfz162_5 := e2_ za.out 5
     have hfz162_6 := e2_ za.out 6
     have hfz162_7 := e2_ za.out 7
     have hcz163_0 : wr.cell? ⟨zk, 0, none⟩ = some (.int .i64 zz) := (e1_ zi.out 0).trans rfl
     have hcz163_1 : wr.cell? ⟨zk, 1, none⟩ = some (.int .i64 zx) := (e1_ zi.out 1).trans rfl
     have hcz163_2 : wr.cell? ⟨zk, 2, none⟩ = some (.int .i64 zv) := (e1_ zi.out 2).trans rfl
     have hcz163_3 : wr.cell? ⟨zk, 3, none⟩ = some (.bool zu) := (e1_ zi.out 3).trans rfl
     have hcz163_4 : wr.cell? ⟨zk, 4, none⟩ = some (.slice none 0 0) := (e1_ zi.out 4).trans rfl
     have hcz163_5 : wr.cell? ⟨zk, 5, none⟩ = some (.int .i64 zt) := (e1_ zi.out 5).trans rfl
     have hcz163_6 : wr.cell? ⟨zk, 6, none⟩ = some (.int .i64 zs) := (e1_ zi.out 6).trans rfl
     have hcz163_7 : wr.cell? ⟨zk, 7, none⟩ = some (.int .i64 zp) := (e1_ zi.out 7).trans rfl
     have hfz163_0 := e2_ zi.out 0
     have hfz163_1 := e2_ zi.out 1
     have hfz163_2 := e2_ zi.out 2
     have hfz163_3 := e2_ zi.out 3
     have hfz163_4 := e2_ zi.out 4
     have hfz163_5 := e2_ zi.out 5
     have hfz163_6 := e2_ zi.out 6
     have hfz163_7 := e2_ zi.out 7
     obtain ⟨Ao164, co164, eo164⟩ := Kd.N_slice zg.out
     subst eo164
     go_wp2
     refine bodyPost_ret (results_ct rfl _ _ zk 153 #[.int .i64 zb, .int .i64 zc, .int .i64 ze, .bool zh, .slice Ao164 zl.length co164, .int .i64 zr, .int .i64 zn, .int .i64 zq] (0, 0) _ rfl (by (with_reducible repeat (first|refine b1_ ?_ _|refine b2_ ?_|refine b3_ ?_ _));refine blk_put (cs := #[.int .i64 zb, .int .i64 zc, .int .i64 ze, .bool zh, .slice Ao164 zl.length co164, .int .i64 zr, .int .i64 zn, .int .i64 zp]) ?_ 7 _ rfl;(with_reducible repeat (first|refine b1_ ?_ _|refine b2_ ?_|refine b3_ ?_ _));refine blk_put (cs := #[.int .i64 zb, .int .i64 zc, .int .i64 ze, .bool zh, .slice Ao164 zl.length co164, .int .i64 zr, .int .i64 zs, .int .i64 zp]) ?_ 6 _ rfl;(with_reducible repeat (first|refine b1_ ?_ _|refine b2_ ?_|refine b3_ ?_ _));refine blk_put (cs := #[.int .i64 zb, .int .i64 zc, .int .i64 ze, .bool zh, .slice Ao164 zl.length co164, .int .i64 zt, .int .i64 zs, .int .i64 zp]) ?_ 5 _ rfl;(with_reducible repeat (first|refine b1_ ?_ _|refine b2_ ?_|refine b3_ ?_ _));refine blk_put (cs := #[.int .i64 zb, .int .i64 zc, .int .i64 ze, .bool zh, .slice none 0 0, .int .i64 zt, .int .i64 zs, .int .i64 zp]) ?_ 4 _ rfl;(with_reducible repeat (first|refine b1_ ?_ _|refine b2_ ?_|refine b3_ ?_ _));refine blk_put (cs := #[.int .i64 zb, .int .i64 zc, .int .i64 ze, .bool zu, .slice none 0 0, .int .i64 zt, .int .i64 zs, .int .i64 zp]) ?_ 3 _ rfl;(with_reducible repeat (first|refine b1_ ?_ _|refine b2_ ?_|refine b3_ ?_ _));refine blk_put (cs := #[.int .i64 zb, .int .i64 zc, .int .i64 zv, .bool zu, .slice none 0 0, .int .i64 zt, .int .i64 zs, .int .i64 zp]) ?_ 2 _ rfl;(with_reducible repeat (first|refine b1_ ?_ _|refine b2_ ?_|refine b3_ ?_ _));refine blk_put (cs := #[.int .i64 zb, .int .i64 zx, .int .i64 zv, .bool zu, .slice none 0 0, .int .i64 zt, .int .i64 zs, .int .i64 zp]) ?_ 1 _ rfl;(with_reducible repeat (first|refine b1_ ?_ _|refine b2_ ?_|refine b3_ ?_ _));refine blk_put (cs := #[.int .i64 zz, .int .i64 zx, .int .i64 zv, .bool zu, .slice none 0 0, .int .i64 zt, .int .i64 zs, .int .i64 zp]) ?_ 0 _ rfl;exact zi.out) Try.underlying153 rfl (by kernel_rfl)) rfl ?_
     exact ⟨_, by first|rfl|(simp [errW_none, errW_some] <;> rfl)|(simp [*, errW_none, errW_some] <;> rfl), by (with_reducible repeat (first|apply b8_|apply b9_|apply c1_));exact Kd.N_mono (Kd.N_far (p := ⟨zk, 7, none⟩) (Kd.N_far (p := ⟨zk, 6, none⟩) (Kd.N_far (p := ⟨zk, 5, none⟩) (Kd.N_far (p := ⟨zk, 4, none⟩) (Kd.N_far (p := ⟨zk, 3, none⟩) (Kd.N_far (p := ⟨zk, 2, none⟩) (Kd.N_far (p := ⟨zk, 1, none⟩) (Kd.N_far (p := ⟨zk, 0, none⟩) (Kd.N_mono zg.out (fun k_ hk => (⟨hk, hk.2.2.1⟩ : _ ∧ k_ ≠ zk))) (fun _ hk => hk.2) (.int .i64 zb)) (fun _ hk => hk.2) (.int .i64 zc)) (fun _ hk => hk.2) (.int .i64 ze)) (fun _ hk => hk.2) (.bool zh)) (fun _ hk => hk.2) (.slice Ao164 zl.length co164)) (fun _ hk => hk.2) (.int .i64 zr)) (fun _ hk => hk.2) (.int .i64 zn)) (fun _ hk => hk.2) (.int .i64 zq)) (fun _ hk => hk.1.1), by repeat (first|(with_reducible first|exact HB.out|apply b4_|apply b5_|apply b6_|refine b7_ ?_ zF.out|refine b7_ ?_ zJ.out)|exact HB.out)⟩
 ·
  rw [if_neg c3] at H
  have c3b0 : (t829 == 0) = false := beq_eq_false_iff_ne.mpr c3
  have c3b1 : (t829 != 0) = true := bne_iff_ne.mpr c3
  simp only [Option.some.injEq, Prod.mk.injEq] at H
  obtain ⟨rfl, rfl, rfl, rfl, rfl, rfl, rfl, rfl, rfl⟩ := H
  go_enter Try.func111, Try.ntmps111
  go_wp2_with (first|((with_reducible refine gate_dst (N := 2) rfl ?_);(try (refine gate_guard (by rfl) ?_; dsimp only));refine box_event ?hg (N := 2) ?hd (cs := #[.int .i64 0, .int .i64 0, .int .i64 0, .bool false, .slice none 0 0, .int .i64 0, .int .i64 0, .int .i64 0]) (t := 153) ?hr ?_;(case hd => rfl);(case hg => rfl);(case hr => first|(go_simp; done)|(go_simp; rfl)); intro zk hg w165 hbox hb;have n0_ := c9_ (below_step (by repeat (first|(with_reducible first|exact HB.out|apply b4_|apply b5_|apply b6_)|exact HB.out)) hb);have n1_ := c9_ (hbox);have n2_ := c9_ ((by rw [hg];exact (e7_ (by repeat (first|(with_reducible first|exact HB.out|apply b4_|apply b5_|apply b6_)|exact HB.out))) : w.heap.size ≤ zk));have n3_ := c9_ ((by rw [hg];exact (e7_ (by repeat (first|(with_reducible first|exact HB.out|apply b4_|apply b5_|apply b6_)|exact HB.out))) : w.heap.size ≤ zk));clear HB;have HB := n0_;have zi := n1_;have GW828 := n2_;have zF := n3_;clear n0_ n1_ n2_ n3_;clear hb hbox hg)|((with_reducible refine gate_callee (f := 88) rfl ?_);refine goesL_ (some 15) rfl rfl Try.func88 (by kernel_rfl) rfl #[.slice A0 l0.length c0] rfl (by (try simp only [List.map_toArray, List.map_cons, List.map_nil]); first|done|rfl|(simp only [List.length_drop, List.length_take]; rfl)) ?_;(with_reducible refine (spec_l29Code.calls k _ _ l0 t829 _ ?side1 ?side2 A2.out).mono ?_);(case side1 => repeat (first|exact (Kd.C_below HR0.out HB.out)|(with_reducible refine Kd.C_alloc ?_ _)|(with_reducible refine Kd.C_drewN ?_ _)|(with_reducible refine Kd.C_drew ?_)));(case side2 => exact HC0.out); rintro e w166 ⟨rfl, hb⟩;refine ⟨_, rfl, ?_⟩;have n0_ := c9_ (c6_ (g := zk) (by exact zi.out) hb);have n1_ := c9_ (below_step (by repeat (first|(with_reducible first|exact HB.out|apply b4_|apply b5_|apply b6_|refine b7_ ?_ zF.out)|exact HB.out)) hb);clear zi;clear HB;have zi := n0_;have HB := n1_;clear n0_ n1_;(try clear hb);(try clear hb2);(try clear hk);(try clear hi);have hcz167_0 : w166.cell? ⟨zk, 0, none⟩ = some (.int .i64 0) := (e1_ zi.out 0).trans rfl;have hcz167_1 : w166.cell? ⟨zk, 1, none⟩ = some (.int .i64 0) := (e1_ zi.out 1).trans rfl;have hcz167_2 : w166.cell? ⟨zk, 2, none⟩ = some (.int .i64 0) := (e1_ zi.out 2).trans rfl;have hcz167_3 : w166.cell? ⟨zk, 3, none⟩ = some (.bool false) := (e1_ zi.out 3).trans rfl;have hcz167_4 : w166.cell? ⟨zk, 4, none⟩ = some (.slice none 0 0) := (e1_ zi.out 4).trans rfl;have hcz167_5 : w166.cell? ⟨zk, 5, none⟩ = some (.int .i64 0) := (e1_ zi.out 5).trans rfl;have hcz167_6 : w166.cell? ⟨zk, 6, none⟩ = some (.int .i64 0) := (e1_ zi.out 6).trans rfl;have hcz167_7 : w166.cell? ⟨zk, 7, none⟩ = some (.int .i64 0) := (e1_ zi.out 7).trans rfl;have hfz167_0 := e2_ zi.out 0;have hfz167_1 := e2_ zi.out 1;have hfz167_2 := e2_ zi.out 2;have hfz167_3 := e2_ zi.out 3;have hfz167_4 := e2_ zi.out 4;have hfz167_5 := e2_ zi.out 5;have hfz167_6 := e2_ zi.out 6;have hfz167_7 := e2_ zi.out 7))
  refine bodyPost_ret (results_ct rfl _ _ zk 153 #[.int .i64 0, .int .i64 0, .int .i64 0, .bool false, .slice none 0 0, .int .i64 0, .int .i64 0, .int .i64 0] (0, 0) _ rfl (by (with_reducible repeat (first|refine b1_ ?_ _|refine b2_ ?_|refine b3_ ?_ _));refine blk_put (cs := #[.int .i64 0, .int .i64 0, .int .i64 0, .bool false, .slice none 0 0, .int .i64 0, .int .i64 0, .int .i64 0]) ?_ 7 _ rfl;(with_reducible repeat (first|refine b1_ ?_ _|refine b2_ ?_|refine b3_ ?_ _));refine blk_put (cs := #[.int .i64 0, .int .i64 0, .int .i64 0, .bool false, .slice none 0 0, .int .i64 0, .int .i64 0, .int .i64 0]) ?_ 6 _ rfl;(with_reducible repeat (first|refine b1_ ?_ _|refine b2_ ?_|refine b3_ ?_ _));refine blk_put (cs := #[.int .i64 0, .int .i64 0, .int .i64 0, .bool false, .slice none 0 0, .int .i64 0, .int .i64 0, .int .i64 0]) ?_ 5 _ rfl;(with_reducible repeat (first|refine b1_ ?_ _|refine b2_ ?_|refine b3_ ?_ _));refine blk_put (cs := #[.int .i64 0, .int .i64 0, .int .i64 0, .bool false, .slice none 0 0, .int .i64 0, .int .i64 0, .int .i64 0]) ?_ 4 _ rfl;(with_reducible repeat (first|refine b1_ ?_ _|refine b2_ ?_|refine b3_ ?_ _));refine blk_put (cs := #[.int .i64 0, .int .i64 0, .int .i64 0, .bool false, .slice none 0 0, .int .i64 0, .int .i64 0, .int .i64 0]) ?_ 3 _ rfl;(with_reducible repeat (first|refine b1_ ?_ _|refine b2_ ?_|refine b3_ ?_ _));refine blk_put (cs := #[.int .i64 0, .int .i64 0, .int .i64 0, .bool false, .slice none 0 0, .int .i64 0, .int .i64 0, .int .i64 0]) ?_ 2 _ rfl;(with_reducible repeat (first|refine b1_ ?_ _|refine b2_ ?_|refine b3_ ?_ _));refine blk_put (cs := #[.int .i64 0, .int .i64 0, .int .i64 0, .bool false, .slice none 0 0, .int .i64 0, .int .i64 0, .int .i64 0]) ?_ 1 _ rfl;(with_reducible repeat (first|refine b1_ ?_ _|refine b2_ ?_|refine b3_ ?_ _));refine blk_put (cs := #[.int .i64 0, .int .i64 0, .int .i64 0, .bool false, .slice none 0 0, .int .i64 0, .int .i64 0, .int .i64 0]) ?_ 0 _ rfl;exact zi.out) Try.underlying153 rfl (by kernel_rfl)) rfl ?_
  exact ⟨_, by first|rfl|(simp [errW_none, errW_some] <;> rfl)|(simp [*, errW_none, errW_some] <;> rfl), by first|exact Kd.S_nil _ _ _ _ _|exact Kd.N_nil _ _ _ _ _|exact Kd.V_nil _ _ _ _ _|exact Kd.Q_nil _ _ _ _ _|exact Kd.R_nil _ _ _ _ _, by repeat (first|(with_reducible first|exact HB.out|apply b4_|apply b5_|apply b6_|refine b7_ ?_ zF.out)|exact HB.out)⟩

end Go.Proofs.Ytgpdjpololkhbaa.F
