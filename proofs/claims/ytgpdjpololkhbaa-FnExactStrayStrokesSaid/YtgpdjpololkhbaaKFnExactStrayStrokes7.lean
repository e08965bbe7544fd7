/-
  FnExactStrayStrokes: the law returns true for every input and leaves its arguments as they were (the last theorem here). No condition.
-/
import Derived.Test.YtgpdjpololkhbaaRows
import Derived.ProofKit
import Derived.OpenShut
import Derived.ShutString
import Derived.ChangeOld
import Derived.Test.YtgpdjpololkhbaaKFnExactStrayStrokes6

namespace Go.Proofs.Ytgpdjpololkhbaa.Pure
open Go.RowKit Go.Proofs.Ytgpdjpololkhbaa.F Go.Proofs.YtgpdjpololkhbaaW.PrintWords Go.Proofs.YtgpdjpololkhbaaW.PrintLast Go.Proofs.YtgpdjpololkhbaaW.PrintMore Go.Proofs.YtgpdjpololkhbaaB
set_option linter.unusedVariables false
set_option linter.unusedSimpArgs false
set_option maxHeartbeats 8000000 in
set_option maxRecDepth 100000 in
theorem early1_FnExactStrayStrokes (A0 : Option Addr) (c0 : Nat) (l0 : List S106) (A1 : Option Addr) (c1 : Nat) (l1 : List S169) (a2 : Int) (n0 : Int) (n1 : Int) (w : World) (hr0 : Kd.C k106 w A0 l0.length l0) (hc0 : l0.length ≤ c0) (hr1 : Kd.C k169 w A1 l1.length l1) (hc1 : l1.length ≤ c1) (Hsz0 : Ev (fun k => laws_szStrokeS.f k l0 1048576) n0) (Hn0 : 0 ≤ n0) (Hsz1 : Ev (fun k => laws_szCurveS.f k l1 n0) n1) (Hn1 : n1 < 0) :
    Calls Try.prog 13 #[.slice A0 l0.length c0, .slice A1 l1.length c1, .int .i64 a2] w fun e w' => e = .returned (.bool true) ∧ Below w.heap.size w w' := by
  have HB := Aside0.mk (Below.refl w.heap.size w)
  have HR0 := Aside0.mk hr0
  have HC0 := Aside0.mk hc0
  clear hr0 hc0
  have HR1 := Aside0.mk hr1
  have HC1 := Aside0.mk hc1
  clear hr1 hc1
  have QHsz0 := Aside0.mk Hsz0
  clear Hsz0
  have QHsz1 := Aside0.mk Hsz1
  clear Hsz1
  go_enter Try.func13, Try.ntmps13
  go_wp2_with fail
  refine (SZ_StrokeS A0 c0 l0 1048576 n0 _ (Kd.C_below HR0.out HB.out) HC0.out QHsz0.out).mono ?_
  rintro e w1 ⟨rfl, hb⟩
  have n_ := Aside0.mk (HB.out.trans (hb.mono HB.out.size))
  clear HB hb
  have HB := n_
  clear n_
  go_wp2_with fail
  refine (SZ_CurveS A1 c1 l1 n0 n1 _ (Kd.C_below HR1.out HB.out) HC1.out QHsz1.out).mono ?_
  rintro e w2 ⟨rfl, hb⟩
  have n_ := Aside0.mk (HB.out.trans (hb.mono HB.out.size))
  clear HB hb
  have HB := n_
  clear n_
  go_wp2
  go_ret
  exact ⟨rfl, HB.out⟩
set_option maxHeartbeats 8000000 in
set_option maxRecDepth 100000 in
theorem early0_FnExactStrayStrokes (A0 : Option Addr) (c0 : Nat) (l0 : List S106) (A1 : Option Addr) (c1 : Nat) (l1 : List S169) (a2 : Int) (n0 : Int) (w : World) (hr0 : Kd.C k106 w A0 l0.length l0) (hc0 : l0.length ≤ c0) (hr1 : Kd.C k169 w A1 l1.length l1) (hc1 : l1.length ≤ c1) (Hsz0 : Ev (fun k => laws_szStrokeS.f k l0 1048576) n0) (Hn0 : n0 < 0) :
    Calls Try.prog 13 #[.slice A0 l0.length c0, .slice A1 l1.length c1, .int .i64 a2] w fun e w' => e = .returned (.bool true) ∧ Below w.heap.size w w' := by
  have HB := Aside0.mk (Below.refl w.heap.size w)
  have HR0 := Aside0.mk hr0
  have HC0 := Aside0.mk hc0
  clear hr0 hc0
  have HR1 := Aside0.mk hr1
  have HC1 := Aside0.mk hc1
  clear hr1 hc1
  have QHsz0 := Aside0.mk Hsz0
  clear Hsz0
  go_enter Try.func13, Try.ntmps13
  go_wp2_with fail
  refine (SZ_StrokeS A0 c0 l0 1048576 n0 _ (Kd.C_below HR0.out HB.out) HC0.out QHsz0.out).mono ?_
  rintro e w1 ⟨rfl, hb⟩
  have n_ := Aside0.mk (HB.out.trans (hb.mono HB.out.size))
  clear HB hb
  have HB := n_
  clear n_
  go_wp2
  go_ret
  exact ⟨rfl, HB.out⟩
set_option maxHeartbeats 8000000 in
set_option maxRecDepth 100000 in
theorem walk_FnExactStrayStrokes (A0 : Option Addr) (c0 : Nat) (l0 : List S106) (x0 : List S110) (n0 : Int) (A1 : Option Addr) (c1 : Nat) (l1 : List S169) (x1 : List S172) (n1 : Int) (a2 : Int) (r0 : List Int) (r1 : Int) (ya0 : List S110) (ma0 : Int) (ya1 : List S172) (ma1 : Int) (yr0 : List Int) (mr0 : Int) (w : World) (hr0 : Kd.C k106 w A0 l0.length l0) (hc0 : l0.length ≤ c0) (hr1 : Kd.C k169 w A1 l1.length l1) (hc1 : l1.length ≤ c1) (Hsz0 : Ev (fun k => laws_szStrokeS.f k l0 1048576) n0) (Hn0 : 0 ≤ n0) (Hsz1 : Ev (fun k => laws_szCurveS.f k l1 n0) n1) (Hn1 : 0 ≤ n1) (Ht0 : Ev (fun k => laws_toStrokeS.f k l0) x0) (Hx0 : Ev (fun k => laws_eqStrokeS.f k x0 x0) true) (Ht1 : Ev (fun k => laws_toCurveS.f k l1) x1) (Hx1 : Ev (fun k => laws_eqCurveS.f k x1 x1) true) (Hs : Ev (fun k => spec_StrayStrokes.f k x0 x1 a2) (r0, r1)) (Hi : Ev (fun k => impl_StrayStrokes.f k x0 x1 a2) (r0, r1)) (He0 : Ev (fun k => laws_eqInt64S.f k r0 r0) true) (Hma0 : MarkSt x0 ya0 1 ma0) (Hmn0 : 0 ≤ ma0) (Hma1 : MarkCv x1 ya1 ma0 ma1) (Hmn1 : 0 ≤ ma1) (Hmr0 : Ev (fun k => laws_markInt64S.f k r0 1) (mr0, yr0)) (Hrn0 : 0 ≤ mr0) (Hl0 : yr0.length = r0.length) (Hh0 : Ev (fun k => laws_heldInt64S.f k yr0 1) mr0) :
    Calls Try.prog 13 #[.slice A0 l0.length c0, .slice A1 l1.length c1, .int .i64 a2] w fun e w' => e = .returned (.bool true) ∧ Below w.heap.size w w' := by
  have HB := Aside0.mk (Below.refl w.heap.size w)
  have HR0 := Aside0.mk hr0
  have HC0 := Aside0.mk hc0
  clear hr0 hc0
  have HR1 := Aside0.mk hr1
  have HC1 := Aside0.mk hc1
  clear hr1 hc1
  have QHsz0 := Aside0.mk Hsz0
  clear Hsz0
  have QHsz1 := Aside0.mk Hsz1
  clear Hsz1
  have QHt0 := Aside0.mk Ht0
  clear Ht0
  have QHx0 := Aside0.mk Hx0
  clear Hx0
  have QHt1 := Aside0.mk Ht1
  clear Ht1
  have QHx1 := Aside0.mk Hx1
  clear Hx1
  have QHs := Aside0.mk Hs
  clear Hs
  have QHi := Aside0.mk Hi
  clear Hi
  have QHe0 := Aside0.mk He0
  clear He0
  have QHma0 := Aside0.mk Hma0
  clear Hma0
  have QHma1 := Aside0.mk Hma1
  clear Hma1
  have QHmr0 := Aside0.mk Hmr0
  clear Hmr0
  have QHl0 := Aside0.mk Hl0
  clear Hl0
  have QHh0 := Aside0.mk Hh0
  clear Hh0
  have hcc : ∀ r : Int, (r != r) = false := fun r => by simp
  go_enter Try.func13, Try.ntmps13
  go_wp2_with fail
  refine (SZ_StrokeS A0 c0 l0 1048576 n0 _ (Kd.C_below HR0.out HB.out) HC0.out QHsz0.out).mono ?_
  rintro e w1 ⟨rfl, hb⟩
  have HZ2 := Aside0.mk hb.size
  have n_ := Aside0.mk (HB.out.trans (hb.mono HB.out.size))
  clear HB hb
  have HB := n_
  clear n_
  go_wp2_with fail
  refine (SZ_CurveS A1 c1 l1 n0 n1 _ (Kd.C_below HR1.out HB.out) HC1.out QHsz1.out).mono ?_
  rintro e w3 ⟨rfl, hb⟩
  have HZ4 := Aside0.mk hb.size
  have n_ := Aside0.mk (HB.out.trans (hb.mono HB.out.size))
  clear HB hb
  have HB := n_
  clear n_
  go_wp2_with fail
  refine (TO_StrokeS A0 c0 l0 x0 _ (Kd.C_below HR0.out HB.out) HC0.out QHt0.out).mono ?_
  rintro e w5 ⟨B6, d6, rfl, hO, hb⟩
  have HZ7 := Aside0.mk hb.size
  have n_ := Aside0.mk (HB.out.trans (hb.mono HB.out.size))
  clear HB hb
  have HB := n_
  clear n_
  have HO6 := Aside0.mk hO
  clear hO
  go_wp2_with fail
  refine (TO_CurveS A1 c1 l1 x1 _ (Kd.C_below HR1.out HB.out) HC1.out QHt1.out).mono ?_
  rintro e w8 ⟨B9, d9, rfl, hO, hb⟩
  have n_ := Aside0.mk (Kd.S_below HO6.out hb)
  clear HO6
  have HO6 := n_
  clear n_
  have HZ10 := Aside0.mk hb.size
  have n_ := Aside0.mk (HB.out.trans (hb.mono HB.out.size))
  clear HB hb
  have HB := n_
  clear n_
  have HO9 := Aside0.mk hO
  clear hO
  go_wp2_with fail
  obtain ⟨kHs12, hHs12⟩ := QHs.out.rounds
  refine (spec_StrayStrokes.calls kHs12 B6 d6 x0 B9 d9 x1 a2 r0 r1 _ (Kd.S_reads' HO6.out).2.2 (Kd.S_reads' HO6.out).2.1 (Kd.S_reads' HO9.out).2.2 (Kd.S_reads' HO9.out).2.1 hHs12).mono ?_
  clear hHs12
  rintro e w11 ⟨v12_0, rfl, ho12_0, hb⟩
  obtain ⟨Bv12_0, dv12_0, rfl⟩ := Kd.R_slice ho12_0
  have HO12 := Aside0.mk (Kd.R_mono (Kd.R_bound ho12_0) (ok' := fun k_ => w8.heap.size ≤ k_ ∧ k_ < w11.heap.size) (fun k_ h_ => ⟨h_.2.1, h_.2.2.1⟩))
  clear ho12_0
  have n_ := Aside0.mk (Kd.S_below HO6.out hb)
  clear HO6
  have HO6 := n_
  clear n_
  have n_ := Aside0.mk (Kd.S_below HO9.out hb)
  clear HO9
  have HO9 := n_
  clear n_
  have HZ13 := Aside0.mk hb.size
  have n_ := Aside0.mk (HB.out.trans (hb.mono HB.out.size))
  clear HB hb
  have HB := n_
  clear n_
  go_wp2_with fail
  clear HO6
  clear HO9
  refine (TO_StrokeS A0 c0 l0 x0 _ (Kd.C_below HR0.out HB.out) HC0.out QHt0.out).mono ?_
  rintro e w14 ⟨B15, d15, rfl, hO, hb⟩
  have n_ := Aside0.mk (Kd.R_below HO12.out hb)
  clear HO12
  have HO12 := n_
  clear n_
  have HZ16 := Aside0.mk hb.size
  have n_ := Aside0.mk (HB.out.trans (hb.mono HB.out.size))
  clear HB hb
  have HB := n_
  clear n_
  have HO15 := Aside0.mk hO
  clear hO
  go_wp2_with fail
  refine (TO_CurveS A1 c1 l1 x1 _ (Kd.C_below HR1.out HB.out) HC1.out QHt1.out).mono ?_
  rintro e w17 ⟨B18, d18, rfl, hO, hb⟩
  have n_ := Aside0.mk (Kd.R_below HO12.out hb)
  clear HO12
  have HO12 := n_
  clear n_
  have n_ := Aside0.mk (Kd.S_below HO15.out hb)
  clear HO15
  have HO15 := n_
  clear n_
  have HZ19 := Aside0.mk hb.size
  have n_ := Aside0.mk (HB.out.trans (hb.mono HB.out.size))
  clear HB hb
  have HB := n_
  clear n_
  have HO18 := Aside0.mk hO
  clear hO
  go_wp2_with fail
  obtain ⟨kHi21, hHi21⟩ := QHi.out.rounds
  refine (impl_StrayStrokes.calls kHi21 B15 d15 x0 B18 d18 x1 a2 r0 r1 _ (Kd.S_reads' HO15.out).2.2 (Kd.S_reads' HO15.out).2.1 (Kd.S_reads' HO18.out).2.2 (Kd.S_reads' HO18.out).2.1 hHi21).mono ?_
  clear hHi21
  rintro e w20 ⟨v21_0, rfl, ho21_0, hb⟩
  obtain ⟨Bv21_0, dv21_0, rfl⟩ := Kd.R_slice ho21_0
  have HO21 := Aside0.mk (Kd.R_mono (Kd.R_bound ho21_0) (ok' := fun k_ => w17.heap.size ≤ k_ ∧ k_ < w20.heap.size) (fun k_ h_ => ⟨h_.2.1, h_.2.2.1⟩))
  clear ho21_0
  have n_ := Aside0.mk (Kd.R_below HO12.out hb)
  clear HO12
  have HO12 := n_
  clear n_
  have n_ := Aside0.mk (Kd.S_below HO15.out hb)
  clear HO15
  have HO15 := n_
  clear n_
  have n_ := Aside0.mk (Kd.S_below HO18.out hb)
  clear HO18
  have HO18 := n_
  clear n_
  have HZ22 := Aside0.mk hb.size
  have n_ := Aside0.mk (HB.out.trans (hb.mono HB.out.size))
  clear HB hb
  have HB := n_
  clear n_
  go_wp2_with fail
  refine (EQ_Int64S Bv21_0 Bv12_0 dv21_0 dv12_0 r0 _ (Kd.R_reads' HO21.out).2.2 (Kd.R_reads' HO21.out).2.1 (Kd.R_reads' HO12.out).2.2 (Kd.R_reads' HO12.out).2.1 QHe0.out).mono ?_
  rintro e w23 ⟨rfl, hb⟩
  have n_ := Aside0.mk (Kd.R_below HO12.out hb)
  clear HO12
  have HO12 := n_
  clear n_
  have n_ := Aside0.mk (Kd.S_below HO15.out hb)
  clear HO15
  have HO15 := n_
  clear n_
  have n_ := Aside0.mk (Kd.S_below HO18.out hb)
  clear HO18
  have HO18 := n_
  clear n_
  have n_ := Aside0.mk (Kd.R_below HO21.out hb)
  clear HO21
  have HO21 := n_
  clear n_
  have HZ24 := Aside0.mk hb.size
  have n_ := Aside0.mk (HB.out.trans (hb.mono HB.out.size))
  clear HB hb
  have HB := n_
  clear n_
  go_wp2_with fail
  refine (TO_StrokeS A0 c0 l0 x0 _ (Kd.C_below HR0.out HB.out) HC0.out QHt0.out).mono ?_
  rintro e w25 ⟨B26, d26, rfl, hO, hb⟩
  have n_ := Aside0.mk (Kd.R_below HO12.out hb)
  clear HO12
  have HO12 := n_
  clear n_
  have n_ := Aside0.mk (Kd.S_below HO15.out hb)
  clear HO15
  have HO15 := n_
  clear n_
  have n_ := Aside0.mk (Kd.S_below HO18.out hb)
  clear HO18
  have HO18 := n_
  clear n_
  have n_ := Aside0.mk (Kd.R_below HO21.out hb)
  clear HO21
  have HO21 := n_
  clear n_
  have HZ27 := Aside0.mk hb.size
  have n_ := Aside0.mk (HB.out.trans (hb.mono HB.out.size))
  clear HB hb
  have HB := n_
  clear n_
  have HO26 := Aside0.mk hO
  clear hO
  go_wp2_with fail
  refine (EQ_StrokeS B15 B26 d15 d26 x0 _ (Kd.S_reads' HO15.out).2.2 (Kd.S_reads' HO15.out).2.1 (Kd.S_reads' HO26.out).2.2 (Kd.S_reads' HO26.out).2.1 QHx0.out).mono ?_
  rintro e w28 ⟨rfl, hb⟩
  have n_ := Aside0.mk (Kd.R_below HO12.out hb)
  clear HO12
  have HO12 := n_
  clear n_
  have n_ := Aside0.mk (Kd.S_below HO15.out hb)
  clear HO15
  have HO15 := n_
  clear n_
  have n_ := Aside0.mk (Kd.S_below HO18.out hb)
  clear HO18
  have HO18 := n_
  clear n_
  have n_ := Aside0.mk (Kd.R_below HO21.out hb)
  clear HO21
  have HO21 := n_
  clear n_
  have n_ := Aside0.mk (Kd.S_below HO26.out hb)
  clear HO26
  have HO26 := n_
  clear n_
  have HZ29 := Aside0.mk hb.size
  have n_ := Aside0.mk (HB.out.trans (hb.mono HB.out.size))
  clear HB hb
  have HB := n_
  clear n_
  go_wp2_with fail
  clear HO26
  refine (TO_CurveS A1 c1 l1 x1 _ (Kd.C_below HR1.out HB.out) HC1.out QHt1.out).mono ?_
  rintro e w30 ⟨B31, d31, rfl, hO, hb⟩
  have n_ := Aside0.mk (Kd.R_below HO12.out hb)
  clear HO12
  have HO12 := n_
  clear n_
  have n_ := Aside0.mk (Kd.S_below HO15.out hb)
  clear HO15
  have HO15 := n_
  clear n_
  have n_ := Aside0.mk (Kd.S_below HO18.out hb)
  clear HO18
  have HO18 := n_
  clear n_
  have n_ := Aside0.mk (Kd.R_below HO21.out hb)
  clear HO21
  have HO21 := n_
  clear n_
  have HZ32 := Aside0.mk hb.size
  have n_ := Aside0.mk (HB.out.trans (hb.mono HB.out.size))
  clear HB hb
  have HB := n_
  clear n_
  have HO31 := Aside0.mk hO
  clear hO
  go_wp2_with fail
  refine (EQ_CurveS B18 B31 d18 d31 x1 _ (Kd.S_reads' HO18.out).2.2 (Kd.S_reads' HO18.out).2.1 (Kd.S_reads' HO31.out).2.2 (Kd.S_reads' HO31.out).2.1 QHx1.out).mono ?_
  rintro e w33 ⟨rfl, hb⟩
  have n_ := Aside0.mk (Kd.R_below HO12.out hb)
  clear HO12
  have HO12 := n_
  clear n_
  have n_ := Aside0.mk (Kd.S_below HO15.out hb)
  clear HO15
  have HO15 := n_
  clear n_
  have n_ := Aside0.mk (Kd.S_below HO18.out hb)
  clear HO18
  have HO18 := n_
  clear n_
  have n_ := Aside0.mk (Kd.R_below HO21.out hb)
  clear HO21
  have HO21 := n_
  clear n_
  have n_ := Aside0.mk (Kd.S_below HO31.out hb)
  clear HO31
  have HO31 := n_
  clear n_
  have HZ34 := Aside0.mk hb.size
  have n_ := Aside0.mk (HB.out.trans (hb.mono HB.out.size))
  clear HB hb
  have HB := n_
  clear n_
  go_wp2_with fail
  clear HO31
  refine (MK_StrokeS (fun k_ => w11.heap.size ≤ k_ ∧ k_ < w14.heap.size) B15 d15 x0 ya0 1 ma0 w _ HB.out (Kd.S_lower HO15.out (by have := HZ2.out; have := HZ4.out; have := HZ7.out; have := HZ10.out; have := HZ13.out; have := HZ16.out; have := HZ19.out; have := HZ22.out; have := HZ24.out; have := HZ27.out; have := HZ29.out; have := HZ32.out; have := HZ34.out; omega)) QHma0.out).mono ?_
  rintro e w35 ⟨rfl, hO, hB2, hK⟩
  have n_ := Aside0.mk (Kd.R_kept HO12.out hK (fun k_ h_ h2_ => by have := HZ2.out; have := HZ4.out; have := HZ7.out; have := HZ10.out; have := HZ13.out; have := HZ16.out; have := HZ19.out; have := HZ22.out; have := HZ24.out; have := HZ27.out; have := HZ29.out; have := HZ32.out; have := HZ34.out; obtain ⟨h3_, h4_⟩ := h2_; rcases h_ with h_ <;> omega))
  clear HO12
  have HO12 := n_
  clear n_
  have n_ := Aside0.mk (Kd.S_kept HO18.out hK (fun k_ h_ h2_ => by have := HZ2.out; have := HZ4.out; have := HZ7.out; have := HZ10.out; have := HZ13.out; have := HZ16.out; have := HZ19.out; have := HZ22.out; have := HZ24.out; have := HZ27.out; have := HZ29.out; have := HZ32.out; have := HZ34.out; obtain ⟨h3_, h4_⟩ := h2_; rcases h_ with h_ <;> omega))
  clear HO18
  have HO18 := n_
  clear n_
  have n_ := Aside0.mk (Kd.R_kept HO21.out hK (fun k_ h_ h2_ => by have := HZ2.out; have := HZ4.out; have := HZ7.out; have := HZ10.out; have := HZ13.out; have := HZ16.out; have := HZ19.out; have := HZ22.out; have := HZ24.out; have := HZ27.out; have := HZ29.out; have := HZ32.out; have := HZ34.out; obtain ⟨h3_, h4_⟩ := h2_; rcases h_ with h_ <;> omega))
  clear HO21
  have HO21 := n_
  clear n_
  have HZ36 := Aside0.mk hK.1
  clear HB
  have HB := Aside0.mk hB2
  clear HO15
  clear hO hB2 hK
  go_wp2_with fail
  refine (MK_CurveS (fun k_ => w14.heap.size ≤ k_ ∧ k_ < w17.heap.size) B18 d18 x1 ya1 ma0 ma1 w _ HB.out (Kd.S_lower HO18.out (by have := HZ2.out; have := HZ4.out; have := HZ7.out; have := HZ10.out; have := HZ13.out; have := HZ16.out; have := HZ19.out; have := HZ22.out; have := HZ24.out; have := HZ27.out; have := HZ29.out; have := HZ32.out; have := HZ34.out; have := HZ36.out; omega)) QHma1.out).mono ?_
  rintro e w37 ⟨rfl, hO, hB2, hK⟩
  have n_ := Aside0.mk (Kd.R_kept HO12.out hK (fun k_ h_ h2_ => by have := HZ2.out; have := HZ4.out; have := HZ7.out; have := HZ10.out; have := HZ13.out; have := HZ16.out; have := HZ19.out; have := HZ22.out; have := HZ24.out; have := HZ27.out; have := HZ29.out; have := HZ32.out; have := HZ34.out; have := HZ36.out; obtain ⟨h3_, h4_⟩ := h2_; rcases h_ with h_ <;> omega))
  clear HO12
  have HO12 := n_
  clear n_
  have n_ := Aside0.mk (Kd.R_kept HO21.out hK (fun k_ h_ h2_ => by have := HZ2.out; have := HZ4.out; have := HZ7.out; have := HZ10.out; have := HZ13.out; have := HZ16.out; have := HZ19.out; have := HZ22.out; have := HZ24.out; have := HZ27.out; have := HZ29.out; have := HZ32.out; have := HZ34.out; have := HZ36.out; obtain ⟨h3_, h4_⟩ := h2_; rcases h_ with h_ <;> omega))
  clear HO21
  have HO21 := n_
  clear n_
  have HZ38 := Aside0.mk hK.1
  clear HB
  have HB := Aside0.mk hB2
  clear HO18
  clear hO hB2 hK
  go_wp2_with fail
  refine (EQ_Int64S Bv21_0 Bv12_0 dv21_0 dv12_0 r0 _ (Kd.R_reads' HO21.out).2.2 (Kd.R_reads' HO21.out).2.1 (Kd.R_reads' HO12.out).2.2 (Kd.R_reads' HO12.out).2.1 QHe0.out).mono ?_
  rintro e w39 ⟨rfl, hb⟩
  have n_ := Aside0.mk (Kd.R_below HO12.out hb)
  clear HO12
  have HO12 := n_
  clear n_
  have n_ := Aside0.mk (Kd.R_below HO21.out hb)
  clear HO21
  have HO21 := n_
  clear n_
  have HZ40 := Aside0.mk hb.size
  have n_ := Aside0.mk (HB.out.trans (hb.mono HB.out.size))
  clear HB hb
  have HB := n_
  clear n_
  go_wp2_with fail
  refine (MK_Int64S (fun k_ => w17.heap.size ≤ k_ ∧ k_ < w20.heap.size) Bv21_0 dv21_0 r0 yr0 1 mr0 w _ HB.out (Kd.R_lower HO21.out (by have := HZ2.out; have := HZ4.out; have := HZ7.out; have := HZ10.out; have := HZ13.out; have := HZ16.out; have := HZ19.out; have := HZ22.out; have := HZ24.out; have := HZ27.out; have := HZ29.out; have := HZ32.out; have := HZ34.out; have := HZ36.out; have := HZ38.out; have := HZ40.out; omega)) QHmr0.out).mono ?_
  rintro e w41 ⟨rfl, hO, hB2, hK⟩
  have n_ := Aside0.mk (Kd.R_kept HO12.out hK (fun k_ h_ h2_ => by have := HZ2.out; have := HZ4.out; have := HZ7.out; have := HZ10.out; have := HZ13.out; have := HZ16.out; have := HZ19.out; have := HZ22.out; have := HZ24.out; have := HZ27.out; have := HZ29.out; have := HZ32.out; have := HZ34.out; have := HZ36.out; have := HZ38.out; have := HZ40.out; obtain ⟨h3_, h4_⟩ := h2_; rcases h_ with h_ <;> omega))
  clear HO12
  have HO12 := n_
  clear n_
  have HZ42 := Aside0.mk hK.1
  clear HB
  have HB := Aside0.mk hB2
  clear HO21
  have HO21 := Aside0.mk hO
  clear hO hB2 hK
  go_wp2_with fail
  refine (HD_Int64S Bv21_0 dv21_0 r0.length yr0 1 mr0 _ QHl0.out (Kd.R_now HO21.out QHl0.out).2 (Kd.R_now HO21.out QHl0.out).1 QHh0.out).mono ?_
  rintro e w43 ⟨rfl, hb⟩
  have n_ := Aside0.mk (Kd.R_below HO12.out hb)
  clear HO12
  have HO12 := n_
  clear n_
  have n_ := Aside0.mk (Kd.R_below HO21.out hb)
  clear HO21
  have HO21 := n_
  clear n_
  have HZ44 := Aside0.mk hb.size
  have n_ := Aside0.mk (HB.out.trans (hb.mono HB.out.size))
  clear HB hb
  have HB := n_
  clear n_
  go_wp2_with fail
  refine (TO_StrokeS A0 c0 l0 x0 _ (Kd.C_below HR0.out HB.out) HC0.out QHt0.out).mono ?_
  rintro e w45 ⟨B46, d46, rfl, hO, hb⟩
  have n_ := Aside0.mk (Kd.R_below HO12.out hb)
  clear HO12
  have HO12 := n_
  clear n_
  have n_ := Aside0.mk (Kd.R_below HO21.out hb)
  clear HO21
  have HO21 := n_
  clear n_
  have HZ47 := Aside0.mk hb.size
  have n_ := Aside0.mk (HB.out.trans (hb.mono HB.out.size))
  clear HB hb
  have HB := n_
  clear n_
  have HO46 := Aside0.mk hO
  clear hO
  go_wp2_with fail
  refine (TO_CurveS A1 c1 l1 x1 _ (Kd.C_below HR1.out HB.out) HC1.out QHt1.out).mono ?_
  rintro e w48 ⟨B49, d49, rfl, hO, hb⟩
  have n_ := Aside0.mk (Kd.R_below HO12.out hb)
  clear HO12
  have HO12 := n_
  clear n_
  have n_ := Aside0.mk (Kd.R_below HO21.out hb)
  clear HO21
  have HO21 := n_
  clear n_
  have n_ := Aside0.mk (Kd.S_below HO46.out hb)
  clear HO46
  have HO46 := n_
  clear n_
  have HZ50 := Aside0.mk hb.size
  have n_ := Aside0.mk (HB.out.trans (hb.mono HB.out.size))
  clear HB hb
  have HB := n_
  clear n_
  have HO49 := Aside0.mk hO
  clear hO
  go_wp2_with fail
  obtain ⟨kHi52, hHi52⟩ := QHi.out.rounds
  refine (impl_StrayStrokes.calls kHi52 B46 d46 x0 B49 d49 x1 a2 r0 r1 _ (Kd.S_reads' HO46.out).2.2 (Kd.S_reads' HO46.out).2.1 (Kd.S_reads' HO49.out).2.2 (Kd.S_reads' HO49.out).2.1 hHi52).mono ?_
  clear hHi52
  rintro e w51 ⟨v52_0, rfl, ho52_0, hb⟩
  obtain ⟨Bv52_0, dv52_0, rfl⟩ := Kd.R_slice ho52_0
  have HO52 := Aside0.mk (Kd.R_mono (Kd.R_bound ho52_0) (ok' := fun k_ => w48.heap.size ≤ k_ ∧ k_ < w51.heap.size) (fun k_ h_ => ⟨h_.2.1, h_.2.2.1⟩))
  clear ho52_0
  have n_ := Aside0.mk (Kd.R_below HO12.out hb)
  clear HO12
  have HO12 := n_
  clear n_
  have n_ := Aside0.mk (Kd.R_below HO21.out hb)
  clear HO21
  have HO21 := n_
  clear n_
  have n_ := Aside0.mk (Kd.S_below HO46.out hb)
  clear HO46
  have HO46 := n_
  clear n_
  have n_ := Aside0.mk (Kd.S_below HO49.out hb)
  clear HO49
  have HO49 := n_
  clear n_
  have HZ53 := Aside0.mk hb.size
  have n_ := Aside0.mk (HB.out.trans (hb.mono HB.out.size))
  clear HB hb
  have HB := n_
  clear n_
  go_wp2_with fail
  clear HO46
  clear HO49
  refine (EQ_Int64S Bv52_0 Bv12_0 dv52_0 dv12_0 r0 _ (Kd.R_reads' HO52.out).2.2 (Kd.R_reads' HO52.out).2.1 (Kd.R_reads' HO12.out).2.2 (Kd.R_reads' HO12.out).2.1 QHe0.out).mono ?_
  rintro e w54 ⟨rfl, hb⟩
  have n_ := Aside0.mk (Kd.R_below HO12.out hb)
  clear HO12
  have HO12 := n_
  clear n_
  have n_ := Aside0.mk (Kd.R_below HO21.out hb)
  clear HO21
  have HO21 := n_
  clear n_
  have n_ := Aside0.mk (Kd.R_below HO52.out hb)
  clear HO52
  have HO52 := n_
  clear n_
  have HZ55 := Aside0.mk hb.size
  have n_ := Aside0.mk (HB.out.trans (hb.mono HB.out.size))
  clear HB hb
  have HB := n_
  clear n_
  go_wp2_with fail
  clear HO52
  refine (HD_Int64S Bv21_0 dv21_0 r0.length yr0 1 mr0 _ QHl0.out (Kd.R_now HO21.out QHl0.out).2 (Kd.R_now HO21.out QHl0.out).1 QHh0.out).mono ?_
  rintro e w56 ⟨rfl, hb⟩
  have n_ := Aside0.mk (Kd.R_below HO12.out hb)
  clear HO12
  have HO12 := n_
  clear n_
  have n_ := Aside0.mk (Kd.R_below HO21.out hb)
  clear HO21
  have HO21 := n_
  clear n_
  have HZ57 := Aside0.mk hb.size
  have n_ := Aside0.mk (HB.out.trans (hb.mono HB.out.size))
  clear HB hb
  have HB := n_
  clear n_
  try go_wp2
  go_ret
  exact ⟨rfl, HB.out⟩

end Go.Proofs.Ytgpdjpololkhbaa.Pure

namespace Go.Proofs.Ytgpdjpololkhbaa.Pure
open Go.RowKit Go.Proofs.Ytgpdjpololkhbaa.F Go.Proofs.YtgpdjpololkhbaaW.PrintWords Go.Proofs.YtgpdjpololkhbaaW.PrintLast Go.Proofs.YtgpdjpololkhbaaW.PrintMore Go.Proofs.YtgpdjpololkhbaaB
set_option linter.unusedVariables false
set_option linter.unusedSimpArgs false
theorem resStray_length (xs : List S110) (cs : List S172) (d : Int) : (resStray xs cs d).1.length ≤ xs.length := by
  unfold resStray
  split
  · split
    · exact strayL_length _ _ _ _
    · exact Nat.zero_le _
  · exact Nat.zero_le _
theorem walkFnExactStrayStrokes (A0 : Option Addr) (c0 : Nat) (l0 : (List S106)) (A1 : Option Addr) (c1 : Nat) (l1 : (List S169)) (a2 : Int) (w : World) (hr0 : Kd.C k106 w A0 l0.length l0) (hc0 : l0.length ≤ c0) (hm0 : l0.length ≤ maxLen) (hg0 : ∀ y ∈ l0, g106 y) (hr1 : Kd.C k169 w A1 l1.length l1) (hc1 : l1.length ≤ c1) (hm1 : l1.length ≤ maxLen) (hg1 : ∀ y ∈ l1, g169 y) (hg2 : (Lit.int .i64 a2).wf = true) :
    Calls Try.prog 13 #[.slice A0 l0.length c0, .slice A1 l1.length c1, .int .i64 a2] w fun e w' => e = .returned (.bool true) ∧ Below w.heap.size w w' := by
  unfold maxLen at hm0 hm1
  have hi : ∀ x ∈ l0, x.f1.length ≤ 9223372036854775807 := fun x hx => (hg0 x hx).2.1
  have hi1 : ∀ x ∈ l1, x.f2.length ≤ 9223372036854775807 := fun x hx => (hg1 x hx).2.2.1
  have hs := laws_szStrokeS_f l0 1048576 (by omega) (by omega) hm0 hi
  by_cases h : (1048576 : Int) < l0.length + total szStroke l0
  · rw [if_pos h] at hs
    exact early0_FnExactStrayStrokes A0 c0 l0 A1 c1 l1 a2 (-1) w hr0 hc0 hr1 hc1 hs (by omega)
  rw [if_neg h] at hs
  generalize hn0 : (1048576 : Int) - (l0.length + total szStroke l0) = n0 at hs
  have hs1 := laws_szCurveS_f l1 n0 (by omega) (by omega) hm1 hi1
  by_cases h1 : n0 < l1.length + total szCurve l1
  · rw [if_pos h1] at hs1
    exact early1_FnExactStrayStrokes A0 c0 l0 A1 c1 l1 a2 n0 (-1) w hr0 hc0 hr1 hc1 hs (by omega) hs1 (by omega)
  rw [if_neg h1] at hs1
  obtain ⟨s1, s2⟩ := szStroke_small l0 h
  obtain ⟨t1, t2⟩ := szCurve_small l1 n0 (by omega) h1
  have t := laws_toStrokeS_f l0 s1 s2
  have u := laws_toCurveS_f l1 t1 t2
  have sm := toSt_small l0 s2
  have sl : (l0.map toSt).length ≤ 1048576 := by rw [List.length_map]; exact s1
  have sc := toCv_small l1 t1 t2
  obtain ⟨mk, mk0, mk1⟩ := markSt_arg l0 1 (by omega) (by omega) h
  have nc := numCv_total l1
  have nn := numCv_nonneg (l1.map toCv)
  have sc1 := sc.1
  generalize l0.map toSt = zs at *
  generalize l1.map toCv = cs at *
  have sz : smallS zs := ⟨sl, sm⟩
  have hS := spec_StrayStrokes_f zs sz cs sc a2
  have hI := impl_StrayStrokes_f zs sz cs sc a2
  have hr := resStray_length zs cs a2
  generalize resStray zs cs a2 = r at *
  obtain ⟨r0, r1⟩ := r
  simp only at hr
  exact walk_FnExactStrayStrokes A0 c0 l0 zs _ A1 c1 l1 cs _ a2 r0 r1 _ _ _ _ _ _ w hr0 hc0 hr1 hc1 hs (by omega) hs1 (by omega) t (laws_eqStrokeS_f zs (by omega) (fun x hx => by have := sm x hx; omega)) u (laws_eqCurveS_f cs (by omega) (fun x hx => by have := sc.2 x hx; omega)) hS hI (laws_eqInt64S_f r0 (by omega)) mk mk0
    ⟨by omega, sc.2, by omega, by omega, rfl, rfl⟩ (by omega) (laws_markInt64S_f r0 1 (by omega) (by omega) (by omega)) (by omega) (markI_length _ _) (laws_heldInt64S_f r0 1 (by omega) (by omega) (by omega))

end Go.Proofs.Ytgpdjpololkhbaa.Pure

namespace Go.Proofs.Ytgpdjpololkhbaa.fnExactStrayStrokes
open Go.ChangeShapes Go.WideShapes Go.ChangeAt Go.RowKit Go.Proofs.YtgpdjpololkhbaaO Go.Proofs.Ytgpdjpololkhbaa.F Go.Proofs.YtgpdjpololkhbaaW.PrintWords
open Go.ChangeMaps (open_string shut_string)
set_option linter.unusedVariables false
theorem own : ownKnob Try.prog.godebug = none := by kernel_rfl
theorem laidOut : laidOutB Try.prog = true := by kernel_rfl
set_option maxRecDepth 100000 in
theorem lifted (os : Os) (started : os.Started) (H : Type) (enc : TypeId × Value → H) :
    ReturnsInHanded {} Try.checked os 13 .any (Rows.fnExactStrayStrokesSpec.pre6 enc Try.prog Try.f13 Rows.fnExactStrayStrokesRow.domain false) (Rows.fnExactStrayStrokesSpec.post enc Try.prog Try.f13 false true false false) := by
  refine returnsInHanded_of_change (C := Try.checked) own started (by kernel_rfl) Try.func13
    (ChangeSpec.witness6 (enc := enc) (C := Try.checked) false ⟨#[], #[.slice none 0 0, .slice none 0 0, .int .i64 0], []⟩ 8 (by kernel_rfl) (by kernel_rfl) (by kernel_rfl) (by kernel_rfl)) ?_
  intro W base args ds gs before hval0 hW hcnd _
  have hval : ∀ (j : Nat) t v, Try.f13.params[j]? = some t → args[j]? = some v → Value.okWide Try.prog W .any base t v := hval0
  have hW' := hW
  obtain ⟨p, q, hA0, hV, rfl, hfz, hnd⟩ := hW
  have hA : DataW.TrodAll enc Try.prog W 0 (fun _ => true) true Try.f13.params.toList args.toList ds p := hA0
  rw [Try.params13] at hA hval
  obtain ⟨v0, vs0, d0, ds0, p0, q0, hargs, rfl, rfl, h0, r0⟩ := trodAll_cons hA
  obtain ⟨v1, vs1, d1, ds1, p1, q1, rfl, rfl, rfl, h1, r1⟩ := trodAll_cons r0
  obtain ⟨v2, vs2, d2, ds2, p2, q2, rfl, rfl, rfl, h2, r2⟩ := trodAll_cons r1
  obtain ⟨rfl, rfl, rfl⟩ := trodAll_nil r2
  obtain rfl : args = #[v0, v1, v2] := by cases args; simp_all
  obtain ⟨rfl, rfl⟩ := trodVars_none hV
  obtain ⟨a0, len0, cap0, rfl⟩ := okWide_slice Try.underlying22 (hval 0 22 v0 rfl rfl)
  have k0_ := h0
  have lt0 : ∀ x ∈ p0, x.block < W.heap.size := by obtain ⟨m, hm⟩ := k0_; exact DataW.trod_lt m _ _ _ hm
  obtain ⟨fuel0, hf0⟩ := h0
  obtain ⟨A0, l0, c0, hcs0, hc0, hb0, hr0, hg0⟩ := opens_row (d := k106) (G := g106) Try.underlying22 (by kernel_rfl) o106 hf0
  simp [Value.cells] at hcs0
  obtain ⟨rfl, rfl, rfl⟩ := hcs0
  obtain ⟨a1, len1, cap1, rfl⟩ := okWide_slice Try.underlying93 (hval 1 93 v1 rfl rfl)
  have k1_ := h1
  have lt1 : ∀ x ∈ p1, x.block < W.heap.size := by obtain ⟨m, hm⟩ := k1_; exact DataW.trod_lt m _ _ _ hm
  obtain ⟨fuel1, hf1⟩ := h1
  obtain ⟨A1, l1, c1, hcs1, hc1, hb1, hr1, hg1⟩ := opens_row (d := k169) (G := g169) Try.underlying93 (by kernel_rfl) o169 hf1
  simp [Value.cells] at hcs1
  obtain ⟨rfl, rfl, rfl⟩ := hcs1
  obtain ⟨a2, rfl, rfl, rfl, hg2⟩ := open_int Try.underlying2 (hval 2 2 v2 rfl rfl) h2
  clear hA0 hval0
  refine (Pure.walkFnExactStrayStrokes _ _ l0 _ _ l1 a2 W hr0 hc0 (Nat.le_trans hc0 hb0) hg0 hr1 hc1 (Nat.le_trans hc1 hb1) hg1 hg2).mono fun e W' ⟨he, bel⟩ => ?_
  subst he
  exact ⟨_, rfl, _, _, _, [], _, [], hW', trodAll_mk1 (shut_bool Try.underlying4 _), (trodAll_cons_mk (Below.trod laidOut (by kernel_rfl) (of_decide_eq_true (by kernel_rfl)) k0_ bel lt0) (trodAll_cons_mk (Below.trod laidOut (by kernel_rfl) (of_decide_eq_true (by kernel_rfl)) k1_ bel lt1) (trodAll_cons_mk (shut_int Try.underlying2 hg2) trodAll_mk0))), rfl, bel.frame _, fun h => by cases h⟩
theorem over : Rows.fnExactStrayStrokesRow.holds Try.pinned (OpenSpec.ofChange Rows.fnExactStrayStrokesSpec) :=
  OpenClaim.holds_of_wide 13 Try.f13 rfl rfl rfl rfl rfl rfl rfl ⟨rfl, rfl, rfl, rfl, rfl⟩ rfl rfl rfl rfl rfl (by kernel_rfl) Try.func13 (by kernel_rfl)
    (of_decide_eq_true (by kernel_rfl)) (by unfold Func.isWrapper; first | (rw [if_pos (by decide +kernel)]; kernel_rfl) | (rw [if_neg (by decide +kernel)]; exact ⟨rfl, rfl⟩))
    (fun os started H enc _ => lifted os started H enc)
theorem proved : Rows.FnExactStrayStrokesSaid := over
end Go.Proofs.Ytgpdjpololkhbaa.fnExactStrayStrokes
namespace Go.Proofs.Ytgpdjpololkhbaa
/-- The row, under a short name, for the claim. -/
theorem fnExactStrayStrokes_holds : Rows.FnExactStrayStrokesSaid := fnExactStrayStrokes.proved
end Go.Proofs.Ytgpdjpololkhbaa
#print axioms Go.Proofs.Ytgpdjpololkhbaa.fnExactStrayStrokes_holds
