/-
  FnExactTurnOnly: the law returns true for every input and leaves its arguments as they were (the last theorem here). No condition.
-/
import Derived.Test.YthdadohmomhchaaRows
import Derived.ProofKit
import Derived.OpenShut
import Derived.ShutString
import Derived.ChangeOld
import Derived.Test.YthdadohmomhchaaKFnExactTurnOnly5

namespace Go.Proofs.Ythdadohmomhchaa.Pure
open Go.RowKit Go.Proofs.Ythdadohmomhchaa.F Go.Proofs.YthdadohmomhchaaW.PrintWords Go.Proofs.YthdadohmomhchaaW.PrintLast Go.Proofs.YthdadohmomhchaaW.PrintMore Go.Proofs.YthdadohmomhchaaB
set_option linter.unusedVariables false
set_option linter.unusedSimpArgs false
set_option maxHeartbeats 8000000 in
set_option maxRecDepth 100000 in
theorem early0_FnExactTurnOnly (A0 : Option Addr) (c0 : Nat) (l0 : List S109) (n0 : Int) (w : World) (hr0 : Kd.C k109 w A0 l0.length l0) (hc0 : l0.length ≤ c0) (Hsz0 : Ev (fun k => laws_szStrokeS.f k l0 1048576) n0) (Hn0 : n0 < 0) :
    Calls Try.prog 4 #[.slice A0 l0.length c0] w fun e w' => e = .returned (.bool true) ∧ Below w.heap.size w w' := by
  have HB := Aside0.mk (Below.refl w.heap.size w)
  have HR0 := Aside0.mk hr0
  have HC0 := Aside0.mk hc0
  clear hr0 hc0
  have QHsz0 := Aside0.mk Hsz0
  clear Hsz0
  go_enter Try.func4, Try.ntmps4
  go_wp2_with fail
  refine (SZ_StrokeS A0 c0 l0 1048576 n0 _ (Kd.C_below HR0.out HB.out) HC0.out QHsz0.out).mono ?_
  rintro e w1 ⟨rfl, hb⟩
  have n_ := Aside0.mk (HB.out.trans (hb.mono HB.out.size))
  clear HB hb
  have HB := n_
  clear n_
  go_wp2
  go_ret
  exact ⟨rfl, HB.out⟩
set_option maxHeartbeats 8000000 in
set_option maxRecDepth 100000 in
theorem walk_FnExactTurnOnly (A0 : Option Addr) (c0 : Nat) (l0 : List S109) (x0 : List S116) (n0 : Int) (r0 : List Int) (r1 : Int) (ya0 : List S116) (ma0 : Int) (yr0 : List Int) (mr0 : Int) (w : World) (hr0 : Kd.C k109 w A0 l0.length l0) (hc0 : l0.length ≤ c0) (Hsz0 : Ev (fun k => laws_szStrokeS.f k l0 1048576) n0) (Hn0 : 0 ≤ n0) (Ht0 : Ev (fun k => laws_toStrokeS.f k l0) x0) (Hx0 : Ev (fun k => laws_eqStrokeS.f k x0 x0) true) (Hs : Ev (fun k => spec_TurnOnly.f k x0) (r0, r1)) (Hi : Ev (fun k => impl_TurnOnly.f k x0) (r0, r1)) (He0 : Ev (fun k => laws_eqInt64S.f k r0 r0) true) (Hma0 : MarkSt x0 ya0 1 ma0) (Hmn0 : 0 ≤ ma0) (Hmr0 : Ev (fun k => laws_markInt64S.f k r0 1) (mr0, yr0)) (Hrn0 : 0 ≤ mr0) (Hl0 : yr0.length = r0.length) (Hh0 : Ev (fun k => laws_heldInt64S.f k yr0 1) mr0) :
    Calls Try.prog 4 #[.slice A0 l0.length c0] w fun e w' => e = .returned (.bool true) ∧ Below w.heap.size w w' := by
  have HB := Aside0.mk (Below.refl w.heap.size w)
  have HR0 := Aside0.mk hr0
  have HC0 := Aside0.mk hc0
  clear hr0 hc0
  have QHsz0 := Aside0.mk Hsz0
  clear Hsz0
  have QHt0 := Aside0.mk Ht0
  clear Ht0
  have QHx0 := Aside0.mk Hx0
  clear Hx0
  have QHs := Aside0.mk Hs
  clear Hs
  have QHi := Aside0.mk Hi
  clear Hi
  have QHe0 := Aside0.mk He0
  clear He0
  have QHma0 := Aside0.mk Hma0
  clear Hma0
  have QHmr0 := Aside0.mk Hmr0
  clear Hmr0
  have QHl0 := Aside0.mk Hl0
  clear Hl0
  have QHh0 := Aside0.mk Hh0
  clear Hh0
  have hcc : ∀ r : Int, (r != r) = false := fun r => by simp
  go_enter Try.func4, Try.ntmps4
  go_wp2_with fail
  refine (SZ_StrokeS A0 c0 l0 1048576 n0 _ (Kd.C_below HR0.out HB.out) HC0.out QHsz0.out).mono ?_
  rintro e w1 ⟨rfl, hb⟩
  have HZ2 := Aside0.mk hb.size
  have n_ := Aside0.mk (HB.out.trans (hb.mono HB.out.size))
  clear HB hb
  have HB := n_
  clear n_
  go_wp2_with fail
  refine (TO_StrokeS A0 c0 l0 x0 _ (Kd.C_below HR0.out HB.out) HC0.out QHt0.out).mono ?_
  rintro e w3 ⟨B4, d4, rfl, hO, hb⟩
  have HZ5 := Aside0.mk hb.size
  have n_ := Aside0.mk (HB.out.trans (hb.mono HB.out.size))
  clear HB hb
  have HB := n_
  clear n_
  have HO4 := Aside0.mk hO
  clear hO
  go_wp2_with fail
  obtain ⟨kHs7, hHs7⟩ := QHs.out.rounds
  refine (spec_TurnOnly.calls kHs7 B4 d4 x0 r0 r1 _ (Kd.S_reads' HO4.out).2.2 (Kd.S_reads' HO4.out).2.1 hHs7).mono ?_
  clear hHs7
  rintro e w6 ⟨v7_0, rfl, ho7_0, hb⟩
  obtain ⟨Bv7_0, dv7_0, rfl⟩ := Kd.R_slice ho7_0
  have HO7 := Aside0.mk (Kd.R_mono (Kd.R_bound ho7_0) (ok' := fun k_ => w3.heap.size ≤ k_ ∧ k_ < w6.heap.size) (fun k_ h_ => ⟨h_.2.1, h_.2.2.1⟩))
  clear ho7_0
  have n_ := Aside0.mk (Kd.S_below HO4.out hb)
  clear HO4
  have HO4 := n_
  clear n_
  have HZ8 := Aside0.mk hb.size
  have n_ := Aside0.mk (HB.out.trans (hb.mono HB.out.size))
  clear HB hb
  have HB := n_
  clear n_
  go_wp2_with fail
  clear HO4
  refine (TO_StrokeS A0 c0 l0 x0 _ (Kd.C_below HR0.out HB.out) HC0.out QHt0.out).mono ?_
  rintro e w9 ⟨B10, d10, rfl, hO, hb⟩
  have n_ := Aside0.mk (Kd.R_below HO7.out hb)
  clear HO7
  have HO7 := n_
  clear n_
  have HZ11 := Aside0.mk hb.size
  have n_ := Aside0.mk (HB.out.trans (hb.mono HB.out.size))
  clear HB hb
  have HB := n_
  clear n_
  have HO10 := Aside0.mk hO
  clear hO
  go_wp2_with fail
  obtain ⟨kHi13, hHi13⟩ := QHi.out.rounds
  refine (impl_TurnOnly.calls kHi13 B10 d10 x0 r0 r1 _ (Kd.S_reads' HO10.out).2.2 (Kd.S_reads' HO10.out).2.1 hHi13).mono ?_
  clear hHi13
  rintro e w12 ⟨v13_0, rfl, ho13_0, hb⟩
  obtain ⟨Bv13_0, dv13_0, rfl⟩ := Kd.R_slice ho13_0
  have HO13 := Aside0.mk (Kd.R_mono (Kd.R_bound ho13_0) (ok' := fun k_ => w9.heap.size ≤ k_ ∧ k_ < w12.heap.size) (fun k_ h_ => ⟨h_.2.1, h_.2.2.1⟩))
  clear ho13_0
  have n_ := Aside0.mk (Kd.R_below HO7.out hb)
  clear HO7
  have HO7 := n_
  clear n_
  have n_ := Aside0.mk (Kd.S_below HO10.out hb)
  clear HO10
  have HO10 := n_
  clear n_
  have HZ14 := Aside0.mk hb.size
  have n_ := Aside0.mk (HB.out.trans (hb.mono HB.out.size))
  clear HB hb
  have HB := n_
  clear n_
  go_wp2_with fail
  refine (EQ_Int64S Bv13_0 Bv7_0 dv13_0 dv7_0 r0 _ (Kd.R_reads' HO13.out).2.2 (Kd.R_reads' HO13.out).2.1 (Kd.R_reads' HO7.out).2.2 (Kd.R_reads' HO7.out).2.1 QHe0.out).mono ?_
  rintro e w15 ⟨rfl, hb⟩
  have n_ := Aside0.mk (Kd.R_below HO7.out hb)
  clear HO7
  have HO7 := n_
  clear n_
  have n_ := Aside0.mk (Kd.S_below HO10.out hb)
  clear HO10
  have HO10 := n_
  clear n_
  have n_ := Aside0.mk (Kd.R_below HO13.out hb)
  clear HO13
  have HO13 := n_
  clear n_
  have HZ16 := Aside0.mk hb.size
  have n_ := Aside0.mk (HB.out.trans (hb.mono HB.out.size))
  clear HB hb
  have HB := n_
  clear n_
  go_wp2_with fail
  refine (TO_StrokeS A0 c0 l0 x0 _ (Kd.C_below HR0.out HB.out) HC0.out QHt0.out).mono ?_
  rintro e w17 ⟨B18, d18, rfl, hO, hb⟩
  have n_ := Aside0.mk (Kd.R_below HO7.out hb)
  clear HO7
  have HO7 := n_
  clear n_
  have n_ := Aside0.mk (Kd.S_below HO10.out hb)
  clear HO10
  have HO10 := n_
  clear n_
  have n_ := Aside0.mk (Kd.R_below HO13.out hb)
  clear HO13
  have HO13 := n_
  clear n_
  have HZ19 := Aside0.mk hb.size
  have n_ := Aside0.mk (HB.out.trans (hb.mono HB.out.size))
  clear HB hb
  have HB := n_
  clear n_
  have HO18 := Aside0.mk hO
  clear hO
  go_wp2_with fail
  refine (EQ_StrokeS B10 B18 d10 d18 x0 _ (Kd.S_reads' HO10.out).2.2 (Kd.S_reads' HO10.out).2.1 (Kd.S_reads' HO18.out).2.2 (Kd.S_reads' HO18.out).2.1 QHx0.out).mono ?_
  rintro e w20 ⟨rfl, hb⟩
  have n_ := Aside0.mk (Kd.R_below HO7.out hb)
  clear HO7
  have HO7 := n_
  clear n_
  have n_ := Aside0.mk (Kd.S_below HO10.out hb)
  clear HO10
  have HO10 := n_
  clear n_
  have n_ := Aside0.mk (Kd.R_below HO13.out hb)
  clear HO13
  have HO13 := n_
  clear n_
  have n_ := Aside0.mk (Kd.S_below HO18.out hb)
  clear HO18
  have HO18 := n_
  clear n_
  have HZ21 := Aside0.mk hb.size
  have n_ := Aside0.mk (HB.out.trans (hb.mono HB.out.size))
  clear HB hb
  have HB := n_
  clear n_
  go_wp2_with fail
  clear HO18
  refine (MK_StrokeS (fun k_ => w6.heap.size ≤ k_ ∧ k_ < w9.heap.size) B10 d10 x0 ya0 1 ma0 w _ HB.out (Kd.S_lower HO10.out (by have := HZ2.out; have := HZ5.out; have := HZ8.out; have := HZ11.out; have := HZ14.out; have := HZ16.out; have := HZ19.out; have := HZ21.out; omega)) QHma0.out).mono ?_
  rintro e w22 ⟨rfl, hO, hB2, hK⟩
  have n_ := Aside0.mk (Kd.R_kept HO7.out hK (fun k_ h_ h2_ => by have := HZ2.out; have := HZ5.out; have := HZ8.out; have := HZ11.out; have := HZ14.out; have := HZ16.out; have := HZ19.out; have := HZ21.out; obtain ⟨h3_, h4_⟩ := h2_; rcases h_ with h_ <;> omega))
  clear HO7
  have HO7 := n_
  clear n_
  have n_ := Aside0.mk (Kd.R_kept HO13.out hK (fun k_ h_ h2_ => by have := HZ2.out; have := HZ5.out; have := HZ8.out; have := HZ11.out; have := HZ14.out; have := HZ16.out; have := HZ19.out; have := HZ21.out; obtain ⟨h3_, h4_⟩ := h2_; rcases h_ with h_ <;> omega))
  clear HO13
  have HO13 := n_
  clear n_
  have HZ23 := Aside0.mk hK.1
  clear HB
  have HB := Aside0.mk hB2
  clear HO10
  clear hO hB2 hK
  go_wp2_with fail
  refine (EQ_Int64S Bv13_0 Bv7_0 dv13_0 dv7_0 r0 _ (Kd.R_reads' HO13.out).2.2 (Kd.R_reads' HO13.out).2.1 (Kd.R_reads' HO7.out).2.2 (Kd.R_reads' HO7.out).2.1 QHe0.out).mono ?_
  rintro e w24 ⟨rfl, hb⟩
  have n_ := Aside0.mk (Kd.R_below HO7.out hb)
  clear HO7
  have HO7 := n_
  clear n_
  have n_ := Aside0.mk (Kd.R_below HO13.out hb)
  clear HO13
  have HO13 := n_
  clear n_
  have HZ25 := Aside0.mk hb.size
  have n_ := Aside0.mk (HB.out.trans (hb.mono HB.out.size))
  clear HB hb
  have HB := n_
  clear n_
  go_wp2_with fail
  refine (MK_Int64S (fun k_ => w9.heap.size ≤ k_ ∧ k_ < w12.heap.size) Bv13_0 dv13_0 r0 yr0 1 mr0 w _ HB.out (Kd.R_lower HO13.out (by have := HZ2.out; have := HZ5.out; have := HZ8.out; have := HZ11.out; have := HZ14.out; have := HZ16.out; have := HZ19.out; have := HZ21.out; have := HZ23.out; have := HZ25.out; omega)) QHmr0.out).mono ?_
  rintro e w26 ⟨rfl, hO, hB2, hK⟩
  have n_ := Aside0.mk (Kd.R_kept HO7.out hK (fun k_ h_ h2_ => by have := HZ2.out; have := HZ5.out; have := HZ8.out; have := HZ11.out; have := HZ14.out; have := HZ16.out; have := HZ19.out; have := HZ21.out; have := HZ23.out; have := HZ25.out; obtain ⟨h3_, h4_⟩ := h2_; rcases h_ with h_ <;> omega))
  clear HO7
  have HO7 := n_
  clear n_
  have HZ27 := Aside0.mk hK.1
  clear HB
  have HB := Aside0.mk hB2
  clear HO13
  have HO13 := Aside0.mk hO
  clear hO hB2 hK
  go_wp2_with fail
  refine (HD_Int64S Bv13_0 dv13_0 r0.length yr0 1 mr0 _ QHl0.out (Kd.R_now HO13.out QHl0.out).2 (Kd.R_now HO13.out QHl0.out).1 QHh0.out).mono ?_
  rintro e w28 ⟨rfl, hb⟩
  have n_ := Aside0.mk (Kd.R_below HO7.out hb)
  clear HO7
  have HO7 := n_
  clear n_
  have n_ := Aside0.mk (Kd.R_below HO13.out hb)
  clear HO13
  have HO13 := n_
  clear n_
  have HZ29 := Aside0.mk hb.size
  have n_ := Aside0.mk (HB.out.trans (hb.mono HB.out.size))
  clear HB hb
  have HB := n_
  clear n_
  go_wp2_with fail
  refine (TO_StrokeS A0 c0 l0 x0 _ (Kd.C_below HR0.out HB.out) HC0.out QHt0.out).mono ?_
  rintro e w30 ⟨B31, d31, rfl, hO, hb⟩
  have n_ := Aside0.mk (Kd.R_below HO7.out hb)
  clear HO7
  have HO7 := n_
  clear n_
  have n_ := Aside0.mk (Kd.R_below HO13.out hb)
  clear HO13
  have HO13 := n_
  clear n_
  have HZ32 := Aside0.mk hb.size
  have n_ := Aside0.mk (HB.out.trans (hb.mono HB.out.size))
  clear HB hb
  have HB := n_
  clear n_
  have HO31 := Aside0.mk hO
  clear hO
  go_wp2_with fail
  obtain ⟨kHi34, hHi34⟩ := QHi.out.rounds
  refine (impl_TurnOnly.calls kHi34 B31 d31 x0 r0 r1 _ (Kd.S_reads' HO31.out).2.2 (Kd.S_reads' HO31.out).2.1 hHi34).mono ?_
  clear hHi34
  rintro e w33 ⟨v34_0, rfl, ho34_0, hb⟩
  obtain ⟨Bv34_0, dv34_0, rfl⟩ := Kd.R_slice ho34_0
  have HO34 := Aside0.mk (Kd.R_mono (Kd.R_bound ho34_0) (ok' := fun k_ => w30.heap.size ≤ k_ ∧ k_ < w33.heap.size) (fun k_ h_ => ⟨h_.2.1, h_.2.2.1⟩))
  clear ho34_0
  have n_ := Aside0.mk (Kd.R_below HO7.out hb)
  clear HO7
  have HO7 := n_
  clear n_
  have n_ := Aside0.mk (Kd.R_below HO13.out hb)
  clear HO13
  have HO13 := n_
  clear n_
  have n_ := Aside0.mk (Kd.S_below HO31.out hb)
  clear HO31
  have HO31 := n_
  clear n_
  have HZ35 := Aside0.mk hb.size
  have n_ := Aside0.mk (HB.out.trans (hb.mono HB.out.size))
  clear HB hb
  have HB := n_
  clear n_
  go_wp2_with fail
  clear HO31
  refine (EQ_Int64S Bv34_0 Bv7_0 dv34_0 dv7_0 r0 _ (Kd.R_reads' HO34.out).2.2 (Kd.R_reads' HO34.out).2.1 (Kd.R_reads' HO7.out).2.2 (Kd.R_reads' HO7.out).2.1 QHe0.out).mono ?_
  rintro e w36 ⟨rfl, hb⟩
  have n_ := Aside0.mk (Kd.R_below HO7.out hb)
  clear HO7
  have HO7 := n_
  clear n_
  have n_ := Aside0.mk (Kd.R_below HO13.out hb)
  clear HO13
  have HO13 := n_
  clear n_
  have n_ := Aside0.mk (Kd.R_below HO34.out hb)
  clear HO34
  have HO34 := n_
  clear n_
  have HZ37 := Aside0.mk hb.size
  have n_ := Aside0.mk (HB.out.trans (hb.mono HB.out.size))
  clear HB hb
  have HB := n_
  clear n_
  go_wp2_with fail
  clear HO34
  refine (HD_Int64S Bv13_0 dv13_0 r0.length yr0 1 mr0 _ QHl0.out (Kd.R_now HO13.out QHl0.out).2 (Kd.R_now HO13.out QHl0.out).1 QHh0.out).mono ?_
  rintro e w38 ⟨rfl, hb⟩
  have n_ := Aside0.mk (Kd.R_below HO7.out hb)
  clear HO7
  have HO7 := n_
  clear n_
  have n_ := Aside0.mk (Kd.R_below HO13.out hb)
  clear HO13
  have HO13 := n_
  clear n_
  have HZ39 := Aside0.mk hb.size
  have n_ := Aside0.mk (HB.out.trans (hb.mono HB.out.size))
  clear HB hb
  have HB := n_
  clear n_
  try go_wp2
  go_ret
  exact ⟨rfl, HB.out⟩

end Go.Proofs.Ythdadohmomhchaa.Pure

namespace Go.Proofs.Ythdadohmomhchaa.Pure
open Go.RowKit Go.Proofs.Ythdadohmomhchaa.F Go.Proofs.YthdadohmomhchaaW.PrintWords Go.Proofs.YthdadohmomhchaaW.PrintLast Go.Proofs.YthdadohmomhchaaW.PrintMore Go.Proofs.YthdadohmomhchaaB
set_option linter.unusedVariables false
set_option linter.unusedSimpArgs false
theorem walkFnExactTurnOnly (A0 : Option Addr) (c0 : Nat) (l0 : (List S109)) (w : World) (hr0 : Kd.C k109 w A0 l0.length l0) (hc0 : l0.length ≤ c0) (hm0 : l0.length ≤ maxLen) (hg0 : ∀ y ∈ l0, g109 y) :
    Calls Try.prog 4 #[.slice A0 l0.length c0] w fun e w' => e = .returned (.bool true) ∧ Below w.heap.size w w' := by
  unfold maxLen at hm0
  have hi : ∀ x ∈ l0, x.f1.length ≤ 9223372036854775807 := fun x hx => (hg0 x hx).2.1
  have hs := laws_szStrokeS_f l0 1048576 (by omega) (by omega) hm0 hi
  by_cases h : (1048576 : Int) < l0.length + total szStroke l0
  · rw [if_pos h] at hs
    exact early0_FnExactTurnOnly A0 c0 l0 (-1) w hr0 hc0 hs (by omega)
  rw [if_neg h] at hs
  obtain ⟨s1, s2⟩ := szStroke_small l0 h
  have t := laws_toStrokeS_f l0 s1 s2
  have sm := toSt_small l0 s2
  have sl : (l0.map toSt).length ≤ 1048576 := by rw [List.length_map]; exact s1
  obtain ⟨mk, mk0, _⟩ := markSt_arg l0 1 (by omega) (by omega) h
  generalize l0.map toSt = zs at *
  have rl := resOnly_length zs
  have hS := spec_TurnOnly_f zs (by omega)
  have hI := impl_TurnOnly_f zs (by omega)
  generalize resOnly zs = r at *
  obtain ⟨r0, r1⟩ := r
  simp only at rl
  exact walk_FnExactTurnOnly A0 c0 l0 zs _ r0 r1 _ _ _ _ w hr0 hc0 hs (by omega) t (laws_eqStrokeS_f zs (by omega) (fun x hx => by have := sm x hx; omega)) hS hI (laws_eqInt64S_f r0 (by omega)) mk mk0
    (laws_markInt64S_f r0 1 (by omega) (by omega) (by omega)) (by omega) (markI_length _ _) (laws_heldInt64S_f r0 1 (by omega) (by omega) (by omega))

end Go.Proofs.Ythdadohmomhchaa.Pure

namespace Go.Proofs.Ythdadohmomhchaa.fnExactTurnOnly
open Go.ChangeShapes Go.WideShapes Go.ChangeAt Go.RowKit Go.Proofs.YthdadohmomhchaaO Go.Proofs.Ythdadohmomhchaa.F Go.Proofs.YthdadohmomhchaaW.PrintWords
open Go.ChangeMaps (open_string shut_string)
set_option linter.unusedVariables false
theorem own : ownKnob Try.prog.godebug = none := by kernel_rfl
theorem laidOut : laidOutB Try.prog = true := by kernel_rfl
set_option maxRecDepth 100000 in
theorem lifted (os : Os) (started : os.Started) (H : Type) (enc : TypeId × Value → H) :
    ReturnsInHanded {} Try.checked os 4 .any (Rows.fnExactTurnOnlySpec.pre6 enc Try.prog Try.f4 Rows.fnExactTurnOnlyRow.domain false) (Rows.fnExactTurnOnlySpec.post enc Try.prog Try.f4 false true false false) := by
  refine returnsInHanded_of_change (C := Try.checked) own started (by kernel_rfl) Try.func4
    (ChangeSpec.witness6 (enc := enc) (C := Try.checked) false ⟨#[], #[.slice none 0 0], []⟩ 8 (by kernel_rfl) (by kernel_rfl) (by kernel_rfl) (by kernel_rfl)) ?_
  intro W base args ds gs before hval0 hW hcnd _
  have hval : ∀ (j : Nat) t v, Try.f4.params[j]? = some t → args[j]? = some v → Value.okWide Try.prog W .any base t v := hval0
  have hW' := hW
  obtain ⟨p, q, hA0, hV, rfl, hfz, hnd⟩ := hW
  have hA : DataW.TrodAll enc Try.prog W 0 (fun _ => true) true Try.f4.params.toList args.toList ds p := hA0
  rw [Try.params4] at hA hval
  obtain ⟨v0, vs0, d0, ds0, p0, q0, hargs, rfl, rfl, h0, r0⟩ := trodAll_cons hA
  obtain ⟨rfl, rfl, rfl⟩ := trodAll_nil r0
  obtain rfl : args = #[v0] := by cases args; simp_all
  obtain ⟨rfl, rfl⟩ := trodVars_none hV
  obtain ⟨a0, len0, cap0, rfl⟩ := okWide_slice Try.underlying22 (hval 0 22 v0 rfl rfl)
  have k0_ := h0
  have lt0 : ∀ x ∈ p0, x.block < W.heap.size := by obtain ⟨m, hm⟩ := k0_; exact DataW.trod_lt m _ _ _ hm
  obtain ⟨fuel0, hf0⟩ := h0
  obtain ⟨A0, l0, c0, hcs0, hc0, hb0, hr0, hg0⟩ := opens_row (d := k109) (G := g109) Try.underlying22 (by kernel_rfl) o109 hf0
  simp [Value.cells] at hcs0
  obtain ⟨rfl, rfl, rfl⟩ := hcs0
  clear hA0 hval0
  refine (Pure.walkFnExactTurnOnly _ _ l0 W hr0 hc0 (Nat.le_trans hc0 hb0) hg0).mono fun e W' ⟨he, bel⟩ => ?_
  subst he
  exact ⟨_, rfl, _, _, _, [], _, [], hW', trodAll_mk1 (shut_bool Try.underlying4 _), (trodAll_cons_mk (Below.trod laidOut (by kernel_rfl) (of_decide_eq_true (by kernel_rfl)) k0_ bel lt0) trodAll_mk0), rfl, bel.frame _, fun h => by cases h⟩
theorem over : Rows.fnExactTurnOnlyRow.holds Try.pinned (OpenSpec.ofChange Rows.fnExactTurnOnlySpec) :=
  OpenClaim.holds_of_wide 4 Try.f4 rfl rfl rfl rfl rfl rfl rfl ⟨rfl, rfl, rfl, rfl, rfl⟩ rfl rfl rfl rfl rfl (by kernel_rfl) Try.func4 (by kernel_rfl)
    (of_decide_eq_true (by kernel_rfl)) (by unfold Func.isWrapper; first | (rw [if_pos (by decide +kernel)]; kernel_rfl) | (rw [if_neg (by decide +kernel)]; exact ⟨rfl, rfl⟩))
    (fun os started H enc _ => lifted os started H enc)
theorem proved : Rows.FnExactTurnOnlySaid := over
end Go.Proofs.Ythdadohmomhchaa.fnExactTurnOnly
namespace Go.Proofs.Ythdadohmomhchaa
/-- The row, under a short name, for the claim. -/
theorem fnExactTurnOnly_holds : Rows.FnExactTurnOnlySaid := fnExactTurnOnly.proved
end Go.Proofs.Ythdadohmomhchaa
#print axioms Go.Proofs.Ythdadohmomhchaa.fnExactTurnOnly_holds
