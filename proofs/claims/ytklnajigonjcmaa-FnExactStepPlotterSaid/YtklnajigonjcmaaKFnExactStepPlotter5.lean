/-
  FnExactStepPlotter: the law returns true for every input and leaves its arguments as they were (the last theorem here). No condition.
-/
import Derived.Deep.Slices
import Derived.ChangeArms
import Derived.Test.YtklnajigonjcmaaRows
import Derived.ProofKit
import Derived.OpenShut
import Derived.ShutString
import Derived.ChangeOld
import Derived.Test.YtklnajigonjcmaaKFnExactStepPlotter4

namespace Go.Proofs.YtklnajigonjcmaaO
open Go.RowKit Go.Proofs.YtklnajigonjcmaaW.PrintWords
set_option linter.unusedVariables false

/-- What reads as data of type t is told by the kind d, and what it tells is G. -/
def Opens {H α : Type} (enc : TypeId × Value → H) (P : Program) (w : World) (d : Kd α) (t : TypeId) (G : α → Prop) : Prop :=
  ∀ (spare : Nat → Bool) (held : Bool) (base fuel : Nat) (cs : List Value) (x : DataW H × List MemPlace),
    DataW.trod enc P w base spare held fuel t cs = some x → ∃ a, d.K w a cs ∧ G a

section
variable {H α β : Type} {enc : TypeId × Value → H} {P : Program} {w : World}

theorem opens_int {t : TypeId} {k : IntKind} (ht : P.underlying t = some (.int k)) : Opens enc P w (Kd.int k) t (fun n => (Lit.int k n).wf = true) := by
  intro spare held base fuel cs x h
  obtain ⟨n, rfl, _, hw⟩ := DataW.trod_int ht h
  exact ⟨n, rfl, hw⟩

theorem opens_bool {t : TypeId} (ht : P.underlying t = some .bool) : Opens enc P w Kd.bool t (fun _ => True) := by
  intro spare held base fuel cs x h
  obtain ⟨n, rfl, _⟩ := DataW.trod_bool ht h
  exact ⟨n, rfl, trivial⟩

theorem opens_string {t : TypeId} (ht : P.underlying t = some .string) : Opens enc P w Kd.string t (fun s => s.size ≤ maxLen) := by
  intro spare held base fuel cs x h
  obtain ⟨n, rfl, _, hw⟩ := DataW.trod_string ht h
  exact ⟨n, rfl, hw⟩

theorem choose_list {p : Nat → α → Prop} : ∀ n, (∀ i, i < n → ∃ x, p i x) → ∃ l : List α, l.length = n ∧ ∀ i x, l[i]? = some x → p i x
  | 0, _ => ⟨[], rfl, fun i x h => by simp at h⟩
  | n + 1, h => by
    obtain ⟨l, hl, hp⟩ := choose_list n (fun i hi => h i (by omega))
    obtain ⟨x, hx⟩ := h n (by omega)
    refine ⟨l ++ [x], by simp [hl], fun i y hy => ?_⟩
    rcases Nat.lt_or_ge i n with hi | hi
    · rw [List.getElem?_append_left (by omega)] at hy
      exact hp i y hy
    · rw [List.getElem?_append_right (by omega), hl] at hy
      have : i - n = 0 := by
        rcases Nat.eq_zero_or_pos (i - n) with h0 | h0
        · exact h0
        · rw [List.getElem?_eq_none (by simp; omega)] at hy
          cases hy
      rw [this] at hy
      have : i = n := by omega
      subst this
      simp at hy
      exact hy ▸ hx

/-- A slice: its elements. -/
theorem opens_row {t e : TypeId} {d : Kd α} {G : α → Prop} (ht : P.underlying t = some (.slice e)) (hs : P.cellsOf e = d.sz) (he : Opens enc P w d e G)
    {spare : Nat → Bool} {held : Bool} {base fuel : Nat} {cs : List Value} {x : DataW H × List MemPlace} (h : DataW.trod enc P w base spare held fuel t cs = some x) :
    ∃ (A : Option Addr) (xs : List α) (c : Nat), cs = [.slice A xs.length c] ∧ xs.length ≤ c ∧ c ≤ maxLen ∧ d.C w A xs.length xs ∧ ∀ a ∈ xs, G a := by
  rcases Go.Deep.open_slice ht h with ⟨rfl, _⟩ | ⟨a, len, cap, m, n, D, Pl, rfl, hb, hl, hm, hmm, _, hx⟩
  · exact ⟨none, [], 0, rfl, Nat.le_refl _, by unfold maxLen; omega, ⟨rfl, by simp, fun h => absurd h (by simp)⟩, fun a ha => by simp at ha⟩
  · have hlm : len ≤ m := by rw [hmm]; split <;> omega
    obtain ⟨xs, hxl, hxs⟩ := choose_list (p := fun i (b : α) => (∃ c, c.length = d.sz ∧ d.K w b c ∧ ∀ j u, c[j]? = some u → w.cell? (a.add (i * d.sz + j)) = some u) ∧ G b) len (fun i hi => by
      obtain ⟨cs', h1, h2⟩ := hx i (by omega)
      obtain ⟨_, hcl, hc⟩ := World.cells?_some h1
      obtain ⟨b, hK, hG⟩ := he _ _ _ _ _ _ h2
      refine ⟨b, ⟨cs', by rw [hcl, hs], hK, fun j u hj => ?_⟩, hG⟩
      have hjl : j < P.cellsOf e := by rw [← hcl]; exact (List.getElem?_eq_some_iff.1 hj).1
      have := hc j hjl
      rw [hs] at this
      rw [hj] at this
      rw [← this, Go.Deep.add_add])
    subst hxl
    refine ⟨some a, xs, cap, rfl, hl, hm, ⟨rfl, by unfold maxLen at hm; omega, fun _ => ⟨a, rfl, fun j p hj => (hxs j p hj).1⟩⟩, fun b hb => ?_⟩
    obtain ⟨i, hi, rfl⟩ := List.getElem_of_mem hb
    exact (hxs i _ (List.getElem?_eq_getElem hi)).2

theorem opens_slice {t e e' : TypeId} {d : Kd α} {G : α → Prop} (ht : P.underlying t = some (.slice e)) (hs : P.cellsOf e = d.sz) (he : Opens enc P w d e G) :
    Opens enc P w (Kd.slice e' d) t (fun xs => xs.length ≤ maxLen ∧ ∀ a ∈ xs, G a) := by
  intro spare held base fuel cs x h
  obtain ⟨A, xs, c, rfl, hl, hm, hC, hG⟩ := opens_row ht hs he h
  exact ⟨xs, ⟨A, c, rfl, hl, hC⟩, by omega, hG⟩

/-- The fields of a struct from offset o on. -/
def OpensF (enc : TypeId × Value → H) (P : Program) (w : World) (d : Kd α) (fs : List Field) (o : Nat) (G : α → Prop) : Prop :=
  ∀ (spare : Nat → Bool) (held : Bool) (base fuel : Nat) (cs : List Value), cs.length = o + d.sz →
    (∀ f ∈ fs, ∃ x, DataW.trod enc P w base spare held fuel f.type ((cs.drop f.offset).take (P.cellsOf f.type)) = some x) → ∃ a, d.K w a (cs.drop o) ∧ G a

theorem opensF_last {d : Kd α} {f : Field} {o : Nat} {G : α → Prop} (ho : f.offset = o) (hs : P.cellsOf f.type = d.sz) (h : Opens enc P w d f.type G) : OpensF enc P w d [f] o G := by
  intro spare held base fuel cs hl hf
  obtain ⟨x, hx⟩ := hf f (List.mem_singleton.2 rfl)
  rw [ho, hs, List.take_of_length_le (by rw [List.length_drop]; omega)] at hx
  exact h _ _ _ _ _ _ hx

theorem opensF_cons {d : Kd α} {d' : Kd β} {f : Field} {fs : List Field} {o : Nat} {G : α → Prop} {G' : β → Prop} (ho : f.offset = o) (hs : P.cellsOf f.type = d.sz) (h : Opens enc P w d f.type G)
    (hr : OpensF enc P w d' fs (o + d.sz) G') : OpensF enc P w (Kd.pair d d') (f :: fs) o (fun x => G x.1 ∧ G' x.2) := by
  intro spare held base fuel cs hl hf
  have hl' : cs.length = o + (d.sz + d'.sz) := hl
  obtain ⟨x, hx⟩ := hf f List.mem_cons_self
  rw [ho, hs] at hx
  obtain ⟨a, hK, hG⟩ := h _ _ _ _ _ _ hx
  obtain ⟨b, hK', hG'⟩ := hr spare held base fuel cs (by omega) (fun g hg => hf g (List.mem_cons_of_mem _ hg))
  refine ⟨(a, b), ⟨_, _, ?_, hK, hK'⟩, hG, hG'⟩
  rw [← List.drop_drop, List.take_append_drop]

/-- A struct by its fields, as a Lean structure: f takes it apart, g puts it together. -/
theorem opens_struct {t : TypeId} {fs : Array Field} {d : Kd α} {G : α → Prop} (ht : P.underlying t = some (.struct fs)) (hs : P.cellsOf t = d.sz) (f : β → α) (g : α → β) (hfg : ∀ a, f (g a) = a) (h : OpensF enc P w d fs.toList 0 G) :
    Opens enc P w (Kd.iso d f) t (fun b => G (f b)) := by
  intro spare held base fuel cs x hx
  obtain ⟨xs, n, rfl, _, hl, hxl, hf⟩ := DataW.trod_struct ht hx
  obtain ⟨a, hK, hG⟩ := h spare held base n cs (by rw [hl, hs]; omega) (fun z hz => by
    obtain ⟨i, hi, rfl⟩ := List.getElem_of_mem hz
    have hi' : i < fs.size := by simpa using hi
    refine ⟨xs[i]'(by omega), ?_⟩
    rw [Array.getElem_toList]
    rw [hf i _ (Array.getElem?_eq_getElem hi'), List.getElem?_eq_getElem (by omega)])
  refine ⟨g a, ?_, by show G (f (g a)); rw [hfg]; exact hG⟩
  show d.K w (f (g a)) cs
  rw [hfg]
  exact hK

theorem Opens.mono {d : Kd α} {t : TypeId} {G G' : α → Prop} (h : Opens enc P w d t G) (hg : ∀ a, G a → G' a) : Opens enc P w d t G' := by
  intro spare held base fuel cs x hx
  obtain ⟨a, hK, hG⟩ := h _ _ _ _ _ _ hx
  exact ⟨a, hK, hg a hG⟩
end
end Go.Proofs.YtklnajigonjcmaaO

namespace Go.Proofs.Ytklnajigonjcmaa.F
open Go.RowKit Go.Proofs.YtklnajigonjcmaaW.PrintWords Go.Proofs.YtklnajigonjcmaaO
set_option linter.unusedVariables false

def g5 (x : Int) : Prop := (Lit.int .u8 x).wf = true
def g2 (x : Int) : Prop := (Lit.int .i64 x).wf = true
def g29 (x : S29) : Prop := ((Lit.int .u8 x.f0).wf = true) ∧ ((Lit.int .i64 x.f1).wf = true) ∧ ((Lit.int .i64 x.f2).wf = true)
theorem o29 {H : Type} {enc : TypeId × Value → H} {w : World} : Opens enc Try.prog w k29 29 g29 := (opens_struct (β := S29) Try.underlying29 (by kernel_rfl) (fun x => (x.f0, x.f1, x.f2)) (fun p => ⟨p.1, p.2.1, p.2.2⟩) (fun _ => rfl) (opensF_cons rfl (by kernel_rfl) (opens_int Try.underlying5) (opensF_cons rfl (by kernel_rfl) (opens_int Try.underlying2) (opensF_last rfl (by kernel_rfl) (opens_int Try.underlying2))))).mono (fun _ h => h)
theorem p23 {H : Type} {enc : TypeId × Value → H} {w : World} : Opens enc Try.prog w (Kd.iso (Kd.pair (Kd.int .i64) (Kd.pair (Kd.int .i64) (Kd.pair (Kd.int .i64) Kd.bool))) (fun x : (Int × Int × Int × Bool) => x)) 23 (fun x => ((Lit.int .i64 x.1).wf = true) ∧ ((Lit.int .i64 x.2.1).wf = true) ∧ ((Lit.int .i64 x.2.2.1).wf = true) ∧ (True)) := (opens_struct (β := (Int × Int × Int × Bool)) Try.underlying23 (by kernel_rfl) (fun x => x) (fun x => x) (fun _ => rfl) (opensF_cons rfl (by kernel_rfl) (opens_int Try.underlying2) (opensF_cons rfl (by kernel_rfl) (opens_int Try.underlying2) (opensF_cons rfl (by kernel_rfl) (opens_int Try.underlying2) (opensF_last rfl (by kernel_rfl) (opens_bool Try.underlying4)))))).mono (fun _ h => h)
theorem p29 {H : Type} {enc : TypeId × Value → H} {w : World} : Opens enc Try.prog w (Kd.iso (Kd.pair (Kd.int .u8) (Kd.pair (Kd.int .i64) (Kd.int .i64))) (fun x : (Int × Int × Int) => x)) 29 (fun x => ((Lit.int .u8 x.1).wf = true) ∧ ((Lit.int .i64 x.2.1).wf = true) ∧ ((Lit.int .i64 x.2.2).wf = true)) := (opens_struct (β := (Int × Int × Int)) Try.underlying29 (by kernel_rfl) (fun x => x) (fun x => x) (fun _ => rfl) (opensF_cons rfl (by kernel_rfl) (opens_int Try.underlying5) (opensF_cons rfl (by kernel_rfl) (opens_int Try.underlying2) (opensF_last rfl (by kernel_rfl) (opens_int Try.underlying2))))).mono (fun _ h => h)
theorem p50 {H : Type} {enc : TypeId × Value → H} {w : World} : Opens enc Try.prog w (Kd.iso (Kd.pair (Kd.iso (Kd.pair (Kd.int .i64) (Kd.pair (Kd.iso (Kd.pair (Kd.int .i64) (Kd.int .i64)) (fun x : (Int × Int) => x)) (Kd.int .i64))) (fun x : (Int × (Int × Int) × Int) => x)) (Kd.pair (Kd.int .i64) (Kd.pair (Kd.slice 2 (Kd.int .i64)) (Kd.slice 2 (Kd.int .i64))))) (fun x : ((Int × (Int × Int) × Int) × Int × (List Int) × (List Int)) => x)) 50 (fun x => (((Lit.int .i64 x.1.1).wf = true) ∧ (((Lit.int .i64 x.1.2.1.1).wf = true) ∧ ((Lit.int .i64 x.1.2.1.2).wf = true)) ∧ ((Lit.int .i64 x.1.2.2).wf = true)) ∧ ((Lit.int .i64 x.2.1).wf = true) ∧ (x.2.2.1.length ≤ maxLen ∧ ∀ y ∈ x.2.2.1, g2 y) ∧ (x.2.2.2.length ≤ maxLen ∧ ∀ y ∈ x.2.2.2, g2 y)) := (opens_struct (β := ((Int × (Int × Int) × Int) × Int × (List Int) × (List Int))) Try.underlying50 (by kernel_rfl) (fun x => x) (fun x => x) (fun _ => rfl) (opensF_cons rfl (by kernel_rfl) (opens_struct (β := (Int × (Int × Int) × Int)) Try.underlying47 (by kernel_rfl) (fun x => x) (fun x => x) (fun _ => rfl) (opensF_cons rfl (by kernel_rfl) (opens_int Try.underlying2) (opensF_cons rfl (by kernel_rfl) (opens_struct (β := (Int × Int)) Try.underlying45 (by kernel_rfl) (fun x => x) (fun x => x) (fun _ => rfl) (opensF_cons rfl (by kernel_rfl) (opens_int Try.underlying2) (opensF_last rfl (by kernel_rfl) (opens_int Try.underlying2)))) (opensF_last rfl (by kernel_rfl) (opens_int Try.underlying2))))) (opensF_cons rfl (by kernel_rfl) (opens_int Try.underlying2) (opensF_cons rfl (by kernel_rfl) (opens_slice (e' := 2) Try.underlying48 (by kernel_rfl) (opens_int Try.underlying2)) (opensF_last rfl (by kernel_rfl) (opens_slice (e' := 2) Try.underlying48 (by kernel_rfl) (opens_int Try.underlying2))))))).mono (fun _ h => h)
end Go.Proofs.Ytklnajigonjcmaa.F

namespace Go.Proofs.Ytklnajigonjcmaa.Pure
open Go.RowKit Go.Proofs.Ytklnajigonjcmaa.F Go.Proofs.YtklnajigonjcmaaW.PrintWords Go.Proofs.YtklnajigonjcmaaW.PrintLast Go.Proofs.YtklnajigonjcmaaW.PrintMore Go.Proofs.YtklnajigonjcmaaB
set_option linter.unusedVariables false
set_option linter.unusedSimpArgs false
theorem impl_in_f (a b c : Int) : impl_in.f a b c = some (inB a b c) := inB_if a b c

end Go.Proofs.Ytklnajigonjcmaa.Pure

namespace Go.Proofs.Ytklnajigonjcmaa.Pure
open Go.RowKit Go.Proofs.Ytklnajigonjcmaa.F Go.Proofs.YtklnajigonjcmaaW.PrintWords Go.Proofs.YtklnajigonjcmaaW.PrintLast Go.Proofs.YtklnajigonjcmaaW.PrintMore Go.Proofs.YtklnajigonjcmaaB
set_option linter.unusedVariables false
set_option linter.unusedSimpArgs false
theorem impl_isSpot_f (a : Int) : impl_isSpot.f a = some (inB a (-1000000) 1000000) := by
  simp only [impl_isSpot.f, impl_in_f, Option.bind_some]

end Go.Proofs.Ytklnajigonjcmaa.Pure

namespace Go.Proofs.Ytklnajigonjcmaa.Pure
open Go.RowKit Go.Proofs.Ytklnajigonjcmaa.F Go.Proofs.YtklnajigonjcmaaW.PrintWords Go.Proofs.YtklnajigonjcmaaW.PrintLast Go.Proofs.YtklnajigonjcmaaW.PrintMore Go.Proofs.YtklnajigonjcmaaB
set_option linter.unusedVariables false
set_option linter.unusedSimpArgs false
def plotB (a b c : Int) (d : Bool) : Bool := inB a (-1000000) 1000000 && inB b (-1000000) 1000000 && inB c 0 8 && !(d && c == 0)
/-- The plotter after a command, and whether it may be. -/
def stepM (a b c : Int) (d : Bool) (k x y : Int) : Int × Int × Int × Bool × Bool := if k = 80 then (a, b, x, false, true) else if k = 85 then (x, y, c, false, true) else (x, y, c, true, decide (c > 0))

end Go.Proofs.Ytklnajigonjcmaa.Pure

namespace Go.Proofs.Ytklnajigonjcmaa.Pure
open Go.RowKit Go.Proofs.Ytklnajigonjcmaa.F Go.Proofs.YtklnajigonjcmaaW.PrintWords Go.Proofs.YtklnajigonjcmaaW.PrintLast Go.Proofs.YtklnajigonjcmaaW.PrintMore Go.Proofs.YtklnajigonjcmaaB
set_option linter.unusedVariables false
set_option linter.unusedSimpArgs false
theorem impl_IsPlotter_f (a b c : Int) (d : Bool) : impl_IsPlotter.f a b c d = some (plotB a b c d) := by
  simp only [impl_IsPlotter.f, impl_isSpot_f, impl_in_f, Option.bind_some, plotB]
  cases inB a (-1000000) 1000000 <;> cases inB b (-1000000) 1000000 <;> cases inB c 0 8 <;> cases d <;> simp

end Go.Proofs.Ytklnajigonjcmaa.Pure

namespace Go.Proofs.Ytklnajigonjcmaa.Pure
open Go.RowKit Go.Proofs.Ytklnajigonjcmaa.F Go.Proofs.YtklnajigonjcmaaW.PrintWords Go.Proofs.YtklnajigonjcmaaW.PrintLast Go.Proofs.YtklnajigonjcmaaW.PrintMore Go.Proofs.YtklnajigonjcmaaB
set_option linter.unusedVariables false
set_option linter.unusedSimpArgs false
theorem impl_Plotter_step_f (a b c : Int) (d : Bool) (k x y : Int) : impl_Plotter_step.f a b c d k x y = some (stepM a b c d k x y) := by
  unfold impl_Plotter_step.f stepM
  split <;> (try rfl)
  split <;> rfl

end Go.Proofs.Ytklnajigonjcmaa.Pure

namespace Go.Proofs.Ytklnajigonjcmaa.Pure
open Go.RowKit Go.Proofs.Ytklnajigonjcmaa.F Go.Proofs.YtklnajigonjcmaaW.PrintWords Go.Proofs.YtklnajigonjcmaaW.PrintLast Go.Proofs.YtklnajigonjcmaaW.PrintMore Go.Proofs.YtklnajigonjcmaaB
set_option linter.unusedVariables false
set_option linter.unusedSimpArgs false
theorem impl_isPen_f (a : Int) : impl_isPen.f a = some (inB a 1 8) := by
  simp only [impl_isPen.f, impl_in_f, Option.bind_some]

end Go.Proofs.Ytklnajigonjcmaa.Pure

namespace Go.Proofs.Ytklnajigonjcmaa.Pure
open Go.RowKit Go.Proofs.Ytklnajigonjcmaa.F Go.Proofs.YtklnajigonjcmaaW.PrintWords Go.Proofs.YtklnajigonjcmaaW.PrintLast Go.Proofs.YtklnajigonjcmaaW.PrintMore Go.Proofs.YtklnajigonjcmaaB
set_option linter.unusedVariables false
set_option linter.unusedSimpArgs false
def isC (a b c : Int) : Bool := if a = 80 then inB b 1 8 && c == 0 else if a = 85 ∨ a = 68 then inB b (-1000000) 1000000 && inB c (-1000000) 1000000 else false
def isCm (x : S32) : Bool := isC x.f0 x.f1 x.f2
def codeC (l : List S32) : Int := if l.all isCm = true then (if 400 < l.length then 3 else 0) else 1
theorem rdC {xs ys : List S32} {y : S32} {m : Nat} (h : xs.drop m = y :: ys) : rd_T32 xs (m : Int) = y := (drop_cons h).2.1 _

end Go.Proofs.Ytklnajigonjcmaa.Pure

namespace Go.Proofs.Ytklnajigonjcmaa.Pure
open Go.RowKit Go.Proofs.Ytklnajigonjcmaa.F Go.Proofs.YtklnajigonjcmaaW.PrintWords Go.Proofs.YtklnajigonjcmaaW.PrintLast Go.Proofs.YtklnajigonjcmaaW.PrintMore Go.Proofs.YtklnajigonjcmaaB
set_option linter.unusedVariables false
set_option linter.unusedSimpArgs false
theorem impl_isCommand_f (a b c : Int) : Ev (fun k => impl_isCommand.f k a b c) (isC a b c) := by
  refine ⟨1, fun k hk => ?_⟩
  obtain ⟨k, rfl⟩ : ∃ m, k = m + 1 := ⟨k - 1, by omega⟩
  simp only [impl_isCommand.f, impl_isCommand.j0, impl_isPen_f, impl_isSpot_f, Option.bind_some, isC]
  by_cases h : a = 80
  · simp only [if_pos h]
    cases inB b 1 8 <;> simp
  · simp only [if_neg h]
    by_cases h1 : a = 85 <;> by_cases h2 : a = 68 <;> cases inB b (-1000000) 1000000 <;> simp [h1, h2]

end Go.Proofs.Ytklnajigonjcmaa.Pure

namespace Go.Proofs.Ytklnajigonjcmaa.Pure
open Go.RowKit Go.Proofs.Ytklnajigonjcmaa.F Go.Proofs.YtklnajigonjcmaaW.PrintWords Go.Proofs.YtklnajigonjcmaaW.PrintLast Go.Proofs.YtklnajigonjcmaaW.PrintMore Go.Proofs.YtklnajigonjcmaaB
set_option linter.unusedVariables false
set_option linter.unusedSimpArgs false
theorem spec_l01In_f (a b c : Int) : spec_l01In.f a b c = some (inB a b c) := inB_if a b c

end Go.Proofs.Ytklnajigonjcmaa.Pure

namespace Go.Proofs.Ytklnajigonjcmaa.Pure
open Go.RowKit Go.Proofs.Ytklnajigonjcmaa.F Go.Proofs.YtklnajigonjcmaaW.PrintWords Go.Proofs.YtklnajigonjcmaaW.PrintLast Go.Proofs.YtklnajigonjcmaaW.PrintMore Go.Proofs.YtklnajigonjcmaaB
set_option linter.unusedVariables false
set_option linter.unusedSimpArgs false
theorem spec_l14Point_f (a b : Int) : spec_l14Point.f a b = some (inB a (-1000000) 1000000 && inB b (-1000000) 1000000) := by
  simp only [spec_l14Point.f, spec_l01In_f, Option.bind_some]
  cases inB a (-1000000) 1000000 <;> simp

end Go.Proofs.Ytklnajigonjcmaa.Pure

namespace Go.Proofs.Ytklnajigonjcmaa.Pure
open Go.RowKit Go.Proofs.Ytklnajigonjcmaa.F Go.Proofs.YtklnajigonjcmaaW.PrintWords Go.Proofs.YtklnajigonjcmaaW.PrintLast Go.Proofs.YtklnajigonjcmaaW.PrintMore Go.Proofs.YtklnajigonjcmaaB
set_option linter.unusedVariables false
set_option linter.unusedSimpArgs false
theorem spec_IsPlotter_f (a b c : Int) (d : Bool) : spec_IsPlotter.f a b c d = some (plotB a b c d) := by
  simp only [spec_IsPlotter.f, spec_l14Point_f, spec_l01In_f, Option.bind_some, plotB]
  have hc : inB c 0 8 = true → (c > 0 ∨ c = 0) := by unfold inB; simp; omega
  cases inB a (-1000000) 1000000 <;> cases inB b (-1000000) 1000000 <;> cases h : inB c 0 8 <;> cases d <;> simp
  rcases hc h with h1 | h1
  · simp [h1]; omega
  · simp [h1]

end Go.Proofs.Ytklnajigonjcmaa.Pure

namespace Go.Proofs.Ytklnajigonjcmaa.Pure
open Go.RowKit Go.Proofs.Ytklnajigonjcmaa.F Go.Proofs.YtklnajigonjcmaaW.PrintWords Go.Proofs.YtklnajigonjcmaaW.PrintLast Go.Proofs.YtklnajigonjcmaaW.PrintMore Go.Proofs.YtklnajigonjcmaaB
set_option linter.unusedVariables false
set_option linter.unusedSimpArgs false
theorem spec_l28Pen_f (a : Int) : spec_l28Pen.f a = some (inB a 1 8) := by
  simp only [spec_l28Pen.f, spec_l01In_f, Option.bind_some]

end Go.Proofs.Ytklnajigonjcmaa.Pure

namespace Go.Proofs.Ytklnajigonjcmaa.Pure
open Go.RowKit Go.Proofs.Ytklnajigonjcmaa.F Go.Proofs.YtklnajigonjcmaaW.PrintWords Go.Proofs.YtklnajigonjcmaaW.PrintLast Go.Proofs.YtklnajigonjcmaaW.PrintMore Go.Proofs.YtklnajigonjcmaaB
set_option linter.unusedVariables false
set_option linter.unusedSimpArgs false
theorem spec_l29Is_f (a b c : Int) : spec_l29Is.f a b c = some (isC a b c) := by
  simp only [spec_l29Is.f, spec_l28Pen_f, spec_l14Point_f, Option.bind_some, isC]
  by_cases h : a = 80
  · simp only [if_pos h]
    cases inB b 1 8 <;> simp
  · simp only [if_neg h]
    by_cases h1 : a = 85 <;> by_cases h2 : a = 68 <;> simp [h1, h2]

end Go.Proofs.Ytklnajigonjcmaa.Pure

namespace Go.Proofs.Ytklnajigonjcmaa.Pure
open Go.RowKit Go.Proofs.Ytklnajigonjcmaa.F Go.Proofs.YtklnajigonjcmaaW.PrintWords Go.Proofs.YtklnajigonjcmaaW.PrintLast Go.Proofs.YtklnajigonjcmaaW.PrintMore Go.Proofs.YtklnajigonjcmaaB
set_option linter.unusedVariables false
set_option linter.unusedSimpArgs false
theorem spec_l30Step_f (a b c : Int) (d : Bool) (k x y : Int) : spec_l30Step.f a b c d k x y = some (stepM a b c d k x y) := by
  unfold spec_l30Step.f stepM
  split <;> (try rfl)
  split <;> rfl

end Go.Proofs.Ytklnajigonjcmaa.Pure

namespace Go.Proofs.Ytklnajigonjcmaa.Pure
open Go.RowKit Go.Proofs.Ytklnajigonjcmaa.F Go.Proofs.YtklnajigonjcmaaW.PrintWords Go.Proofs.YtklnajigonjcmaaW.PrintLast Go.Proofs.YtklnajigonjcmaaW.PrintMore Go.Proofs.YtklnajigonjcmaaB
set_option linter.unusedVariables false
set_option linter.unusedSimpArgs false
def resStep (a b c : Int) (d : Bool) (k x y : Int) : Int × Int × Int × Bool × Int :=
  if (plotB a b c d && isC k x y) = true then (if (stepM a b c d k x y).2.2.2.2 = true then ((stepM a b c d k x y).1, (stepM a b c d k x y).2.1, (stepM a b c d k x y).2.2.1, (stepM a b c d k x y).2.2.2.1, 0) else (0, 0, 0, false, 5)) else (0, 0, 0, false, 1)
theorem spec_StepPlotter_f (a b c : Int) (d : Bool) (k x y : Int) : Ev (fun n => spec_StepPlotter.f n a b c d k x y) (resStep a b c d k x y) := by
  refine ev_some (spec_IsPlotter_f a b c d) ?_
  unfold resStep
  cases plotB a b c d
  · exact ev_neg (by simp) (ev_step (fun _ => rfl) (ev_now rfl))
  refine ev_pos rfl (ev_some (spec_l29Is_f k x y) ?_)
  cases isC k x y
  · exact ev_step (fun _ => rfl) (ev_now rfl)
  refine ev_step (f' := fun _ => (spec_l30Step.f a b c d k x y).bind fun bt138 => (if bt138.2.2.2.2 = true then (some (bt138.1, bt138.2.1, bt138.2.2.1, bt138.2.2.2.1, 0)) else (some (0, 0, 0, false, 5)))) (fun _ => rfl) (ev_some (spec_l30Step_f _ _ _ _ _ _ _) ?_)
  rw [if_pos (show (true && true) = true from rfl)]
  generalize stepM a b c d k x y = r
  cases r.2.2.2.2
  · exact ev_neg (by simp) (ev_now rfl)
  · exact ev_pos rfl (ev_now rfl)

end Go.Proofs.Ytklnajigonjcmaa.Pure

namespace Go.Proofs.Ytklnajigonjcmaa.Pure
open Go.RowKit Go.Proofs.Ytklnajigonjcmaa.F Go.Proofs.YtklnajigonjcmaaW.PrintWords Go.Proofs.YtklnajigonjcmaaW.PrintLast Go.Proofs.YtklnajigonjcmaaW.PrintMore Go.Proofs.YtklnajigonjcmaaB
set_option linter.unusedVariables false
set_option linter.unusedSimpArgs false
theorem impl_StepPlotter_f (a b c : Int) (d : Bool) (k x y : Int) : Ev (fun n => impl_StepPlotter.f n a b c d k x y) (resStep a b c d k x y) := by
  refine ev_some (impl_IsPlotter_f a b c d) ?_
  unfold resStep
  cases plotB a b c d
  · exact ev_neg (by simp) (ev_step (fun _ => rfl) (ev_now rfl))
  refine ev_pos rfl (ev_bind (impl_isCommand_f k x y) ?_)
  cases isC k x y
  · exact ev_step (fun _ => rfl) (ev_now rfl)
  refine ev_step (f' := fun _ => (impl_Plotter_step.f a b c d k x y).bind fun bt138 => (if bt138.2.2.2.2 = true then (some (bt138.1, bt138.2.1, bt138.2.2.1, bt138.2.2.2.1, 0)) else (some (0, 0, 0, false, 5)))) (fun _ => rfl) (ev_some (impl_Plotter_step_f _ _ _ _ _ _ _) ?_)
  rw [if_pos (show (true && true) = true from rfl)]
  generalize stepM a b c d k x y = r
  cases r.2.2.2.2
  · exact ev_neg (by simp) (ev_now rfl)
  · exact ev_pos rfl (ev_now rfl)

end Go.Proofs.Ytklnajigonjcmaa.Pure

namespace Go.Proofs.Ytklnajigonjcmaa.Pure
open Go.RowKit Go.Proofs.Ytklnajigonjcmaa.F Go.Proofs.YtklnajigonjcmaaW.PrintWords Go.Proofs.YtklnajigonjcmaaW.PrintLast Go.Proofs.YtklnajigonjcmaaW.PrintMore Go.Proofs.YtklnajigonjcmaaB
set_option linter.unusedVariables false
set_option linter.unusedSimpArgs false
theorem pure_FnExactStepPlotter (a b c : Int) (d : Bool) (k x y : Int) : Ev (fun n => laws_FnExactStepPlotter.f n a b c d k x y) true := by
  refine ev_some (a := (a, b, c, d)) rfl (ev_some (a := (k, x, y)) rfl (ev_bind (spec_StepPlotter_f a b c d k x y) ?_))
  refine ev_some (a := (a, b, c, d)) rfl (ev_some (a := (k, x, y)) rfl (ev_bind (impl_StepPlotter_f a b c d k x y) ?_))
  generalize resStep a b c d k x y = r
  refine ev_some (a := true) (by simp [laws_eqPlotter.f]) (ev_pos rfl (ev_pos rfl (ev_now rfl)))
theorem walkFnExactStepPlotter (a0_0 : Int) (a0_1 : Int) (a0_2 : Int) (a0_3 : Bool) (a1_0 : Int) (a1_1 : Int) (a1_2 : Int) (w : World) (hg0_0 : (Lit.int .i64 a0_0).wf = true) (hg0_1 : (Lit.int .i64 a0_1).wf = true) (hg0_2 : (Lit.int .i64 a0_2).wf = true) (hg1_0 : (Lit.int .u8 a1_0).wf = true) (hg1_1 : (Lit.int .i64 a1_1).wf = true) (hg1_2 : (Lit.int .i64 a1_2).wf = true) :
    Calls Try.prog 4 #[.agg #[.int .i64 a0_0, .int .i64 a0_1, .int .i64 a0_2, .bool a0_3], .agg #[.int .u8 a1_0, .int .i64 a1_1, .int .i64 a1_2]] w fun e w' => e = .returned (.bool true) ∧ Below w.heap.size w w' := by
  obtain ⟨k, h⟩ := (pure_FnExactStepPlotter a0_0 a0_1 a0_2 a0_3 a1_0 a1_1 a1_2).rounds
  exact laws_FnExactStepPlotter.calls k a0_0 a0_1 a0_2 a0_3 a1_0 a1_1 a1_2 true w h

end Go.Proofs.Ytklnajigonjcmaa.Pure

namespace Go.Proofs.Ytklnajigonjcmaa.fnExactStepPlotter
open Go.ChangeShapes Go.WideShapes Go.ChangeAt Go.RowKit Go.Proofs.YtklnajigonjcmaaO Go.Proofs.Ytklnajigonjcmaa.F Go.Proofs.YtklnajigonjcmaaW.PrintWords
open Go.ChangeMaps (open_string shut_string)
set_option linter.unusedVariables false
theorem own : ownKnob Try.prog.godebug = none := by kernel_rfl
theorem laidOut : laidOutB Try.prog = true := by kernel_rfl
set_option maxRecDepth 100000 in
theorem lifted (os : Os) (started : os.Started) (H : Type) (enc : TypeId × Value → H) :
    ReturnsInHanded {} Try.checked os 4 .any (Rows.fnExactStepPlotterSpec.pre6 enc Try.prog Try.f4 Rows.fnExactStepPlotterRow.domain false) (Rows.fnExactStepPlotterSpec.post enc Try.prog Try.f4 false true false false) := by
  refine returnsInHanded_of_change (C := Try.checked) own started (by kernel_rfl) Try.func4
    (ChangeSpec.witness6 (enc := enc) (C := Try.checked) false ⟨#[], #[.agg #[.int .i64 0, .int .i64 0, .int .i64 0, .bool false], .agg #[.int .u8 0, .int .i64 0, .int .i64 0]], []⟩ 8 (by kernel_rfl) (by kernel_rfl) (by kernel_rfl) (by kernel_rfl)) ?_
  intro W base args ds gs before hval0 hW hcnd _
  have hval : ∀ (j : Nat) t v, Try.f4.params[j]? = some t → args[j]? = some v → Value.okWide Try.prog W .any base t v := hval0
  have hW' := hW
  obtain ⟨p, q, hA0, hV, rfl, hfz, hnd⟩ := hW
  have hA : DataW.TrodAll enc Try.prog W 0 (fun _ => true) true Try.f4.params.toList args.toList ds p := hA0
  rw [Try.params4] at hA hval
  obtain ⟨v0, vs0, d0, ds0, p0, q0, hargs, rfl, rfl, h0, r0⟩ := trodAll_cons hA
  obtain ⟨v1, vs1, d1, ds1, p1, q1, rfl, rfl, rfl, h1, r1⟩ := trodAll_cons r0
  obtain ⟨rfl, rfl, rfl⟩ := trodAll_nil r1
  obtain rfl : args = #[v0, v1] := by cases args; simp_all
  obtain ⟨rfl, rfl⟩ := trodVars_none hV
  have k0_ := h0
  have lt0 : ∀ x ∈ p0, x.block < W.heap.size := by obtain ⟨m, hm⟩ := k0_; exact DataW.trod_lt m _ _ _ hm
  obtain ⟨cs0, rfl, _, _⟩ : ∃ cs, v0 = .agg cs ∧ cs.size = Try.prog.cellsOf 23 ∧ Row.okWide Try.prog W .any base 23 cs := by
    have z := hval 0 23 v0 rfl rfl
    unfold Value.okWide at z
    rw [Try.underlying23] at z
    exact z
  obtain ⟨fuel0, hf0⟩ := h0
  obtain ⟨⟨a0_0, a0_1, a0_2, a0_3⟩, hK0, hG0⟩ := p23 _ _ _ _ _ _ hf0
  obtain ⟨L0, hL0, hK0⟩ : ∃ L, cs0.toList = L ∧ ((Kd.iso (Kd.pair (Kd.int .i64) (Kd.pair (Kd.int .i64) (Kd.pair (Kd.int .i64) Kd.bool))) (fun x : (Int × Int × Int × Bool) => x))).K W ⟨a0_0, a0_1, a0_2, a0_3⟩ L := ⟨_, rfl, hK0⟩
  obtain ⟨_, _, rfl, rfl, ⟨_, _, rfl, rfl, ⟨_, _, rfl, rfl, rfl⟩⟩⟩ := hK0
  obtain ⟨hg0_0, hg0_1, hg0_2, hg0_3⟩ := hG0
  obtain rfl : cs0 = #[.int .i64 a0_0, .int .i64 a0_1, .int .i64 a0_2, .bool a0_3] := by cases cs0; simpa using hL0
  have k1_ := h1
  have lt1 : ∀ x ∈ p1, x.block < W.heap.size := by obtain ⟨m, hm⟩ := k1_; exact DataW.trod_lt m _ _ _ hm
  obtain ⟨cs1, rfl, _, _⟩ : ∃ cs, v1 = .agg cs ∧ cs.size = Try.prog.cellsOf 29 ∧ Row.okWide Try.prog W .any base 29 cs := by
    have z := hval 1 29 v1 rfl rfl
    unfold Value.okWide at z
    rw [Try.underlying29] at z
    exact z
  obtain ⟨fuel1, hf1⟩ := h1
  obtain ⟨⟨a1_0, a1_1, a1_2⟩, hK1, hG1⟩ := p29 _ _ _ _ _ _ hf1
  obtain ⟨L1, hL1, hK1⟩ : ∃ L, cs1.toList = L ∧ ((Kd.iso (Kd.pair (Kd.int .u8) (Kd.pair (Kd.int .i64) (Kd.int .i64))) (fun x : (Int × Int × Int) => x))).K W ⟨a1_0, a1_1, a1_2⟩ L := ⟨_, rfl, hK1⟩
  obtain ⟨_, _, rfl, rfl, ⟨_, _, rfl, rfl, rfl⟩⟩ := hK1
  obtain ⟨hg1_0, hg1_1, hg1_2⟩ := hG1
  obtain rfl : cs1 = #[.int .u8 a1_0, .int .i64 a1_1, .int .i64 a1_2] := by cases cs1; simpa using hL1
  clear hA0 hval0
  refine (Pure.walkFnExactStepPlotter a0_0 a0_1 a0_2 a0_3 a1_0 a1_1 a1_2 W hg0_0 hg0_1 hg0_2 hg1_0 hg1_1 hg1_2).mono fun e W' ⟨he, bel⟩ => ?_
  subst he
  exact ⟨_, rfl, _, _, _, [], _, [], hW', trodAll_mk1 (shut_bool Try.underlying4 _), (trodAll_cons_mk (Below.trod laidOut (by kernel_rfl) (of_decide_eq_true (by kernel_rfl)) k0_ bel lt0) (trodAll_cons_mk (Below.trod laidOut (by kernel_rfl) (of_decide_eq_true (by kernel_rfl)) k1_ bel lt1) trodAll_mk0)), rfl, bel.frame _, fun h => by cases h⟩
theorem over : Rows.fnExactStepPlotterRow.holds Try.pinned (OpenSpec.ofChange Rows.fnExactStepPlotterSpec) :=
  OpenClaim.holds_of_wide 4 Try.f4 rfl rfl rfl rfl rfl rfl rfl ⟨rfl, rfl, rfl, rfl, rfl⟩ rfl rfl rfl rfl rfl (by kernel_rfl) Try.func4 (by kernel_rfl)
    (of_decide_eq_true (by kernel_rfl)) (by unfold Func.isWrapper; first | (rw [if_pos (by decide +kernel)]; kernel_rfl) | (rw [if_neg (by decide +kernel)]; exact ⟨rfl, rfl⟩))
    (fun os started H enc _ => lifted os started H enc)
theorem proved : Rows.FnExactStepPlotterSaid := over
end Go.Proofs.Ytklnajigonjcmaa.fnExactStepPlotter
namespace Go.Proofs.Ytklnajigonjcmaa
/-- The row, under a short name, for the claim. -/
theorem fnExactStepPlotter_holds : Rows.FnExactStepPlotterSaid := fnExactStepPlotter.proved
end Go.Proofs.Ytklnajigonjcmaa
#print axioms Go.Proofs.Ytklnajigonjcmaa.fnExactStepPlotter_holds
