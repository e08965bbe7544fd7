/-
  No cell of these rows narrows 'for every input' (looked for: loops, veiled, ifaces, maps, wideKeys, modest, calm, conditions, laid).
  DERIVED. THE GIVEN ROWS OF THIS SEAT. 6 by the template 'for every input the law returns true; each argument reads behind the call as it read before'; 0 by the template 'total and deterministic' (their statements: YtklnajigonjcmaaTotals.lean).
  GIVEN WITH THE SEED: the statements are not yours to turn. If you find one false, say at which input.
  Laid BY PROGRAM, IN A SANDBOX (cutbox-rows.mjs): the forced cells as the released guide's own fill.sh prints them over the translation aade9874165497f0… (all of the seat's roots in one cut). By AI agents, Wed Nov 11 2026. No macro, syntax, notation, axiom, sorry.
-/
import Derived.Test.YtklnajigonjcmaaChecked
import GoSem.Claim
import GoSem.ClaimJoined
import GoSem.ClaimMapViews
import Derived.JoinedTies
import Derived.KernelRfl
namespace Go.Proofs.Ytklnajigonjcmaa
/- THE CELL 'sum', in the pinned program and in every row, IS THE sha256 OF THE DUMP (.gsa) THAT YtklnajigonjcmaaProg.lean LOADS. Nothing in Lean hashes anything: it is a label: what it is worth is what the hold of that sum in a sandbox is worth. -/
noncomputable def Try.pinned : Pinned := { name := "ytklnajigonjcmaa", sum := "aade9874165497f0d4d30b84b8167be80ae180fe39587927525aee5109454db6", checked := Try.checked }
namespace Rows
def none {H : Type} : Left H := { results := [], args := [] }

/-- 'laws.FnExactIsPlotter': WHATEVER THE INPUT: true; the input reads as it did. -/
def fnExactIsPlotterSpec : ChangeSpec := { name := "fnExactIsPlotter", fn := fun _ => fun
  | [d] => { results := [.lit (.bool true)], args := [d] }
  | _ => none }
def fnExactIsPlotterRow : OpenClaim := { program := "ytklnajigonjcmaa", sum := "aade9874165497f0d4d30b84b8167be80ae180fe39587927525aee5109454db6", func := "loop.example/g00948/laws.FnExactIsPlotter", spec := "fnExactIsPlotter", apart := false }
def FnExactIsPlotterSaid : Prop := fnExactIsPlotterRow.holds Try.pinned (OpenSpec.ofChange fnExactIsPlotterSpec)

/-- ITS FALSE NEIGHBOUR: 'it returns false'. Refute it at one input. -/
def fnExactIsPlotterWrong : ChangeSpec := { name := "fnExactIsPlotter", fn := fun _ => fun
  | [d] => { results := [.lit (.bool false)], args := [d] }
  | _ => none }
def FnExactIsPlotterWrongFalsely : Prop := fnExactIsPlotterRow.holds Try.pinned (OpenSpec.ofChange fnExactIsPlotterWrong)

/-- 'laws.FnExactStepPlotter': WHATEVER THE INPUT: true; the input reads as it did. -/
def fnExactStepPlotterSpec : ChangeSpec := { name := "fnExactStepPlotter", fn := fun _ => fun
  | [d1, d2] => { results := [.lit (.bool true)], args := [d1, d2] }
  | _ => none }
def fnExactStepPlotterRow : OpenClaim := { program := "ytklnajigonjcmaa", sum := "aade9874165497f0d4d30b84b8167be80ae180fe39587927525aee5109454db6", func := "loop.example/g00948/laws.FnExactStepPlotter", spec := "fnExactStepPlotter", apart := false }
def FnExactStepPlotterSaid : Prop := fnExactStepPlotterRow.holds Try.pinned (OpenSpec.ofChange fnExactStepPlotterSpec)

/-- ITS FALSE NEIGHBOUR: 'it returns false'. Refute it at one input. -/
def fnExactStepPlotterWrong : ChangeSpec := { name := "fnExactStepPlotter", fn := fun _ => fun
  | [d1, d2] => { results := [.lit (.bool false)], args := [d1, d2] }
  | _ => none }
def FnExactStepPlotterWrongFalsely : Prop := fnExactStepPlotterRow.holds Try.pinned (OpenSpec.ofChange fnExactStepPlotterWrong)

/-- 'laws.FnExactCountKind': WHATEVER THE INPUT: true; the input reads as it did. -/
def fnExactCountKindSpec : ChangeSpec := { name := "fnExactCountKind", fn := fun _ => fun
  | [d1, d2] => { results := [.lit (.bool true)], args := [d1, d2] }
  | _ => none }
def fnExactCountKindRow : OpenClaim := { program := "ytklnajigonjcmaa", sum := "aade9874165497f0d4d30b84b8167be80ae180fe39587927525aee5109454db6", func := "loop.example/g00948/laws.FnExactCountKind", spec := "fnExactCountKind", apart := false }
def FnExactCountKindSaid : Prop := fnExactCountKindRow.holds Try.pinned (OpenSpec.ofChange fnExactCountKindSpec)

/-- ITS FALSE NEIGHBOUR: 'it returns false'. Refute it at one input. -/
def fnExactCountKindWrong : ChangeSpec := { name := "fnExactCountKind", fn := fun _ => fun
  | [d1, d2] => { results := [.lit (.bool false)], args := [d1, d2] }
  | _ => none }
def FnExactCountKindWrongFalsely : Prop := fnExactCountKindRow.holds Try.pinned (OpenSpec.ofChange fnExactCountKindWrong)

/-- 'laws.FnExactIsProject': WHATEVER THE INPUT: true; the input reads as it did. -/
def fnExactIsProjectSpec : ChangeSpec := { name := "fnExactIsProject", fn := fun _ => fun
  | [d] => { results := [.lit (.bool true)], args := [d] }
  | _ => none }
def fnExactIsProjectRow : OpenClaim := { program := "ytklnajigonjcmaa", sum := "aade9874165497f0d4d30b84b8167be80ae180fe39587927525aee5109454db6", func := "loop.example/g00948/laws.FnExactIsProject", spec := "fnExactIsProject", apart := false }
def FnExactIsProjectSaid : Prop := fnExactIsProjectRow.holds Try.pinned (OpenSpec.ofChange fnExactIsProjectSpec)

/-- ITS FALSE NEIGHBOUR: 'it returns false'. Refute it at one input. -/
def fnExactIsProjectWrong : ChangeSpec := { name := "fnExactIsProject", fn := fun _ => fun
  | [d] => { results := [.lit (.bool false)], args := [d] }
  | _ => none }
def FnExactIsProjectWrongFalsely : Prop := fnExactIsProjectRow.holds Try.pinned (OpenSpec.ofChange fnExactIsProjectWrong)

/-- 'laws.FnExactShortProgram': WHATEVER THE INPUT: true; the input reads as it did. -/
def fnExactShortProgramSpec : ChangeSpec := { name := "fnExactShortProgram", fn := fun _ => fun
  | [d] => { results := [.lit (.bool true)], args := [d] }
  | _ => none }
def fnExactShortProgramRow : OpenClaim := { program := "ytklnajigonjcmaa", sum := "aade9874165497f0d4d30b84b8167be80ae180fe39587927525aee5109454db6", func := "loop.example/g00948/laws.FnExactShortProgram", spec := "fnExactShortProgram", apart := false }
def FnExactShortProgramSaid : Prop := fnExactShortProgramRow.holds Try.pinned (OpenSpec.ofChange fnExactShortProgramSpec)

/-- ITS FALSE NEIGHBOUR: 'it returns false'. Refute it at one input. -/
def fnExactShortProgramWrong : ChangeSpec := { name := "fnExactShortProgram", fn := fun _ => fun
  | [d] => { results := [.lit (.bool false)], args := [d] }
  | _ => none }
def FnExactShortProgramWrongFalsely : Prop := fnExactShortProgramRow.holds Try.pinned (OpenSpec.ofChange fnExactShortProgramWrong)

/-- 'laws.FnExactSplitProgram': WHATEVER THE INPUT: true; the input reads as it did. -/
def fnExactSplitProgramSpec : ChangeSpec := { name := "fnExactSplitProgram", fn := fun _ => fun
  | [d1, d2] => { results := [.lit (.bool true)], args := [d1, d2] }
  | _ => none }
def fnExactSplitProgramRow : OpenClaim := { program := "ytklnajigonjcmaa", sum := "aade9874165497f0d4d30b84b8167be80ae180fe39587927525aee5109454db6", func := "loop.example/g00948/laws.FnExactSplitProgram", spec := "fnExactSplitProgram", apart := false }
def FnExactSplitProgramSaid : Prop := fnExactSplitProgramRow.holds Try.pinned (OpenSpec.ofChange fnExactSplitProgramSpec)

/-- ITS FALSE NEIGHBOUR: 'it returns false'. Refute it at one input. -/
def fnExactSplitProgramWrong : ChangeSpec := { name := "fnExactSplitProgram", fn := fun _ => fun
  | [d1, d2] => { results := [.lit (.bool false)], args := [d1, d2] }
  | _ => none }
def FnExactSplitProgramWrongFalsely : Prop := fnExactSplitProgramRow.holds Try.pinned (OpenSpec.ofChange fnExactSplitProgramWrong)

/- THE SECOND FORM. 'bulk': how many values and letters a reading holds, each counted each time it is reached (what is shared counts as often as it is met; a slice's spare places count too). A statement '..UptoSaid' is the law's where the arguments, and the package variables that the reading takes, are together of bulk at most 1048576: NARROWER than '..Said'. Prove '..Said' where nothing that the law and all that it calls make is longer than what came in: it says more and counts as full. Else prove '..UptoSaid'. A law counts once. -/
mutual
def uptoBulk {H : Type} : DataW H → Nat
  | .lit (.string bytes) => bytes.length + 1
  | .lit _ => 1
  | .nil => 1
  | .ptr d => uptoBulk d + 1
  | .slice elems spare => uptoBulkAll elems + uptoBulkAll spare + 1
  | .agg parts => uptoBulkAll parts + 1
  | .iface _ d => uptoBulk d + 1
  | .map entries => uptoBulkEntries entries + 1
  | .held _ => 1
def uptoBulkAll {H : Type} : List (DataW H) → Nat
  | [] => 0
  | d :: r => uptoBulk d + uptoBulkAll r
def uptoBulkEntries {H : Type} : List (Lit × DataW H) → Nat
  | [] => 0
  | x :: r => uptoBulkEntry x + uptoBulkEntries r
def uptoBulkEntry {H : Type} : Lit × DataW H → Nat
  | (.string bytes, d) => bytes.length + uptoBulk d + 1
  | (_, d) => uptoBulk d + 1
 end
def uptoSmall : (H : Type) → List (DataW H) → Bool := fun _ ds => decide (uptoBulkAll ds ≤ 1048576)
def OpenSpec.upto (s : _root_.Go.ChangeSpec) : _root_.Go.OpenSpec := { _root_.Go.OpenSpec.ofChange s with cond := some uptoSmall }

/-- 'laws.FnExactIsPlotter', WHERE WHAT IT READS IS OF BULK AT MOST 1048576: true; the input reads as it did. -/
def fnExactIsPlotterUptoRow : OpenClaim := { program := "ytklnajigonjcmaa", sum := "aade9874165497f0d4d30b84b8167be80ae180fe39587927525aee5109454db6", func := "loop.example/g00948/laws.FnExactIsPlotter", spec := "fnExactIsPlotter", apart := false, narrowed := true }
def FnExactIsPlotterUptoSaid : Prop := fnExactIsPlotterUptoRow.holds Try.pinned (OpenSpec.upto fnExactIsPlotterSpec)

/-- 'laws.FnExactStepPlotter', WHERE WHAT IT READS IS OF BULK AT MOST 1048576: true; the input reads as it did. -/
def fnExactStepPlotterUptoRow : OpenClaim := { program := "ytklnajigonjcmaa", sum := "aade9874165497f0d4d30b84b8167be80ae180fe39587927525aee5109454db6", func := "loop.example/g00948/laws.FnExactStepPlotter", spec := "fnExactStepPlotter", apart := false, narrowed := true }
def FnExactStepPlotterUptoSaid : Prop := fnExactStepPlotterUptoRow.holds Try.pinned (OpenSpec.upto fnExactStepPlotterSpec)

/-- 'laws.FnExactCountKind', WHERE WHAT IT READS IS OF BULK AT MOST 1048576: true; the input reads as it did. -/
def fnExactCountKindUptoRow : OpenClaim := { program := "ytklnajigonjcmaa", sum := "aade9874165497f0d4d30b84b8167be80ae180fe39587927525aee5109454db6", func := "loop.example/g00948/laws.FnExactCountKind", spec := "fnExactCountKind", apart := false, narrowed := true }
def FnExactCountKindUptoSaid : Prop := fnExactCountKindUptoRow.holds Try.pinned (OpenSpec.upto fnExactCountKindSpec)

/-- 'laws.FnExactIsProject', WHERE WHAT IT READS IS OF BULK AT MOST 1048576: true; the input reads as it did. -/
def fnExactIsProjectUptoRow : OpenClaim := { program := "ytklnajigonjcmaa", sum := "aade9874165497f0d4d30b84b8167be80ae180fe39587927525aee5109454db6", func := "loop.example/g00948/laws.FnExactIsProject", spec := "fnExactIsProject", apart := false, narrowed := true }
def FnExactIsProjectUptoSaid : Prop := fnExactIsProjectUptoRow.holds Try.pinned (OpenSpec.upto fnExactIsProjectSpec)

/-- 'laws.FnExactShortProgram', WHERE WHAT IT READS IS OF BULK AT MOST 1048576: true; the input reads as it did. -/
def fnExactShortProgramUptoRow : OpenClaim := { program := "ytklnajigonjcmaa", sum := "aade9874165497f0d4d30b84b8167be80ae180fe39587927525aee5109454db6", func := "loop.example/g00948/laws.FnExactShortProgram", spec := "fnExactShortProgram", apart := false, narrowed := true }
def FnExactShortProgramUptoSaid : Prop := fnExactShortProgramUptoRow.holds Try.pinned (OpenSpec.upto fnExactShortProgramSpec)

/-- 'laws.FnExactSplitProgram', WHERE WHAT IT READS IS OF BULK AT MOST 1048576: true; the input reads as it did. -/
def fnExactSplitProgramUptoRow : OpenClaim := { program := "ytklnajigonjcmaa", sum := "aade9874165497f0d4d30b84b8167be80ae180fe39587927525aee5109454db6", func := "loop.example/g00948/laws.FnExactSplitProgram", spec := "fnExactSplitProgram", apart := false, narrowed := true }
def FnExactSplitProgramUptoSaid : Prop := fnExactSplitProgramUptoRow.holds Try.pinned (OpenSpec.upto fnExactSplitProgramSpec)

end Rows
end Go.Proofs.Ytklnajigonjcmaa
