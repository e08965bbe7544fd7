/-
  No cell of these rows narrows 'for every input' (looked for: loops, veiled, ifaces, maps, wideKeys, modest, calm, conditions, laid).
  DERIVED. THE GIVEN ROWS OF THIS SEAT. 11 by the template 'for every input the law returns true; each argument reads behind the call as it read before'; 0 by the template 'total and deterministic' (their statements: YthdadohmomhchaaTotals.lean).
  GIVEN WITH THE SEED: the statements are not yours to turn. If you find one false, say at which input.
  Laid BY PROGRAM, IN A SANDBOX (cutbox-rows.mjs): the forced cells as the released guide's own fill.sh prints them over the translation ddf070343ed489fc… (all of the seat's roots in one cut). By AI agents, Wed Nov 11 2026. No macro, syntax, notation, axiom, sorry.
-/
import Derived.Test.YthdadohmomhchaaChecked
import GoSem.Claim
import GoSem.ClaimJoined
import GoSem.ClaimMapViews
import Derived.JoinedTies
import Derived.KernelRfl
namespace Go.Proofs.Ythdadohmomhchaa
/- THE CELL 'sum', in the pinned program and in every row, IS THE sha256 OF THE DUMP (.gsa) THAT YthdadohmomhchaaProg.lean LOADS. Nothing in Lean hashes anything: it is a label: what it is worth is what the hold of that sum in a sandbox is worth. -/
noncomputable def Try.pinned : Pinned := { name := "ythdadohmomhchaa", sum := "ddf070343ed489fcaed7fa1c9c64cfff774e65a706b5e2853e7769a8bef54edb", checked := Try.checked }
namespace Rows
def none {H : Type} : Left H := { results := [], args := [] }

/-- 'laws.FnExactIsDrawn': WHATEVER THE INPUT: true; the input reads as it did. -/
def fnExactIsDrawnSpec : ChangeSpec := { name := "fnExactIsDrawn", fn := fun _ => fun
  | [d1, d2, d3] => { results := [.lit (.bool true)], args := [d1, d2, d3] }
  | _ => none }
def fnExactIsDrawnRow : OpenClaim := { program := "ythdadohmomhchaa", sum := "ddf070343ed489fcaed7fa1c9c64cfff774e65a706b5e2853e7769a8bef54edb", func := "loop.example/g00948/laws.FnExactIsDrawn", spec := "fnExactIsDrawn", unfollowed := true, recurses := true, apart := false }
def FnExactIsDrawnSaid : Prop := fnExactIsDrawnRow.holds Try.pinned (OpenSpec.ofChange fnExactIsDrawnSpec)

/-- ITS FALSE NEIGHBOUR: 'it returns false'. Refute it at one input. -/
def fnExactIsDrawnWrong : ChangeSpec := { name := "fnExactIsDrawn", fn := fun _ => fun
  | [d1, d2, d3] => { results := [.lit (.bool false)], args := [d1, d2, d3] }
  | _ => none }
def FnExactIsDrawnWrongFalsely : Prop := fnExactIsDrawnRow.holds Try.pinned (OpenSpec.ofChange fnExactIsDrawnWrong)

/-- 'laws.FnExactTurnOnly': WHATEVER THE INPUT: true; the input reads as it did. -/
def fnExactTurnOnlySpec : ChangeSpec := { name := "fnExactTurnOnly", fn := fun _ => fun
  | [d] => { results := [.lit (.bool true)], args := [d] }
  | _ => none }
def fnExactTurnOnlyRow : OpenClaim := { program := "ythdadohmomhchaa", sum := "ddf070343ed489fcaed7fa1c9c64cfff774e65a706b5e2853e7769a8bef54edb", func := "loop.example/g00948/laws.FnExactTurnOnly", spec := "fnExactTurnOnly", unfollowed := true, recurses := true, apart := false }
def FnExactTurnOnlySaid : Prop := fnExactTurnOnlyRow.holds Try.pinned (OpenSpec.ofChange fnExactTurnOnlySpec)

/-- ITS FALSE NEIGHBOUR: 'it returns false'. Refute it at one input. -/
def fnExactTurnOnlyWrong : ChangeSpec := { name := "fnExactTurnOnly", fn := fun _ => fun
  | [d] => { results := [.lit (.bool false)], args := [d] }
  | _ => none }
def FnExactTurnOnlyWrongFalsely : Prop := fnExactTurnOnlyRow.holds Try.pinned (OpenSpec.ofChange fnExactTurnOnlyWrong)

/-- 'laws.FnExactCommonVersion': WHATEVER THE INPUT: true; the input reads as it did. -/
def fnExactCommonVersionSpec : ChangeSpec := { name := "fnExactCommonVersion", fn := fun _ => fun
  | [d1, d2, d3] => { results := [.lit (.bool true)], args := [d1, d2, d3] }
  | _ => none }
def fnExactCommonVersionRow : OpenClaim := { program := "ythdadohmomhchaa", sum := "ddf070343ed489fcaed7fa1c9c64cfff774e65a706b5e2853e7769a8bef54edb", func := "loop.example/g00948/laws.FnExactCommonVersion", spec := "fnExactCommonVersion", apart := false }
def FnExactCommonVersionSaid : Prop := fnExactCommonVersionRow.holds Try.pinned (OpenSpec.ofChange fnExactCommonVersionSpec)

/-- ITS FALSE NEIGHBOUR: 'it returns false'. Refute it at one input. -/
def fnExactCommonVersionWrong : ChangeSpec := { name := "fnExactCommonVersion", fn := fun _ => fun
  | [d1, d2, d3] => { results := [.lit (.bool false)], args := [d1, d2, d3] }
  | _ => none }
def FnExactCommonVersionWrongFalsely : Prop := fnExactCommonVersionRow.holds Try.pinned (OpenSpec.ofChange fnExactCommonVersionWrong)

/-- 'laws.FnExactAncestorsOf': WHATEVER THE INPUT: true; the input reads as it did. -/
def fnExactAncestorsOfSpec : ChangeSpec := { name := "fnExactAncestorsOf", fn := fun _ => fun
  | [d1, d2] => { results := [.lit (.bool true)], args := [d1, d2] }
  | _ => none }
def fnExactAncestorsOfRow : OpenClaim := { program := "ythdadohmomhchaa", sum := "ddf070343ed489fcaed7fa1c9c64cfff774e65a706b5e2853e7769a8bef54edb", func := "loop.example/g00948/laws.FnExactAncestorsOf", spec := "fnExactAncestorsOf", apart := false }
def FnExactAncestorsOfSaid : Prop := fnExactAncestorsOfRow.holds Try.pinned (OpenSpec.ofChange fnExactAncestorsOfSpec)

/-- ITS FALSE NEIGHBOUR: 'it returns false'. Refute it at one input. -/
def fnExactAncestorsOfWrong : ChangeSpec := { name := "fnExactAncestorsOf", fn := fun _ => fun
  | [d1, d2] => { results := [.lit (.bool false)], args := [d1, d2] }
  | _ => none }
def FnExactAncestorsOfWrongFalsely : Prop := fnExactAncestorsOfRow.holds Try.pinned (OpenSpec.ofChange fnExactAncestorsOfWrong)

/-- 'laws.FnExactMergeProjects': WHATEVER THE INPUT: true; the input reads as it did. -/
def fnExactMergeProjectsSpec : ChangeSpec := { name := "fnExactMergeProjects", fn := fun _ => fun
  | [d1, d2, d3] => { results := [.lit (.bool true)], args := [d1, d2, d3] }
  | _ => none }
def fnExactMergeProjectsRow : OpenClaim := { program := "ythdadohmomhchaa", sum := "ddf070343ed489fcaed7fa1c9c64cfff774e65a706b5e2853e7769a8bef54edb", func := "loop.example/g00948/laws.FnExactMergeProjects", spec := "fnExactMergeProjects", apart := false }
def FnExactMergeProjectsSaid : Prop := fnExactMergeProjectsRow.holds Try.pinned (OpenSpec.ofChange fnExactMergeProjectsSpec)

/-- ITS FALSE NEIGHBOUR: 'it returns false'. Refute it at one input. -/
def fnExactMergeProjectsWrong : ChangeSpec := { name := "fnExactMergeProjects", fn := fun _ => fun
  | [d1, d2, d3] => { results := [.lit (.bool false)], args := [d1, d2, d3] }
  | _ => none }
def FnExactMergeProjectsWrongFalsely : Prop := fnExactMergeProjectsRow.holds Try.pinned (OpenSpec.ofChange fnExactMergeProjectsWrong)

/-- 'laws.FnExactOrderDrawing': WHATEVER THE INPUT: true; the input reads as it did. -/
def fnExactOrderDrawingSpec : ChangeSpec := { name := "fnExactOrderDrawing", fn := fun _ => fun
  | [d1, d2] => { results := [.lit (.bool true)], args := [d1, d2] }
  | _ => none }
def fnExactOrderDrawingRow : OpenClaim := { program := "ythdadohmomhchaa", sum := "ddf070343ed489fcaed7fa1c9c64cfff774e65a706b5e2853e7769a8bef54edb", func := "loop.example/g00948/laws.FnExactOrderDrawing", spec := "fnExactOrderDrawing", unfollowed := true, recurses := true, apart := false }
def FnExactOrderDrawingSaid : Prop := fnExactOrderDrawingRow.holds Try.pinned (OpenSpec.ofChange fnExactOrderDrawingSpec)

/-- ITS FALSE NEIGHBOUR: 'it returns false'. Refute it at one input. -/
def fnExactOrderDrawingWrong : ChangeSpec := { name := "fnExactOrderDrawing", fn := fun _ => fun
  | [d1, d2] => { results := [.lit (.bool false)], args := [d1, d2] }
  | _ => none }
def FnExactOrderDrawingWrongFalsely : Prop := fnExactOrderDrawingRow.holds Try.pinned (OpenSpec.ofChange fnExactOrderDrawingWrong)

/-- 'laws.FnExactGreedyOrder': WHATEVER THE INPUT: true; the input reads as it did. -/
def fnExactGreedyOrderSpec : ChangeSpec := { name := "fnExactGreedyOrder", fn := fun _ => fun
  | [d1, d2] => { results := [.lit (.bool true)], args := [d1, d2] }
  | _ => none }
def fnExactGreedyOrderRow : OpenClaim := { program := "ythdadohmomhchaa", sum := "ddf070343ed489fcaed7fa1c9c64cfff774e65a706b5e2853e7769a8bef54edb", func := "loop.example/g00948/laws.FnExactGreedyOrder", spec := "fnExactGreedyOrder", unfollowed := true, recurses := true, apart := false }
def FnExactGreedyOrderSaid : Prop := fnExactGreedyOrderRow.holds Try.pinned (OpenSpec.ofChange fnExactGreedyOrderSpec)

/-- ITS FALSE NEIGHBOUR: 'it returns false'. Refute it at one input. -/
def fnExactGreedyOrderWrong : ChangeSpec := { name := "fnExactGreedyOrder", fn := fun _ => fun
  | [d1, d2] => { results := [.lit (.bool false)], args := [d1, d2] }
  | _ => none }
def FnExactGreedyOrderWrongFalsely : Prop := fnExactGreedyOrderRow.holds Try.pinned (OpenSpec.ofChange fnExactGreedyOrderWrong)

/-- 'laws.FnExactStrayStrokes': WHATEVER THE INPUT: true; the input reads as it did. -/
def fnExactStrayStrokesSpec : ChangeSpec := { name := "fnExactStrayStrokes", fn := fun _ => fun
  | [d1, d2, d3] => { results := [.lit (.bool true)], args := [d1, d2, d3] }
  | _ => none }
def fnExactStrayStrokesRow : OpenClaim := { program := "ythdadohmomhchaa", sum := "ddf070343ed489fcaed7fa1c9c64cfff774e65a706b5e2853e7769a8bef54edb", func := "loop.example/g00948/laws.FnExactStrayStrokes", spec := "fnExactStrayStrokes", unfollowed := true, recurses := true, apart := false }
def FnExactStrayStrokesSaid : Prop := fnExactStrayStrokesRow.holds Try.pinned (OpenSpec.ofChange fnExactStrayStrokesSpec)

/-- ITS FALSE NEIGHBOUR: 'it returns false'. Refute it at one input. -/
def fnExactStrayStrokesWrong : ChangeSpec := { name := "fnExactStrayStrokes", fn := fun _ => fun
  | [d1, d2, d3] => { results := [.lit (.bool false)], args := [d1, d2, d3] }
  | _ => none }
def FnExactStrayStrokesWrongFalsely : Prop := fnExactStrayStrokesRow.holds Try.pinned (OpenSpec.ofChange fnExactStrayStrokesWrong)

/-- 'laws.FnExactDrawingOf': WHATEVER THE INPUT: true; the input reads as it did. -/
def fnExactDrawingOfSpec : ChangeSpec := { name := "fnExactDrawingOf", fn := fun _ => fun
  | [d] => { results := [.lit (.bool true)], args := [d] }
  | _ => none }
def fnExactDrawingOfRow : OpenClaim := { program := "ythdadohmomhchaa", sum := "ddf070343ed489fcaed7fa1c9c64cfff774e65a706b5e2853e7769a8bef54edb", func := "loop.example/g00948/laws.FnExactDrawingOf", spec := "fnExactDrawingOf", unfollowed := true, recurses := true, apart := false }
def FnExactDrawingOfSaid : Prop := fnExactDrawingOfRow.holds Try.pinned (OpenSpec.ofChange fnExactDrawingOfSpec)

/-- ITS FALSE NEIGHBOUR: 'it returns false'. Refute it at one input. -/
def fnExactDrawingOfWrong : ChangeSpec := { name := "fnExactDrawingOf", fn := fun _ => fun
  | [d] => { results := [.lit (.bool false)], args := [d] }
  | _ => none }
def FnExactDrawingOfWrongFalsely : Prop := fnExactDrawingOfRow.holds Try.pinned (OpenSpec.ofChange fnExactDrawingOfWrong)

/-- 'laws.FnPlotted': WHATEVER THE INPUT: true; the input reads as it did. -/
def fnPlottedSpec : ChangeSpec := { name := "fnPlotted", fn := fun _ => fun
  | [d] => { results := [.lit (.bool true)], args := [d] }
  | _ => none }
def fnPlottedRow : OpenClaim := { program := "ythdadohmomhchaa", sum := "ddf070343ed489fcaed7fa1c9c64cfff774e65a706b5e2853e7769a8bef54edb", func := "loop.example/g00948/laws.FnPlotted", spec := "fnPlotted", unfollowed := true, recurses := true, apart := false }
def FnPlottedSaid : Prop := fnPlottedRow.holds Try.pinned (OpenSpec.ofChange fnPlottedSpec)

/-- ITS FALSE NEIGHBOUR: 'it returns false'. Refute it at one input. -/
def fnPlottedWrong : ChangeSpec := { name := "fnPlotted", fn := fun _ => fun
  | [d] => { results := [.lit (.bool false)], args := [d] }
  | _ => none }
def FnPlottedWrongFalsely : Prop := fnPlottedRow.holds Try.pinned (OpenSpec.ofChange fnPlottedWrong)

/-- 'laws.FnDrawings': WHATEVER THE INPUT: true; the input reads as it did. -/
def fnDrawingsSpec : ChangeSpec := { name := "fnDrawings", fn := fun _ => fun
  | [d] => { results := [.lit (.bool true)], args := [d] }
  | _ => none }
def fnDrawingsRow : OpenClaim := { program := "ythdadohmomhchaa", sum := "ddf070343ed489fcaed7fa1c9c64cfff774e65a706b5e2853e7769a8bef54edb", func := "loop.example/g00948/laws.FnDrawings", spec := "fnDrawings", unfollowed := true, recurses := true, apart := false }
def FnDrawingsSaid : Prop := fnDrawingsRow.holds Try.pinned (OpenSpec.ofChange fnDrawingsSpec)

/-- ITS FALSE NEIGHBOUR: 'it returns false'. Refute it at one input. -/
def fnDrawingsWrong : ChangeSpec := { name := "fnDrawings", fn := fun _ => fun
  | [d] => { results := [.lit (.bool false)], args := [d] }
  | _ => none }
def FnDrawingsWrongFalsely : Prop := fnDrawingsRow.holds Try.pinned (OpenSpec.ofChange fnDrawingsWrong)

/- THE SECOND FORM. 'bulk': how many values and letters a reading holds, each counted each time it is reached (what is shared counts as often as it is met; a slice's spare places count too). A statement '..UptoSaid' is the law's where the arguments, and the package variables that the reading takes, are together of bulk at most 1048576: NARROWER than '..Said'. Prove '..Said' where nothing that the law and all that it calls make is longer than what came in: it says more and counts as full. Else prove '..UptoSaid'. A law counts once. -/
mutual
def uptoBulk {H : Type} : DataW H → Nat
  | .lit (.string bytes) => bytes.length + 1
  | .lit _ => 1
  | .nil => 1
  | .ptr d => uptoBulk d + 1
  | .slice elems spare => uptoBulkAll elems + uptoBulkAll spare + 1
  | .agg parts => uptoBulkAll parts + 1
  | .iface _ d => uptoBulk d + 1
  | .map entries => uptoBulkEntries entries + 1
  | .held _ => 1
def uptoBulkAll {H : Type} : List (DataW H) → Nat
  | [] => 0
  | d :: r => uptoBulk d + uptoBulkAll r
def uptoBulkEntries {H : Type} : List (Lit × DataW H) → Nat
  | [] => 0
  | x :: r => uptoBulkEntry x + uptoBulkEntries r
def uptoBulkEntry {H : Type} : Lit × DataW H → Nat
  | (.string bytes, d) => bytes.length + uptoBulk d + 1
  | (_, d) => uptoBulk d + 1
 end
def uptoSmall : (H : Type) → List (DataW H) → Bool := fun _ ds => decide (uptoBulkAll ds ≤ 1048576)
def OpenSpec.upto (s : _root_.Go.ChangeSpec) : _root_.Go.OpenSpec := { _root_.Go.OpenSpec.ofChange s with cond := some uptoSmall }

/-- 'laws.FnExactIsDrawn', WHERE WHAT IT READS IS OF BULK AT MOST 1048576: true; the input reads as it did. -/
def fnExactIsDrawnUptoRow : OpenClaim := { program := "ythdadohmomhchaa", sum := "ddf070343ed489fcaed7fa1c9c64cfff774e65a706b5e2853e7769a8bef54edb", func := "loop.example/g00948/laws.FnExactIsDrawn", spec := "fnExactIsDrawn", unfollowed := true, recurses := true, apart := false, narrowed := true }
def FnExactIsDrawnUptoSaid : Prop := fnExactIsDrawnUptoRow.holds Try.pinned (OpenSpec.upto fnExactIsDrawnSpec)

/-- 'laws.FnExactTurnOnly', WHERE WHAT IT READS IS OF BULK AT MOST 1048576: true; the input reads as it did. -/
def fnExactTurnOnlyUptoRow : OpenClaim := { program := "ythdadohmomhchaa", sum := "ddf070343ed489fcaed7fa1c9c64cfff774e65a706b5e2853e7769a8bef54edb", func := "loop.example/g00948/laws.FnExactTurnOnly", spec := "fnExactTurnOnly", unfollowed := true, recurses := true, apart := false, narrowed := true }
def FnExactTurnOnlyUptoSaid : Prop := fnExactTurnOnlyUptoRow.holds Try.pinned (OpenSpec.upto fnExactTurnOnlySpec)

/-- 'laws.FnExactCommonVersion', WHERE WHAT IT READS IS OF BULK AT MOST 1048576: true; the input reads as it did. -/
def fnExactCommonVersionUptoRow : OpenClaim := { program := "ythdadohmomhchaa", sum := "ddf070343ed489fcaed7fa1c9c64cfff774e65a706b5e2853e7769a8bef54edb", func := "loop.example/g00948/laws.FnExactCommonVersion", spec := "fnExactCommonVersion", apart := false, narrowed := true }
def FnExactCommonVersionUptoSaid : Prop := fnExactCommonVersionUptoRow.holds Try.pinned (OpenSpec.upto fnExactCommonVersionSpec)

/-- 'laws.FnExactAncestorsOf', WHERE WHAT IT READS IS OF BULK AT MOST 1048576: true; the input reads as it did. -/
def fnExactAncestorsOfUptoRow : OpenClaim := { program := "ythdadohmomhchaa", sum := "ddf070343ed489fcaed7fa1c9c64cfff774e65a706b5e2853e7769a8bef54edb", func := "loop.example/g00948/laws.FnExactAncestorsOf", spec := "fnExactAncestorsOf", apart := false, narrowed := true }
def FnExactAncestorsOfUptoSaid : Prop := fnExactAncestorsOfUptoRow.holds Try.pinned (OpenSpec.upto fnExactAncestorsOfSpec)

/-- 'laws.FnExactMergeProjects', WHERE WHAT IT READS IS OF BULK AT MOST 1048576: true; the input reads as it did. -/
def fnExactMergeProjectsUptoRow : OpenClaim := { program := "ythdadohmomhchaa", sum := "ddf070343ed489fcaed7fa1c9c64cfff774e65a706b5e2853e7769a8bef54edb", func := "loop.example/g00948/laws.FnExactMergeProjects", spec := "fnExactMergeProjects", apart := false, narrowed := true }
def FnExactMergeProjectsUptoSaid : Prop := fnExactMergeProjectsUptoRow.holds Try.pinned (OpenSpec.upto fnExactMergeProjectsSpec)

/-- 'laws.FnExactOrderDrawing', WHERE WHAT IT READS IS OF BULK AT MOST 1048576: true; the input reads as it did. -/
def fnExactOrderDrawingUptoRow : OpenClaim := { program := "ythdadohmomhchaa", sum := "ddf070343ed489fcaed7fa1c9c64cfff774e65a706b5e2853e7769a8bef54edb", func := "loop.example/g00948/laws.FnExactOrderDrawing", spec := "fnExactOrderDrawing", unfollowed := true, recurses := true, apart := false, narrowed := true }
def FnExactOrderDrawingUptoSaid : Prop := fnExactOrderDrawingUptoRow.holds Try.pinned (OpenSpec.upto fnExactOrderDrawingSpec)

/-- 'laws.FnExactGreedyOrder', WHERE WHAT IT READS IS OF BULK AT MOST 1048576: true; the input reads as it did. -/
def fnExactGreedyOrderUptoRow : OpenClaim := { program := "ythdadohmomhchaa", sum := "ddf070343ed489fcaed7fa1c9c64cfff774e65a706b5e2853e7769a8bef54edb", func := "loop.example/g00948/laws.FnExactGreedyOrder", spec := "fnExactGreedyOrder", unfollowed := true, recurses := true, apart := false, narrowed := true }
def FnExactGreedyOrderUptoSaid : Prop := fnExactGreedyOrderUptoRow.holds Try.pinned (OpenSpec.upto fnExactGreedyOrderSpec)

/-- 'laws.FnExactStrayStrokes', WHERE WHAT IT READS IS OF BULK AT MOST 1048576: true; the input reads as it did. -/
def fnExactStrayStrokesUptoRow : OpenClaim := { program := "ythdadohmomhchaa", sum := "ddf070343ed489fcaed7fa1c9c64cfff774e65a706b5e2853e7769a8bef54edb", func := "loop.example/g00948/laws.FnExactStrayStrokes", spec := "fnExactStrayStrokes", unfollowed := true, recurses := true, apart := false, narrowed := true }
def FnExactStrayStrokesUptoSaid : Prop := fnExactStrayStrokesUptoRow.holds Try.pinned (OpenSpec.upto fnExactStrayStrokesSpec)

/-- 'laws.FnExactDrawingOf', WHERE WHAT IT READS IS OF BULK AT MOST 1048576: true; the input reads as it did. -/
def fnExactDrawingOfUptoRow : OpenClaim := { program := "ythdadohmomhchaa", sum := "ddf070343ed489fcaed7fa1c9c64cfff774e65a706b5e2853e7769a8bef54edb", func := "loop.example/g00948/laws.FnExactDrawingOf", spec := "fnExactDrawingOf", unfollowed := true, recurses := true, apart := false, narrowed := true }
def FnExactDrawingOfUptoSaid : Prop := fnExactDrawingOfUptoRow.holds Try.pinned (OpenSpec.upto fnExactDrawingOfSpec)

/-- 'laws.FnPlotted', WHERE WHAT IT READS IS OF BULK AT MOST 1048576: true; the input reads as it did. -/
def fnPlottedUptoRow : OpenClaim := { program := "ythdadohmomhchaa", sum := "ddf070343ed489fcaed7fa1c9c64cfff774e65a706b5e2853e7769a8bef54edb", func := "loop.example/g00948/laws.FnPlotted", spec := "fnPlotted", unfollowed := true, recurses := true, apart := false, narrowed := true }
def FnPlottedUptoSaid : Prop := fnPlottedUptoRow.holds Try.pinned (OpenSpec.upto fnPlottedSpec)

/-- 'laws.FnDrawings', WHERE WHAT IT READS IS OF BULK AT MOST 1048576: true; the input reads as it did. -/
def fnDrawingsUptoRow : OpenClaim := { program := "ythdadohmomhchaa", sum := "ddf070343ed489fcaed7fa1c9c64cfff774e65a706b5e2853e7769a8bef54edb", func := "loop.example/g00948/laws.FnDrawings", spec := "fnDrawings", unfollowed := true, recurses := true, apart := false, narrowed := true }
def FnDrawingsUptoSaid : Prop := fnDrawingsUptoRow.holds Try.pinned (OpenSpec.upto fnDrawingsSpec)

end Rows
end Go.Proofs.Ythdadohmomhchaa
