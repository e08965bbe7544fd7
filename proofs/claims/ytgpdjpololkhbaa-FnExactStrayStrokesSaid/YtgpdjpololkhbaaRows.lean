/-
  No cell of these rows narrows 'for every input' (looked for: loops, veiled, ifaces, maps, wideKeys, modest, calm, conditions, laid).
  DERIVED. THE GIVEN ROWS OF THIS SEAT. 12 by the template 'for every input the law returns true; each argument reads behind the call as it read before'; 0 by the template 'total and deterministic' (their statements: YtgpdjpololkhbaaTotals.lean).
  GIVEN WITH THE SEED: the statements are not yours to turn. If you find one false, say at which input.
  Laid BY PROGRAM, IN A SANDBOX (cutbox-rows.mjs): the forced cells as the released guide's own fill.sh prints them over the translation 1ef7b98db44323b2… (all of the seat's roots in one cut). By AI agents, Wed Nov 11 2026. No macro, syntax, notation, axiom, sorry.
-/
import Derived.Test.YtgpdjpololkhbaaChecked
import GoSem.Claim
import GoSem.ClaimJoined
import GoSem.ClaimMapViews
import Derived.JoinedTies
import Derived.KernelRfl
namespace Go.Proofs.Ytgpdjpololkhbaa
/- THE CELL 'sum', in the pinned program and in every row, IS THE sha256 OF THE DUMP (.gsa) THAT YtgpdjpololkhbaaProg.lean LOADS. Nothing in Lean hashes anything: it is a label: what it is worth is what the hold of that sum in a sandbox is worth. -/
noncomputable def Try.pinned : Pinned := { name := "ytgpdjpololkhbaa", sum := "1ef7b98db44323b23087c5d5e60f0fdc58342e0eec769a360e7b60078627dc3b", checked := Try.checked }
namespace Rows
def none {H : Type} : Left H := { results := [], args := [] }

/-- 'laws.FnExactGreedyOrder': WHATEVER THE INPUT: true; the input reads as it did. -/
def fnExactGreedyOrderSpec : ChangeSpec := { name := "fnExactGreedyOrder", fn := fun _ => fun
  | [d1, d2] => { results := [.lit (.bool true)], args := [d1, d2] }
  | _ => none }
def fnExactGreedyOrderRow : OpenClaim := { program := "ytgpdjpololkhbaa", sum := "1ef7b98db44323b23087c5d5e60f0fdc58342e0eec769a360e7b60078627dc3b", func := "loop.example/g00948/laws.FnExactGreedyOrder", spec := "fnExactGreedyOrder", unfollowed := true, recurses := true, apart := false }
def FnExactGreedyOrderSaid : Prop := fnExactGreedyOrderRow.holds Try.pinned (OpenSpec.ofChange fnExactGreedyOrderSpec)

/-- ITS FALSE NEIGHBOUR: 'it returns false'. Refute it at one input. -/
def fnExactGreedyOrderWrong : ChangeSpec := { name := "fnExactGreedyOrder", fn := fun _ => fun
  | [d1, d2] => { results := [.lit (.bool false)], args := [d1, d2] }
  | _ => none }
def FnExactGreedyOrderWrongFalsely : Prop := fnExactGreedyOrderRow.holds Try.pinned (OpenSpec.ofChange fnExactGreedyOrderWrong)

/-- 'laws.FnExactAncestorsOf': WHATEVER THE INPUT: true; the input reads as it did. -/
def fnExactAncestorsOfSpec : ChangeSpec := { name := "fnExactAncestorsOf", fn := fun _ => fun
  | [d1, d2] => { results := [.lit (.bool true)], args := [d1, d2] }
  | _ => none }
def fnExactAncestorsOfRow : OpenClaim := { program := "ytgpdjpololkhbaa", sum := "1ef7b98db44323b23087c5d5e60f0fdc58342e0eec769a360e7b60078627dc3b", func := "loop.example/g00948/laws.FnExactAncestorsOf", spec := "fnExactAncestorsOf", apart := false }
def FnExactAncestorsOfSaid : Prop := fnExactAncestorsOfRow.holds Try.pinned (OpenSpec.ofChange fnExactAncestorsOfSpec)

/-- ITS FALSE NEIGHBOUR: 'it returns false'. Refute it at one input. -/
def fnExactAncestorsOfWrong : ChangeSpec := { name := "fnExactAncestorsOf", fn := fun _ => fun
  | [d1, d2] => { results := [.lit (.bool false)], args := [d1, d2] }
  | _ => none }
def FnExactAncestorsOfWrongFalsely : Prop := fnExactAncestorsOfRow.holds Try.pinned (OpenSpec.ofChange fnExactAncestorsOfWrong)

/-- 'laws.FnExactSplitProgram': WHATEVER THE INPUT: true; the input reads as it did. -/
def fnExactSplitProgramSpec : ChangeSpec := { name := "fnExactSplitProgram", fn := fun _ => fun
  | [d1, d2] => { results := [.lit (.bool true)], args := [d1, d2] }
  | _ => none }
def fnExactSplitProgramRow : OpenClaim := { program := "ytgpdjpololkhbaa", sum := "1ef7b98db44323b23087c5d5e60f0fdc58342e0eec769a360e7b60078627dc3b", func := "loop.example/g00948/laws.FnExactSplitProgram", spec := "fnExactSplitProgram", apart := false }
def FnExactSplitProgramSaid : Prop := fnExactSplitProgramRow.holds Try.pinned (OpenSpec.ofChange fnExactSplitProgramSpec)

/-- ITS FALSE NEIGHBOUR: 'it returns false'. Refute it at one input. -/
def fnExactSplitProgramWrong : ChangeSpec := { name := "fnExactSplitProgram", fn := fun _ => fun
  | [d1, d2] => { results := [.lit (.bool false)], args := [d1, d2] }
  | _ => none }
def FnExactSplitProgramWrongFalsely : Prop := fnExactSplitProgramRow.holds Try.pinned (OpenSpec.ofChange fnExactSplitProgramWrong)

/-- 'laws.FnExactMoveDrawing': WHATEVER THE INPUT: true; the input reads as it did. -/
def fnExactMoveDrawingSpec : ChangeSpec := { name := "fnExactMoveDrawing", fn := fun _ => fun
  | [d1, d2, d3] => { results := [.lit (.bool true)], args := [d1, d2, d3] }
  | _ => none }
def fnExactMoveDrawingRow : OpenClaim := { program := "ytgpdjpololkhbaa", sum := "1ef7b98db44323b23087c5d5e60f0fdc58342e0eec769a360e7b60078627dc3b", func := "loop.example/g00948/laws.FnExactMoveDrawing", spec := "fnExactMoveDrawing", unfollowed := true, recurses := true, apart := false }
def FnExactMoveDrawingSaid : Prop := fnExactMoveDrawingRow.holds Try.pinned (OpenSpec.ofChange fnExactMoveDrawingSpec)

/-- ITS FALSE NEIGHBOUR: 'it returns false'. Refute it at one input. -/
def fnExactMoveDrawingWrong : ChangeSpec := { name := "fnExactMoveDrawing", fn := fun _ => fun
  | [d1, d2, d3] => { results := [.lit (.bool false)], args := [d1, d2, d3] }
  | _ => none }
def FnExactMoveDrawingWrongFalsely : Prop := fnExactMoveDrawingRow.holds Try.pinned (OpenSpec.ofChange fnExactMoveDrawingWrong)

/-- 'laws.FnExactChangedParts': WHATEVER THE INPUT: true; the input reads as it did. -/
def fnExactChangedPartsSpec : ChangeSpec := { name := "fnExactChangedParts", fn := fun _ => fun
  | [d1, d2] => { results := [.lit (.bool true)], args := [d1, d2] }
  | _ => none }
def fnExactChangedPartsRow : OpenClaim := { program := "ytgpdjpololkhbaa", sum := "1ef7b98db44323b23087c5d5e60f0fdc58342e0eec769a360e7b60078627dc3b", func := "loop.example/g00948/laws.FnExactChangedParts", spec := "fnExactChangedParts", apart := false }
def FnExactChangedPartsSaid : Prop := fnExactChangedPartsRow.holds Try.pinned (OpenSpec.ofChange fnExactChangedPartsSpec)

/-- ITS FALSE NEIGHBOUR: 'it returns false'. Refute it at one input. -/
def fnExactChangedPartsWrong : ChangeSpec := { name := "fnExactChangedParts", fn := fun _ => fun
  | [d1, d2] => { results := [.lit (.bool false)], args := [d1, d2] }
  | _ => none }
def FnExactChangedPartsWrongFalsely : Prop := fnExactChangedPartsRow.holds Try.pinned (OpenSpec.ofChange fnExactChangedPartsWrong)

/-- 'laws.FnExactRunPlotter': WHATEVER THE INPUT: true; the input reads as it did. -/
def fnExactRunPlotterSpec : ChangeSpec := { name := "fnExactRunPlotter", fn := fun _ => fun
  | [d] => { results := [.lit (.bool true)], args := [d] }
  | _ => none }
def fnExactRunPlotterRow : OpenClaim := { program := "ytgpdjpololkhbaa", sum := "1ef7b98db44323b23087c5d5e60f0fdc58342e0eec769a360e7b60078627dc3b", func := "loop.example/g00948/laws.FnExactRunPlotter", spec := "fnExactRunPlotter", unfollowed := true, recurses := true, apart := false }
def FnExactRunPlotterSaid : Prop := fnExactRunPlotterRow.holds Try.pinned (OpenSpec.ofChange fnExactRunPlotterSpec)

/-- ITS FALSE NEIGHBOUR: 'it returns false'. Refute it at one input. -/
def fnExactRunPlotterWrong : ChangeSpec := { name := "fnExactRunPlotter", fn := fun _ => fun
  | [d] => { results := [.lit (.bool false)], args := [d] }
  | _ => none }
def FnExactRunPlotterWrongFalsely : Prop := fnExactRunPlotterRow.holds Try.pinned (OpenSpec.ofChange fnExactRunPlotterWrong)

/-- 'laws.FnExactTravelOf': WHATEVER THE INPUT: true; the input reads as it did. -/
def fnExactTravelOfSpec : ChangeSpec := { name := "fnExactTravelOf", fn := fun _ => fun
  | [d] => { results := [.lit (.bool true)], args := [d] }
  | _ => none }
def fnExactTravelOfRow : OpenClaim := { program := "ytgpdjpololkhbaa", sum := "1ef7b98db44323b23087c5d5e60f0fdc58342e0eec769a360e7b60078627dc3b", func := "loop.example/g00948/laws.FnExactTravelOf", spec := "fnExactTravelOf", unfollowed := true, recurses := true, apart := false }
def FnExactTravelOfSaid : Prop := fnExactTravelOfRow.holds Try.pinned (OpenSpec.ofChange fnExactTravelOfSpec)

/-- ITS FALSE NEIGHBOUR: 'it returns false'. Refute it at one input. -/
def fnExactTravelOfWrong : ChangeSpec := { name := "fnExactTravelOf", fn := fun _ => fun
  | [d] => { results := [.lit (.bool false)], args := [d] }
  | _ => none }
def FnExactTravelOfWrongFalsely : Prop := fnExactTravelOfRow.holds Try.pinned (OpenSpec.ofChange fnExactTravelOfWrong)

/-- 'laws.FnExactPlotTime': WHATEVER THE INPUT: true; the input reads as it did. -/
def fnExactPlotTimeSpec : ChangeSpec := { name := "fnExactPlotTime", fn := fun _ => fun
  | [d1, d2, d3, d4] => { results := [.lit (.bool true)], args := [d1, d2, d3, d4] }
  | _ => none }
def fnExactPlotTimeRow : OpenClaim := { program := "ytgpdjpololkhbaa", sum := "1ef7b98db44323b23087c5d5e60f0fdc58342e0eec769a360e7b60078627dc3b", func := "loop.example/g00948/laws.FnExactPlotTime", spec := "fnExactPlotTime", unfollowed := true, recurses := true, apart := false }
def FnExactPlotTimeSaid : Prop := fnExactPlotTimeRow.holds Try.pinned (OpenSpec.ofChange fnExactPlotTimeSpec)

/-- ITS FALSE NEIGHBOUR: 'it returns false'. Refute it at one input. -/
def fnExactPlotTimeWrong : ChangeSpec := { name := "fnExactPlotTime", fn := fun _ => fun
  | [d1, d2, d3, d4] => { results := [.lit (.bool false)], args := [d1, d2, d3, d4] }
  | _ => none }
def FnExactPlotTimeWrongFalsely : Prop := fnExactPlotTimeRow.holds Try.pinned (OpenSpec.ofChange fnExactPlotTimeWrong)

/-- 'laws.FnExactDrawingOf': WHATEVER THE INPUT: true; the input reads as it did. -/
def fnExactDrawingOfSpec : ChangeSpec := { name := "fnExactDrawingOf", fn := fun _ => fun
  | [d] => { results := [.lit (.bool true)], args := [d] }
  | _ => none }
def fnExactDrawingOfRow : OpenClaim := { program := "ytgpdjpololkhbaa", sum := "1ef7b98db44323b23087c5d5e60f0fdc58342e0eec769a360e7b60078627dc3b", func := "loop.example/g00948/laws.FnExactDrawingOf", spec := "fnExactDrawingOf", unfollowed := true, recurses := true, apart := false }
def FnExactDrawingOfSaid : Prop := fnExactDrawingOfRow.holds Try.pinned (OpenSpec.ofChange fnExactDrawingOfSpec)

/-- ITS FALSE NEIGHBOUR: 'it returns false'. Refute it at one input. -/
def fnExactDrawingOfWrong : ChangeSpec := { name := "fnExactDrawingOf", fn := fun _ => fun
  | [d] => { results := [.lit (.bool false)], args := [d] }
  | _ => none }
def FnExactDrawingOfWrongFalsely : Prop := fnExactDrawingOfRow.holds Try.pinned (OpenSpec.ofChange fnExactDrawingOfWrong)

/-- 'laws.FnExactIsDrawn': WHATEVER THE INPUT: true; the input reads as it did. -/
def fnExactIsDrawnSpec : ChangeSpec := { name := "fnExactIsDrawn", fn := fun _ => fun
  | [d1, d2, d3] => { results := [.lit (.bool true)], args := [d1, d2, d3] }
  | _ => none }
def fnExactIsDrawnRow : OpenClaim := { program := "ytgpdjpololkhbaa", sum := "1ef7b98db44323b23087c5d5e60f0fdc58342e0eec769a360e7b60078627dc3b", func := "loop.example/g00948/laws.FnExactIsDrawn", spec := "fnExactIsDrawn", unfollowed := true, recurses := true, apart := false }
def FnExactIsDrawnSaid : Prop := fnExactIsDrawnRow.holds Try.pinned (OpenSpec.ofChange fnExactIsDrawnSpec)

/-- ITS FALSE NEIGHBOUR: 'it returns false'. Refute it at one input. -/
def fnExactIsDrawnWrong : ChangeSpec := { name := "fnExactIsDrawn", fn := fun _ => fun
  | [d1, d2, d3] => { results := [.lit (.bool false)], args := [d1, d2, d3] }
  | _ => none }
def FnExactIsDrawnWrongFalsely : Prop := fnExactIsDrawnRow.holds Try.pinned (OpenSpec.ofChange fnExactIsDrawnWrong)

/-- 'laws.FnExactStrayStrokes': WHATEVER THE INPUT: true; the input reads as it did. -/
def fnExactStrayStrokesSpec : ChangeSpec := { name := "fnExactStrayStrokes", fn := fun _ => fun
  | [d1, d2, d3] => { results := [.lit (.bool true)], args := [d1, d2, d3] }
  | _ => none }
def fnExactStrayStrokesRow : OpenClaim := { program := "ytgpdjpololkhbaa", sum := "1ef7b98db44323b23087c5d5e60f0fdc58342e0eec769a360e7b60078627dc3b", func := "loop.example/g00948/laws.FnExactStrayStrokes", spec := "fnExactStrayStrokes", unfollowed := true, recurses := true, apart := false }
def FnExactStrayStrokesSaid : Prop := fnExactStrayStrokesRow.holds Try.pinned (OpenSpec.ofChange fnExactStrayStrokesSpec)

/-- ITS FALSE NEIGHBOUR: 'it returns false'. Refute it at one input. -/
def fnExactStrayStrokesWrong : ChangeSpec := { name := "fnExactStrayStrokes", fn := fun _ => fun
  | [d1, d2, d3] => { results := [.lit (.bool false)], args := [d1, d2, d3] }
  | _ => none }
def FnExactStrayStrokesWrongFalsely : Prop := fnExactStrayStrokesRow.holds Try.pinned (OpenSpec.ofChange fnExactStrayStrokesWrong)

/-- 'laws.FnExactBestOrderOf': WHATEVER THE INPUT: true; the input reads as it did. -/
def fnExactBestOrderOfSpec : ChangeSpec := { name := "fnExactBestOrderOf", fn := fun _ => fun
  | [d1, d2] => { results := [.lit (.bool true)], args := [d1, d2] }
  | _ => none }
def fnExactBestOrderOfRow : OpenClaim := { program := "ytgpdjpololkhbaa", sum := "1ef7b98db44323b23087c5d5e60f0fdc58342e0eec769a360e7b60078627dc3b", func := "loop.example/g00948/laws.FnExactBestOrderOf", spec := "fnExactBestOrderOf", unfollowed := true, recurses := true, apart := false }
def FnExactBestOrderOfSaid : Prop := fnExactBestOrderOfRow.holds Try.pinned (OpenSpec.ofChange fnExactBestOrderOfSpec)

/-- ITS FALSE NEIGHBOUR: 'it returns false'. Refute it at one input. -/
def fnExactBestOrderOfWrong : ChangeSpec := { name := "fnExactBestOrderOf", fn := fun _ => fun
  | [d1, d2] => { results := [.lit (.bool false)], args := [d1, d2] }
  | _ => none }
def FnExactBestOrderOfWrongFalsely : Prop := fnExactBestOrderOfRow.holds Try.pinned (OpenSpec.ofChange fnExactBestOrderOfWrong)

/- THE SECOND FORM. 'bulk': how many values and letters a reading holds, each counted each time it is reached (what is shared counts as often as it is met; a slice's spare places count too). A statement '..UptoSaid' is the law's where the arguments, and the package variables that the reading takes, are together of bulk at most 1048576: NARROWER than '..Said'. Prove '..Said' where nothing that the law and all that it calls make is longer than what came in: it says more and counts as full. Else prove '..UptoSaid'. A law counts once. -/
mutual
def uptoBulk {H : Type} : DataW H → Nat
  | .lit (.string bytes) => bytes.length + 1
  | .lit _ => 1
  | .nil => 1
  | .ptr d => uptoBulk d + 1
  | .slice elems spare => uptoBulkAll elems + uptoBulkAll spare + 1
  | .agg parts => uptoBulkAll parts + 1
  | .iface _ d => uptoBulk d + 1
  | .map entries => uptoBulkEntries entries + 1
  | .held _ => 1
def uptoBulkAll {H : Type} : List (DataW H) → Nat
  | [] => 0
  | d :: r => uptoBulk d + uptoBulkAll r
def uptoBulkEntries {H : Type} : List (Lit × DataW H) → Nat
  | [] => 0
  | x :: r => uptoBulkEntry x + uptoBulkEntries r
def uptoBulkEntry {H : Type} : Lit × DataW H → Nat
  | (.string bytes, d) => bytes.length + uptoBulk d + 1
  | (_, d) => uptoBulk d + 1
 end
def uptoSmall : (H : Type) → List (DataW H) → Bool := fun _ ds => decide (uptoBulkAll ds ≤ 1048576)
def OpenSpec.upto (s : _root_.Go.ChangeSpec) : _root_.Go.OpenSpec := { _root_.Go.OpenSpec.ofChange s with cond := some uptoSmall }

/-- 'laws.FnExactGreedyOrder', WHERE WHAT IT READS IS OF BULK AT MOST 1048576: true; the input reads as it did. -/
def fnExactGreedyOrderUptoRow : OpenClaim := { program := "ytgpdjpololkhbaa", sum := "1ef7b98db44323b23087c5d5e60f0fdc58342e0eec769a360e7b60078627dc3b", func := "loop.example/g00948/laws.FnExactGreedyOrder", spec := "fnExactGreedyOrder", unfollowed := true, recurses := true, apart := false, narrowed := true }
def FnExactGreedyOrderUptoSaid : Prop := fnExactGreedyOrderUptoRow.holds Try.pinned (OpenSpec.upto fnExactGreedyOrderSpec)

/-- 'laws.FnExactAncestorsOf', WHERE WHAT IT READS IS OF BULK AT MOST 1048576: true; the input reads as it did. -/
def fnExactAncestorsOfUptoRow : OpenClaim := { program := "ytgpdjpololkhbaa", sum := "1ef7b98db44323b23087c5d5e60f0fdc58342e0eec769a360e7b60078627dc3b", func := "loop.example/g00948/laws.FnExactAncestorsOf", spec := "fnExactAncestorsOf", apart := false, narrowed := true }
def FnExactAncestorsOfUptoSaid : Prop := fnExactAncestorsOfUptoRow.holds Try.pinned (OpenSpec.upto fnExactAncestorsOfSpec)

/-- 'laws.FnExactSplitProgram', WHERE WHAT IT READS IS OF BULK AT MOST 1048576: true; the input reads as it did. -/
def fnExactSplitProgramUptoRow : OpenClaim := { program := "ytgpdjpololkhbaa", sum := "1ef7b98db44323b23087c5d5e60f0fdc58342e0eec769a360e7b60078627dc3b", func := "loop.example/g00948/laws.FnExactSplitProgram", spec := "fnExactSplitProgram", apart := false, narrowed := true }
def FnExactSplitProgramUptoSaid : Prop := fnExactSplitProgramUptoRow.holds Try.pinned (OpenSpec.upto fnExactSplitProgramSpec)

/-- 'laws.FnExactMoveDrawing', WHERE WHAT IT READS IS OF BULK AT MOST 1048576: true; the input reads as it did. -/
def fnExactMoveDrawingUptoRow : OpenClaim := { program := "ytgpdjpololkhbaa", sum := "1ef7b98db44323b23087c5d5e60f0fdc58342e0eec769a360e7b60078627dc3b", func := "loop.example/g00948/laws.FnExactMoveDrawing", spec := "fnExactMoveDrawing", unfollowed := true, recurses := true, apart := false, narrowed := true }
def FnExactMoveDrawingUptoSaid : Prop := fnExactMoveDrawingUptoRow.holds Try.pinned (OpenSpec.upto fnExactMoveDrawingSpec)

/-- 'laws.FnExactChangedParts', WHERE WHAT IT READS IS OF BULK AT MOST 1048576: true; the input reads as it did. -/
def fnExactChangedPartsUptoRow : OpenClaim := { program := "ytgpdjpololkhbaa", sum := "1ef7b98db44323b23087c5d5e60f0fdc58342e0eec769a360e7b60078627dc3b", func := "loop.example/g00948/laws.FnExactChangedParts", spec := "fnExactChangedParts", apart := false, narrowed := true }
def FnExactChangedPartsUptoSaid : Prop := fnExactChangedPartsUptoRow.holds Try.pinned (OpenSpec.upto fnExactChangedPartsSpec)

/-- 'laws.FnExactRunPlotter', WHERE WHAT IT READS IS OF BULK AT MOST 1048576: true; the input reads as it did. -/
def fnExactRunPlotterUptoRow : OpenClaim := { program := "ytgpdjpololkhbaa", sum := "1ef7b98db44323b23087c5d5e60f0fdc58342e0eec769a360e7b60078627dc3b", func := "loop.example/g00948/laws.FnExactRunPlotter", spec := "fnExactRunPlotter", unfollowed := true, recurses := true, apart := false, narrowed := true }
def FnExactRunPlotterUptoSaid : Prop := fnExactRunPlotterUptoRow.holds Try.pinned (OpenSpec.upto fnExactRunPlotterSpec)

/-- 'laws.FnExactTravelOf', WHERE WHAT IT READS IS OF BULK AT MOST 1048576: true; the input reads as it did. -/
def fnExactTravelOfUptoRow : OpenClaim := { program := "ytgpdjpololkhbaa", sum := "1ef7b98db44323b23087c5d5e60f0fdc58342e0eec769a360e7b60078627dc3b", func := "loop.example/g00948/laws.FnExactTravelOf", spec := "fnExactTravelOf", unfollowed := true, recurses := true, apart := false, narrowed := true }
def FnExactTravelOfUptoSaid : Prop := fnExactTravelOfUptoRow.holds Try.pinned (OpenSpec.upto fnExactTravelOfSpec)

/-- 'laws.FnExactPlotTime', WHERE WHAT IT READS IS OF BULK AT MOST 1048576: true; the input reads as it did. -/
def fnExactPlotTimeUptoRow : OpenClaim := { program := "ytgpdjpololkhbaa", sum := "1ef7b98db44323b23087c5d5e60f0fdc58342e0eec769a360e7b60078627dc3b", func := "loop.example/g00948/laws.FnExactPlotTime", spec := "fnExactPlotTime", unfollowed := true, recurses := true, apart := false, narrowed := true }
def FnExactPlotTimeUptoSaid : Prop := fnExactPlotTimeUptoRow.holds Try.pinned (OpenSpec.upto fnExactPlotTimeSpec)

/-- 'laws.FnExactDrawingOf', WHERE WHAT IT READS IS OF BULK AT MOST 1048576: true; the input reads as it did. -/
def fnExactDrawingOfUptoRow : OpenClaim := { program := "ytgpdjpololkhbaa", sum := "1ef7b98db44323b23087c5d5e60f0fdc58342e0eec769a360e7b60078627dc3b", func := "loop.example/g00948/laws.FnExactDrawingOf", spec := "fnExactDrawingOf", unfollowed := true, recurses := true, apart := false, narrowed := true }
def FnExactDrawingOfUptoSaid : Prop := fnExactDrawingOfUptoRow.holds Try.pinned (OpenSpec.upto fnExactDrawingOfSpec)

/-- 'laws.FnExactIsDrawn', WHERE WHAT IT READS IS OF BULK AT MOST 1048576: true; the input reads as it did. -/
def fnExactIsDrawnUptoRow : OpenClaim := { program := "ytgpdjpololkhbaa", sum := "1ef7b98db44323b23087c5d5e60f0fdc58342e0eec769a360e7b60078627dc3b", func := "loop.example/g00948/laws.FnExactIsDrawn", spec := "fnExactIsDrawn", unfollowed := true, recurses := true, apart := false, narrowed := true }
def FnExactIsDrawnUptoSaid : Prop := fnExactIsDrawnUptoRow.holds Try.pinned (OpenSpec.upto fnExactIsDrawnSpec)

/-- 'laws.FnExactStrayStrokes', WHERE WHAT IT READS IS OF BULK AT MOST 1048576: true; the input reads as it did. -/
def fnExactStrayStrokesUptoRow : OpenClaim := { program := "ytgpdjpololkhbaa", sum := "1ef7b98db44323b23087c5d5e60f0fdc58342e0eec769a360e7b60078627dc3b", func := "loop.example/g00948/laws.FnExactStrayStrokes", spec := "fnExactStrayStrokes", unfollowed := true, recurses := true, apart := false, narrowed := true }
def FnExactStrayStrokesUptoSaid : Prop := fnExactStrayStrokesUptoRow.holds Try.pinned (OpenSpec.upto fnExactStrayStrokesSpec)

/-- 'laws.FnExactBestOrderOf', WHERE WHAT IT READS IS OF BULK AT MOST 1048576: true; the input reads as it did. -/
def fnExactBestOrderOfUptoRow : OpenClaim := { program := "ytgpdjpololkhbaa", sum := "1ef7b98db44323b23087c5d5e60f0fdc58342e0eec769a360e7b60078627dc3b", func := "loop.example/g00948/laws.FnExactBestOrderOf", spec := "fnExactBestOrderOf", unfollowed := true, recurses := true, apart := false, narrowed := true }
def FnExactBestOrderOfUptoSaid : Prop := fnExactBestOrderOfUptoRow.holds Try.pinned (OpenSpec.upto fnExactBestOrderOfSpec)

end Rows
end Go.Proofs.Ytgpdjpololkhbaa
