/-
  No cell of these rows narrows 'for every input' (looked for: loops, veiled, ifaces, maps, wideKeys, modest, calm, conditions, laid).
  DERIVED. THE GIVEN ROWS OF THIS SEAT. 12 by the template 'for every input the law returns true; each argument reads behind the call as it read before'; 0 by the template 'total and deterministic' (their statements: YtnimjikikfhlpaaTotals.lean).
  GIVEN WITH THE SEED: the statements are not yours to turn. If you find one false, say at which input.
  Laid BY PROGRAM, IN A SANDBOX (cutbox-rows.mjs): the forced cells as the released guide's own fill.sh prints them over the translation b4fad067c366e502… (all of the seat's roots in one cut). By AI agents, Wed Nov 11 2026. No macro, syntax, notation, axiom, sorry.
-/
import Derived.Test.YtnimjikikfhlpaaChecked
import GoSem.Claim
import GoSem.ClaimJoined
import GoSem.ClaimMapViews
import Derived.JoinedTies
import Derived.KernelRfl
namespace Go.Proofs.Ytnimjikikfhlpaa
/- THE CELL 'sum', in the pinned program and in every row, IS THE sha256 OF THE DUMP (.gsa) THAT YtnimjikikfhlpaaProg.lean LOADS. Nothing in Lean hashes anything: it is a label: what it is worth is what the hold of that sum in a sandbox is worth. -/
noncomputable def Try.pinned : Pinned := { name := "ytnimjikikfhlpaa", sum := "b4fad067c366e50239f0e7f687ac34354fdd2ce9d88b97aef78e0d9b50db80a6", checked := Try.checked }
namespace Rows
def none {H : Type} : Left H := { results := [], args := [] }

/-- 'laws.FnExactIsOrder': WHATEVER THE INPUT: true; the input reads as it did. -/
def fnExactIsOrderSpec : ChangeSpec := { name := "fnExactIsOrder", fn := fun _ => fun
  | [d1, d2] => { results := [.lit (.bool true)], args := [d1, d2] }
  | _ => none }
def fnExactIsOrderRow : OpenClaim := { program := "ytnimjikikfhlpaa", sum := "b4fad067c366e50239f0e7f687ac34354fdd2ce9d88b97aef78e0d9b50db80a6", func := "loop.example/g00948/laws.FnExactIsOrder", spec := "fnExactIsOrder", unfollowed := true, recurses := true, apart := false }
def FnExactIsOrderSaid : Prop := fnExactIsOrderRow.holds Try.pinned (OpenSpec.ofChange fnExactIsOrderSpec)

/-- ITS FALSE NEIGHBOUR: 'it returns false'. Refute it at one input. -/
def fnExactIsOrderWrong : ChangeSpec := { name := "fnExactIsOrder", fn := fun _ => fun
  | [d1, d2] => { results := [.lit (.bool false)], args := [d1, d2] }
  | _ => none }
def FnExactIsOrderWrongFalsely : Prop := fnExactIsOrderRow.holds Try.pinned (OpenSpec.ofChange fnExactIsOrderWrong)

/-- 'laws.FnExactIsHistory': WHATEVER THE INPUT: true; the input reads as it did. -/
def fnExactIsHistorySpec : ChangeSpec := { name := "fnExactIsHistory", fn := fun _ => fun
  | [d] => { results := [.lit (.bool true)], args := [d] }
  | _ => none }
def fnExactIsHistoryRow : OpenClaim := { program := "ytnimjikikfhlpaa", sum := "b4fad067c366e50239f0e7f687ac34354fdd2ce9d88b97aef78e0d9b50db80a6", func := "loop.example/g00948/laws.FnExactIsHistory", spec := "fnExactIsHistory", apart := false }
def FnExactIsHistorySaid : Prop := fnExactIsHistoryRow.holds Try.pinned (OpenSpec.ofChange fnExactIsHistorySpec)

/-- ITS FALSE NEIGHBOUR: 'it returns false'. Refute it at one input. -/
def fnExactIsHistoryWrong : ChangeSpec := { name := "fnExactIsHistory", fn := fun _ => fun
  | [d] => { results := [.lit (.bool false)], args := [d] }
  | _ => none }
def FnExactIsHistoryWrongFalsely : Prop := fnExactIsHistoryRow.holds Try.pinned (OpenSpec.ofChange fnExactIsHistoryWrong)

/-- 'laws.FnExactRunPlotter': WHATEVER THE INPUT: true; the input reads as it did. -/
def fnExactRunPlotterSpec : ChangeSpec := { name := "fnExactRunPlotter", fn := fun _ => fun
  | [d] => { results := [.lit (.bool true)], args := [d] }
  | _ => none }
def fnExactRunPlotterRow : OpenClaim := { program := "ytnimjikikfhlpaa", sum := "b4fad067c366e50239f0e7f687ac34354fdd2ce9d88b97aef78e0d9b50db80a6", func := "loop.example/g00948/laws.FnExactRunPlotter", spec := "fnExactRunPlotter", unfollowed := true, recurses := true, apart := false }
def FnExactRunPlotterSaid : Prop := fnExactRunPlotterRow.holds Try.pinned (OpenSpec.ofChange fnExactRunPlotterSpec)

/-- ITS FALSE NEIGHBOUR: 'it returns false'. Refute it at one input. -/
def fnExactRunPlotterWrong : ChangeSpec := { name := "fnExactRunPlotter", fn := fun _ => fun
  | [d] => { results := [.lit (.bool false)], args := [d] }
  | _ => none }
def FnExactRunPlotterWrongFalsely : Prop := fnExactRunPlotterRow.holds Try.pinned (OpenSpec.ofChange fnExactRunPlotterWrong)

/-- 'laws.FnExactGroupPens': WHATEVER THE INPUT: true; the input reads as it did. -/
def fnExactGroupPensSpec : ChangeSpec := { name := "fnExactGroupPens", fn := fun _ => fun
  | [d] => { results := [.lit (.bool true)], args := [d] }
  | _ => none }
def fnExactGroupPensRow : OpenClaim := { program := "ytnimjikikfhlpaa", sum := "b4fad067c366e50239f0e7f687ac34354fdd2ce9d88b97aef78e0d9b50db80a6", func := "loop.example/g00948/laws.FnExactGroupPens", spec := "fnExactGroupPens", unfollowed := true, recurses := true, apart := false }
def FnExactGroupPensSaid : Prop := fnExactGroupPensRow.holds Try.pinned (OpenSpec.ofChange fnExactGroupPensSpec)

/-- ITS FALSE NEIGHBOUR: 'it returns false'. Refute it at one input. -/
def fnExactGroupPensWrong : ChangeSpec := { name := "fnExactGroupPens", fn := fun _ => fun
  | [d] => { results := [.lit (.bool false)], args := [d] }
  | _ => none }
def FnExactGroupPensWrongFalsely : Prop := fnExactGroupPensRow.holds Try.pinned (OpenSpec.ofChange fnExactGroupPensWrong)

/-- 'laws.FnExactTravelOf': WHATEVER THE INPUT: true; the input reads as it did. -/
def fnExactTravelOfSpec : ChangeSpec := { name := "fnExactTravelOf", fn := fun _ => fun
  | [d] => { results := [.lit (.bool true)], args := [d] }
  | _ => none }
def fnExactTravelOfRow : OpenClaim := { program := "ytnimjikikfhlpaa", sum := "b4fad067c366e50239f0e7f687ac34354fdd2ce9d88b97aef78e0d9b50db80a6", func := "loop.example/g00948/laws.FnExactTravelOf", spec := "fnExactTravelOf", unfollowed := true, recurses := true, apart := false }
def FnExactTravelOfSaid : Prop := fnExactTravelOfRow.holds Try.pinned (OpenSpec.ofChange fnExactTravelOfSpec)

/-- ITS FALSE NEIGHBOUR: 'it returns false'. Refute it at one input. -/
def fnExactTravelOfWrong : ChangeSpec := { name := "fnExactTravelOf", fn := fun _ => fun
  | [d] => { results := [.lit (.bool false)], args := [d] }
  | _ => none }
def FnExactTravelOfWrongFalsely : Prop := fnExactTravelOfRow.holds Try.pinned (OpenSpec.ofChange fnExactTravelOfWrong)

/-- 'laws.FnExactChangedParts': WHATEVER THE INPUT: true; the input reads as it did. -/
def fnExactChangedPartsSpec : ChangeSpec := { name := "fnExactChangedParts", fn := fun _ => fun
  | [d1, d2] => { results := [.lit (.bool true)], args := [d1, d2] }
  | _ => none }
def fnExactChangedPartsRow : OpenClaim := { program := "ytnimjikikfhlpaa", sum := "b4fad067c366e50239f0e7f687ac34354fdd2ce9d88b97aef78e0d9b50db80a6", func := "loop.example/g00948/laws.FnExactChangedParts", spec := "fnExactChangedParts", apart := false }
def FnExactChangedPartsSaid : Prop := fnExactChangedPartsRow.holds Try.pinned (OpenSpec.ofChange fnExactChangedPartsSpec)

/-- ITS FALSE NEIGHBOUR: 'it returns false'. Refute it at one input. -/
def fnExactChangedPartsWrong : ChangeSpec := { name := "fnExactChangedParts", fn := fun _ => fun
  | [d1, d2] => { results := [.lit (.bool false)], args := [d1, d2] }
  | _ => none }
def FnExactChangedPartsWrongFalsely : Prop := fnExactChangedPartsRow.holds Try.pinned (OpenSpec.ofChange fnExactChangedPartsWrong)

/-- 'laws.FnExactCostOf': WHATEVER THE INPUT: true; the input reads as it did. -/
def fnExactCostOfSpec : ChangeSpec := { name := "fnExactCostOf", fn := fun _ => fun
  | [d1, d2] => { results := [.lit (.bool true)], args := [d1, d2] }
  | _ => none }
def fnExactCostOfRow : OpenClaim := { program := "ytnimjikikfhlpaa", sum := "b4fad067c366e50239f0e7f687ac34354fdd2ce9d88b97aef78e0d9b50db80a6", func := "loop.example/g00948/laws.FnExactCostOf", spec := "fnExactCostOf", unfollowed := true, recurses := true, apart := false }
def FnExactCostOfSaid : Prop := fnExactCostOfRow.holds Try.pinned (OpenSpec.ofChange fnExactCostOfSpec)

/-- ITS FALSE NEIGHBOUR: 'it returns false'. Refute it at one input. -/
def fnExactCostOfWrong : ChangeSpec := { name := "fnExactCostOf", fn := fun _ => fun
  | [d1, d2] => { results := [.lit (.bool false)], args := [d1, d2] }
  | _ => none }
def FnExactCostOfWrongFalsely : Prop := fnExactCostOfRow.holds Try.pinned (OpenSpec.ofChange fnExactCostOfWrong)

/-- 'laws.FnExactMoveDrawing': WHATEVER THE INPUT: true; the input reads as it did. -/
def fnExactMoveDrawingSpec : ChangeSpec := { name := "fnExactMoveDrawing", fn := fun _ => fun
  | [d1, d2, d3] => { results := [.lit (.bool true)], args := [d1, d2, d3] }
  | _ => none }
def fnExactMoveDrawingRow : OpenClaim := { program := "ytnimjikikfhlpaa", sum := "b4fad067c366e50239f0e7f687ac34354fdd2ce9d88b97aef78e0d9b50db80a6", func := "loop.example/g00948/laws.FnExactMoveDrawing", spec := "fnExactMoveDrawing", unfollowed := true, recurses := true, apart := false }
def FnExactMoveDrawingSaid : Prop := fnExactMoveDrawingRow.holds Try.pinned (OpenSpec.ofChange fnExactMoveDrawingSpec)

/-- ITS FALSE NEIGHBOUR: 'it returns false'. Refute it at one input. -/
def fnExactMoveDrawingWrong : ChangeSpec := { name := "fnExactMoveDrawing", fn := fun _ => fun
  | [d1, d2, d3] => { results := [.lit (.bool false)], args := [d1, d2, d3] }
  | _ => none }
def FnExactMoveDrawingWrongFalsely : Prop := fnExactMoveDrawingRow.holds Try.pinned (OpenSpec.ofChange fnExactMoveDrawingWrong)

/-- 'laws.FnExactIsDesk': WHATEVER THE INPUT: true; the input reads as it did. -/
def fnExactIsDeskSpec : ChangeSpec := { name := "fnExactIsDesk", fn := fun _ => fun
  | [d] => { results := [.lit (.bool true)], args := [d] }
  | _ => none }
def fnExactIsDeskRow : OpenClaim := { program := "ytnimjikikfhlpaa", sum := "b4fad067c366e50239f0e7f687ac34354fdd2ce9d88b97aef78e0d9b50db80a6", func := "loop.example/g00948/laws.FnExactIsDesk", spec := "fnExactIsDesk", apart := false }
def FnExactIsDeskSaid : Prop := fnExactIsDeskRow.holds Try.pinned (OpenSpec.ofChange fnExactIsDeskSpec)

/-- ITS FALSE NEIGHBOUR: 'it returns false'. Refute it at one input. -/
def fnExactIsDeskWrong : ChangeSpec := { name := "fnExactIsDesk", fn := fun _ => fun
  | [d] => { results := [.lit (.bool false)], args := [d] }
  | _ => none }
def FnExactIsDeskWrongFalsely : Prop := fnExactIsDeskRow.holds Try.pinned (OpenSpec.ofChange fnExactIsDeskWrong)

/-- 'laws.FnExactPlotTime': WHATEVER THE INPUT: true; the input reads as it did. -/
def fnExactPlotTimeSpec : ChangeSpec := { name := "fnExactPlotTime", fn := fun _ => fun
  | [d1, d2, d3, d4] => { results := [.lit (.bool true)], args := [d1, d2, d3, d4] }
  | _ => none }
def fnExactPlotTimeRow : OpenClaim := { program := "ytnimjikikfhlpaa", sum := "b4fad067c366e50239f0e7f687ac34354fdd2ce9d88b97aef78e0d9b50db80a6", func := "loop.example/g00948/laws.FnExactPlotTime", spec := "fnExactPlotTime", unfollowed := true, recurses := true, apart := false }
def FnExactPlotTimeSaid : Prop := fnExactPlotTimeRow.holds Try.pinned (OpenSpec.ofChange fnExactPlotTimeSpec)

/-- ITS FALSE NEIGHBOUR: 'it returns false'. Refute it at one input. -/
def fnExactPlotTimeWrong : ChangeSpec := { name := "fnExactPlotTime", fn := fun _ => fun
  | [d1, d2, d3, d4] => { results := [.lit (.bool false)], args := [d1, d2, d3, d4] }
  | _ => none }
def FnExactPlotTimeWrongFalsely : Prop := fnExactPlotTimeRow.holds Try.pinned (OpenSpec.ofChange fnExactPlotTimeWrong)

/-- 'laws.FnExactTurnStroke': WHATEVER THE INPUT: true; the input reads as it did. -/
def fnExactTurnStrokeSpec : ChangeSpec := { name := "fnExactTurnStroke", fn := fun _ => fun
  | [d1, d2] => { results := [.lit (.bool true)], args := [d1, d2] }
  | _ => none }
def fnExactTurnStrokeRow : OpenClaim := { program := "ytnimjikikfhlpaa", sum := "b4fad067c366e50239f0e7f687ac34354fdd2ce9d88b97aef78e0d9b50db80a6", func := "loop.example/g00948/laws.FnExactTurnStroke", spec := "fnExactTurnStroke", unfollowed := true, recurses := true, apart := false }
def FnExactTurnStrokeSaid : Prop := fnExactTurnStrokeRow.holds Try.pinned (OpenSpec.ofChange fnExactTurnStrokeSpec)

/-- ITS FALSE NEIGHBOUR: 'it returns false'. Refute it at one input. -/
def fnExactTurnStrokeWrong : ChangeSpec := { name := "fnExactTurnStroke", fn := fun _ => fun
  | [d1, d2] => { results := [.lit (.bool false)], args := [d1, d2] }
  | _ => none }
def FnExactTurnStrokeWrongFalsely : Prop := fnExactTurnStrokeRow.holds Try.pinned (OpenSpec.ofChange fnExactTurnStrokeWrong)

/-- 'laws.FnExactProgramOf': WHATEVER THE INPUT: true; the input reads as it did. -/
def fnExactProgramOfSpec : ChangeSpec := { name := "fnExactProgramOf", fn := fun _ => fun
  | [d] => { results := [.lit (.bool true)], args := [d] }
  | _ => none }
def fnExactProgramOfRow : OpenClaim := { program := "ytnimjikikfhlpaa", sum := "b4fad067c366e50239f0e7f687ac34354fdd2ce9d88b97aef78e0d9b50db80a6", func := "loop.example/g00948/laws.FnExactProgramOf", spec := "fnExactProgramOf", unfollowed := true, recurses := true, apart := false }
def FnExactProgramOfSaid : Prop := fnExactProgramOfRow.holds Try.pinned (OpenSpec.ofChange fnExactProgramOfSpec)

/-- ITS FALSE NEIGHBOUR: 'it returns false'. Refute it at one input. -/
def fnExactProgramOfWrong : ChangeSpec := { name := "fnExactProgramOf", fn := fun _ => fun
  | [d] => { results := [.lit (.bool false)], args := [d] }
  | _ => none }
def FnExactProgramOfWrongFalsely : Prop := fnExactProgramOfRow.holds Try.pinned (OpenSpec.ofChange fnExactProgramOfWrong)

/- THE SECOND FORM. 'bulk': how many values and letters a reading holds, each counted each time it is reached (what is shared counts as often as it is met; a slice's spare places count too). A statement '..UptoSaid' is the law's where the arguments, and the package variables that the reading takes, are together of bulk at most 1048576: NARROWER than '..Said'. Prove '..Said' where nothing that the law and all that it calls make is longer than what came in: it says more and counts as full. Else prove '..UptoSaid'. A law counts once. -/
mutual
def uptoBulk {H : Type} : DataW H → Nat
  | .lit (.string bytes) => bytes.length + 1
  | .lit _ => 1
  | .nil => 1
  | .ptr d => uptoBulk d + 1
  | .slice elems spare => uptoBulkAll elems + uptoBulkAll spare + 1
  | .agg parts => uptoBulkAll parts + 1
  | .iface _ d => uptoBulk d + 1
  | .map entries => uptoBulkEntries entries + 1
  | .held _ => 1
def uptoBulkAll {H : Type} : List (DataW H) → Nat
  | [] => 0
  | d :: r => uptoBulk d + uptoBulkAll r
def uptoBulkEntries {H : Type} : List (Lit × DataW H) → Nat
  | [] => 0
  | x :: r => uptoBulkEntry x + uptoBulkEntries r
def uptoBulkEntry {H : Type} : Lit × DataW H → Nat
  | (.string bytes, d) => bytes.length + uptoBulk d + 1
  | (_, d) => uptoBulk d + 1
 end
def uptoSmall : (H : Type) → List (DataW H) → Bool := fun _ ds => decide (uptoBulkAll ds ≤ 1048576)
def OpenSpec.upto (s : _root_.Go.ChangeSpec) : _root_.Go.OpenSpec := { _root_.Go.OpenSpec.ofChange s with cond := some uptoSmall }

/-- 'laws.FnExactIsOrder', WHERE WHAT IT READS IS OF BULK AT MOST 1048576: true; the input reads as it did. -/
def fnExactIsOrderUptoRow : OpenClaim := { program := "ytnimjikikfhlpaa", sum := "b4fad067c366e50239f0e7f687ac34354fdd2ce9d88b97aef78e0d9b50db80a6", func := "loop.example/g00948/laws.FnExactIsOrder", spec := "fnExactIsOrder", unfollowed := true, recurses := true, apart := false, narrowed := true }
def FnExactIsOrderUptoSaid : Prop := fnExactIsOrderUptoRow.holds Try.pinned (OpenSpec.upto fnExactIsOrderSpec)

/-- 'laws.FnExactIsHistory', WHERE WHAT IT READS IS OF BULK AT MOST 1048576: true; the input reads as it did. -/
def fnExactIsHistoryUptoRow : OpenClaim := { program := "ytnimjikikfhlpaa", sum := "b4fad067c366e50239f0e7f687ac34354fdd2ce9d88b97aef78e0d9b50db80a6", func := "loop.example/g00948/laws.FnExactIsHistory", spec := "fnExactIsHistory", apart := false, narrowed := true }
def FnExactIsHistoryUptoSaid : Prop := fnExactIsHistoryUptoRow.holds Try.pinned (OpenSpec.upto fnExactIsHistorySpec)

/-- 'laws.FnExactRunPlotter', WHERE WHAT IT READS IS OF BULK AT MOST 1048576: true; the input reads as it did. -/
def fnExactRunPlotterUptoRow : OpenClaim := { program := "ytnimjikikfhlpaa", sum := "b4fad067c366e50239f0e7f687ac34354fdd2ce9d88b97aef78e0d9b50db80a6", func := "loop.example/g00948/laws.FnExactRunPlotter", spec := "fnExactRunPlotter", unfollowed := true, recurses := true, apart := false, narrowed := true }
def FnExactRunPlotterUptoSaid : Prop := fnExactRunPlotterUptoRow.holds Try.pinned (OpenSpec.upto fnExactRunPlotterSpec)

/-- 'laws.FnExactGroupPens', WHERE WHAT IT READS IS OF BULK AT MOST 1048576: true; the input reads as it did. -/
def fnExactGroupPensUptoRow : OpenClaim := { program := "ytnimjikikfhlpaa", sum := "b4fad067c366e50239f0e7f687ac34354fdd2ce9d88b97aef78e0d9b50db80a6", func := "loop.example/g00948/laws.FnExactGroupPens", spec := "fnExactGroupPens", unfollowed := true, recurses := true, apart := false, narrowed := true }
def FnExactGroupPensUptoSaid : Prop := fnExactGroupPensUptoRow.holds Try.pinned (OpenSpec.upto fnExactGroupPensSpec)

/-- 'laws.FnExactTravelOf', WHERE WHAT IT READS IS OF BULK AT MOST 1048576: true; the input reads as it did. -/
def fnExactTravelOfUptoRow : OpenClaim := { program := "ytnimjikikfhlpaa", sum := "b4fad067c366e50239f0e7f687ac34354fdd2ce9d88b97aef78e0d9b50db80a6", func := "loop.example/g00948/laws.FnExactTravelOf", spec := "fnExactTravelOf", unfollowed := true, recurses := true, apart := false, narrowed := true }
def FnExactTravelOfUptoSaid : Prop := fnExactTravelOfUptoRow.holds Try.pinned (OpenSpec.upto fnExactTravelOfSpec)

/-- 'laws.FnExactChangedParts', WHERE WHAT IT READS IS OF BULK AT MOST 1048576: true; the input reads as it did. -/
def fnExactChangedPartsUptoRow : OpenClaim := { program := "ytnimjikikfhlpaa", sum := "b4fad067c366e50239f0e7f687ac34354fdd2ce9d88b97aef78e0d9b50db80a6", func := "loop.example/g00948/laws.FnExactChangedParts", spec := "fnExactChangedParts", apart := false, narrowed := true }
def FnExactChangedPartsUptoSaid : Prop := fnExactChangedPartsUptoRow.holds Try.pinned (OpenSpec.upto fnExactChangedPartsSpec)

/-- 'laws.FnExactCostOf', WHERE WHAT IT READS IS OF BULK AT MOST 1048576: true; the input reads as it did. -/
def fnExactCostOfUptoRow : OpenClaim := { program := "ytnimjikikfhlpaa", sum := "b4fad067c366e50239f0e7f687ac34354fdd2ce9d88b97aef78e0d9b50db80a6", func := "loop.example/g00948/laws.FnExactCostOf", spec := "fnExactCostOf", unfollowed := true, recurses := true, apart := false, narrowed := true }
def FnExactCostOfUptoSaid : Prop := fnExactCostOfUptoRow.holds Try.pinned (OpenSpec.upto fnExactCostOfSpec)

/-- 'laws.FnExactMoveDrawing', WHERE WHAT IT READS IS OF BULK AT MOST 1048576: true; the input reads as it did. -/
def fnExactMoveDrawingUptoRow : OpenClaim := { program := "ytnimjikikfhlpaa", sum := "b4fad067c366e50239f0e7f687ac34354fdd2ce9d88b97aef78e0d9b50db80a6", func := "loop.example/g00948/laws.FnExactMoveDrawing", spec := "fnExactMoveDrawing", unfollowed := true, recurses := true, apart := false, narrowed := true }
def FnExactMoveDrawingUptoSaid : Prop := fnExactMoveDrawingUptoRow.holds Try.pinned (OpenSpec.upto fnExactMoveDrawingSpec)

/-- 'laws.FnExactIsDesk', WHERE WHAT IT READS IS OF BULK AT MOST 1048576: true; the input reads as it did. -/
def fnExactIsDeskUptoRow : OpenClaim := { program := "ytnimjikikfhlpaa", sum := "b4fad067c366e50239f0e7f687ac34354fdd2ce9d88b97aef78e0d9b50db80a6", func := "loop.example/g00948/laws.FnExactIsDesk", spec := "fnExactIsDesk", apart := false, narrowed := true }
def FnExactIsDeskUptoSaid : Prop := fnExactIsDeskUptoRow.holds Try.pinned (OpenSpec.upto fnExactIsDeskSpec)

/-- 'laws.FnExactPlotTime', WHERE WHAT IT READS IS OF BULK AT MOST 1048576: true; the input reads as it did. -/
def fnExactPlotTimeUptoRow : OpenClaim := { program := "ytnimjikikfhlpaa", sum := "b4fad067c366e50239f0e7f687ac34354fdd2ce9d88b97aef78e0d9b50db80a6", func := "loop.example/g00948/laws.FnExactPlotTime", spec := "fnExactPlotTime", unfollowed := true, recurses := true, apart := false, narrowed := true }
def FnExactPlotTimeUptoSaid : Prop := fnExactPlotTimeUptoRow.holds Try.pinned (OpenSpec.upto fnExactPlotTimeSpec)

/-- 'laws.FnExactTurnStroke', WHERE WHAT IT READS IS OF BULK AT MOST 1048576: true; the input reads as it did. -/
def fnExactTurnStrokeUptoRow : OpenClaim := { program := "ytnimjikikfhlpaa", sum := "b4fad067c366e50239f0e7f687ac34354fdd2ce9d88b97aef78e0d9b50db80a6", func := "loop.example/g00948/laws.FnExactTurnStroke", spec := "fnExactTurnStroke", unfollowed := true, recurses := true, apart := false, narrowed := true }
def FnExactTurnStrokeUptoSaid : Prop := fnExactTurnStrokeUptoRow.holds Try.pinned (OpenSpec.upto fnExactTurnStrokeSpec)

/-- 'laws.FnExactProgramOf', WHERE WHAT IT READS IS OF BULK AT MOST 1048576: true; the input reads as it did. -/
def fnExactProgramOfUptoRow : OpenClaim := { program := "ytnimjikikfhlpaa", sum := "b4fad067c366e50239f0e7f687ac34354fdd2ce9d88b97aef78e0d9b50db80a6", func := "loop.example/g00948/laws.FnExactProgramOf", spec := "fnExactProgramOf", unfollowed := true, recurses := true, apart := false, narrowed := true }
def FnExactProgramOfUptoSaid : Prop := fnExactProgramOfUptoRow.holds Try.pinned (OpenSpec.upto fnExactProgramOfSpec)

end Rows
end Go.Proofs.Ytnimjikikfhlpaa
