/-
  No cell of these rows narrows 'for every input' (looked for: loops, veiled, ifaces, maps, wideKeys, modest, calm, conditions, laid).
  DERIVED. THE GIVEN ROWS OF THIS SEAT. 8 by the template 'for every input the law returns true; each argument reads behind the call as it read before'; 0 by the template 'total and deterministic' (their statements: YtmdphfjpocmooaaTotals.lean).
  GIVEN WITH THE SEED: the statements are not yours to turn. If you find one false, say at which input.
  Laid BY PROGRAM, IN A SANDBOX (cutbox-rows.mjs): the forced cells as the released guide's own fill.sh prints them over the translation 53dc2b0467355324… (all of the seat's roots in one cut). By AI agents, Wed Nov 11 2026. No macro, syntax, notation, axiom, sorry.
-/
import Derived.Test.YtmdphfjpocmooaaChecked
import GoSem.Claim
import GoSem.ClaimJoined
import GoSem.ClaimMapViews
import Derived.JoinedTies
import Derived.KernelRfl
namespace Go.Proofs.Ytmdphfjpocmooaa
/- THE CELL 'sum', in the pinned program and in every row, IS THE sha256 OF THE DUMP (.gsa) THAT YtmdphfjpocmooaaProg.lean LOADS. Nothing in Lean hashes anything: it is a label: what it is worth is what the hold of that sum in a sandbox is worth. -/
noncomputable def Try.pinned : Pinned := { name := "ytmdphfjpocmooaa", sum := "53dc2b04673553244f96ba2afa2f8232e2394cbc7d9f31f276dc1f41764b62ad", checked := Try.checked }
namespace Rows
def none {H : Type} : Left H := { results := [], args := [] }

/-- 'spykeep2.SlewNearest': WHATEVER THE INPUT: true; the input reads as it did. -/
def slewNearestSpec : ChangeSpec := { name := "slewNearest", fn := fun _ => fun
  | [d1, d2] => { results := [.lit (.bool true)], args := [d1, d2] }
  | _ => none }
def slewNearestRow : OpenClaim := { program := "ytmdphfjpocmooaa", sum := "53dc2b04673553244f96ba2afa2f8232e2394cbc7d9f31f276dc1f41764b62ad", func := "spyglass/spykeep2.SlewNearest", spec := "slewNearest", unfollowed := true, recurses := true, apart := false }
def SlewNearestSaid : Prop := slewNearestRow.holds Try.pinned (OpenSpec.ofChange slewNearestSpec)

/-- ITS FALSE NEIGHBOUR: 'it returns false'. Refute it at one input. -/
def slewNearestWrong : ChangeSpec := { name := "slewNearest", fn := fun _ => fun
  | [d1, d2] => { results := [.lit (.bool false)], args := [d1, d2] }
  | _ => none }
def SlewNearestWrongFalsely : Prop := slewNearestRow.holds Try.pinned (OpenSpec.ofChange slewNearestWrong)

/-- 'spykeep2.SlewTimes': WHATEVER THE INPUT: true; the input reads as it did. -/
def slewTimesSpec : ChangeSpec := { name := "slewTimes", fn := fun _ => fun
  | [d] => { results := [.lit (.bool true)], args := [d] }
  | _ => none }
def slewTimesRow : OpenClaim := { program := "ytmdphfjpocmooaa", sum := "53dc2b04673553244f96ba2afa2f8232e2394cbc7d9f31f276dc1f41764b62ad", func := "spyglass/spykeep2.SlewTimes", spec := "slewTimes", apart := false }
def SlewTimesSaid : Prop := slewTimesRow.holds Try.pinned (OpenSpec.ofChange slewTimesSpec)

/-- ITS FALSE NEIGHBOUR: 'it returns false'. Refute it at one input. -/
def slewTimesWrong : ChangeSpec := { name := "slewTimes", fn := fun _ => fun
  | [d] => { results := [.lit (.bool false)], args := [d] }
  | _ => none }
def SlewTimesWrongFalsely : Prop := slewTimesRow.holds Try.pinned (OpenSpec.ofChange slewTimesWrong)

/-- 'spykeep2.SlewBrakes': WHATEVER THE INPUT: true; the input reads as it did. -/
def slewBrakesSpec : ChangeSpec := { name := "slewBrakes", fn := fun _ => fun
  | [d1, d2] => { results := [.lit (.bool true)], args := [d1, d2] }
  | _ => none }
def slewBrakesRow : OpenClaim := { program := "ytmdphfjpocmooaa", sum := "53dc2b04673553244f96ba2afa2f8232e2394cbc7d9f31f276dc1f41764b62ad", func := "spyglass/spykeep2.SlewBrakes", spec := "slewBrakes", apart := false }
def SlewBrakesSaid : Prop := slewBrakesRow.holds Try.pinned (OpenSpec.ofChange slewBrakesSpec)

/-- ITS FALSE NEIGHBOUR: 'it returns false'. Refute it at one input. -/
def slewBrakesWrong : ChangeSpec := { name := "slewBrakes", fn := fun _ => fun
  | [d1, d2] => { results := [.lit (.bool false)], args := [d1, d2] }
  | _ => none }
def SlewBrakesWrongFalsely : Prop := slewBrakesRow.holds Try.pinned (OpenSpec.ofChange slewBrakesWrong)

/-- 'spykeep2.AxisMirror': WHATEVER THE INPUT: true; the input reads as it did. -/
def axisMirrorSpec : ChangeSpec := { name := "axisMirror", fn := fun _ => fun
  | [d] => { results := [.lit (.bool true)], args := [d] }
  | _ => none }
def axisMirrorRow : OpenClaim := { program := "ytmdphfjpocmooaa", sum := "53dc2b04673553244f96ba2afa2f8232e2394cbc7d9f31f276dc1f41764b62ad", func := "spyglass/spykeep2.AxisMirror", spec := "axisMirror", apart := false }
def AxisMirrorSaid : Prop := axisMirrorRow.holds Try.pinned (OpenSpec.ofChange axisMirrorSpec)

/-- ITS FALSE NEIGHBOUR: 'it returns false'. Refute it at one input. -/
def axisMirrorWrong : ChangeSpec := { name := "axisMirror", fn := fun _ => fun
  | [d] => { results := [.lit (.bool false)], args := [d] }
  | _ => none }
def AxisMirrorWrongFalsely : Prop := axisMirrorRow.holds Try.pinned (OpenSpec.ofChange axisMirrorWrong)

/-- 'spykeep2.AxisBounds': WHATEVER THE INPUT: true; the input reads as it did. -/
def axisBoundsSpec : ChangeSpec := { name := "axisBounds", fn := fun _ => fun
  | [d] => { results := [.lit (.bool true)], args := [d] }
  | _ => none }
def axisBoundsRow : OpenClaim := { program := "ytmdphfjpocmooaa", sum := "53dc2b04673553244f96ba2afa2f8232e2394cbc7d9f31f276dc1f41764b62ad", func := "spyglass/spykeep2.AxisBounds", spec := "axisBounds", apart := false }
def AxisBoundsSaid : Prop := axisBoundsRow.holds Try.pinned (OpenSpec.ofChange axisBoundsSpec)

/-- ITS FALSE NEIGHBOUR: 'it returns false'. Refute it at one input. -/
def axisBoundsWrong : ChangeSpec := { name := "axisBounds", fn := fun _ => fun
  | [d] => { results := [.lit (.bool false)], args := [d] }
  | _ => none }
def AxisBoundsWrongFalsely : Prop := axisBoundsRow.holds Try.pinned (OpenSpec.ofChange axisBoundsWrong)

/-- 'spykeep2.SlewTogether': WHATEVER THE INPUT: true; the input reads as it did. -/
def slewTogetherSpec : ChangeSpec := { name := "slewTogether", fn := fun _ => fun
  | [d1, d2, d3] => { results := [.lit (.bool true)], args := [d1, d2, d3] }
  | _ => none }
def slewTogetherRow : OpenClaim := { program := "ytmdphfjpocmooaa", sum := "53dc2b04673553244f96ba2afa2f8232e2394cbc7d9f31f276dc1f41764b62ad", func := "spyglass/spykeep2.SlewTogether", spec := "slewTogether", apart := false }
def SlewTogetherSaid : Prop := slewTogetherRow.holds Try.pinned (OpenSpec.ofChange slewTogetherSpec)

/-- ITS FALSE NEIGHBOUR: 'it returns false'. Refute it at one input. -/
def slewTogetherWrong : ChangeSpec := { name := "slewTogether", fn := fun _ => fun
  | [d1, d2, d3] => { results := [.lit (.bool false)], args := [d1, d2, d3] }
  | _ => none }
def SlewTogetherWrongFalsely : Prop := slewTogetherRow.holds Try.pinned (OpenSpec.ofChange slewTogetherWrong)

/-- 'spykeep2.AxisStops': WHATEVER THE INPUT: true; the input reads as it did. -/
def axisStopsSpec : ChangeSpec := { name := "axisStops", fn := fun _ => fun
  | [d1, d2] => { results := [.lit (.bool true)], args := [d1, d2] }
  | _ => none }
def axisStopsRow : OpenClaim := { program := "ytmdphfjpocmooaa", sum := "53dc2b04673553244f96ba2afa2f8232e2394cbc7d9f31f276dc1f41764b62ad", func := "spyglass/spykeep2.AxisStops", spec := "axisStops", apart := false }
def AxisStopsSaid : Prop := axisStopsRow.holds Try.pinned (OpenSpec.ofChange axisStopsSpec)

/-- ITS FALSE NEIGHBOUR: 'it returns false'. Refute it at one input. -/
def axisStopsWrong : ChangeSpec := { name := "axisStops", fn := fun _ => fun
  | [d1, d2] => { results := [.lit (.bool false)], args := [d1, d2] }
  | _ => none }
def AxisStopsWrongFalsely : Prop := axisStopsRow.holds Try.pinned (OpenSpec.ofChange axisStopsWrong)

/-- 'spykeep2.AxisArrives': WHATEVER THE INPUT: true; the input reads as it did. -/
def axisArrivesSpec : ChangeSpec := { name := "axisArrives", fn := fun _ => fun
  | [d] => { results := [.lit (.bool true)], args := [d] }
  | _ => none }
def axisArrivesRow : OpenClaim := { program := "ytmdphfjpocmooaa", sum := "53dc2b04673553244f96ba2afa2f8232e2394cbc7d9f31f276dc1f41764b62ad", func := "spyglass/spykeep2.AxisArrives", spec := "axisArrives", apart := false }
def AxisArrivesSaid : Prop := axisArrivesRow.holds Try.pinned (OpenSpec.ofChange axisArrivesSpec)

/-- ITS FALSE NEIGHBOUR: 'it returns false'. Refute it at one input. -/
def axisArrivesWrong : ChangeSpec := { name := "axisArrives", fn := fun _ => fun
  | [d] => { results := [.lit (.bool false)], args := [d] }
  | _ => none }
def AxisArrivesWrongFalsely : Prop := axisArrivesRow.holds Try.pinned (OpenSpec.ofChange axisArrivesWrong)

/- THE SECOND FORM. 'bulk': how many values and letters a reading holds, each counted each time it is reached (what is shared counts as often as it is met; a slice's spare places count too). A statement '..UptoSaid' is the law's where the arguments, and the package variables that the reading takes, are together of bulk at most 1048576: NARROWER than '..Said'. Prove '..Said' where nothing that the law and all that it calls make is longer than what came in: it says more and counts as full. Else prove '..UptoSaid'. A law counts once. -/
mutual
def uptoBulk {H : Type} : DataW H → Nat
  | .lit (.string bytes) => bytes.length + 1
  | .lit _ => 1
  | .nil => 1
  | .ptr d => uptoBulk d + 1
  | .slice elems spare => uptoBulkAll elems + uptoBulkAll spare + 1
  | .agg parts => uptoBulkAll parts + 1
  | .iface _ d => uptoBulk d + 1
  | .map entries => uptoBulkEntries entries + 1
  | .held _ => 1
def uptoBulkAll {H : Type} : List (DataW H) → Nat
  | [] => 0
  | d :: r => uptoBulk d + uptoBulkAll r
def uptoBulkEntries {H : Type} : List (Lit × DataW H) → Nat
  | [] => 0
  | x :: r => uptoBulkEntry x + uptoBulkEntries r
def uptoBulkEntry {H : Type} : Lit × DataW H → Nat
  | (.string bytes, d) => bytes.length + uptoBulk d + 1
  | (_, d) => uptoBulk d + 1
 end
def uptoSmall : (H : Type) → List (DataW H) → Bool := fun _ ds => decide (uptoBulkAll ds ≤ 1048576)
def OpenSpec.upto (s : _root_.Go.ChangeSpec) : _root_.Go.OpenSpec := { _root_.Go.OpenSpec.ofChange s with cond := some uptoSmall }

/-- 'spykeep2.SlewNearest', WHERE WHAT IT READS IS OF BULK AT MOST 1048576: true; the input reads as it did. -/
def slewNearestUptoRow : OpenClaim := { program := "ytmdphfjpocmooaa", sum := "53dc2b04673553244f96ba2afa2f8232e2394cbc7d9f31f276dc1f41764b62ad", func := "spyglass/spykeep2.SlewNearest", spec := "slewNearest", unfollowed := true, recurses := true, apart := false, narrowed := true }
def SlewNearestUptoSaid : Prop := slewNearestUptoRow.holds Try.pinned (OpenSpec.upto slewNearestSpec)

/-- 'spykeep2.SlewTimes', WHERE WHAT IT READS IS OF BULK AT MOST 1048576: true; the input reads as it did. -/
def slewTimesUptoRow : OpenClaim := { program := "ytmdphfjpocmooaa", sum := "53dc2b04673553244f96ba2afa2f8232e2394cbc7d9f31f276dc1f41764b62ad", func := "spyglass/spykeep2.SlewTimes", spec := "slewTimes", apart := false, narrowed := true }
def SlewTimesUptoSaid : Prop := slewTimesUptoRow.holds Try.pinned (OpenSpec.upto slewTimesSpec)

/-- 'spykeep2.SlewBrakes', WHERE WHAT IT READS IS OF BULK AT MOST 1048576: true; the input reads as it did. -/
def slewBrakesUptoRow : OpenClaim := { program := "ytmdphfjpocmooaa", sum := "53dc2b04673553244f96ba2afa2f8232e2394cbc7d9f31f276dc1f41764b62ad", func := "spyglass/spykeep2.SlewBrakes", spec := "slewBrakes", apart := false, narrowed := true }
def SlewBrakesUptoSaid : Prop := slewBrakesUptoRow.holds Try.pinned (OpenSpec.upto slewBrakesSpec)

/-- 'spykeep2.AxisMirror', WHERE WHAT IT READS IS OF BULK AT MOST 1048576: true; the input reads as it did. -/
def axisMirrorUptoRow : OpenClaim := { program := "ytmdphfjpocmooaa", sum := "53dc2b04673553244f96ba2afa2f8232e2394cbc7d9f31f276dc1f41764b62ad", func := "spyglass/spykeep2.AxisMirror", spec := "axisMirror", apart := false, narrowed := true }
def AxisMirrorUptoSaid : Prop := axisMirrorUptoRow.holds Try.pinned (OpenSpec.upto axisMirrorSpec)

/-- 'spykeep2.AxisBounds', WHERE WHAT IT READS IS OF BULK AT MOST 1048576: true; the input reads as it did. -/
def axisBoundsUptoRow : OpenClaim := { program := "ytmdphfjpocmooaa", sum := "53dc2b04673553244f96ba2afa2f8232e2394cbc7d9f31f276dc1f41764b62ad", func := "spyglass/spykeep2.AxisBounds", spec := "axisBounds", apart := false, narrowed := true }
def AxisBoundsUptoSaid : Prop := axisBoundsUptoRow.holds Try.pinned (OpenSpec.upto axisBoundsSpec)

/-- 'spykeep2.SlewTogether', WHERE WHAT IT READS IS OF BULK AT MOST 1048576: true; the input reads as it did. -/
def slewTogetherUptoRow : OpenClaim := { program := "ytmdphfjpocmooaa", sum := "53dc2b04673553244f96ba2afa2f8232e2394cbc7d9f31f276dc1f41764b62ad", func := "spyglass/spykeep2.SlewTogether", spec := "slewTogether", apart := false, narrowed := true }
def SlewTogetherUptoSaid : Prop := slewTogetherUptoRow.holds Try.pinned (OpenSpec.upto slewTogetherSpec)

/-- 'spykeep2.AxisStops', WHERE WHAT IT READS IS OF BULK AT MOST 1048576: true; the input reads as it did. -/
def axisStopsUptoRow : OpenClaim := { program := "ytmdphfjpocmooaa", sum := "53dc2b04673553244f96ba2afa2f8232e2394cbc7d9f31f276dc1f41764b62ad", func := "spyglass/spykeep2.AxisStops", spec := "axisStops", apart := false, narrowed := true }
def AxisStopsUptoSaid : Prop := axisStopsUptoRow.holds Try.pinned (OpenSpec.upto axisStopsSpec)

/-- 'spykeep2.AxisArrives', WHERE WHAT IT READS IS OF BULK AT MOST 1048576: true; the input reads as it did. -/
def axisArrivesUptoRow : OpenClaim := { program := "ytmdphfjpocmooaa", sum := "53dc2b04673553244f96ba2afa2f8232e2394cbc7d9f31f276dc1f41764b62ad", func := "spyglass/spykeep2.AxisArrives", spec := "axisArrives", apart := false, narrowed := true }
def AxisArrivesUptoSaid : Prop := axisArrivesUptoRow.holds Try.pinned (OpenSpec.upto axisArrivesSpec)

end Rows
end Go.Proofs.Ytmdphfjpocmooaa
