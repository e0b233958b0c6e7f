/-
  No cell of these rows narrows 'for every input' (looked for: loops, veiled, ifaces, maps, wideKeys, modest, calm, conditions, laid).
  DERIVED. THE GIVEN ROWS OF THIS SEAT. 8 by the template 'for every input the law returns true; each argument reads behind the call as it read before'; 0 by the template 'total and deterministic' (their statements: YtpcijpghkeaimaaTotals.lean).
  GIVEN WITH THE SEED: the statements are not yours to turn. If you find one false, say at which input.
  Laid BY PROGRAM, IN A SANDBOX (cutbox-rows.mjs): the forced cells as the released guide's own fill.sh prints them over the translation 4c74a117c9df2f3c… (all of the seat's roots in one cut). By AI agents, Wed Nov 11 2026. No macro, syntax, notation, axiom, sorry.
-/
import Derived.Test.YtpcijpghkeaimaaChecked
import GoSem.Claim
import GoSem.ClaimJoined
import GoSem.ClaimMapViews
import Derived.JoinedTies
import Derived.KernelRfl
namespace Go.Proofs.Ytpcijpghkeaimaa
/- THE CELL 'sum', in the pinned program and in every row, IS THE sha256 OF THE DUMP (.gsa) THAT YtpcijpghkeaimaaProg.lean LOADS. Nothing in Lean hashes anything: it is a label: what it is worth is what the hold of that sum in a sandbox is worth. -/
noncomputable def Try.pinned : Pinned := { name := "ytpcijpghkeaimaa", sum := "4c74a117c9df2f3cf9677ad5bef624641836052461d089534ffe836b2eb1ecca", checked := Try.checked }
namespace Rows
def none {H : Type} : Left H := { results := [], args := [] }

/-- 'spykeep2.GuardHazard': WHATEVER THE INPUT: true; the input reads as it did. -/
def guardHazardSpec : ChangeSpec := { name := "guardHazard", fn := fun _ => fun
  | [d1, d2] => { results := [.lit (.bool true)], args := [d1, d2] }
  | _ => none }
def guardHazardRow : OpenClaim := { program := "ytpcijpghkeaimaa", sum := "4c74a117c9df2f3cf9677ad5bef624641836052461d089534ffe836b2eb1ecca", func := "spyglass/spykeep2.GuardHazard", spec := "guardHazard", apart := false }
def GuardHazardSaid : Prop := guardHazardRow.holds Try.pinned (OpenSpec.ofChange guardHazardSpec)

/-- ITS FALSE NEIGHBOUR: 'it returns false'. Refute it at one input. -/
def guardHazardWrong : ChangeSpec := { name := "guardHazard", fn := fun _ => fun
  | [d1, d2] => { results := [.lit (.bool false)], args := [d1, d2] }
  | _ => none }
def GuardHazardWrongFalsely : Prop := guardHazardRow.holds Try.pinned (OpenSpec.ofChange guardHazardWrong)

/-- 'spykeep2.GuardValid': WHATEVER THE INPUT: true; the input reads as it did. -/
def guardValidSpec : ChangeSpec := { name := "guardValid", fn := fun _ => fun
  | [d] => { results := [.lit (.bool true)], args := [d] }
  | _ => none }
def guardValidRow : OpenClaim := { program := "ytpcijpghkeaimaa", sum := "4c74a117c9df2f3cf9677ad5bef624641836052461d089534ffe836b2eb1ecca", func := "spyglass/spykeep2.GuardValid", spec := "guardValid", apart := false }
def GuardValidSaid : Prop := guardValidRow.holds Try.pinned (OpenSpec.ofChange guardValidSpec)

/-- ITS FALSE NEIGHBOUR: 'it returns false'. Refute it at one input. -/
def guardValidWrong : ChangeSpec := { name := "guardValid", fn := fun _ => fun
  | [d] => { results := [.lit (.bool false)], args := [d] }
  | _ => none }
def GuardValidWrongFalsely : Prop := guardValidRow.holds Try.pinned (OpenSpec.ofChange guardValidWrong)

/-- 'spykeep2.GuardRefusals': WHATEVER THE INPUT: true; the input reads as it did. -/
def guardRefusalsSpec : ChangeSpec := { name := "guardRefusals", fn := fun _ => fun
  | [d] => { results := [.lit (.bool true)], args := [d] }
  | _ => none }
def guardRefusalsRow : OpenClaim := { program := "ytpcijpghkeaimaa", sum := "4c74a117c9df2f3cf9677ad5bef624641836052461d089534ffe836b2eb1ecca", func := "spyglass/spykeep2.GuardRefusals", spec := "guardRefusals", unfollowed := true, recurses := true, apart := false }
def GuardRefusalsSaid : Prop := guardRefusalsRow.holds Try.pinned (OpenSpec.ofChange guardRefusalsSpec)

/-- ITS FALSE NEIGHBOUR: 'it returns false'. Refute it at one input. -/
def guardRefusalsWrong : ChangeSpec := { name := "guardRefusals", fn := fun _ => fun
  | [d] => { results := [.lit (.bool false)], args := [d] }
  | _ => none }
def GuardRefusalsWrongFalsely : Prop := guardRefusalsRow.holds Try.pinned (OpenSpec.ofChange guardRefusalsWrong)

/-- 'spykeep2.GuardStops': WHATEVER THE INPUT: true; the input reads as it did. -/
def guardStopsSpec : ChangeSpec := { name := "guardStops", fn := fun _ => fun
  | [d1, d2] => { results := [.lit (.bool true)], args := [d1, d2] }
  | _ => none }
def guardStopsRow : OpenClaim := { program := "ytpcijpghkeaimaa", sum := "4c74a117c9df2f3cf9677ad5bef624641836052461d089534ffe836b2eb1ecca", func := "spyglass/spykeep2.GuardStops", spec := "guardStops", unfollowed := true, recurses := true, apart := false }
def GuardStopsSaid : Prop := guardStopsRow.holds Try.pinned (OpenSpec.ofChange guardStopsSpec)

/-- ITS FALSE NEIGHBOUR: 'it returns false'. Refute it at one input. -/
def guardStopsWrong : ChangeSpec := { name := "guardStops", fn := fun _ => fun
  | [d1, d2] => { results := [.lit (.bool false)], args := [d1, d2] }
  | _ => none }
def GuardStopsWrongFalsely : Prop := guardStopsRow.holds Try.pinned (OpenSpec.ofChange guardStopsWrong)

/-- 'spykeep2.GuardKey': WHATEVER THE INPUT: true; the input reads as it did. -/
def guardKeySpec : ChangeSpec := { name := "guardKey", fn := fun _ => fun
  | [d1, d2] => { results := [.lit (.bool true)], args := [d1, d2] }
  | _ => none }
def guardKeyRow : OpenClaim := { program := "ytpcijpghkeaimaa", sum := "4c74a117c9df2f3cf9677ad5bef624641836052461d089534ffe836b2eb1ecca", func := "spyglass/spykeep2.GuardKey", spec := "guardKey", apart := false }
def GuardKeySaid : Prop := guardKeyRow.holds Try.pinned (OpenSpec.ofChange guardKeySpec)

/-- ITS FALSE NEIGHBOUR: 'it returns false'. Refute it at one input. -/
def guardKeyWrong : ChangeSpec := { name := "guardKey", fn := fun _ => fun
  | [d1, d2] => { results := [.lit (.bool false)], args := [d1, d2] }
  | _ => none }
def GuardKeyWrongFalsely : Prop := guardKeyRow.holds Try.pinned (OpenSpec.ofChange guardKeyWrong)

/-- 'spykeep2.PipeQuiet': WHATEVER THE INPUT: true; the input reads as it did. -/
def pipeQuietSpec : ChangeSpec := { name := "pipeQuiet", fn := fun _ => fun
  | [d] => { results := [.lit (.bool true)], args := [d] }
  | _ => none }
def pipeQuietRow : OpenClaim := { program := "ytpcijpghkeaimaa", sum := "4c74a117c9df2f3cf9677ad5bef624641836052461d089534ffe836b2eb1ecca", func := "spyglass/spykeep2.PipeQuiet", spec := "pipeQuiet", inPlace := ["math/bits.Add64"], unfollowed := true, recurses := true, named := ["math/bits.divideError", "math/bits.overflowError"], apart := false }
def PipeQuietSaid : Prop := pipeQuietRow.holds Try.pinned (OpenSpec.ofChange pipeQuietSpec)

/-- ITS FALSE NEIGHBOUR: 'it returns false'. Refute it at one input. -/
def pipeQuietWrong : ChangeSpec := { name := "pipeQuiet", fn := fun _ => fun
  | [d] => { results := [.lit (.bool false)], args := [d] }
  | _ => none }
def PipeQuietWrongFalsely : Prop := pipeQuietRow.holds Try.pinned (OpenSpec.ofChange pipeQuietWrong)

/-- 'spykeep2.PipeOpposite': WHATEVER THE INPUT: true; the input reads as it did. -/
def pipeOppositeSpec : ChangeSpec := { name := "pipeOpposite", fn := fun _ => fun
  | [d] => { results := [.lit (.bool true)], args := [d] }
  | _ => none }
def pipeOppositeRow : OpenClaim := { program := "ytpcijpghkeaimaa", sum := "4c74a117c9df2f3cf9677ad5bef624641836052461d089534ffe836b2eb1ecca", func := "spyglass/spykeep2.PipeOpposite", spec := "pipeOpposite", inPlace := ["math/bits.Add64"], unfollowed := true, recurses := true, named := ["math/bits.divideError", "math/bits.overflowError"], apart := false }
def PipeOppositeSaid : Prop := pipeOppositeRow.holds Try.pinned (OpenSpec.ofChange pipeOppositeSpec)

/-- ITS FALSE NEIGHBOUR: 'it returns false'. Refute it at one input. -/
def pipeOppositeWrong : ChangeSpec := { name := "pipeOpposite", fn := fun _ => fun
  | [d] => { results := [.lit (.bool false)], args := [d] }
  | _ => none }
def PipeOppositeWrongFalsely : Prop := pipeOppositeRow.holds Try.pinned (OpenSpec.ofChange pipeOppositeWrong)

/-- 'spykeep2.PipeNumbers': WHATEVER THE INPUT: true; the input reads as it did. -/
def pipeNumbersSpec : ChangeSpec := { name := "pipeNumbers", fn := fun _ => fun
  | [d1, d2, d3] => { results := [.lit (.bool true)], args := [d1, d2, d3] }
  | _ => none }
def pipeNumbersRow : OpenClaim := { program := "ytpcijpghkeaimaa", sum := "4c74a117c9df2f3cf9677ad5bef624641836052461d089534ffe836b2eb1ecca", func := "spyglass/spykeep2.PipeNumbers", spec := "pipeNumbers", inPlace := ["math/bits.Add64"], unfollowed := true, recurses := true, named := ["math/bits.divideError", "math/bits.overflowError"], apart := false }
def PipeNumbersSaid : Prop := pipeNumbersRow.holds Try.pinned (OpenSpec.ofChange pipeNumbersSpec)

/-- ITS FALSE NEIGHBOUR: 'it returns false'. Refute it at one input. -/
def pipeNumbersWrong : ChangeSpec := { name := "pipeNumbers", fn := fun _ => fun
  | [d1, d2, d3] => { results := [.lit (.bool false)], args := [d1, d2, d3] }
  | _ => none }
def PipeNumbersWrongFalsely : Prop := pipeNumbersRow.holds Try.pinned (OpenSpec.ofChange pipeNumbersWrong)

/- THE SECOND FORM. 'bulk': how many values and letters a reading holds, each counted each time it is reached (what is shared counts as often as it is met; a slice's spare places count too). A statement '..UptoSaid' is the law's where the arguments, and the package variables that the reading takes, are together of bulk at most 1048576: NARROWER than '..Said'. Prove '..Said' where nothing that the law and all that it calls make is longer than what came in: it says more and counts as full. Else prove '..UptoSaid'. A law counts once. -/
mutual
def uptoBulk {H : Type} : DataW H → Nat
  | .lit (.string bytes) => bytes.length + 1
  | .lit _ => 1
  | .nil => 1
  | .ptr d => uptoBulk d + 1
  | .slice elems spare => uptoBulkAll elems + uptoBulkAll spare + 1
  | .agg parts => uptoBulkAll parts + 1
  | .iface _ d => uptoBulk d + 1
  | .map entries => uptoBulkEntries entries + 1
  | .held _ => 1
def uptoBulkAll {H : Type} : List (DataW H) → Nat
  | [] => 0
  | d :: r => uptoBulk d + uptoBulkAll r
def uptoBulkEntries {H : Type} : List (Lit × DataW H) → Nat
  | [] => 0
  | x :: r => uptoBulkEntry x + uptoBulkEntries r
def uptoBulkEntry {H : Type} : Lit × DataW H → Nat
  | (.string bytes, d) => bytes.length + uptoBulk d + 1
  | (_, d) => uptoBulk d + 1
 end
def uptoSmall : (H : Type) → List (DataW H) → Bool := fun _ ds => decide (uptoBulkAll ds ≤ 1048576)
def OpenSpec.upto (s : _root_.Go.ChangeSpec) : _root_.Go.OpenSpec := { _root_.Go.OpenSpec.ofChange s with cond := some uptoSmall }

/-- 'spykeep2.GuardHazard', WHERE WHAT IT READS IS OF BULK AT MOST 1048576: true; the input reads as it did. -/
def guardHazardUptoRow : OpenClaim := { program := "ytpcijpghkeaimaa", sum := "4c74a117c9df2f3cf9677ad5bef624641836052461d089534ffe836b2eb1ecca", func := "spyglass/spykeep2.GuardHazard", spec := "guardHazard", apart := false, narrowed := true }
def GuardHazardUptoSaid : Prop := guardHazardUptoRow.holds Try.pinned (OpenSpec.upto guardHazardSpec)

/-- 'spykeep2.GuardValid', WHERE WHAT IT READS IS OF BULK AT MOST 1048576: true; the input reads as it did. -/
def guardValidUptoRow : OpenClaim := { program := "ytpcijpghkeaimaa", sum := "4c74a117c9df2f3cf9677ad5bef624641836052461d089534ffe836b2eb1ecca", func := "spyglass/spykeep2.GuardValid", spec := "guardValid", apart := false, narrowed := true }
def GuardValidUptoSaid : Prop := guardValidUptoRow.holds Try.pinned (OpenSpec.upto guardValidSpec)

/-- 'spykeep2.GuardRefusals', WHERE WHAT IT READS IS OF BULK AT MOST 1048576: true; the input reads as it did. -/
def guardRefusalsUptoRow : OpenClaim := { program := "ytpcijpghkeaimaa", sum := "4c74a117c9df2f3cf9677ad5bef624641836052461d089534ffe836b2eb1ecca", func := "spyglass/spykeep2.GuardRefusals", spec := "guardRefusals", unfollowed := true, recurses := true, apart := false, narrowed := true }
def GuardRefusalsUptoSaid : Prop := guardRefusalsUptoRow.holds Try.pinned (OpenSpec.upto guardRefusalsSpec)

/-- 'spykeep2.GuardStops', WHERE WHAT IT READS IS OF BULK AT MOST 1048576: true; the input reads as it did. -/
def guardStopsUptoRow : OpenClaim := { program := "ytpcijpghkeaimaa", sum := "4c74a117c9df2f3cf9677ad5bef624641836052461d089534ffe836b2eb1ecca", func := "spyglass/spykeep2.GuardStops", spec := "guardStops", unfollowed := true, recurses := true, apart := false, narrowed := true }
def GuardStopsUptoSaid : Prop := guardStopsUptoRow.holds Try.pinned (OpenSpec.upto guardStopsSpec)

/-- 'spykeep2.GuardKey', WHERE WHAT IT READS IS OF BULK AT MOST 1048576: true; the input reads as it did. -/
def guardKeyUptoRow : OpenClaim := { program := "ytpcijpghkeaimaa", sum := "4c74a117c9df2f3cf9677ad5bef624641836052461d089534ffe836b2eb1ecca", func := "spyglass/spykeep2.GuardKey", spec := "guardKey", apart := false, narrowed := true }
def GuardKeyUptoSaid : Prop := guardKeyUptoRow.holds Try.pinned (OpenSpec.upto guardKeySpec)

/-- 'spykeep2.PipeQuiet', WHERE WHAT IT READS IS OF BULK AT MOST 1048576: true; the input reads as it did. -/
def pipeQuietUptoRow : OpenClaim := { program := "ytpcijpghkeaimaa", sum := "4c74a117c9df2f3cf9677ad5bef624641836052461d089534ffe836b2eb1ecca", func := "spyglass/spykeep2.PipeQuiet", spec := "pipeQuiet", inPlace := ["math/bits.Add64"], unfollowed := true, recurses := true, named := ["math/bits.divideError", "math/bits.overflowError"], apart := false, narrowed := true }
def PipeQuietUptoSaid : Prop := pipeQuietUptoRow.holds Try.pinned (OpenSpec.upto pipeQuietSpec)

/-- 'spykeep2.PipeOpposite', WHERE WHAT IT READS IS OF BULK AT MOST 1048576: true; the input reads as it did. -/
def pipeOppositeUptoRow : OpenClaim := { program := "ytpcijpghkeaimaa", sum := "4c74a117c9df2f3cf9677ad5bef624641836052461d089534ffe836b2eb1ecca", func := "spyglass/spykeep2.PipeOpposite", spec := "pipeOpposite", inPlace := ["math/bits.Add64"], unfollowed := true, recurses := true, named := ["math/bits.divideError", "math/bits.overflowError"], apart := false, narrowed := true }
def PipeOppositeUptoSaid : Prop := pipeOppositeUptoRow.holds Try.pinned (OpenSpec.upto pipeOppositeSpec)

/-- 'spykeep2.PipeNumbers', WHERE WHAT IT READS IS OF BULK AT MOST 1048576: true; the input reads as it did. -/
def pipeNumbersUptoRow : OpenClaim := { program := "ytpcijpghkeaimaa", sum := "4c74a117c9df2f3cf9677ad5bef624641836052461d089534ffe836b2eb1ecca", func := "spyglass/spykeep2.PipeNumbers", spec := "pipeNumbers", inPlace := ["math/bits.Add64"], unfollowed := true, recurses := true, named := ["math/bits.divideError", "math/bits.overflowError"], apart := false, narrowed := true }
def PipeNumbersUptoSaid : Prop := pipeNumbersUptoRow.holds Try.pinned (OpenSpec.upto pipeNumbersSpec)

end Rows
end Go.Proofs.Ytpcijpghkeaimaa
