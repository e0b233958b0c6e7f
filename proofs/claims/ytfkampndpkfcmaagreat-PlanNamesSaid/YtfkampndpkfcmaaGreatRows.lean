/-
  No cell of these rows narrows 'for every input' (looked for: loops, veiled, ifaces, maps, wideKeys, modest, calm, conditions, laid).
  DERIVED. THE GIVEN ROWS OF THIS SEAT. 11 by the template 'for every input the law returns true; each argument reads behind the call as it read before'; 0 by the template 'total and deterministic' (their statements: YtfkampndpkfcmaaGreatTotals.lean).
  GIVEN WITH THE SEED: the statements are not yours to turn. If you find one false, say at which input.
  Laid BY PROGRAM, IN A SANDBOX (cutbox-rows.mjs): the forced cells as the released guide's own fill.sh prints them over the translation 220bb89ef9334822… (all of the seat's roots in one cut). By AI agents, Wed Nov 11 2026. No macro, syntax, notation, axiom, sorry.
-/
import Derived.Test.YtfkampndpkfcmaaGreatChecked
import GoSem.Claim
import GoSem.ClaimJoined
import GoSem.ClaimMapViews
import Derived.JoinedTies
import Derived.KernelRfl
namespace Go.Proofs.YtfkampndpkfcmaaGreat
/- THE CELL 'sum', in the pinned program and in every row, IS THE sha256 OF THE DUMP (.gsa) THAT YtfkampndpkfcmaaGreatProg.lean LOADS. Nothing in Lean hashes anything: it is a label: what it is worth is what the hold of that sum in a sandbox is worth. -/
noncomputable def Tryz.pinned : Pinned := { name := "ytfkampndpkfcmaagreat", sum := "220bb89ef933482203ca336ff7558aef2bb9f6276c74364d7eb44fb088307fe0", checked := Tryz.checked }
namespace Rows
def none {H : Type} : Left H := { results := [], args := [] }

/-- 'spykeep2.PlanClouded': WHATEVER THE INPUT: true; the input reads as it did. -/
def planCloudedSpec : ChangeSpec := { name := "planClouded", fn := fun _ => fun
  | [d] => { results := [.lit (.bool true)], args := [d] }
  | _ => none }
def planCloudedRow : OpenClaim := { program := "ytfkampndpkfcmaagreat", sum := "220bb89ef933482203ca336ff7558aef2bb9f6276c74364d7eb44fb088307fe0", func := "spyglass/spykeep2.PlanClouded", spec := "planClouded", inPlace := ["math/bits.Add64"], unfollowed := true, recurses := true, named := ["math/bits.divideError", "math/bits.overflowError"], apart := false }
def PlanCloudedSaid : Prop := planCloudedRow.holds Tryz.pinned (OpenSpec.ofChange planCloudedSpec)

/-- ITS FALSE NEIGHBOUR: 'it returns false'. Refute it at one input. -/
def planCloudedWrong : ChangeSpec := { name := "planClouded", fn := fun _ => fun
  | [d] => { results := [.lit (.bool false)], args := [d] }
  | _ => none }
def PlanCloudedWrongFalsely : Prop := planCloudedRow.holds Tryz.pinned (OpenSpec.ofChange planCloudedWrong)

/-- 'spykeep2.PlanNames': WHATEVER THE INPUT: true; the input reads as it did. -/
def planNamesSpec : ChangeSpec := { name := "planNames", fn := fun _ => fun
  | [d1, d2] => { results := [.lit (.bool true)], args := [d1, d2] }
  | _ => none }
def planNamesRow : OpenClaim := { program := "ytfkampndpkfcmaagreat", sum := "220bb89ef933482203ca336ff7558aef2bb9f6276c74364d7eb44fb088307fe0", func := "spyglass/spykeep2.PlanNames", spec := "planNames", inPlace := ["math/bits.Add64"], unfollowed := true, recurses := true, named := ["math/bits.divideError", "math/bits.overflowError"], apart := false }
def PlanNamesSaid : Prop := planNamesRow.holds Tryz.pinned (OpenSpec.ofChange planNamesSpec)

/-- ITS FALSE NEIGHBOUR: 'it returns false'. Refute it at one input. -/
def planNamesWrong : ChangeSpec := { name := "planNames", fn := fun _ => fun
  | [d1, d2] => { results := [.lit (.bool false)], args := [d1, d2] }
  | _ => none }
def PlanNamesWrongFalsely : Prop := planNamesRow.holds Tryz.pinned (OpenSpec.ofChange planNamesWrong)

/-- 'spykeep2.PlanOpen': WHATEVER THE INPUT: true; the input reads as it did. -/
def planOpenSpec : ChangeSpec := { name := "planOpen", fn := fun _ => fun
  | [d] => { results := [.lit (.bool true)], args := [d] }
  | _ => none }
def planOpenRow : OpenClaim := { program := "ytfkampndpkfcmaagreat", sum := "220bb89ef933482203ca336ff7558aef2bb9f6276c74364d7eb44fb088307fe0", func := "spyglass/spykeep2.PlanOpen", spec := "planOpen", inPlace := ["math/bits.Add64"], unfollowed := true, recurses := true, named := ["math/bits.divideError", "math/bits.overflowError"], apart := false }
def PlanOpenSaid : Prop := planOpenRow.holds Tryz.pinned (OpenSpec.ofChange planOpenSpec)

/-- ITS FALSE NEIGHBOUR: 'it returns false'. Refute it at one input. -/
def planOpenWrong : ChangeSpec := { name := "planOpen", fn := fun _ => fun
  | [d] => { results := [.lit (.bool false)], args := [d] }
  | _ => none }
def PlanOpenWrongFalsely : Prop := planOpenRow.holds Tryz.pinned (OpenSpec.ofChange planOpenWrong)

/-- 'spykeep2.PlanOrder': WHATEVER THE INPUT: true; the input reads as it did. -/
def planOrderSpec : ChangeSpec := { name := "planOrder", fn := fun _ => fun
  | [d] => { results := [.lit (.bool true)], args := [d] }
  | _ => none }
def planOrderRow : OpenClaim := { program := "ytfkampndpkfcmaagreat", sum := "220bb89ef933482203ca336ff7558aef2bb9f6276c74364d7eb44fb088307fe0", func := "spyglass/spykeep2.PlanOrder", spec := "planOrder", inPlace := ["math/bits.Add64"], unfollowed := true, recurses := true, named := ["math/bits.divideError", "math/bits.overflowError"], apart := false }
def PlanOrderSaid : Prop := planOrderRow.holds Tryz.pinned (OpenSpec.ofChange planOrderSpec)

/-- ITS FALSE NEIGHBOUR: 'it returns false'. Refute it at one input. -/
def planOrderWrong : ChangeSpec := { name := "planOrder", fn := fun _ => fun
  | [d] => { results := [.lit (.bool false)], args := [d] }
  | _ => none }
def PlanOrderWrongFalsely : Prop := planOrderRow.holds Tryz.pinned (OpenSpec.ofChange planOrderWrong)

/-- 'spykeep2.PlanPrefix': WHATEVER THE INPUT: true; the input reads as it did. -/
def planPrefixSpec : ChangeSpec := { name := "planPrefix", fn := fun _ => fun
  | [d1, d2] => { results := [.lit (.bool true)], args := [d1, d2] }
  | _ => none }
def planPrefixRow : OpenClaim := { program := "ytfkampndpkfcmaagreat", sum := "220bb89ef933482203ca336ff7558aef2bb9f6276c74364d7eb44fb088307fe0", func := "spyglass/spykeep2.PlanPrefix", spec := "planPrefix", inPlace := ["math/bits.Add64"], unfollowed := true, recurses := true, named := ["math/bits.divideError", "math/bits.overflowError"], apart := false }
def PlanPrefixSaid : Prop := planPrefixRow.holds Tryz.pinned (OpenSpec.ofChange planPrefixSpec)

/-- ITS FALSE NEIGHBOUR: 'it returns false'. Refute it at one input. -/
def planPrefixWrong : ChangeSpec := { name := "planPrefix", fn := fun _ => fun
  | [d1, d2] => { results := [.lit (.bool false)], args := [d1, d2] }
  | _ => none }
def PlanPrefixWrongFalsely : Prop := planPrefixRow.holds Tryz.pinned (OpenSpec.ofChange planPrefixWrong)

/-- 'spykeep2.PlanFair': WHATEVER THE INPUT: true; the input reads as it did. -/
def planFairSpec : ChangeSpec := { name := "planFair", fn := fun _ => fun
  | [d1, d2] => { results := [.lit (.bool true)], args := [d1, d2] }
  | _ => none }
def planFairRow : OpenClaim := { program := "ytfkampndpkfcmaagreat", sum := "220bb89ef933482203ca336ff7558aef2bb9f6276c74364d7eb44fb088307fe0", func := "spyglass/spykeep2.PlanFair", spec := "planFair", inPlace := ["math/bits.Add64"], unfollowed := true, recurses := true, named := ["math/bits.divideError", "math/bits.overflowError"], apart := false }
def PlanFairSaid : Prop := planFairRow.holds Tryz.pinned (OpenSpec.ofChange planFairSpec)

/-- ITS FALSE NEIGHBOUR: 'it returns false'. Refute it at one input. -/
def planFairWrong : ChangeSpec := { name := "planFair", fn := fun _ => fun
  | [d1, d2] => { results := [.lit (.bool false)], args := [d1, d2] }
  | _ => none }
def PlanFairWrongFalsely : Prop := planFairRow.holds Tryz.pinned (OpenSpec.ofChange planFairWrong)

/-- 'spykeep2.PlanEarlier': WHATEVER THE INPUT: true; the input reads as it did. -/
def planEarlierSpec : ChangeSpec := { name := "planEarlier", fn := fun _ => fun
  | [d1, d2, d3] => { results := [.lit (.bool true)], args := [d1, d2, d3] }
  | _ => none }
def planEarlierRow : OpenClaim := { program := "ytfkampndpkfcmaagreat", sum := "220bb89ef933482203ca336ff7558aef2bb9f6276c74364d7eb44fb088307fe0", func := "spyglass/spykeep2.PlanEarlier", spec := "planEarlier", inPlace := ["math/bits.Add64"], unfollowed := true, recurses := true, named := ["math/bits.divideError", "math/bits.overflowError"], apart := false }
def PlanEarlierSaid : Prop := planEarlierRow.holds Tryz.pinned (OpenSpec.ofChange planEarlierSpec)

/-- ITS FALSE NEIGHBOUR: 'it returns false'. Refute it at one input. -/
def planEarlierWrong : ChangeSpec := { name := "planEarlier", fn := fun _ => fun
  | [d1, d2, d3] => { results := [.lit (.bool false)], args := [d1, d2, d3] }
  | _ => none }
def PlanEarlierWrongFalsely : Prop := planEarlierRow.holds Tryz.pinned (OpenSpec.ofChange planEarlierWrong)

/-- 'spykeep2.WhyComplete': WHATEVER THE INPUT: true; the input reads as it did. -/
def whyCompleteSpec : ChangeSpec := { name := "whyComplete", fn := fun _ => fun
  | [d1, d2] => { results := [.lit (.bool true)], args := [d1, d2] }
  | _ => none }
def whyCompleteRow : OpenClaim := { program := "ytfkampndpkfcmaagreat", sum := "220bb89ef933482203ca336ff7558aef2bb9f6276c74364d7eb44fb088307fe0", func := "spyglass/spykeep2.WhyComplete", spec := "whyComplete", inPlace := ["math/bits.Add64"], unfollowed := true, recurses := true, named := ["math/bits.divideError", "math/bits.overflowError"], apart := false }
def WhyCompleteSaid : Prop := whyCompleteRow.holds Tryz.pinned (OpenSpec.ofChange whyCompleteSpec)

/-- ITS FALSE NEIGHBOUR: 'it returns false'. Refute it at one input. -/
def whyCompleteWrong : ChangeSpec := { name := "whyComplete", fn := fun _ => fun
  | [d1, d2] => { results := [.lit (.bool false)], args := [d1, d2] }
  | _ => none }
def WhyCompleteWrongFalsely : Prop := whyCompleteRow.holds Tryz.pinned (OpenSpec.ofChange whyCompleteWrong)

/-- 'spykeep2.WhyLost': WHATEVER THE INPUT: true; the input reads as it did. -/
def whyLostSpec : ChangeSpec := { name := "whyLost", fn := fun _ => fun
  | [d] => { results := [.lit (.bool true)], args := [d] }
  | _ => none }
def whyLostRow : OpenClaim := { program := "ytfkampndpkfcmaagreat", sum := "220bb89ef933482203ca336ff7558aef2bb9f6276c74364d7eb44fb088307fe0", func := "spyglass/spykeep2.WhyLost", spec := "whyLost", inPlace := ["math/bits.Add64"], unfollowed := true, recurses := true, named := ["math/bits.divideError", "math/bits.overflowError"], apart := false }
def WhyLostSaid : Prop := whyLostRow.holds Tryz.pinned (OpenSpec.ofChange whyLostSpec)

/-- ITS FALSE NEIGHBOUR: 'it returns false'. Refute it at one input. -/
def whyLostWrong : ChangeSpec := { name := "whyLost", fn := fun _ => fun
  | [d] => { results := [.lit (.bool false)], args := [d] }
  | _ => none }
def WhyLostWrongFalsely : Prop := whyLostRow.holds Tryz.pinned (OpenSpec.ofChange whyLostWrong)

/-- 'spykeep2.WhyExact': WHATEVER THE INPUT: true; the input reads as it did. -/
def whyExactSpec : ChangeSpec := { name := "whyExact", fn := fun _ => fun
  | [d1, d2, d3] => { results := [.lit (.bool true)], args := [d1, d2, d3] }
  | _ => none }
def whyExactRow : OpenClaim := { program := "ytfkampndpkfcmaagreat", sum := "220bb89ef933482203ca336ff7558aef2bb9f6276c74364d7eb44fb088307fe0", func := "spyglass/spykeep2.WhyExact", spec := "whyExact", inPlace := ["math/bits.Add64"], unfollowed := true, recurses := true, named := ["math/bits.divideError", "math/bits.overflowError"], apart := false }
def WhyExactSaid : Prop := whyExactRow.holds Tryz.pinned (OpenSpec.ofChange whyExactSpec)

/-- ITS FALSE NEIGHBOUR: 'it returns false'. Refute it at one input. -/
def whyExactWrong : ChangeSpec := { name := "whyExact", fn := fun _ => fun
  | [d1, d2, d3] => { results := [.lit (.bool false)], args := [d1, d2, d3] }
  | _ => none }
def WhyExactWrongFalsely : Prop := whyExactRow.holds Tryz.pinned (OpenSpec.ofChange whyExactWrong)

/-- 'spykeep2.ReplanNoNews': WHATEVER THE INPUT: true; the input reads as it did. -/
def replanNoNewsSpec : ChangeSpec := { name := "replanNoNews", fn := fun _ => fun
  | [d1, d2] => { results := [.lit (.bool true)], args := [d1, d2] }
  | _ => none }
def replanNoNewsRow : OpenClaim := { program := "ytfkampndpkfcmaagreat", sum := "220bb89ef933482203ca336ff7558aef2bb9f6276c74364d7eb44fb088307fe0", func := "spyglass/spykeep2.ReplanNoNews", spec := "replanNoNews", inPlace := ["math/bits.Add64"], unfollowed := true, recurses := true, named := ["math/bits.divideError", "math/bits.overflowError"], apart := false }
def ReplanNoNewsSaid : Prop := replanNoNewsRow.holds Tryz.pinned (OpenSpec.ofChange replanNoNewsSpec)

/-- ITS FALSE NEIGHBOUR: 'it returns false'. Refute it at one input. -/
def replanNoNewsWrong : ChangeSpec := { name := "replanNoNews", fn := fun _ => fun
  | [d1, d2] => { results := [.lit (.bool false)], args := [d1, d2] }
  | _ => none }
def ReplanNoNewsWrongFalsely : Prop := replanNoNewsRow.holds Tryz.pinned (OpenSpec.ofChange replanNoNewsWrong)

/- THE SECOND FORM. 'bulk': how many values and letters a reading holds, each counted each time it is reached (what is shared counts as often as it is met; a slice's spare places count too). A statement '..UptoSaid' is the law's where the arguments, and the package variables that the reading takes, are together of bulk at most 1048576: NARROWER than '..Said'. Prove '..Said' where nothing that the law and all that it calls make is longer than what came in: it says more and counts as full. Else prove '..UptoSaid'. A law counts once. -/
mutual
def uptoBulk {H : Type} : DataW H → Nat
  | .lit (.string bytes) => bytes.length + 1
  | .lit _ => 1
  | .nil => 1
  | .ptr d => uptoBulk d + 1
  | .slice elems spare => uptoBulkAll elems + uptoBulkAll spare + 1
  | .agg parts => uptoBulkAll parts + 1
  | .iface _ d => uptoBulk d + 1
  | .map entries => uptoBulkEntries entries + 1
  | .held _ => 1
def uptoBulkAll {H : Type} : List (DataW H) → Nat
  | [] => 0
  | d :: r => uptoBulk d + uptoBulkAll r
def uptoBulkEntries {H : Type} : List (Lit × DataW H) → Nat
  | [] => 0
  | x :: r => uptoBulkEntry x + uptoBulkEntries r
def uptoBulkEntry {H : Type} : Lit × DataW H → Nat
  | (.string bytes, d) => bytes.length + uptoBulk d + 1
  | (_, d) => uptoBulk d + 1
 end
def uptoSmall : (H : Type) → List (DataW H) → Bool := fun _ ds => decide (uptoBulkAll ds ≤ 1048576)
def OpenSpec.upto (s : _root_.Go.ChangeSpec) : _root_.Go.OpenSpec := { _root_.Go.OpenSpec.ofChange s with cond := some uptoSmall }

/-- 'spykeep2.PlanClouded', WHERE WHAT IT READS IS OF BULK AT MOST 1048576: true; the input reads as it did. -/
def planCloudedUptoRow : OpenClaim := { program := "ytfkampndpkfcmaagreat", sum := "220bb89ef933482203ca336ff7558aef2bb9f6276c74364d7eb44fb088307fe0", func := "spyglass/spykeep2.PlanClouded", spec := "planClouded", inPlace := ["math/bits.Add64"], unfollowed := true, recurses := true, named := ["math/bits.divideError", "math/bits.overflowError"], apart := false, narrowed := true }
def PlanCloudedUptoSaid : Prop := planCloudedUptoRow.holds Tryz.pinned (OpenSpec.upto planCloudedSpec)

/-- 'spykeep2.PlanNames', WHERE WHAT IT READS IS OF BULK AT MOST 1048576: true; the input reads as it did. -/
def planNamesUptoRow : OpenClaim := { program := "ytfkampndpkfcmaagreat", sum := "220bb89ef933482203ca336ff7558aef2bb9f6276c74364d7eb44fb088307fe0", func := "spyglass/spykeep2.PlanNames", spec := "planNames", inPlace := ["math/bits.Add64"], unfollowed := true, recurses := true, named := ["math/bits.divideError", "math/bits.overflowError"], apart := false, narrowed := true }
def PlanNamesUptoSaid : Prop := planNamesUptoRow.holds Tryz.pinned (OpenSpec.upto planNamesSpec)

/-- 'spykeep2.PlanOpen', WHERE WHAT IT READS IS OF BULK AT MOST 1048576: true; the input reads as it did. -/
def planOpenUptoRow : OpenClaim := { program := "ytfkampndpkfcmaagreat", sum := "220bb89ef933482203ca336ff7558aef2bb9f6276c74364d7eb44fb088307fe0", func := "spyglass/spykeep2.PlanOpen", spec := "planOpen", inPlace := ["math/bits.Add64"], unfollowed := true, recurses := true, named := ["math/bits.divideError", "math/bits.overflowError"], apart := false, narrowed := true }
def PlanOpenUptoSaid : Prop := planOpenUptoRow.holds Tryz.pinned (OpenSpec.upto planOpenSpec)

/-- 'spykeep2.PlanOrder', WHERE WHAT IT READS IS OF BULK AT MOST 1048576: true; the input reads as it did. -/
def planOrderUptoRow : OpenClaim := { program := "ytfkampndpkfcmaagreat", sum := "220bb89ef933482203ca336ff7558aef2bb9f6276c74364d7eb44fb088307fe0", func := "spyglass/spykeep2.PlanOrder", spec := "planOrder", inPlace := ["math/bits.Add64"], unfollowed := true, recurses := true, named := ["math/bits.divideError", "math/bits.overflowError"], apart := false, narrowed := true }
def PlanOrderUptoSaid : Prop := planOrderUptoRow.holds Tryz.pinned (OpenSpec.upto planOrderSpec)

/-- 'spykeep2.PlanPrefix', WHERE WHAT IT READS IS OF BULK AT MOST 1048576: true; the input reads as it did. -/
def planPrefixUptoRow : OpenClaim := { program := "ytfkampndpkfcmaagreat", sum := "220bb89ef933482203ca336ff7558aef2bb9f6276c74364d7eb44fb088307fe0", func := "spyglass/spykeep2.PlanPrefix", spec := "planPrefix", inPlace := ["math/bits.Add64"], unfollowed := true, recurses := true, named := ["math/bits.divideError", "math/bits.overflowError"], apart := false, narrowed := true }
def PlanPrefixUptoSaid : Prop := planPrefixUptoRow.holds Tryz.pinned (OpenSpec.upto planPrefixSpec)

/-- 'spykeep2.PlanFair', WHERE WHAT IT READS IS OF BULK AT MOST 1048576: true; the input reads as it did. -/
def planFairUptoRow : OpenClaim := { program := "ytfkampndpkfcmaagreat", sum := "220bb89ef933482203ca336ff7558aef2bb9f6276c74364d7eb44fb088307fe0", func := "spyglass/spykeep2.PlanFair", spec := "planFair", inPlace := ["math/bits.Add64"], unfollowed := true, recurses := true, named := ["math/bits.divideError", "math/bits.overflowError"], apart := false, narrowed := true }
def PlanFairUptoSaid : Prop := planFairUptoRow.holds Tryz.pinned (OpenSpec.upto planFairSpec)

/-- 'spykeep2.PlanEarlier', WHERE WHAT IT READS IS OF BULK AT MOST 1048576: true; the input reads as it did. -/
def planEarlierUptoRow : OpenClaim := { program := "ytfkampndpkfcmaagreat", sum := "220bb89ef933482203ca336ff7558aef2bb9f6276c74364d7eb44fb088307fe0", func := "spyglass/spykeep2.PlanEarlier", spec := "planEarlier", inPlace := ["math/bits.Add64"], unfollowed := true, recurses := true, named := ["math/bits.divideError", "math/bits.overflowError"], apart := false, narrowed := true }
def PlanEarlierUptoSaid : Prop := planEarlierUptoRow.holds Tryz.pinned (OpenSpec.upto planEarlierSpec)

/-- 'spykeep2.WhyComplete', WHERE WHAT IT READS IS OF BULK AT MOST 1048576: true; the input reads as it did. -/
def whyCompleteUptoRow : OpenClaim := { program := "ytfkampndpkfcmaagreat", sum := "220bb89ef933482203ca336ff7558aef2bb9f6276c74364d7eb44fb088307fe0", func := "spyglass/spykeep2.WhyComplete", spec := "whyComplete", inPlace := ["math/bits.Add64"], unfollowed := true, recurses := true, named := ["math/bits.divideError", "math/bits.overflowError"], apart := false, narrowed := true }
def WhyCompleteUptoSaid : Prop := whyCompleteUptoRow.holds Tryz.pinned (OpenSpec.upto whyCompleteSpec)

/-- 'spykeep2.WhyLost', WHERE WHAT IT READS IS OF BULK AT MOST 1048576: true; the input reads as it did. -/
def whyLostUptoRow : OpenClaim := { program := "ytfkampndpkfcmaagreat", sum := "220bb89ef933482203ca336ff7558aef2bb9f6276c74364d7eb44fb088307fe0", func := "spyglass/spykeep2.WhyLost", spec := "whyLost", inPlace := ["math/bits.Add64"], unfollowed := true, recurses := true, named := ["math/bits.divideError", "math/bits.overflowError"], apart := false, narrowed := true }
def WhyLostUptoSaid : Prop := whyLostUptoRow.holds Tryz.pinned (OpenSpec.upto whyLostSpec)

/-- 'spykeep2.WhyExact', WHERE WHAT IT READS IS OF BULK AT MOST 1048576: true; the input reads as it did. -/
def whyExactUptoRow : OpenClaim := { program := "ytfkampndpkfcmaagreat", sum := "220bb89ef933482203ca336ff7558aef2bb9f6276c74364d7eb44fb088307fe0", func := "spyglass/spykeep2.WhyExact", spec := "whyExact", inPlace := ["math/bits.Add64"], unfollowed := true, recurses := true, named := ["math/bits.divideError", "math/bits.overflowError"], apart := false, narrowed := true }
def WhyExactUptoSaid : Prop := whyExactUptoRow.holds Tryz.pinned (OpenSpec.upto whyExactSpec)

/-- 'spykeep2.ReplanNoNews', WHERE WHAT IT READS IS OF BULK AT MOST 1048576: true; the input reads as it did. -/
def replanNoNewsUptoRow : OpenClaim := { program := "ytfkampndpkfcmaagreat", sum := "220bb89ef933482203ca336ff7558aef2bb9f6276c74364d7eb44fb088307fe0", func := "spyglass/spykeep2.ReplanNoNews", spec := "replanNoNews", inPlace := ["math/bits.Add64"], unfollowed := true, recurses := true, named := ["math/bits.divideError", "math/bits.overflowError"], apart := false, narrowed := true }
def ReplanNoNewsUptoSaid : Prop := replanNoNewsUptoRow.holds Tryz.pinned (OpenSpec.upto replanNoNewsSpec)

end Rows
end Go.Proofs.YtfkampndpkfcmaaGreat
