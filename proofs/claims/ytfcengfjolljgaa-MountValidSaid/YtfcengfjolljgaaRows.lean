/-
  No cell of these rows narrows 'for every input' (looked for: loops, veiled, ifaces, maps, wideKeys, modest, calm, conditions, laid).
  DERIVED. THE GIVEN ROWS OF THIS SEAT. 7 by the template 'for every input the law returns true; each argument reads behind the call as it read before'; 0 by the template 'total and deterministic' (their statements: YtfcengfjolljgaaTotals.lean).
  GIVEN WITH THE SEED: the statements are not yours to turn. If you find one false, say at which input.
  Laid BY PROGRAM, IN A SANDBOX (cutbox-rows.mjs): the forced cells as the released guide's own fill.sh prints them over the translation 4b6cc9ac9234bc96… (all of the seat's roots in one cut). By AI agents, Wed Nov 11 2026. No macro, syntax, notation, axiom, sorry.
-/
import Derived.Test.YtfcengfjolljgaaChecked
import GoSem.Claim
import GoSem.ClaimJoined
import GoSem.ClaimMapViews
import Derived.JoinedTies
import Derived.KernelRfl
namespace Go.Proofs.Ytfcengfjolljgaa
/- THE CELL 'sum', in the pinned program and in every row, IS THE sha256 OF THE DUMP (.gsa) THAT YtfcengfjolljgaaProg.lean LOADS. Nothing in Lean hashes anything: it is a label: what it is worth is what the hold of that sum in a sandbox is worth. -/
noncomputable def Try.pinned : Pinned := { name := "ytfcengfjolljgaa", sum := "4b6cc9ac9234bc9631b7275242e463993c486ef7f05d8c6bb017f72ee2fe07f8", checked := Try.checked }
namespace Rows
def none {H : Type} : Left H := { results := [], args := [] }

/-- 'spykeep2.MountValid': WHATEVER THE INPUT: true; the input reads as it did. -/
def mountValidSpec : ChangeSpec := { name := "mountValid", fn := fun _ => fun
  | [d] => { results := [.lit (.bool true)], args := [d] }
  | _ => none }
def mountValidRow : OpenClaim := { program := "ytfcengfjolljgaa", sum := "4b6cc9ac9234bc9631b7275242e463993c486ef7f05d8c6bb017f72ee2fe07f8", func := "spyglass/spykeep2.MountValid", spec := "mountValid", apart := false }
def MountValidSaid : Prop := mountValidRow.holds Try.pinned (OpenSpec.ofChange mountValidSpec)

/-- ITS FALSE NEIGHBOUR: 'it returns false'. Refute it at one input. -/
def mountValidWrong : ChangeSpec := { name := "mountValid", fn := fun _ => fun
  | [d] => { results := [.lit (.bool false)], args := [d] }
  | _ => none }
def MountValidWrongFalsely : Prop := mountValidRow.holds Try.pinned (OpenSpec.ofChange mountValidWrong)

/-- 'spykeep2.MountParks': WHATEVER THE INPUT: true; the input reads as it did. -/
def mountParksSpec : ChangeSpec := { name := "mountParks", fn := fun _ => fun
  | [d] => { results := [.lit (.bool true)], args := [d] }
  | _ => none }
def mountParksRow : OpenClaim := { program := "ytfcengfjolljgaa", sum := "4b6cc9ac9234bc9631b7275242e463993c486ef7f05d8c6bb017f72ee2fe07f8", func := "spyglass/spykeep2.MountParks", spec := "mountParks", apart := false }
def MountParksSaid : Prop := mountParksRow.holds Try.pinned (OpenSpec.ofChange mountParksSpec)

/-- ITS FALSE NEIGHBOUR: 'it returns false'. Refute it at one input. -/
def mountParksWrong : ChangeSpec := { name := "mountParks", fn := fun _ => fun
  | [d] => { results := [.lit (.bool false)], args := [d] }
  | _ => none }
def MountParksWrongFalsely : Prop := mountParksRow.holds Try.pinned (OpenSpec.ofChange mountParksWrong)

/-- 'spykeep2.MountArrives': WHATEVER THE INPUT: true; the input reads as it did. -/
def mountArrivesSpec : ChangeSpec := { name := "mountArrives", fn := fun _ => fun
  | [d] => { results := [.lit (.bool true)], args := [d] }
  | _ => none }
def mountArrivesRow : OpenClaim := { program := "ytfcengfjolljgaa", sum := "4b6cc9ac9234bc9631b7275242e463993c486ef7f05d8c6bb017f72ee2fe07f8", func := "spyglass/spykeep2.MountArrives", spec := "mountArrives", apart := false }
def MountArrivesSaid : Prop := mountArrivesRow.holds Try.pinned (OpenSpec.ofChange mountArrivesSpec)

/-- ITS FALSE NEIGHBOUR: 'it returns false'. Refute it at one input. -/
def mountArrivesWrong : ChangeSpec := { name := "mountArrives", fn := fun _ => fun
  | [d] => { results := [.lit (.bool false)], args := [d] }
  | _ => none }
def MountArrivesWrongFalsely : Prop := mountArrivesRow.holds Try.pinned (OpenSpec.ofChange mountArrivesWrong)

/-- 'spykeep2.LinkOnce': WHATEVER THE INPUT: true; the input reads as it did. -/
def linkOnceSpec : ChangeSpec := { name := "linkOnce", fn := fun _ => fun
  | [d1, d2] => { results := [.lit (.bool true)], args := [d1, d2] }
  | _ => none }
def linkOnceRow : OpenClaim := { program := "ytfcengfjolljgaa", sum := "4b6cc9ac9234bc9631b7275242e463993c486ef7f05d8c6bb017f72ee2fe07f8", func := "spyglass/spykeep2.LinkOnce", spec := "linkOnce", apart := false }
def LinkOnceSaid : Prop := linkOnceRow.holds Try.pinned (OpenSpec.ofChange linkOnceSpec)

/-- ITS FALSE NEIGHBOUR: 'it returns false'. Refute it at one input. -/
def linkOnceWrong : ChangeSpec := { name := "linkOnce", fn := fun _ => fun
  | [d1, d2] => { results := [.lit (.bool false)], args := [d1, d2] }
  | _ => none }
def LinkOnceWrongFalsely : Prop := linkOnceRow.holds Try.pinned (OpenSpec.ofChange linkOnceWrong)

/-- 'spykeep2.LinkLonger': WHATEVER THE INPUT: true; the input reads as it did. -/
def linkLongerSpec : ChangeSpec := { name := "linkLonger", fn := fun _ => fun
  | [d1, d2, d3] => { results := [.lit (.bool true)], args := [d1, d2, d3] }
  | _ => none }
def linkLongerRow : OpenClaim := { program := "ytfcengfjolljgaa", sum := "4b6cc9ac9234bc9631b7275242e463993c486ef7f05d8c6bb017f72ee2fe07f8", func := "spyglass/spykeep2.LinkLonger", spec := "linkLonger", apart := false }
def LinkLongerSaid : Prop := linkLongerRow.holds Try.pinned (OpenSpec.ofChange linkLongerSpec)

/-- ITS FALSE NEIGHBOUR: 'it returns false'. Refute it at one input. -/
def linkLongerWrong : ChangeSpec := { name := "linkLonger", fn := fun _ => fun
  | [d1, d2, d3] => { results := [.lit (.bool false)], args := [d1, d2, d3] }
  | _ => none }
def LinkLongerWrongFalsely : Prop := linkLongerRow.holds Try.pinned (OpenSpec.ofChange linkLongerWrong)

/-- 'spykeep2.LinkPerfect': WHATEVER THE INPUT: true; the input reads as it did. -/
def linkPerfectSpec : ChangeSpec := { name := "linkPerfect", fn := fun _ => fun
  | [d] => { results := [.lit (.bool true)], args := [d] }
  | _ => none }
def linkPerfectRow : OpenClaim := { program := "ytfcengfjolljgaa", sum := "4b6cc9ac9234bc9631b7275242e463993c486ef7f05d8c6bb017f72ee2fe07f8", func := "spyglass/spykeep2.LinkPerfect", spec := "linkPerfect", apart := false }
def LinkPerfectSaid : Prop := linkPerfectRow.holds Try.pinned (OpenSpec.ofChange linkPerfectSpec)

/-- ITS FALSE NEIGHBOUR: 'it returns false'. Refute it at one input. -/
def linkPerfectWrong : ChangeSpec := { name := "linkPerfect", fn := fun _ => fun
  | [d] => { results := [.lit (.bool false)], args := [d] }
  | _ => none }
def LinkPerfectWrongFalsely : Prop := linkPerfectRow.holds Try.pinned (OpenSpec.ofChange linkPerfectWrong)

/-- 'spykeep2.LinkCalm': WHATEVER THE INPUT: true; the input reads as it did. -/
def linkCalmSpec : ChangeSpec := { name := "linkCalm", fn := fun _ => fun
  | [d] => { results := [.lit (.bool true)], args := [d] }
  | _ => none }
def linkCalmRow : OpenClaim := { program := "ytfcengfjolljgaa", sum := "4b6cc9ac9234bc9631b7275242e463993c486ef7f05d8c6bb017f72ee2fe07f8", func := "spyglass/spykeep2.LinkCalm", spec := "linkCalm", apart := false }
def LinkCalmSaid : Prop := linkCalmRow.holds Try.pinned (OpenSpec.ofChange linkCalmSpec)

/-- ITS FALSE NEIGHBOUR: 'it returns false'. Refute it at one input. -/
def linkCalmWrong : ChangeSpec := { name := "linkCalm", fn := fun _ => fun
  | [d] => { results := [.lit (.bool false)], args := [d] }
  | _ => none }
def LinkCalmWrongFalsely : Prop := linkCalmRow.holds Try.pinned (OpenSpec.ofChange linkCalmWrong)

/- THE SECOND FORM. 'bulk': how many values and letters a reading holds, each counted each time it is reached (what is shared counts as often as it is met; a slice's spare places count too). A statement '..UptoSaid' is the law's where the arguments, and the package variables that the reading takes, are together of bulk at most 1048576: NARROWER than '..Said'. Prove '..Said' where nothing that the law and all that it calls make is longer than what came in: it says more and counts as full. Else prove '..UptoSaid'. A law counts once. -/
mutual
def uptoBulk {H : Type} : DataW H → Nat
  | .lit (.string bytes) => bytes.length + 1
  | .lit _ => 1
  | .nil => 1
  | .ptr d => uptoBulk d + 1
  | .slice elems spare => uptoBulkAll elems + uptoBulkAll spare + 1
  | .agg parts => uptoBulkAll parts + 1
  | .iface _ d => uptoBulk d + 1
  | .map entries => uptoBulkEntries entries + 1
  | .held _ => 1
def uptoBulkAll {H : Type} : List (DataW H) → Nat
  | [] => 0
  | d :: r => uptoBulk d + uptoBulkAll r
def uptoBulkEntries {H : Type} : List (Lit × DataW H) → Nat
  | [] => 0
  | x :: r => uptoBulkEntry x + uptoBulkEntries r
def uptoBulkEntry {H : Type} : Lit × DataW H → Nat
  | (.string bytes, d) => bytes.length + uptoBulk d + 1
  | (_, d) => uptoBulk d + 1
 end
def uptoSmall : (H : Type) → List (DataW H) → Bool := fun _ ds => decide (uptoBulkAll ds ≤ 1048576)
def OpenSpec.upto (s : _root_.Go.ChangeSpec) : _root_.Go.OpenSpec := { _root_.Go.OpenSpec.ofChange s with cond := some uptoSmall }

/-- 'spykeep2.MountValid', WHERE WHAT IT READS IS OF BULK AT MOST 1048576: true; the input reads as it did. -/
def mountValidUptoRow : OpenClaim := { program := "ytfcengfjolljgaa", sum := "4b6cc9ac9234bc9631b7275242e463993c486ef7f05d8c6bb017f72ee2fe07f8", func := "spyglass/spykeep2.MountValid", spec := "mountValid", apart := false, narrowed := true }
def MountValidUptoSaid : Prop := mountValidUptoRow.holds Try.pinned (OpenSpec.upto mountValidSpec)

/-- 'spykeep2.MountParks', WHERE WHAT IT READS IS OF BULK AT MOST 1048576: true; the input reads as it did. -/
def mountParksUptoRow : OpenClaim := { program := "ytfcengfjolljgaa", sum := "4b6cc9ac9234bc9631b7275242e463993c486ef7f05d8c6bb017f72ee2fe07f8", func := "spyglass/spykeep2.MountParks", spec := "mountParks", apart := false, narrowed := true }
def MountParksUptoSaid : Prop := mountParksUptoRow.holds Try.pinned (OpenSpec.upto mountParksSpec)

/-- 'spykeep2.MountArrives', WHERE WHAT IT READS IS OF BULK AT MOST 1048576: true; the input reads as it did. -/
def mountArrivesUptoRow : OpenClaim := { program := "ytfcengfjolljgaa", sum := "4b6cc9ac9234bc9631b7275242e463993c486ef7f05d8c6bb017f72ee2fe07f8", func := "spyglass/spykeep2.MountArrives", spec := "mountArrives", apart := false, narrowed := true }
def MountArrivesUptoSaid : Prop := mountArrivesUptoRow.holds Try.pinned (OpenSpec.upto mountArrivesSpec)

/-- 'spykeep2.LinkOnce', WHERE WHAT IT READS IS OF BULK AT MOST 1048576: true; the input reads as it did. -/
def linkOnceUptoRow : OpenClaim := { program := "ytfcengfjolljgaa", sum := "4b6cc9ac9234bc9631b7275242e463993c486ef7f05d8c6bb017f72ee2fe07f8", func := "spyglass/spykeep2.LinkOnce", spec := "linkOnce", apart := false, narrowed := true }
def LinkOnceUptoSaid : Prop := linkOnceUptoRow.holds Try.pinned (OpenSpec.upto linkOnceSpec)

/-- 'spykeep2.LinkLonger', WHERE WHAT IT READS IS OF BULK AT MOST 1048576: true; the input reads as it did. -/
def linkLongerUptoRow : OpenClaim := { program := "ytfcengfjolljgaa", sum := "4b6cc9ac9234bc9631b7275242e463993c486ef7f05d8c6bb017f72ee2fe07f8", func := "spyglass/spykeep2.LinkLonger", spec := "linkLonger", apart := false, narrowed := true }
def LinkLongerUptoSaid : Prop := linkLongerUptoRow.holds Try.pinned (OpenSpec.upto linkLongerSpec)

/-- 'spykeep2.LinkPerfect', WHERE WHAT IT READS IS OF BULK AT MOST 1048576: true; the input reads as it did. -/
def linkPerfectUptoRow : OpenClaim := { program := "ytfcengfjolljgaa", sum := "4b6cc9ac9234bc9631b7275242e463993c486ef7f05d8c6bb017f72ee2fe07f8", func := "spyglass/spykeep2.LinkPerfect", spec := "linkPerfect", apart := false, narrowed := true }
def LinkPerfectUptoSaid : Prop := linkPerfectUptoRow.holds Try.pinned (OpenSpec.upto linkPerfectSpec)

/-- 'spykeep2.LinkCalm', WHERE WHAT IT READS IS OF BULK AT MOST 1048576: true; the input reads as it did. -/
def linkCalmUptoRow : OpenClaim := { program := "ytfcengfjolljgaa", sum := "4b6cc9ac9234bc9631b7275242e463993c486ef7f05d8c6bb017f72ee2fe07f8", func := "spyglass/spykeep2.LinkCalm", spec := "linkCalm", apart := false, narrowed := true }
def LinkCalmUptoSaid : Prop := linkCalmUptoRow.holds Try.pinned (OpenSpec.upto linkCalmSpec)

end Rows
end Go.Proofs.Ytfcengfjolljgaa
