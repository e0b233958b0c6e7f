/-
  No cell of these rows narrows 'for every input' (looked for: loops, veiled, ifaces, maps, wideKeys, modest, calm, conditions, laid).
  DERIVED. THE GIVEN ROWS OF THIS SEAT. 5 by the template 'for every input the law returns true; each argument reads behind the call as it read before'; 0 by the template 'total and deterministic' (their statements: YtdcciobkblpabaaTotals.lean).
  GIVEN WITH THE SEED: the statements are not yours to turn. If you find one false, say at which input.
  Laid BY PROGRAM, IN A SANDBOX (cutbox-rows.mjs): the forced cells as the released guide's own fill.sh prints them over the translation 78fed01cf988744e… (all of the seat's roots in one cut). By AI agents, Wed Nov 11 2026. No macro, syntax, notation, axiom, sorry.
-/
import Derived.Test.YtdcciobkblpabaaChecked
import GoSem.Claim
import GoSem.ClaimJoined
import GoSem.ClaimMapViews
import Derived.JoinedTies
import Derived.KernelRfl
namespace Go.Proofs.Ytdcciobkblpabaa
/- THE CELL 'sum', in the pinned program and in every row, IS THE sha256 OF THE DUMP (.gsa) THAT YtdcciobkblpabaaProg.lean LOADS. Nothing in Lean hashes anything: it is a label: what it is worth is what the hold of that sum in a sandbox is worth. -/
noncomputable def Try.pinned : Pinned := { name := "ytdcciobkblpabaa", sum := "78fed01cf988744e35391f065c71a2afedf989203cb4661ea34904aebbca0b50", checked := Try.checked }
namespace Rows
def none {H : Type} : Left H := { results := [], args := [] }

/-- 'spykeep2.GuidePath': WHATEVER THE INPUT: true; the input reads as it did. -/
def guidePathSpec : ChangeSpec := { name := "guidePath", fn := fun _ => fun
  | [d1, d2] => { results := [.lit (.bool true)], args := [d1, d2] }
  | _ => none }
def guidePathRow : OpenClaim := { program := "ytdcciobkblpabaa", sum := "78fed01cf988744e35391f065c71a2afedf989203cb4661ea34904aebbca0b50", func := "spyglass/spykeep2.GuidePath", spec := "guidePath", apart := false }
def GuidePathSaid : Prop := guidePathRow.holds Try.pinned (OpenSpec.ofChange guidePathSpec)

/-- ITS FALSE NEIGHBOUR: 'it returns false'. Refute it at one input. -/
def guidePathWrong : ChangeSpec := { name := "guidePath", fn := fun _ => fun
  | [d1, d2] => { results := [.lit (.bool false)], args := [d1, d2] }
  | _ => none }
def GuidePathWrongFalsely : Prop := guidePathRow.holds Try.pinned (OpenSpec.ofChange guidePathWrong)

/-- 'spykeep2.GuideValley': WHATEVER THE INPUT: true; the input reads as it did. -/
def guideValleySpec : ChangeSpec := { name := "guideValley", fn := fun _ => fun
  | [d1, d2, d3] => { results := [.lit (.bool true)], args := [d1, d2, d3] }
  | _ => none }
def guideValleyRow : OpenClaim := { program := "ytdcciobkblpabaa", sum := "78fed01cf988744e35391f065c71a2afedf989203cb4661ea34904aebbca0b50", func := "spyglass/spykeep2.GuideValley", spec := "guideValley", apart := false }
def GuideValleySaid : Prop := guideValleyRow.holds Try.pinned (OpenSpec.ofChange guideValleySpec)

/-- ITS FALSE NEIGHBOUR: 'it returns false'. Refute it at one input. -/
def guideValleyWrong : ChangeSpec := { name := "guideValley", fn := fun _ => fun
  | [d1, d2, d3] => { results := [.lit (.bool false)], args := [d1, d2, d3] }
  | _ => none }
def GuideValleyWrongFalsely : Prop := guideValleyRow.holds Try.pinned (OpenSpec.ofChange guideValleyWrong)

/-- 'spykeep2.GuideSettles': WHATEVER THE INPUT: true; the input reads as it did. -/
def guideSettlesSpec : ChangeSpec := { name := "guideSettles", fn := fun _ => fun
  | [d1, d2, d3] => { results := [.lit (.bool true)], args := [d1, d2, d3] }
  | _ => none }
def guideSettlesRow : OpenClaim := { program := "ytdcciobkblpabaa", sum := "78fed01cf988744e35391f065c71a2afedf989203cb4661ea34904aebbca0b50", func := "spyglass/spykeep2.GuideSettles", spec := "guideSettles", apart := false }
def GuideSettlesSaid : Prop := guideSettlesRow.holds Try.pinned (OpenSpec.ofChange guideSettlesSpec)

/-- ITS FALSE NEIGHBOUR: 'it returns false'. Refute it at one input. -/
def guideSettlesWrong : ChangeSpec := { name := "guideSettles", fn := fun _ => fun
  | [d1, d2, d3] => { results := [.lit (.bool false)], args := [d1, d2, d3] }
  | _ => none }
def GuideSettlesWrongFalsely : Prop := guideSettlesRow.holds Try.pinned (OpenSpec.ofChange guideSettlesWrong)

/-- 'spykeep2.CameraTimes': WHATEVER THE INPUT: true; the input reads as it did. -/
def cameraTimesSpec : ChangeSpec := { name := "cameraTimes", fn := fun _ => fun
  | [d] => { results := [.lit (.bool true)], args := [d] }
  | _ => none }
def cameraTimesRow : OpenClaim := { program := "ytdcciobkblpabaa", sum := "78fed01cf988744e35391f065c71a2afedf989203cb4661ea34904aebbca0b50", func := "spyglass/spykeep2.CameraTimes", spec := "cameraTimes", apart := false }
def CameraTimesSaid : Prop := cameraTimesRow.holds Try.pinned (OpenSpec.ofChange cameraTimesSpec)

/-- ITS FALSE NEIGHBOUR: 'it returns false'. Refute it at one input. -/
def cameraTimesWrong : ChangeSpec := { name := "cameraTimes", fn := fun _ => fun
  | [d] => { results := [.lit (.bool false)], args := [d] }
  | _ => none }
def CameraTimesWrongFalsely : Prop := cameraTimesRow.holds Try.pinned (OpenSpec.ofChange cameraTimesWrong)

/-- 'spykeep2.CameraNumbers': WHATEVER THE INPUT: true; the input reads as it did. -/
def cameraNumbersSpec : ChangeSpec := { name := "cameraNumbers", fn := fun _ => fun
  | [d] => { results := [.lit (.bool true)], args := [d] }
  | _ => none }
def cameraNumbersRow : OpenClaim := { program := "ytdcciobkblpabaa", sum := "78fed01cf988744e35391f065c71a2afedf989203cb4661ea34904aebbca0b50", func := "spyglass/spykeep2.CameraNumbers", spec := "cameraNumbers", apart := false }
def CameraNumbersSaid : Prop := cameraNumbersRow.holds Try.pinned (OpenSpec.ofChange cameraNumbersSpec)

/-- ITS FALSE NEIGHBOUR: 'it returns false'. Refute it at one input. -/
def cameraNumbersWrong : ChangeSpec := { name := "cameraNumbers", fn := fun _ => fun
  | [d] => { results := [.lit (.bool false)], args := [d] }
  | _ => none }
def CameraNumbersWrongFalsely : Prop := cameraNumbersRow.holds Try.pinned (OpenSpec.ofChange cameraNumbersWrong)

/- THE SECOND FORM. 'bulk': how many values and letters a reading holds, each counted each time it is reached (what is shared counts as often as it is met; a slice's spare places count too). A statement '..UptoSaid' is the law's where the arguments, and the package variables that the reading takes, are together of bulk at most 1048576: NARROWER than '..Said'. Prove '..Said' where nothing that the law and all that it calls make is longer than what came in: it says more and counts as full. Else prove '..UptoSaid'. A law counts once. -/
mutual
def uptoBulk {H : Type} : DataW H → Nat
  | .lit (.string bytes) => bytes.length + 1
  | .lit _ => 1
  | .nil => 1
  | .ptr d => uptoBulk d + 1
  | .slice elems spare => uptoBulkAll elems + uptoBulkAll spare + 1
  | .agg parts => uptoBulkAll parts + 1
  | .iface _ d => uptoBulk d + 1
  | .map entries => uptoBulkEntries entries + 1
  | .held _ => 1
def uptoBulkAll {H : Type} : List (DataW H) → Nat
  | [] => 0
  | d :: r => uptoBulk d + uptoBulkAll r
def uptoBulkEntries {H : Type} : List (Lit × DataW H) → Nat
  | [] => 0
  | x :: r => uptoBulkEntry x + uptoBulkEntries r
def uptoBulkEntry {H : Type} : Lit × DataW H → Nat
  | (.string bytes, d) => bytes.length + uptoBulk d + 1
  | (_, d) => uptoBulk d + 1
 end
def uptoSmall : (H : Type) → List (DataW H) → Bool := fun _ ds => decide (uptoBulkAll ds ≤ 1048576)
def OpenSpec.upto (s : _root_.Go.ChangeSpec) : _root_.Go.OpenSpec := { _root_.Go.OpenSpec.ofChange s with cond := some uptoSmall }

/-- 'spykeep2.GuidePath', WHERE WHAT IT READS IS OF BULK AT MOST 1048576: true; the input reads as it did. -/
def guidePathUptoRow : OpenClaim := { program := "ytdcciobkblpabaa", sum := "78fed01cf988744e35391f065c71a2afedf989203cb4661ea34904aebbca0b50", func := "spyglass/spykeep2.GuidePath", spec := "guidePath", apart := false, narrowed := true }
def GuidePathUptoSaid : Prop := guidePathUptoRow.holds Try.pinned (OpenSpec.upto guidePathSpec)

/-- 'spykeep2.GuideValley', WHERE WHAT IT READS IS OF BULK AT MOST 1048576: true; the input reads as it did. -/
def guideValleyUptoRow : OpenClaim := { program := "ytdcciobkblpabaa", sum := "78fed01cf988744e35391f065c71a2afedf989203cb4661ea34904aebbca0b50", func := "spyglass/spykeep2.GuideValley", spec := "guideValley", apart := false, narrowed := true }
def GuideValleyUptoSaid : Prop := guideValleyUptoRow.holds Try.pinned (OpenSpec.upto guideValleySpec)

/-- 'spykeep2.GuideSettles', WHERE WHAT IT READS IS OF BULK AT MOST 1048576: true; the input reads as it did. -/
def guideSettlesUptoRow : OpenClaim := { program := "ytdcciobkblpabaa", sum := "78fed01cf988744e35391f065c71a2afedf989203cb4661ea34904aebbca0b50", func := "spyglass/spykeep2.GuideSettles", spec := "guideSettles", apart := false, narrowed := true }
def GuideSettlesUptoSaid : Prop := guideSettlesUptoRow.holds Try.pinned (OpenSpec.upto guideSettlesSpec)

/-- 'spykeep2.CameraTimes', WHERE WHAT IT READS IS OF BULK AT MOST 1048576: true; the input reads as it did. -/
def cameraTimesUptoRow : OpenClaim := { program := "ytdcciobkblpabaa", sum := "78fed01cf988744e35391f065c71a2afedf989203cb4661ea34904aebbca0b50", func := "spyglass/spykeep2.CameraTimes", spec := "cameraTimes", apart := false, narrowed := true }
def CameraTimesUptoSaid : Prop := cameraTimesUptoRow.holds Try.pinned (OpenSpec.upto cameraTimesSpec)

/-- 'spykeep2.CameraNumbers', WHERE WHAT IT READS IS OF BULK AT MOST 1048576: true; the input reads as it did. -/
def cameraNumbersUptoRow : OpenClaim := { program := "ytdcciobkblpabaa", sum := "78fed01cf988744e35391f065c71a2afedf989203cb4661ea34904aebbca0b50", func := "spyglass/spykeep2.CameraNumbers", spec := "cameraNumbers", apart := false, narrowed := true }
def CameraNumbersUptoSaid : Prop := cameraNumbersUptoRow.holds Try.pinned (OpenSpec.upto cameraNumbersSpec)

end Rows
end Go.Proofs.Ytdcciobkblpabaa
