/-
  No cell of these rows narrows 'for every input' (looked for: loops, veiled, ifaces, maps, wideKeys, modest, calm, conditions, laid).
  DERIVED. THE GIVEN ROWS OF THIS SEAT. 4 by the template 'for every input the law returns true; each argument reads behind the call as it read before'; 0 by the template 'total and deterministic' (their statements: YtjhfhclneldepaaGreatTotals.lean).
  GIVEN WITH THE SEED: the statements are not yours to turn. If you find one false, say at which input.
  Laid BY PROGRAM, IN A SANDBOX (cutbox-rows.mjs): the forced cells as the released guide's own fill.sh prints them over the translation 532805d1b9cfee96… (all of the seat's roots in one cut). By AI agents, Wed Nov 11 2026. No macro, syntax, notation, axiom, sorry.
-/
import Derived.Test.YtjhfhclneldepaaGreatChecked
import GoSem.Claim
import GoSem.ClaimJoined
import GoSem.ClaimMapViews
import Derived.JoinedTies
import Derived.KernelRfl
namespace Go.Proofs.YtjhfhclneldepaaGreat
/- THE CELL 'sum', in the pinned program and in every row, IS THE sha256 OF THE DUMP (.gsa) THAT YtjhfhclneldepaaGreatProg.lean LOADS. Nothing in Lean hashes anything: it is a label: what it is worth is what the hold of that sum in a sandbox is worth. -/
noncomputable def Tryz.pinned : Pinned := { name := "ytjhfhclneldepaagreat", sum := "532805d1b9cfee96d991080a8f83aa7fcb9d0eb4fd43187e7fc996187787a495", checked := Tryz.checked }
namespace Rows
def none {H : Type} : Left H := { results := [], args := [] }

/-- 'spykeep2.WindowLooser': WHATEVER THE INPUT: true; the input reads as it did. -/
def windowLooserSpec : ChangeSpec := { name := "windowLooser", fn := fun _ => fun
  | [d] => { results := [.lit (.bool true)], args := [d] }
  | _ => none }
def windowLooserRow : OpenClaim := { program := "ytjhfhclneldepaagreat", sum := "532805d1b9cfee96d991080a8f83aa7fcb9d0eb4fd43187e7fc996187787a495", func := "spyglass/spykeep2.WindowLooser", spec := "windowLooser", inPlace := ["math/bits.Add64"], unfollowed := true, recurses := true, named := ["math/bits.divideError", "math/bits.overflowError"], apart := false }
def WindowLooserSaid : Prop := windowLooserRow.holds Tryz.pinned (OpenSpec.ofChange windowLooserSpec)

/-- ITS FALSE NEIGHBOUR: 'it returns false'. Refute it at one input. -/
def windowLooserWrong : ChangeSpec := { name := "windowLooser", fn := fun _ => fun
  | [d] => { results := [.lit (.bool false)], args := [d] }
  | _ => none }
def WindowLooserWrongFalsely : Prop := windowLooserRow.holds Tryz.pinned (OpenSpec.ofChange windowLooserWrong)

/-- 'spykeep2.WindowClouds': WHATEVER THE INPUT: true; the input reads as it did. -/
def windowCloudsSpec : ChangeSpec := { name := "windowClouds", fn := fun _ => fun
  | [d1, d2] => { results := [.lit (.bool true)], args := [d1, d2] }
  | _ => none }
def windowCloudsRow : OpenClaim := { program := "ytjhfhclneldepaagreat", sum := "532805d1b9cfee96d991080a8f83aa7fcb9d0eb4fd43187e7fc996187787a495", func := "spyglass/spykeep2.WindowClouds", spec := "windowClouds", inPlace := ["math/bits.Add64"], unfollowed := true, recurses := true, named := ["math/bits.divideError", "math/bits.overflowError"], apart := false }
def WindowCloudsSaid : Prop := windowCloudsRow.holds Tryz.pinned (OpenSpec.ofChange windowCloudsSpec)

/-- ITS FALSE NEIGHBOUR: 'it returns false'. Refute it at one input. -/
def windowCloudsWrong : ChangeSpec := { name := "windowClouds", fn := fun _ => fun
  | [d1, d2] => { results := [.lit (.bool false)], args := [d1, d2] }
  | _ => none }
def WindowCloudsWrongFalsely : Prop := windowCloudsRow.holds Tryz.pinned (OpenSpec.ofChange windowCloudsWrong)

/-- 'spykeep2.WindowSure': WHATEVER THE INPUT: true; the input reads as it did. -/
def windowSureSpec : ChangeSpec := { name := "windowSure", fn := fun _ => fun
  | [d1, d2, d3] => { results := [.lit (.bool true)], args := [d1, d2, d3] }
  | _ => none }
def windowSureRow : OpenClaim := { program := "ytjhfhclneldepaagreat", sum := "532805d1b9cfee96d991080a8f83aa7fcb9d0eb4fd43187e7fc996187787a495", func := "spyglass/spykeep2.WindowSure", spec := "windowSure", inPlace := ["math/bits.Add64"], unfollowed := true, recurses := true, named := ["math/bits.divideError", "math/bits.overflowError"], apart := false }
def WindowSureSaid : Prop := windowSureRow.holds Tryz.pinned (OpenSpec.ofChange windowSureSpec)

/-- ITS FALSE NEIGHBOUR: 'it returns false'. Refute it at one input. -/
def windowSureWrong : ChangeSpec := { name := "windowSure", fn := fun _ => fun
  | [d1, d2, d3] => { results := [.lit (.bool false)], args := [d1, d2, d3] }
  | _ => none }
def WindowSureWrongFalsely : Prop := windowSureRow.holds Tryz.pinned (OpenSpec.ofChange windowSureWrong)

/-- 'spykeep2.WindowSpans': WHATEVER THE INPUT: true; the input reads as it did. -/
def windowSpansSpec : ChangeSpec := { name := "windowSpans", fn := fun _ => fun
  | [d] => { results := [.lit (.bool true)], args := [d] }
  | _ => none }
def windowSpansRow : OpenClaim := { program := "ytjhfhclneldepaagreat", sum := "532805d1b9cfee96d991080a8f83aa7fcb9d0eb4fd43187e7fc996187787a495", func := "spyglass/spykeep2.WindowSpans", spec := "windowSpans", inPlace := ["math/bits.Add64"], unfollowed := true, recurses := true, named := ["math/bits.divideError", "math/bits.overflowError"], apart := false }
def WindowSpansSaid : Prop := windowSpansRow.holds Tryz.pinned (OpenSpec.ofChange windowSpansSpec)

/-- ITS FALSE NEIGHBOUR: 'it returns false'. Refute it at one input. -/
def windowSpansWrong : ChangeSpec := { name := "windowSpans", fn := fun _ => fun
  | [d] => { results := [.lit (.bool false)], args := [d] }
  | _ => none }
def WindowSpansWrongFalsely : Prop := windowSpansRow.holds Tryz.pinned (OpenSpec.ofChange windowSpansWrong)

/- THE SECOND FORM. 'bulk': how many values and letters a reading holds, each counted each time it is reached (what is shared counts as often as it is met; a slice's spare places count too). A statement '..UptoSaid' is the law's where the arguments, and the package variables that the reading takes, are together of bulk at most 1048576: NARROWER than '..Said'. Prove '..Said' where nothing that the law and all that it calls make is longer than what came in: it says more and counts as full. Else prove '..UptoSaid'. A law counts once. -/
mutual
def uptoBulk {H : Type} : DataW H → Nat
  | .lit (.string bytes) => bytes.length + 1
  | .lit _ => 1
  | .nil => 1
  | .ptr d => uptoBulk d + 1
  | .slice elems spare => uptoBulkAll elems + uptoBulkAll spare + 1
  | .agg parts => uptoBulkAll parts + 1
  | .iface _ d => uptoBulk d + 1
  | .map entries => uptoBulkEntries entries + 1
  | .held _ => 1
def uptoBulkAll {H : Type} : List (DataW H) → Nat
  | [] => 0
  | d :: r => uptoBulk d + uptoBulkAll r
def uptoBulkEntries {H : Type} : List (Lit × DataW H) → Nat
  | [] => 0
  | x :: r => uptoBulkEntry x + uptoBulkEntries r
def uptoBulkEntry {H : Type} : Lit × DataW H → Nat
  | (.string bytes, d) => bytes.length + uptoBulk d + 1
  | (_, d) => uptoBulk d + 1
 end
def uptoSmall : (H : Type) → List (DataW H) → Bool := fun _ ds => decide (uptoBulkAll ds ≤ 1048576)
def OpenSpec.upto (s : _root_.Go.ChangeSpec) : _root_.Go.OpenSpec := { _root_.Go.OpenSpec.ofChange s with cond := some uptoSmall }

/-- 'spykeep2.WindowLooser', WHERE WHAT IT READS IS OF BULK AT MOST 1048576: true; the input reads as it did. -/
def windowLooserUptoRow : OpenClaim := { program := "ytjhfhclneldepaagreat", sum := "532805d1b9cfee96d991080a8f83aa7fcb9d0eb4fd43187e7fc996187787a495", func := "spyglass/spykeep2.WindowLooser", spec := "windowLooser", inPlace := ["math/bits.Add64"], unfollowed := true, recurses := true, named := ["math/bits.divideError", "math/bits.overflowError"], apart := false, narrowed := true }
def WindowLooserUptoSaid : Prop := windowLooserUptoRow.holds Tryz.pinned (OpenSpec.upto windowLooserSpec)

/-- 'spykeep2.WindowClouds', WHERE WHAT IT READS IS OF BULK AT MOST 1048576: true; the input reads as it did. -/
def windowCloudsUptoRow : OpenClaim := { program := "ytjhfhclneldepaagreat", sum := "532805d1b9cfee96d991080a8f83aa7fcb9d0eb4fd43187e7fc996187787a495", func := "spyglass/spykeep2.WindowClouds", spec := "windowClouds", inPlace := ["math/bits.Add64"], unfollowed := true, recurses := true, named := ["math/bits.divideError", "math/bits.overflowError"], apart := false, narrowed := true }
def WindowCloudsUptoSaid : Prop := windowCloudsUptoRow.holds Tryz.pinned (OpenSpec.upto windowCloudsSpec)

/-- 'spykeep2.WindowSure', WHERE WHAT IT READS IS OF BULK AT MOST 1048576: true; the input reads as it did. -/
def windowSureUptoRow : OpenClaim := { program := "ytjhfhclneldepaagreat", sum := "532805d1b9cfee96d991080a8f83aa7fcb9d0eb4fd43187e7fc996187787a495", func := "spyglass/spykeep2.WindowSure", spec := "windowSure", inPlace := ["math/bits.Add64"], unfollowed := true, recurses := true, named := ["math/bits.divideError", "math/bits.overflowError"], apart := false, narrowed := true }
def WindowSureUptoSaid : Prop := windowSureUptoRow.holds Tryz.pinned (OpenSpec.upto windowSureSpec)

/-- 'spykeep2.WindowSpans', WHERE WHAT IT READS IS OF BULK AT MOST 1048576: true; the input reads as it did. -/
def windowSpansUptoRow : OpenClaim := { program := "ytjhfhclneldepaagreat", sum := "532805d1b9cfee96d991080a8f83aa7fcb9d0eb4fd43187e7fc996187787a495", func := "spyglass/spykeep2.WindowSpans", spec := "windowSpans", inPlace := ["math/bits.Add64"], unfollowed := true, recurses := true, named := ["math/bits.divideError", "math/bits.overflowError"], apart := false, narrowed := true }
def WindowSpansUptoSaid : Prop := windowSpansUptoRow.holds Tryz.pinned (OpenSpec.upto windowSpansSpec)

end Rows
end Go.Proofs.YtjhfhclneldepaaGreat
