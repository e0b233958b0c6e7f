/-
  No cell of these rows narrows 'for every input' (looked for: loops, veiled, ifaces, maps, wideKeys, modest, calm, conditions, laid).
  DERIVED. THE GIVEN ROWS OF THIS SEAT. 7 by the template 'for every input the law returns true; each argument reads behind the call as it read before'; 0 by the template 'total and deterministic' (their statements: YtmfmjdneljbmoaaTotals.lean).
  GIVEN WITH THE SEED: the statements are not yours to turn. If you find one false, say at which input.
  Laid BY PROGRAM, IN A SANDBOX (cutbox-rows.mjs): the forced cells as the released guide's own fill.sh prints them over the translation db2bb0e969b1f3bf… (all of the seat's roots in one cut). By AI agents, Wed Nov 11 2026. No macro, syntax, notation, axiom, sorry.
-/
import Derived.Test.YtmfmjdneljbmoaaChecked
import GoSem.Claim
import GoSem.ClaimJoined
import GoSem.ClaimMapViews
import Derived.JoinedTies
import Derived.KernelRfl
namespace Go.Proofs.Ytmfmjdneljbmoaa
/- THE CELL 'sum', in the pinned program and in every row, IS THE sha256 OF THE DUMP (.gsa) THAT YtmfmjdneljbmoaaProg.lean LOADS. Nothing in Lean hashes anything: it is a label: what it is worth is what the hold of that sum in a sandbox is worth. -/
noncomputable def Try.pinned : Pinned := { name := "ytmfmjdneljbmoaa", sum := "db2bb0e969b1f3bf0937828c381686f7134284d6d740c481365e1304ff392b9c", checked := Try.checked }
namespace Rows
def none {H : Type} : Left H := { results := [], args := [] }

/-- 'spykeep2.BusBack': WHATEVER THE INPUT: true; the input reads as it did. -/
def busBackSpec : ChangeSpec := { name := "busBack", fn := fun _ => fun
  | [d1, d2] => { results := [.lit (.bool true)], args := [d1, d2] }
  | _ => none }
def busBackRow : OpenClaim := { program := "ytmfmjdneljbmoaa", sum := "db2bb0e969b1f3bf0937828c381686f7134284d6d740c481365e1304ff392b9c", func := "spyglass/spykeep2.BusBack", spec := "busBack", unfollowed := true, recurses := true, apart := false }
def BusBackSaid : Prop := busBackRow.holds Try.pinned (OpenSpec.ofChange busBackSpec)

/-- ITS FALSE NEIGHBOUR: 'it returns false'. Refute it at one input. -/
def busBackWrong : ChangeSpec := { name := "busBack", fn := fun _ => fun
  | [d1, d2] => { results := [.lit (.bool false)], args := [d1, d2] }
  | _ => none }
def BusBackWrongFalsely : Prop := busBackRow.holds Try.pinned (OpenSpec.ofChange busBackWrong)

/-- 'spykeep2.BusCut': WHATEVER THE INPUT: true; the input reads as it did. -/
def busCutSpec : ChangeSpec := { name := "busCut", fn := fun _ => fun
  | [d1, d2] => { results := [.lit (.bool true)], args := [d1, d2] }
  | _ => none }
def busCutRow : OpenClaim := { program := "ytmfmjdneljbmoaa", sum := "db2bb0e969b1f3bf0937828c381686f7134284d6d740c481365e1304ff392b9c", func := "spyglass/spykeep2.BusCut", spec := "busCut", apart := false }
def BusCutSaid : Prop := busCutRow.holds Try.pinned (OpenSpec.ofChange busCutSpec)

/-- ITS FALSE NEIGHBOUR: 'it returns false'. Refute it at one input. -/
def busCutWrong : ChangeSpec := { name := "busCut", fn := fun _ => fun
  | [d1, d2] => { results := [.lit (.bool false)], args := [d1, d2] }
  | _ => none }
def BusCutWrongFalsely : Prop := busCutRow.holds Try.pinned (OpenSpec.ofChange busCutWrong)

/-- 'spykeep2.BusFlips': WHATEVER THE INPUT: true; the input reads as it did. -/
def busFlipsSpec : ChangeSpec := { name := "busFlips", fn := fun _ => fun
  | [d1, d2] => { results := [.lit (.bool true)], args := [d1, d2] }
  | _ => none }
def busFlipsRow : OpenClaim := { program := "ytmfmjdneljbmoaa", sum := "db2bb0e969b1f3bf0937828c381686f7134284d6d740c481365e1304ff392b9c", func := "spyglass/spykeep2.BusFlips", spec := "busFlips", unfollowed := true, recurses := true, apart := false }
def BusFlipsSaid : Prop := busFlipsRow.holds Try.pinned (OpenSpec.ofChange busFlipsSpec)

/-- ITS FALSE NEIGHBOUR: 'it returns false'. Refute it at one input. -/
def busFlipsWrong : ChangeSpec := { name := "busFlips", fn := fun _ => fun
  | [d1, d2] => { results := [.lit (.bool false)], args := [d1, d2] }
  | _ => none }
def BusFlipsWrongFalsely : Prop := busFlipsRow.holds Try.pinned (OpenSpec.ofChange busFlipsWrong)

/-- 'spykeep2.LinkOnce': WHATEVER THE INPUT: true; the input reads as it did. -/
def linkOnceSpec : ChangeSpec := { name := "linkOnce", fn := fun _ => fun
  | [d1, d2] => { results := [.lit (.bool true)], args := [d1, d2] }
  | _ => none }
def linkOnceRow : OpenClaim := { program := "ytmfmjdneljbmoaa", sum := "db2bb0e969b1f3bf0937828c381686f7134284d6d740c481365e1304ff392b9c", func := "spyglass/spykeep2.LinkOnce", spec := "linkOnce", apart := false }
def LinkOnceSaid : Prop := linkOnceRow.holds Try.pinned (OpenSpec.ofChange linkOnceSpec)

/-- ITS FALSE NEIGHBOUR: 'it returns false'. Refute it at one input. -/
def linkOnceWrong : ChangeSpec := { name := "linkOnce", fn := fun _ => fun
  | [d1, d2] => { results := [.lit (.bool false)], args := [d1, d2] }
  | _ => none }
def LinkOnceWrongFalsely : Prop := linkOnceRow.holds Try.pinned (OpenSpec.ofChange linkOnceWrong)

/-- 'spykeep2.LinkLonger': WHATEVER THE INPUT: true; the input reads as it did. -/
def linkLongerSpec : ChangeSpec := { name := "linkLonger", fn := fun _ => fun
  | [d1, d2, d3] => { results := [.lit (.bool true)], args := [d1, d2, d3] }
  | _ => none }
def linkLongerRow : OpenClaim := { program := "ytmfmjdneljbmoaa", sum := "db2bb0e969b1f3bf0937828c381686f7134284d6d740c481365e1304ff392b9c", func := "spyglass/spykeep2.LinkLonger", spec := "linkLonger", apart := false }
def LinkLongerSaid : Prop := linkLongerRow.holds Try.pinned (OpenSpec.ofChange linkLongerSpec)

/-- ITS FALSE NEIGHBOUR: 'it returns false'. Refute it at one input. -/
def linkLongerWrong : ChangeSpec := { name := "linkLonger", fn := fun _ => fun
  | [d1, d2, d3] => { results := [.lit (.bool false)], args := [d1, d2, d3] }
  | _ => none }
def LinkLongerWrongFalsely : Prop := linkLongerRow.holds Try.pinned (OpenSpec.ofChange linkLongerWrong)

/-- 'spykeep2.LinkPerfect': WHATEVER THE INPUT: true; the input reads as it did. -/
def linkPerfectSpec : ChangeSpec := { name := "linkPerfect", fn := fun _ => fun
  | [d] => { results := [.lit (.bool true)], args := [d] }
  | _ => none }
def linkPerfectRow : OpenClaim := { program := "ytmfmjdneljbmoaa", sum := "db2bb0e969b1f3bf0937828c381686f7134284d6d740c481365e1304ff392b9c", func := "spyglass/spykeep2.LinkPerfect", spec := "linkPerfect", apart := false }
def LinkPerfectSaid : Prop := linkPerfectRow.holds Try.pinned (OpenSpec.ofChange linkPerfectSpec)

/-- ITS FALSE NEIGHBOUR: 'it returns false'. Refute it at one input. -/
def linkPerfectWrong : ChangeSpec := { name := "linkPerfect", fn := fun _ => fun
  | [d] => { results := [.lit (.bool false)], args := [d] }
  | _ => none }
def LinkPerfectWrongFalsely : Prop := linkPerfectRow.holds Try.pinned (OpenSpec.ofChange linkPerfectWrong)

/-- 'spykeep2.LinkCalm': WHATEVER THE INPUT: true; the input reads as it did. -/
def linkCalmSpec : ChangeSpec := { name := "linkCalm", fn := fun _ => fun
  | [d] => { results := [.lit (.bool true)], args := [d] }
  | _ => none }
def linkCalmRow : OpenClaim := { program := "ytmfmjdneljbmoaa", sum := "db2bb0e969b1f3bf0937828c381686f7134284d6d740c481365e1304ff392b9c", func := "spyglass/spykeep2.LinkCalm", spec := "linkCalm", apart := false }
def LinkCalmSaid : Prop := linkCalmRow.holds Try.pinned (OpenSpec.ofChange linkCalmSpec)

/-- ITS FALSE NEIGHBOUR: 'it returns false'. Refute it at one input. -/
def linkCalmWrong : ChangeSpec := { name := "linkCalm", fn := fun _ => fun
  | [d] => { results := [.lit (.bool false)], args := [d] }
  | _ => none }
def LinkCalmWrongFalsely : Prop := linkCalmRow.holds Try.pinned (OpenSpec.ofChange linkCalmWrong)

/- THE SECOND FORM. 'bulk': how many values and letters a reading holds, each counted each time it is reached (what is shared counts as often as it is met; a slice's spare places count too). A statement '..UptoSaid' is the law's where the arguments, and the package variables that the reading takes, are together of bulk at most 1048576: NARROWER than '..Said'. Prove '..Said' where nothing that the law and all that it calls make is longer than what came in: it says more and counts as full. Else prove '..UptoSaid'. A law counts once. -/
mutual
def uptoBulk {H : Type} : DataW H → Nat
  | .lit (.string bytes) => bytes.length + 1
  | .lit _ => 1
  | .nil => 1
  | .ptr d => uptoBulk d + 1
  | .slice elems spare => uptoBulkAll elems + uptoBulkAll spare + 1
  | .agg parts => uptoBulkAll parts + 1
  | .iface _ d => uptoBulk d + 1
  | .map entries => uptoBulkEntries entries + 1
  | .held _ => 1
def uptoBulkAll {H : Type} : List (DataW H) → Nat
  | [] => 0
  | d :: r => uptoBulk d + uptoBulkAll r
def uptoBulkEntries {H : Type} : List (Lit × DataW H) → Nat
  | [] => 0
  | x :: r => uptoBulkEntry x + uptoBulkEntries r
def uptoBulkEntry {H : Type} : Lit × DataW H → Nat
  | (.string bytes, d) => bytes.length + uptoBulk d + 1
  | (_, d) => uptoBulk d + 1
 end
def uptoSmall : (H : Type) → List (DataW H) → Bool := fun _ ds => decide (uptoBulkAll ds ≤ 1048576)
def OpenSpec.upto (s : _root_.Go.ChangeSpec) : _root_.Go.OpenSpec := { _root_.Go.OpenSpec.ofChange s with cond := some uptoSmall }

/-- 'spykeep2.BusBack', WHERE WHAT IT READS IS OF BULK AT MOST 1048576: true; the input reads as it did. -/
def busBackUptoRow : OpenClaim := { program := "ytmfmjdneljbmoaa", sum := "db2bb0e969b1f3bf0937828c381686f7134284d6d740c481365e1304ff392b9c", func := "spyglass/spykeep2.BusBack", spec := "busBack", unfollowed := true, recurses := true, apart := false, narrowed := true }
def BusBackUptoSaid : Prop := busBackUptoRow.holds Try.pinned (OpenSpec.upto busBackSpec)

/-- 'spykeep2.BusCut', WHERE WHAT IT READS IS OF BULK AT MOST 1048576: true; the input reads as it did. -/
def busCutUptoRow : OpenClaim := { program := "ytmfmjdneljbmoaa", sum := "db2bb0e969b1f3bf0937828c381686f7134284d6d740c481365e1304ff392b9c", func := "spyglass/spykeep2.BusCut", spec := "busCut", apart := false, narrowed := true }
def BusCutUptoSaid : Prop := busCutUptoRow.holds Try.pinned (OpenSpec.upto busCutSpec)

/-- 'spykeep2.BusFlips', WHERE WHAT IT READS IS OF BULK AT MOST 1048576: true; the input reads as it did. -/
def busFlipsUptoRow : OpenClaim := { program := "ytmfmjdneljbmoaa", sum := "db2bb0e969b1f3bf0937828c381686f7134284d6d740c481365e1304ff392b9c", func := "spyglass/spykeep2.BusFlips", spec := "busFlips", unfollowed := true, recurses := true, apart := false, narrowed := true }
def BusFlipsUptoSaid : Prop := busFlipsUptoRow.holds Try.pinned (OpenSpec.upto busFlipsSpec)

/-- 'spykeep2.LinkOnce', WHERE WHAT IT READS IS OF BULK AT MOST 1048576: true; the input reads as it did. -/
def linkOnceUptoRow : OpenClaim := { program := "ytmfmjdneljbmoaa", sum := "db2bb0e969b1f3bf0937828c381686f7134284d6d740c481365e1304ff392b9c", func := "spyglass/spykeep2.LinkOnce", spec := "linkOnce", apart := false, narrowed := true }
def LinkOnceUptoSaid : Prop := linkOnceUptoRow.holds Try.pinned (OpenSpec.upto linkOnceSpec)

/-- 'spykeep2.LinkLonger', WHERE WHAT IT READS IS OF BULK AT MOST 1048576: true; the input reads as it did. -/
def linkLongerUptoRow : OpenClaim := { program := "ytmfmjdneljbmoaa", sum := "db2bb0e969b1f3bf0937828c381686f7134284d6d740c481365e1304ff392b9c", func := "spyglass/spykeep2.LinkLonger", spec := "linkLonger", apart := false, narrowed := true }
def LinkLongerUptoSaid : Prop := linkLongerUptoRow.holds Try.pinned (OpenSpec.upto linkLongerSpec)

/-- 'spykeep2.LinkPerfect', WHERE WHAT IT READS IS OF BULK AT MOST 1048576: true; the input reads as it did. -/
def linkPerfectUptoRow : OpenClaim := { program := "ytmfmjdneljbmoaa", sum := "db2bb0e969b1f3bf0937828c381686f7134284d6d740c481365e1304ff392b9c", func := "spyglass/spykeep2.LinkPerfect", spec := "linkPerfect", apart := false, narrowed := true }
def LinkPerfectUptoSaid : Prop := linkPerfectUptoRow.holds Try.pinned (OpenSpec.upto linkPerfectSpec)

/-- 'spykeep2.LinkCalm', WHERE WHAT IT READS IS OF BULK AT MOST 1048576: true; the input reads as it did. -/
def linkCalmUptoRow : OpenClaim := { program := "ytmfmjdneljbmoaa", sum := "db2bb0e969b1f3bf0937828c381686f7134284d6d740c481365e1304ff392b9c", func := "spyglass/spykeep2.LinkCalm", spec := "linkCalm", apart := false, narrowed := true }
def LinkCalmUptoSaid : Prop := linkCalmUptoRow.holds Try.pinned (OpenSpec.upto linkCalmSpec)

end Rows
end Go.Proofs.Ytmfmjdneljbmoaa
