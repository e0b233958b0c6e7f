/-
  No cell of these rows narrows 'for every input' (looked for: loops, veiled, ifaces, maps, wideKeys, modest, calm, conditions, laid).
  DERIVED. THE GIVEN ROWS OF THIS SEAT. 7 by the template 'for every input the law returns true; each argument reads behind the call as it read before'; 0 by the template 'total and deterministic' (their statements: YtdnnjbokdckilaaTotals.lean).
  GIVEN WITH THE SEED: the statements are not yours to turn. If you find one false, say at which input.
  Laid BY PROGRAM, IN A SANDBOX (cutbox-rows.mjs): the forced cells as the released guide's own fill.sh prints them over the translation 8043743d0809170c… (all of the seat's roots in one cut). By AI agents, Wed Nov 11 2026. No macro, syntax, notation, axiom, sorry.
-/
import Derived.Test.YtdnnjbokdckilaaChecked
import GoSem.Claim
import GoSem.ClaimJoined
import GoSem.ClaimMapViews
import Derived.JoinedTies
import Derived.KernelRfl
namespace Go.Proofs.Ytdnnjbokdckilaa
/- THE CELL 'sum', in the pinned program and in every row, IS THE sha256 OF THE DUMP (.gsa) THAT YtdnnjbokdckilaaProg.lean LOADS. Nothing in Lean hashes anything: it is a label: what it is worth is what the hold of that sum in a sandbox is worth. -/
noncomputable def Try.pinned : Pinned := { name := "ytdnnjbokdckilaa", sum := "8043743d0809170c6c291356d0e74223027c61ba192ff37e85e345b205780809", checked := Try.checked }
namespace Rows
def none {H : Type} : Left H := { results := [], args := [] }

/-- 'spykeep2.DomeCloses': WHATEVER THE INPUT: true; the input reads as it did. -/
def domeClosesSpec : ChangeSpec := { name := "domeCloses", fn := fun _ => fun
  | [d] => { results := [.lit (.bool true)], args := [d] }
  | _ => none }
def domeClosesRow : OpenClaim := { program := "ytdnnjbokdckilaa", sum := "8043743d0809170c6c291356d0e74223027c61ba192ff37e85e345b205780809", func := "spyglass/spykeep2.DomeCloses", spec := "domeCloses", apart := false }
def DomeClosesSaid : Prop := domeClosesRow.holds Try.pinned (OpenSpec.ofChange domeClosesSpec)

/-- ITS FALSE NEIGHBOUR: 'it returns false'. Refute it at one input. -/
def domeClosesWrong : ChangeSpec := { name := "domeCloses", fn := fun _ => fun
  | [d] => { results := [.lit (.bool false)], args := [d] }
  | _ => none }
def DomeClosesWrongFalsely : Prop := domeClosesRow.holds Try.pinned (OpenSpec.ofChange domeClosesWrong)

/-- 'spykeep2.BusFlags': WHATEVER THE INPUT: true; the input reads as it did. -/
def busFlagsSpec : ChangeSpec := { name := "busFlags", fn := fun _ => fun
  | [d] => { results := [.lit (.bool true)], args := [d] }
  | _ => none }
def busFlagsRow : OpenClaim := { program := "ytdnnjbokdckilaa", sum := "8043743d0809170c6c291356d0e74223027c61ba192ff37e85e345b205780809", func := "spyglass/spykeep2.BusFlags", spec := "busFlags", apart := false }
def BusFlagsSaid : Prop := busFlagsRow.holds Try.pinned (OpenSpec.ofChange busFlagsSpec)

/-- ITS FALSE NEIGHBOUR: 'it returns false'. Refute it at one input. -/
def busFlagsWrong : ChangeSpec := { name := "busFlags", fn := fun _ => fun
  | [d] => { results := [.lit (.bool false)], args := [d] }
  | _ => none }
def BusFlagsWrongFalsely : Prop := busFlagsRow.holds Try.pinned (OpenSpec.ofChange busFlagsWrong)

/-- 'spykeep2.BusBack': WHATEVER THE INPUT: true; the input reads as it did. -/
def busBackSpec : ChangeSpec := { name := "busBack", fn := fun _ => fun
  | [d1, d2] => { results := [.lit (.bool true)], args := [d1, d2] }
  | _ => none }
def busBackRow : OpenClaim := { program := "ytdnnjbokdckilaa", sum := "8043743d0809170c6c291356d0e74223027c61ba192ff37e85e345b205780809", func := "spyglass/spykeep2.BusBack", spec := "busBack", unfollowed := true, recurses := true, apart := false }
def BusBackSaid : Prop := busBackRow.holds Try.pinned (OpenSpec.ofChange busBackSpec)

/-- ITS FALSE NEIGHBOUR: 'it returns false'. Refute it at one input. -/
def busBackWrong : ChangeSpec := { name := "busBack", fn := fun _ => fun
  | [d1, d2] => { results := [.lit (.bool false)], args := [d1, d2] }
  | _ => none }
def BusBackWrongFalsely : Prop := busBackRow.holds Try.pinned (OpenSpec.ofChange busBackWrong)

/-- 'spykeep2.BusCut': WHATEVER THE INPUT: true; the input reads as it did. -/
def busCutSpec : ChangeSpec := { name := "busCut", fn := fun _ => fun
  | [d1, d2] => { results := [.lit (.bool true)], args := [d1, d2] }
  | _ => none }
def busCutRow : OpenClaim := { program := "ytdnnjbokdckilaa", sum := "8043743d0809170c6c291356d0e74223027c61ba192ff37e85e345b205780809", func := "spyglass/spykeep2.BusCut", spec := "busCut", apart := false }
def BusCutSaid : Prop := busCutRow.holds Try.pinned (OpenSpec.ofChange busCutSpec)

/-- ITS FALSE NEIGHBOUR: 'it returns false'. Refute it at one input. -/
def busCutWrong : ChangeSpec := { name := "busCut", fn := fun _ => fun
  | [d1, d2] => { results := [.lit (.bool false)], args := [d1, d2] }
  | _ => none }
def BusCutWrongFalsely : Prop := busCutRow.holds Try.pinned (OpenSpec.ofChange busCutWrong)

/-- 'spykeep2.BusFlips': WHATEVER THE INPUT: true; the input reads as it did. -/
def busFlipsSpec : ChangeSpec := { name := "busFlips", fn := fun _ => fun
  | [d1, d2] => { results := [.lit (.bool true)], args := [d1, d2] }
  | _ => none }
def busFlipsRow : OpenClaim := { program := "ytdnnjbokdckilaa", sum := "8043743d0809170c6c291356d0e74223027c61ba192ff37e85e345b205780809", func := "spyglass/spykeep2.BusFlips", spec := "busFlips", unfollowed := true, recurses := true, apart := false }
def BusFlipsSaid : Prop := busFlipsRow.holds Try.pinned (OpenSpec.ofChange busFlipsSpec)

/-- ITS FALSE NEIGHBOUR: 'it returns false'. Refute it at one input. -/
def busFlipsWrong : ChangeSpec := { name := "busFlips", fn := fun _ => fun
  | [d1, d2] => { results := [.lit (.bool false)], args := [d1, d2] }
  | _ => none }
def BusFlipsWrongFalsely : Prop := busFlipsRow.holds Try.pinned (OpenSpec.ofChange busFlipsWrong)

/-- 'spykeep2.DomeKeeps': WHATEVER THE INPUT: true; the input reads as it did. -/
def domeKeepsSpec : ChangeSpec := { name := "domeKeeps", fn := fun _ => fun
  | [d] => { results := [.lit (.bool true)], args := [d] }
  | _ => none }
def domeKeepsRow : OpenClaim := { program := "ytdnnjbokdckilaa", sum := "8043743d0809170c6c291356d0e74223027c61ba192ff37e85e345b205780809", func := "spyglass/spykeep2.DomeKeeps", spec := "domeKeeps", apart := false }
def DomeKeepsSaid : Prop := domeKeepsRow.holds Try.pinned (OpenSpec.ofChange domeKeepsSpec)

/-- ITS FALSE NEIGHBOUR: 'it returns false'. Refute it at one input. -/
def domeKeepsWrong : ChangeSpec := { name := "domeKeeps", fn := fun _ => fun
  | [d] => { results := [.lit (.bool false)], args := [d] }
  | _ => none }
def DomeKeepsWrongFalsely : Prop := domeKeepsRow.holds Try.pinned (OpenSpec.ofChange domeKeepsWrong)

/-- 'spykeep2.DomeTurns': WHATEVER THE INPUT: true; the input reads as it did. -/
def domeTurnsSpec : ChangeSpec := { name := "domeTurns", fn := fun _ => fun
  | [d1, d2] => { results := [.lit (.bool true)], args := [d1, d2] }
  | _ => none }
def domeTurnsRow : OpenClaim := { program := "ytdnnjbokdckilaa", sum := "8043743d0809170c6c291356d0e74223027c61ba192ff37e85e345b205780809", func := "spyglass/spykeep2.DomeTurns", spec := "domeTurns", apart := false }
def DomeTurnsSaid : Prop := domeTurnsRow.holds Try.pinned (OpenSpec.ofChange domeTurnsSpec)

/-- ITS FALSE NEIGHBOUR: 'it returns false'. Refute it at one input. -/
def domeTurnsWrong : ChangeSpec := { name := "domeTurns", fn := fun _ => fun
  | [d1, d2] => { results := [.lit (.bool false)], args := [d1, d2] }
  | _ => none }
def DomeTurnsWrongFalsely : Prop := domeTurnsRow.holds Try.pinned (OpenSpec.ofChange domeTurnsWrong)

/- THE SECOND FORM. 'bulk': how many values and letters a reading holds, each counted each time it is reached (what is shared counts as often as it is met; a slice's spare places count too). A statement '..UptoSaid' is the law's where the arguments, and the package variables that the reading takes, are together of bulk at most 1048576: NARROWER than '..Said'. Prove '..Said' where nothing that the law and all that it calls make is longer than what came in: it says more and counts as full. Else prove '..UptoSaid'. A law counts once. -/
mutual
def uptoBulk {H : Type} : DataW H → Nat
  | .lit (.string bytes) => bytes.length + 1
  | .lit _ => 1
  | .nil => 1
  | .ptr d => uptoBulk d + 1
  | .slice elems spare => uptoBulkAll elems + uptoBulkAll spare + 1
  | .agg parts => uptoBulkAll parts + 1
  | .iface _ d => uptoBulk d + 1
  | .map entries => uptoBulkEntries entries + 1
  | .held _ => 1
def uptoBulkAll {H : Type} : List (DataW H) → Nat
  | [] => 0
  | d :: r => uptoBulk d + uptoBulkAll r
def uptoBulkEntries {H : Type} : List (Lit × DataW H) → Nat
  | [] => 0
  | x :: r => uptoBulkEntry x + uptoBulkEntries r
def uptoBulkEntry {H : Type} : Lit × DataW H → Nat
  | (.string bytes, d) => bytes.length + uptoBulk d + 1
  | (_, d) => uptoBulk d + 1
 end
def uptoSmall : (H : Type) → List (DataW H) → Bool := fun _ ds => decide (uptoBulkAll ds ≤ 1048576)
def OpenSpec.upto (s : _root_.Go.ChangeSpec) : _root_.Go.OpenSpec := { _root_.Go.OpenSpec.ofChange s with cond := some uptoSmall }

/-- 'spykeep2.DomeCloses', WHERE WHAT IT READS IS OF BULK AT MOST 1048576: true; the input reads as it did. -/
def domeClosesUptoRow : OpenClaim := { program := "ytdnnjbokdckilaa", sum := "8043743d0809170c6c291356d0e74223027c61ba192ff37e85e345b205780809", func := "spyglass/spykeep2.DomeCloses", spec := "domeCloses", apart := false, narrowed := true }
def DomeClosesUptoSaid : Prop := domeClosesUptoRow.holds Try.pinned (OpenSpec.upto domeClosesSpec)

/-- 'spykeep2.BusFlags', WHERE WHAT IT READS IS OF BULK AT MOST 1048576: true; the input reads as it did. -/
def busFlagsUptoRow : OpenClaim := { program := "ytdnnjbokdckilaa", sum := "8043743d0809170c6c291356d0e74223027c61ba192ff37e85e345b205780809", func := "spyglass/spykeep2.BusFlags", spec := "busFlags", apart := false, narrowed := true }
def BusFlagsUptoSaid : Prop := busFlagsUptoRow.holds Try.pinned (OpenSpec.upto busFlagsSpec)

/-- 'spykeep2.BusBack', WHERE WHAT IT READS IS OF BULK AT MOST 1048576: true; the input reads as it did. -/
def busBackUptoRow : OpenClaim := { program := "ytdnnjbokdckilaa", sum := "8043743d0809170c6c291356d0e74223027c61ba192ff37e85e345b205780809", func := "spyglass/spykeep2.BusBack", spec := "busBack", unfollowed := true, recurses := true, apart := false, narrowed := true }
def BusBackUptoSaid : Prop := busBackUptoRow.holds Try.pinned (OpenSpec.upto busBackSpec)

/-- 'spykeep2.BusCut', WHERE WHAT IT READS IS OF BULK AT MOST 1048576: true; the input reads as it did. -/
def busCutUptoRow : OpenClaim := { program := "ytdnnjbokdckilaa", sum := "8043743d0809170c6c291356d0e74223027c61ba192ff37e85e345b205780809", func := "spyglass/spykeep2.BusCut", spec := "busCut", apart := false, narrowed := true }
def BusCutUptoSaid : Prop := busCutUptoRow.holds Try.pinned (OpenSpec.upto busCutSpec)

/-- 'spykeep2.BusFlips', WHERE WHAT IT READS IS OF BULK AT MOST 1048576: true; the input reads as it did. -/
def busFlipsUptoRow : OpenClaim := { program := "ytdnnjbokdckilaa", sum := "8043743d0809170c6c291356d0e74223027c61ba192ff37e85e345b205780809", func := "spyglass/spykeep2.BusFlips", spec := "busFlips", unfollowed := true, recurses := true, apart := false, narrowed := true }
def BusFlipsUptoSaid : Prop := busFlipsUptoRow.holds Try.pinned (OpenSpec.upto busFlipsSpec)

/-- 'spykeep2.DomeKeeps', WHERE WHAT IT READS IS OF BULK AT MOST 1048576: true; the input reads as it did. -/
def domeKeepsUptoRow : OpenClaim := { program := "ytdnnjbokdckilaa", sum := "8043743d0809170c6c291356d0e74223027c61ba192ff37e85e345b205780809", func := "spyglass/spykeep2.DomeKeeps", spec := "domeKeeps", apart := false, narrowed := true }
def DomeKeepsUptoSaid : Prop := domeKeepsUptoRow.holds Try.pinned (OpenSpec.upto domeKeepsSpec)

/-- 'spykeep2.DomeTurns', WHERE WHAT IT READS IS OF BULK AT MOST 1048576: true; the input reads as it did. -/
def domeTurnsUptoRow : OpenClaim := { program := "ytdnnjbokdckilaa", sum := "8043743d0809170c6c291356d0e74223027c61ba192ff37e85e345b205780809", func := "spyglass/spykeep2.DomeTurns", spec := "domeTurns", apart := false, narrowed := true }
def DomeTurnsUptoSaid : Prop := domeTurnsUptoRow.holds Try.pinned (OpenSpec.upto domeTurnsSpec)

end Rows
end Go.Proofs.Ytdnnjbokdckilaa
