/-
  No cell of these rows narrows 'for every input' (looked for: loops, veiled, ifaces, maps, wideKeys, modest, calm, conditions, laid).
  DERIVED. THE GIVEN ROWS OF THIS SEAT. 4 by the template 'for every input the law returns true; each argument reads behind the call as it read before'; 0 by the template 'total and deterministic' (their statements: YtbnpnljlfnaheaaTotals.lean).
  GIVEN WITH THE SEED: the statements are not yours to turn. If you find one false, say at which input.
  Laid BY PROGRAM, IN A SANDBOX (cutbox-rows.mjs): the forced cells as the released guide's own fill.sh prints them over the translation 6b4c13db01f06136… (all of the seat's roots in one cut). By AI agents, Wed Nov 11 2026. No macro, syntax, notation, axiom, sorry.
-/
import Derived.Test.YtbnpnljlfnaheaaChecked
import GoSem.Claim
import GoSem.ClaimJoined
import GoSem.ClaimMapViews
import Derived.JoinedTies
import Derived.KernelRfl
namespace Go.Proofs.Ytbnpnljlfnaheaa
/- THE CELL 'sum', in the pinned program and in every row, IS THE sha256 OF THE DUMP (.gsa) THAT YtbnpnljlfnaheaaProg.lean LOADS. Nothing in Lean hashes anything: it is a label: what it is worth is what the hold of that sum in a sandbox is worth. -/
noncomputable def Try.pinned : Pinned := { name := "ytbnpnljlfnaheaa", sum := "6b4c13db01f06136c38d7f483dc1efad4dcf0149188c620bdea2acaea0ce26ae", checked := Try.checked }
namespace Rows
def none {H : Type} : Left H := { results := [], args := [] }

/-- 'waymarklaw20.OwedOrders': WHATEVER THE INPUT: true; the input reads as it did. -/
def owedOrdersSpec : ChangeSpec := { name := "owedOrders", fn := fun _ => fun
  | [d1, d2] => { results := [.lit (.bool true)], args := [d1, d2] }
  | _ => none }
def owedOrdersRow : OpenClaim := { program := "ytbnpnljlfnaheaa", sum := "6b4c13db01f06136c38d7f483dc1efad4dcf0149188c620bdea2acaea0ce26ae", func := "waymark/waymarklaw20.OwedOrders", spec := "owedOrders", inPlace := ["slices.overlaps[waymark/api.Item]"], unfollowed := true, recurses := true, apart := false }
def OwedOrdersSaid : Prop := owedOrdersRow.holds Try.pinned (OpenSpec.ofChange owedOrdersSpec)

/-- ITS FALSE NEIGHBOUR: 'it returns false'. Refute it at one input. -/
def owedOrdersWrong : ChangeSpec := { name := "owedOrders", fn := fun _ => fun
  | [d1, d2] => { results := [.lit (.bool false)], args := [d1, d2] }
  | _ => none }
def OwedOrdersWrongFalsely : Prop := owedOrdersRow.holds Try.pinned (OpenSpec.ofChange owedOrdersWrong)

/-- 'waymarklaw18.TableSets': WHATEVER THE INPUT: true; the input reads as it did. -/
def tableSetsSpec : ChangeSpec := { name := "tableSets", fn := fun _ => fun
  | [d1, d2, d3] => { results := [.lit (.bool true)], args := [d1, d2, d3] }
  | _ => none }
def tableSetsRow : OpenClaim := { program := "ytbnpnljlfnaheaa", sum := "6b4c13db01f06136c38d7f483dc1efad4dcf0149188c620bdea2acaea0ce26ae", func := "waymark/waymarklaw18.TableSets", spec := "tableSets", inPlace := ["slices.overlaps[waymark/api.Near]"], unfollowed := true, recurses := true, apart := false }
def TableSetsSaid : Prop := tableSetsRow.holds Try.pinned (OpenSpec.ofChange tableSetsSpec)

/-- ITS FALSE NEIGHBOUR: 'it returns false'. Refute it at one input. -/
def tableSetsWrong : ChangeSpec := { name := "tableSets", fn := fun _ => fun
  | [d1, d2, d3] => { results := [.lit (.bool false)], args := [d1, d2, d3] }
  | _ => none }
def TableSetsWrongFalsely : Prop := tableSetsRow.holds Try.pinned (OpenSpec.ofChange tableSetsWrong)

/-- 'waymarklaw20.OwedTurns': WHATEVER THE INPUT: true; the input reads as it did. -/
def owedTurnsSpec : ChangeSpec := { name := "owedTurns", fn := fun _ => fun
  | [d1, d2, d3] => { results := [.lit (.bool true)], args := [d1, d2, d3] }
  | _ => none }
def owedTurnsRow : OpenClaim := { program := "ytbnpnljlfnaheaa", sum := "6b4c13db01f06136c38d7f483dc1efad4dcf0149188c620bdea2acaea0ce26ae", func := "waymark/waymarklaw20.OwedTurns", spec := "owedTurns", inPlace := ["slices.overlaps[waymark/api.Item]"], unfollowed := true, recurses := true, apart := false }
def OwedTurnsSaid : Prop := owedTurnsRow.holds Try.pinned (OpenSpec.ofChange owedTurnsSpec)

/-- ITS FALSE NEIGHBOUR: 'it returns false'. Refute it at one input. -/
def owedTurnsWrong : ChangeSpec := { name := "owedTurns", fn := fun _ => fun
  | [d1, d2, d3] => { results := [.lit (.bool false)], args := [d1, d2, d3] }
  | _ => none }
def OwedTurnsWrongFalsely : Prop := owedTurnsRow.holds Try.pinned (OpenSpec.ofChange owedTurnsWrong)

/-- 'waymarklaw53.AgeStays': WHATEVER THE INPUT: true; the input reads as it did. -/
def ageStaysSpec : ChangeSpec := { name := "ageStays", fn := fun _ => fun
  | [d1, d2] => { results := [.lit (.bool true)], args := [d1, d2] }
  | _ => none }
def ageStaysRow : OpenClaim := { program := "ytbnpnljlfnaheaa", sum := "6b4c13db01f06136c38d7f483dc1efad4dcf0149188c620bdea2acaea0ce26ae", func := "waymark/waymarklaw53.AgeStays", spec := "ageStays", inPlace := ["slices.overlaps[waymark/api.Aged]"], unfollowed := true, recurses := true, apart := false }
def AgeStaysSaid : Prop := ageStaysRow.holds Try.pinned (OpenSpec.ofChange ageStaysSpec)

/-- ITS FALSE NEIGHBOUR: 'it returns false'. Refute it at one input. -/
def ageStaysWrong : ChangeSpec := { name := "ageStays", fn := fun _ => fun
  | [d1, d2] => { results := [.lit (.bool false)], args := [d1, d2] }
  | _ => none }
def AgeStaysWrongFalsely : Prop := ageStaysRow.holds Try.pinned (OpenSpec.ofChange ageStaysWrong)

/- THE SECOND FORM. 'bulk': how many values and letters a reading holds, each counted each time it is reached (what is shared counts as often as it is met; a slice's spare places count too). A statement '..UptoSaid' is the law's where the arguments, and the package variables that the reading takes, are together of bulk at most 1048576: NARROWER than '..Said'. Prove '..Said' where nothing that the law and all that it calls make is longer than what came in: it says more and counts as full. Else prove '..UptoSaid'. A law counts once. -/
mutual
def uptoBulk {H : Type} : DataW H → Nat
  | .lit (.string bytes) => bytes.length + 1
  | .lit _ => 1
  | .nil => 1
  | .ptr d => uptoBulk d + 1
  | .slice elems spare => uptoBulkAll elems + uptoBulkAll spare + 1
  | .agg parts => uptoBulkAll parts + 1
  | .iface _ d => uptoBulk d + 1
  | .map entries => uptoBulkEntries entries + 1
  | .held _ => 1
def uptoBulkAll {H : Type} : List (DataW H) → Nat
  | [] => 0
  | d :: r => uptoBulk d + uptoBulkAll r
def uptoBulkEntries {H : Type} : List (Lit × DataW H) → Nat
  | [] => 0
  | x :: r => uptoBulkEntry x + uptoBulkEntries r
def uptoBulkEntry {H : Type} : Lit × DataW H → Nat
  | (.string bytes, d) => bytes.length + uptoBulk d + 1
  | (_, d) => uptoBulk d + 1
 end
def uptoSmall : (H : Type) → List (DataW H) → Bool := fun _ ds => decide (uptoBulkAll ds ≤ 1048576)
def OpenSpec.upto (s : _root_.Go.ChangeSpec) : _root_.Go.OpenSpec := { _root_.Go.OpenSpec.ofChange s with cond := some uptoSmall }

/-- 'waymarklaw20.OwedOrders', WHERE WHAT IT READS IS OF BULK AT MOST 1048576: true; the input reads as it did. -/
def owedOrdersUptoRow : OpenClaim := { program := "ytbnpnljlfnaheaa", sum := "6b4c13db01f06136c38d7f483dc1efad4dcf0149188c620bdea2acaea0ce26ae", func := "waymark/waymarklaw20.OwedOrders", spec := "owedOrders", inPlace := ["slices.overlaps[waymark/api.Item]"], unfollowed := true, recurses := true, apart := false, narrowed := true }
def OwedOrdersUptoSaid : Prop := owedOrdersUptoRow.holds Try.pinned (OpenSpec.upto owedOrdersSpec)

/-- 'waymarklaw18.TableSets', WHERE WHAT IT READS IS OF BULK AT MOST 1048576: true; the input reads as it did. -/
def tableSetsUptoRow : OpenClaim := { program := "ytbnpnljlfnaheaa", sum := "6b4c13db01f06136c38d7f483dc1efad4dcf0149188c620bdea2acaea0ce26ae", func := "waymark/waymarklaw18.TableSets", spec := "tableSets", inPlace := ["slices.overlaps[waymark/api.Near]"], unfollowed := true, recurses := true, apart := false, narrowed := true }
def TableSetsUptoSaid : Prop := tableSetsUptoRow.holds Try.pinned (OpenSpec.upto tableSetsSpec)

/-- 'waymarklaw20.OwedTurns', WHERE WHAT IT READS IS OF BULK AT MOST 1048576: true; the input reads as it did. -/
def owedTurnsUptoRow : OpenClaim := { program := "ytbnpnljlfnaheaa", sum := "6b4c13db01f06136c38d7f483dc1efad4dcf0149188c620bdea2acaea0ce26ae", func := "waymark/waymarklaw20.OwedTurns", spec := "owedTurns", inPlace := ["slices.overlaps[waymark/api.Item]"], unfollowed := true, recurses := true, apart := false, narrowed := true }
def OwedTurnsUptoSaid : Prop := owedTurnsUptoRow.holds Try.pinned (OpenSpec.upto owedTurnsSpec)

/-- 'waymarklaw53.AgeStays', WHERE WHAT IT READS IS OF BULK AT MOST 1048576: true; the input reads as it did. -/
def ageStaysUptoRow : OpenClaim := { program := "ytbnpnljlfnaheaa", sum := "6b4c13db01f06136c38d7f483dc1efad4dcf0149188c620bdea2acaea0ce26ae", func := "waymark/waymarklaw53.AgeStays", spec := "ageStays", inPlace := ["slices.overlaps[waymark/api.Aged]"], unfollowed := true, recurses := true, apart := false, narrowed := true }
def AgeStaysUptoSaid : Prop := ageStaysUptoRow.holds Try.pinned (OpenSpec.upto ageStaysSpec)

end Rows
end Go.Proofs.Ytbnpnljlfnaheaa
