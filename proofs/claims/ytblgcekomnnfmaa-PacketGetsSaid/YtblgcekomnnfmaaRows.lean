/-
  No cell of these rows narrows 'for every input' (looked for: loops, veiled, ifaces, maps, wideKeys, modest, calm, conditions, laid).
  DERIVED. THE GIVEN ROWS OF THIS SEAT. 6 by the template 'for every input the law returns true; each argument reads behind the call as it read before'; 0 by the template 'total and deterministic' (their statements: YtblgcekomnnfmaaTotals.lean).
  GIVEN WITH THE SEED: the statements are not yours to turn. If you find one false, say at which input.
  Laid BY PROGRAM, IN A SANDBOX (cutbox-rows.mjs): the forced cells as the released guide's own fill.sh prints them over the translation 07996f6c26cd88cc… (all of the seat's roots in one cut). By AI agents, Wed Nov 11 2026. No macro, syntax, notation, axiom, sorry.
-/
import Derived.Test.YtblgcekomnnfmaaChecked
import GoSem.Claim
import GoSem.ClaimJoined
import GoSem.ClaimMapViews
import Derived.JoinedTies
import Derived.KernelRfl
namespace Go.Proofs.Ytblgcekomnnfmaa
/- THE CELL 'sum', in the pinned program and in every row, IS THE sha256 OF THE DUMP (.gsa) THAT YtblgcekomnnfmaaProg.lean LOADS. Nothing in Lean hashes anything: it is a label: what it is worth is what the hold of that sum in a sandbox is worth. -/
noncomputable def Try.pinned : Pinned := { name := "ytblgcekomnnfmaa", sum := "07996f6c26cd88ccc03c4772fee8df268db20d7321800c88f339681ecd47b588", checked := Try.checked }
namespace Rows
def none {H : Type} : Left H := { results := [], args := [] }

/-- 'waymarklaw14.PacketGets': WHATEVER THE INPUT: true; the input reads as it did. -/
def packetGetsSpec : ChangeSpec := { name := "packetGets", fn := fun _ => fun
  | [d] => { results := [.lit (.bool true)], args := [d] }
  | _ => none }
def packetGetsRow : OpenClaim := { program := "ytblgcekomnnfmaa", sum := "07996f6c26cd88ccc03c4772fee8df268db20d7321800c88f339681ecd47b588", func := "waymark/waymarklaw14.PacketGets", spec := "packetGets", apart := false }
def PacketGetsSaid : Prop := packetGetsRow.holds Try.pinned (OpenSpec.ofChange packetGetsSpec)

/-- ITS FALSE NEIGHBOUR: 'it returns false'. Refute it at one input. -/
def packetGetsWrong : ChangeSpec := { name := "packetGets", fn := fun _ => fun
  | [d] => { results := [.lit (.bool false)], args := [d] }
  | _ => none }
def PacketGetsWrongFalsely : Prop := packetGetsRow.holds Try.pinned (OpenSpec.ofChange packetGetsWrong)

/-- 'waymarklaw14.PacketTurns': WHATEVER THE INPUT: true; the input reads as it did. -/
def packetTurnsSpec : ChangeSpec := { name := "packetTurns", fn := fun _ => fun
  | [d1, d2, d3] => { results := [.lit (.bool true)], args := [d1, d2, d3] }
  | _ => none }
def packetTurnsRow : OpenClaim := { program := "ytblgcekomnnfmaa", sum := "07996f6c26cd88ccc03c4772fee8df268db20d7321800c88f339681ecd47b588", func := "waymark/waymarklaw14.PacketTurns", spec := "packetTurns", apart := false }
def PacketTurnsSaid : Prop := packetTurnsRow.holds Try.pinned (OpenSpec.ofChange packetTurnsSpec)

/-- ITS FALSE NEIGHBOUR: 'it returns false'. Refute it at one input. -/
def packetTurnsWrong : ChangeSpec := { name := "packetTurns", fn := fun _ => fun
  | [d1, d2, d3] => { results := [.lit (.bool false)], args := [d1, d2, d3] }
  | _ => none }
def PacketTurnsWrongFalsely : Prop := packetTurnsRow.holds Try.pinned (OpenSpec.ofChange packetTurnsWrong)

/-- 'waymarklaw07.SlotSectors': WHATEVER THE INPUT: true; the input reads as it did. -/
def slotSectorsSpec : ChangeSpec := { name := "slotSectors", fn := fun _ => fun
  | [d1, d2, d3] => { results := [.lit (.bool true)], args := [d1, d2, d3] }
  | _ => none }
def slotSectorsRow : OpenClaim := { program := "ytblgcekomnnfmaa", sum := "07996f6c26cd88ccc03c4772fee8df268db20d7321800c88f339681ecd47b588", func := "waymark/waymarklaw07.SlotSectors", spec := "slotSectors", unfollowed := true, recurses := true, apart := false }
def SlotSectorsSaid : Prop := slotSectorsRow.holds Try.pinned (OpenSpec.ofChange slotSectorsSpec)

/-- ITS FALSE NEIGHBOUR: 'it returns false'. Refute it at one input. -/
def slotSectorsWrong : ChangeSpec := { name := "slotSectors", fn := fun _ => fun
  | [d1, d2, d3] => { results := [.lit (.bool false)], args := [d1, d2, d3] }
  | _ => none }
def SlotSectorsWrongFalsely : Prop := slotSectorsRow.holds Try.pinned (OpenSpec.ofChange slotSectorsWrong)

/-- 'waymarklaw07.SlotTears': WHATEVER THE INPUT: true; the input reads as it did. -/
def slotTearsSpec : ChangeSpec := { name := "slotTears", fn := fun _ => fun
  | [d1, d2] => { results := [.lit (.bool true)], args := [d1, d2] }
  | _ => none }
def slotTearsRow : OpenClaim := { program := "ytblgcekomnnfmaa", sum := "07996f6c26cd88ccc03c4772fee8df268db20d7321800c88f339681ecd47b588", func := "waymark/waymarklaw07.SlotTears", spec := "slotTears", unfollowed := true, recurses := true, apart := false }
def SlotTearsSaid : Prop := slotTearsRow.holds Try.pinned (OpenSpec.ofChange slotTearsSpec)

/-- ITS FALSE NEIGHBOUR: 'it returns false'. Refute it at one input. -/
def slotTearsWrong : ChangeSpec := { name := "slotTears", fn := fun _ => fun
  | [d1, d2] => { results := [.lit (.bool false)], args := [d1, d2] }
  | _ => none }
def SlotTearsWrongFalsely : Prop := slotTearsRow.holds Try.pinned (OpenSpec.ofChange slotTearsWrong)

/-- 'waymarklaw07.SlotLoads': WHATEVER THE INPUT: true; the input reads as it did. -/
def slotLoadsSpec : ChangeSpec := { name := "slotLoads", fn := fun _ => fun
  | [d1, d2] => { results := [.lit (.bool true)], args := [d1, d2] }
  | _ => none }
def slotLoadsRow : OpenClaim := { program := "ytblgcekomnnfmaa", sum := "07996f6c26cd88ccc03c4772fee8df268db20d7321800c88f339681ecd47b588", func := "waymark/waymarklaw07.SlotLoads", spec := "slotLoads", unfollowed := true, recurses := true, apart := false }
def SlotLoadsSaid : Prop := slotLoadsRow.holds Try.pinned (OpenSpec.ofChange slotLoadsSpec)

/-- ITS FALSE NEIGHBOUR: 'it returns false'. Refute it at one input. -/
def slotLoadsWrong : ChangeSpec := { name := "slotLoads", fn := fun _ => fun
  | [d1, d2] => { results := [.lit (.bool false)], args := [d1, d2] }
  | _ => none }
def SlotLoadsWrongFalsely : Prop := slotLoadsRow.holds Try.pinned (OpenSpec.ofChange slotLoadsWrong)

/-- 'waymarklaw14.PacketPuts': WHATEVER THE INPUT: true; the input reads as it did. -/
def packetPutsSpec : ChangeSpec := { name := "packetPuts", fn := fun _ => fun
  | [d1, d2] => { results := [.lit (.bool true)], args := [d1, d2] }
  | _ => none }
def packetPutsRow : OpenClaim := { program := "ytblgcekomnnfmaa", sum := "07996f6c26cd88ccc03c4772fee8df268db20d7321800c88f339681ecd47b588", func := "waymark/waymarklaw14.PacketPuts", spec := "packetPuts", unfollowed := true, recurses := true, apart := false }
def PacketPutsSaid : Prop := packetPutsRow.holds Try.pinned (OpenSpec.ofChange packetPutsSpec)

/-- ITS FALSE NEIGHBOUR: 'it returns false'. Refute it at one input. -/
def packetPutsWrong : ChangeSpec := { name := "packetPuts", fn := fun _ => fun
  | [d1, d2] => { results := [.lit (.bool false)], args := [d1, d2] }
  | _ => none }
def PacketPutsWrongFalsely : Prop := packetPutsRow.holds Try.pinned (OpenSpec.ofChange packetPutsWrong)

/- THE SECOND FORM. 'bulk': how many values and letters a reading holds, each counted each time it is reached (what is shared counts as often as it is met; a slice's spare places count too). A statement '..UptoSaid' is the law's where the arguments, and the package variables that the reading takes, are together of bulk at most 1048576: NARROWER than '..Said'. Prove '..Said' where nothing that the law and all that it calls make is longer than what came in: it says more and counts as full. Else prove '..UptoSaid'. A law counts once. -/
mutual
def uptoBulk {H : Type} : DataW H → Nat
  | .lit (.string bytes) => bytes.length + 1
  | .lit _ => 1
  | .nil => 1
  | .ptr d => uptoBulk d + 1
  | .slice elems spare => uptoBulkAll elems + uptoBulkAll spare + 1
  | .agg parts => uptoBulkAll parts + 1
  | .iface _ d => uptoBulk d + 1
  | .map entries => uptoBulkEntries entries + 1
  | .held _ => 1
def uptoBulkAll {H : Type} : List (DataW H) → Nat
  | [] => 0
  | d :: r => uptoBulk d + uptoBulkAll r
def uptoBulkEntries {H : Type} : List (Lit × DataW H) → Nat
  | [] => 0
  | x :: r => uptoBulkEntry x + uptoBulkEntries r
def uptoBulkEntry {H : Type} : Lit × DataW H → Nat
  | (.string bytes, d) => bytes.length + uptoBulk d + 1
  | (_, d) => uptoBulk d + 1
 end
def uptoSmall : (H : Type) → List (DataW H) → Bool := fun _ ds => decide (uptoBulkAll ds ≤ 1048576)
def OpenSpec.upto (s : _root_.Go.ChangeSpec) : _root_.Go.OpenSpec := { _root_.Go.OpenSpec.ofChange s with cond := some uptoSmall }

/-- 'waymarklaw14.PacketGets', WHERE WHAT IT READS IS OF BULK AT MOST 1048576: true; the input reads as it did. -/
def packetGetsUptoRow : OpenClaim := { program := "ytblgcekomnnfmaa", sum := "07996f6c26cd88ccc03c4772fee8df268db20d7321800c88f339681ecd47b588", func := "waymark/waymarklaw14.PacketGets", spec := "packetGets", apart := false, narrowed := true }
def PacketGetsUptoSaid : Prop := packetGetsUptoRow.holds Try.pinned (OpenSpec.upto packetGetsSpec)

/-- 'waymarklaw14.PacketTurns', WHERE WHAT IT READS IS OF BULK AT MOST 1048576: true; the input reads as it did. -/
def packetTurnsUptoRow : OpenClaim := { program := "ytblgcekomnnfmaa", sum := "07996f6c26cd88ccc03c4772fee8df268db20d7321800c88f339681ecd47b588", func := "waymark/waymarklaw14.PacketTurns", spec := "packetTurns", apart := false, narrowed := true }
def PacketTurnsUptoSaid : Prop := packetTurnsUptoRow.holds Try.pinned (OpenSpec.upto packetTurnsSpec)

/-- 'waymarklaw07.SlotSectors', WHERE WHAT IT READS IS OF BULK AT MOST 1048576: true; the input reads as it did. -/
def slotSectorsUptoRow : OpenClaim := { program := "ytblgcekomnnfmaa", sum := "07996f6c26cd88ccc03c4772fee8df268db20d7321800c88f339681ecd47b588", func := "waymark/waymarklaw07.SlotSectors", spec := "slotSectors", unfollowed := true, recurses := true, apart := false, narrowed := true }
def SlotSectorsUptoSaid : Prop := slotSectorsUptoRow.holds Try.pinned (OpenSpec.upto slotSectorsSpec)

/-- 'waymarklaw07.SlotTears', WHERE WHAT IT READS IS OF BULK AT MOST 1048576: true; the input reads as it did. -/
def slotTearsUptoRow : OpenClaim := { program := "ytblgcekomnnfmaa", sum := "07996f6c26cd88ccc03c4772fee8df268db20d7321800c88f339681ecd47b588", func := "waymark/waymarklaw07.SlotTears", spec := "slotTears", unfollowed := true, recurses := true, apart := false, narrowed := true }
def SlotTearsUptoSaid : Prop := slotTearsUptoRow.holds Try.pinned (OpenSpec.upto slotTearsSpec)

/-- 'waymarklaw07.SlotLoads', WHERE WHAT IT READS IS OF BULK AT MOST 1048576: true; the input reads as it did. -/
def slotLoadsUptoRow : OpenClaim := { program := "ytblgcekomnnfmaa", sum := "07996f6c26cd88ccc03c4772fee8df268db20d7321800c88f339681ecd47b588", func := "waymark/waymarklaw07.SlotLoads", spec := "slotLoads", unfollowed := true, recurses := true, apart := false, narrowed := true }
def SlotLoadsUptoSaid : Prop := slotLoadsUptoRow.holds Try.pinned (OpenSpec.upto slotLoadsSpec)

/-- 'waymarklaw14.PacketPuts', WHERE WHAT IT READS IS OF BULK AT MOST 1048576: true; the input reads as it did. -/
def packetPutsUptoRow : OpenClaim := { program := "ytblgcekomnnfmaa", sum := "07996f6c26cd88ccc03c4772fee8df268db20d7321800c88f339681ecd47b588", func := "waymark/waymarklaw14.PacketPuts", spec := "packetPuts", unfollowed := true, recurses := true, apart := false, narrowed := true }
def PacketPutsUptoSaid : Prop := packetPutsUptoRow.holds Try.pinned (OpenSpec.upto packetPutsSpec)

end Rows
end Go.Proofs.Ytblgcekomnnfmaa
