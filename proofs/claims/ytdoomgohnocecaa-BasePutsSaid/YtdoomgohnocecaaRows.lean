/-
  No cell of these rows narrows 'for every input' (looked for: loops, veiled, ifaces, maps, wideKeys, modest, calm, conditions, laid).
  DERIVED. THE GIVEN ROWS OF THIS SEAT. 4 by the template 'for every input the law returns true; each argument reads behind the call as it read before'; 0 by the template 'total and deterministic' (their statements: YtdoomgohnocecaaTotals.lean).
  GIVEN WITH THE SEED: the statements are not yours to turn. If you find one false, say at which input.
  Laid BY PROGRAM, IN A SANDBOX (cutbox-rows.mjs): the forced cells as the released guide's own fill.sh prints them over the translation ed3ea73fe50b0ea1… (all of the seat's roots in one cut). By AI agents, Wed Nov 11 2026. No macro, syntax, notation, axiom, sorry.
-/
import Derived.Test.YtdoomgohnocecaaChecked
import GoSem.Claim
import GoSem.ClaimJoined
import GoSem.ClaimMapViews
import Derived.JoinedTies
import Derived.KernelRfl
namespace Go.Proofs.Ytdoomgohnocecaa
/- THE CELL 'sum', in the pinned program and in every row, IS THE sha256 OF THE DUMP (.gsa) THAT YtdoomgohnocecaaProg.lean LOADS. Nothing in Lean hashes anything: it is a label: what it is worth is what the hold of that sum in a sandbox is worth. -/
noncomputable def Try.pinned : Pinned := { name := "ytdoomgohnocecaa", sum := "ed3ea73fe50b0ea17d728afe4e5205b7a5cffc9b11b79ba1dfa9a79959d45860", checked := Try.checked }
namespace Rows
def none {H : Type} : Left H := { results := [], args := [] }

/-- 'waymarklaw11.BaseApplies': WHATEVER THE INPUT: true; the input reads as it did. -/
def baseAppliesSpec : ChangeSpec := { name := "baseApplies", fn := fun _ => fun
  | [d1, d2] => { results := [.lit (.bool true)], args := [d1, d2] }
  | _ => none }
def baseAppliesRow : OpenClaim := { program := "ytdoomgohnocecaa", sum := "ed3ea73fe50b0ea17d728afe4e5205b7a5cffc9b11b79ba1dfa9a79959d45860", func := "waymark/waymarklaw11.BaseApplies", spec := "baseApplies", inPlace := ["slices.overlaps[waymark/api.Lsa]", "slices.overlaps[waymark/api.Epoch]"], unfollowed := true, recurses := true, apart := false }
def BaseAppliesSaid : Prop := baseAppliesRow.holds Try.pinned (OpenSpec.ofChange baseAppliesSpec)

/-- ITS FALSE NEIGHBOUR: 'it returns false'. Refute it at one input. -/
def baseAppliesWrong : ChangeSpec := { name := "baseApplies", fn := fun _ => fun
  | [d1, d2] => { results := [.lit (.bool false)], args := [d1, d2] }
  | _ => none }
def BaseAppliesWrongFalsely : Prop := baseAppliesRow.holds Try.pinned (OpenSpec.ofChange baseAppliesWrong)

/-- 'waymarklaw11.BaseParts': WHATEVER THE INPUT: true; the input reads as it did. -/
def basePartsSpec : ChangeSpec := { name := "baseParts", fn := fun _ => fun
  | [d1, d2, d3] => { results := [.lit (.bool true)], args := [d1, d2, d3] }
  | _ => none }
def basePartsRow : OpenClaim := { program := "ytdoomgohnocecaa", sum := "ed3ea73fe50b0ea17d728afe4e5205b7a5cffc9b11b79ba1dfa9a79959d45860", func := "waymark/waymarklaw11.BaseParts", spec := "baseParts", inPlace := ["slices.overlaps[waymark/api.Lsa]", "slices.overlaps[waymark/api.Epoch]"], unfollowed := true, recurses := true, apart := false }
def BasePartsSaid : Prop := basePartsRow.holds Try.pinned (OpenSpec.ofChange basePartsSpec)

/-- ITS FALSE NEIGHBOUR: 'it returns false'. Refute it at one input. -/
def basePartsWrong : ChangeSpec := { name := "baseParts", fn := fun _ => fun
  | [d1, d2, d3] => { results := [.lit (.bool false)], args := [d1, d2, d3] }
  | _ => none }
def BasePartsWrongFalsely : Prop := basePartsRow.holds Try.pinned (OpenSpec.ofChange basePartsWrong)

/-- 'waymarklaw11.BaseGets': WHATEVER THE INPUT: true; the input reads as it did. -/
def baseGetsSpec : ChangeSpec := { name := "baseGets", fn := fun _ => fun
  | [d] => { results := [.lit (.bool true)], args := [d] }
  | _ => none }
def baseGetsRow : OpenClaim := { program := "ytdoomgohnocecaa", sum := "ed3ea73fe50b0ea17d728afe4e5205b7a5cffc9b11b79ba1dfa9a79959d45860", func := "waymark/waymarklaw11.BaseGets", spec := "baseGets", inPlace := ["slices.overlaps[waymark/api.Lsa]", "slices.overlaps[waymark/api.Epoch]"], unfollowed := true, recurses := true, apart := false }
def BaseGetsSaid : Prop := baseGetsRow.holds Try.pinned (OpenSpec.ofChange baseGetsSpec)

/-- ITS FALSE NEIGHBOUR: 'it returns false'. Refute it at one input. -/
def baseGetsWrong : ChangeSpec := { name := "baseGets", fn := fun _ => fun
  | [d] => { results := [.lit (.bool false)], args := [d] }
  | _ => none }
def BaseGetsWrongFalsely : Prop := baseGetsRow.holds Try.pinned (OpenSpec.ofChange baseGetsWrong)

/-- 'waymarklaw11.BasePuts': WHATEVER THE INPUT: true; the input reads as it did. -/
def basePutsSpec : ChangeSpec := { name := "basePuts", fn := fun _ => fun
  | [d1, d2] => { results := [.lit (.bool true)], args := [d1, d2] }
  | _ => none }
def basePutsRow : OpenClaim := { program := "ytdoomgohnocecaa", sum := "ed3ea73fe50b0ea17d728afe4e5205b7a5cffc9b11b79ba1dfa9a79959d45860", func := "waymark/waymarklaw11.BasePuts", spec := "basePuts", inPlace := ["slices.overlaps[waymark/api.Lsa]", "slices.overlaps[waymark/api.Epoch]"], unfollowed := true, recurses := true, apart := false }
def BasePutsSaid : Prop := basePutsRow.holds Try.pinned (OpenSpec.ofChange basePutsSpec)

/-- ITS FALSE NEIGHBOUR: 'it returns false'. Refute it at one input. -/
def basePutsWrong : ChangeSpec := { name := "basePuts", fn := fun _ => fun
  | [d1, d2] => { results := [.lit (.bool false)], args := [d1, d2] }
  | _ => none }
def BasePutsWrongFalsely : Prop := basePutsRow.holds Try.pinned (OpenSpec.ofChange basePutsWrong)

/- THE SECOND FORM. 'bulk': how many values and letters a reading holds, each counted each time it is reached (what is shared counts as often as it is met; a slice's spare places count too). A statement '..UptoSaid' is the law's where the arguments, and the package variables that the reading takes, are together of bulk at most 1048576: NARROWER than '..Said'. Prove '..Said' where nothing that the law and all that it calls make is longer than what came in: it says more and counts as full. Else prove '..UptoSaid'. A law counts once. -/
mutual
def uptoBulk {H : Type} : DataW H → Nat
  | .lit (.string bytes) => bytes.length + 1
  | .lit _ => 1
  | .nil => 1
  | .ptr d => uptoBulk d + 1
  | .slice elems spare => uptoBulkAll elems + uptoBulkAll spare + 1
  | .agg parts => uptoBulkAll parts + 1
  | .iface _ d => uptoBulk d + 1
  | .map entries => uptoBulkEntries entries + 1
  | .held _ => 1
def uptoBulkAll {H : Type} : List (DataW H) → Nat
  | [] => 0
  | d :: r => uptoBulk d + uptoBulkAll r
def uptoBulkEntries {H : Type} : List (Lit × DataW H) → Nat
  | [] => 0
  | x :: r => uptoBulkEntry x + uptoBulkEntries r
def uptoBulkEntry {H : Type} : Lit × DataW H → Nat
  | (.string bytes, d) => bytes.length + uptoBulk d + 1
  | (_, d) => uptoBulk d + 1
 end
def uptoSmall : (H : Type) → List (DataW H) → Bool := fun _ ds => decide (uptoBulkAll ds ≤ 1048576)
def OpenSpec.upto (s : _root_.Go.ChangeSpec) : _root_.Go.OpenSpec := { _root_.Go.OpenSpec.ofChange s with cond := some uptoSmall }

/-- 'waymarklaw11.BaseApplies', WHERE WHAT IT READS IS OF BULK AT MOST 1048576: true; the input reads as it did. -/
def baseAppliesUptoRow : OpenClaim := { program := "ytdoomgohnocecaa", sum := "ed3ea73fe50b0ea17d728afe4e5205b7a5cffc9b11b79ba1dfa9a79959d45860", func := "waymark/waymarklaw11.BaseApplies", spec := "baseApplies", inPlace := ["slices.overlaps[waymark/api.Lsa]", "slices.overlaps[waymark/api.Epoch]"], unfollowed := true, recurses := true, apart := false, narrowed := true }
def BaseAppliesUptoSaid : Prop := baseAppliesUptoRow.holds Try.pinned (OpenSpec.upto baseAppliesSpec)

/-- 'waymarklaw11.BaseParts', WHERE WHAT IT READS IS OF BULK AT MOST 1048576: true; the input reads as it did. -/
def basePartsUptoRow : OpenClaim := { program := "ytdoomgohnocecaa", sum := "ed3ea73fe50b0ea17d728afe4e5205b7a5cffc9b11b79ba1dfa9a79959d45860", func := "waymark/waymarklaw11.BaseParts", spec := "baseParts", inPlace := ["slices.overlaps[waymark/api.Lsa]", "slices.overlaps[waymark/api.Epoch]"], unfollowed := true, recurses := true, apart := false, narrowed := true }
def BasePartsUptoSaid : Prop := basePartsUptoRow.holds Try.pinned (OpenSpec.upto basePartsSpec)

/-- 'waymarklaw11.BaseGets', WHERE WHAT IT READS IS OF BULK AT MOST 1048576: true; the input reads as it did. -/
def baseGetsUptoRow : OpenClaim := { program := "ytdoomgohnocecaa", sum := "ed3ea73fe50b0ea17d728afe4e5205b7a5cffc9b11b79ba1dfa9a79959d45860", func := "waymark/waymarklaw11.BaseGets", spec := "baseGets", inPlace := ["slices.overlaps[waymark/api.Lsa]", "slices.overlaps[waymark/api.Epoch]"], unfollowed := true, recurses := true, apart := false, narrowed := true }
def BaseGetsUptoSaid : Prop := baseGetsUptoRow.holds Try.pinned (OpenSpec.upto baseGetsSpec)

/-- 'waymarklaw11.BasePuts', WHERE WHAT IT READS IS OF BULK AT MOST 1048576: true; the input reads as it did. -/
def basePutsUptoRow : OpenClaim := { program := "ytdoomgohnocecaa", sum := "ed3ea73fe50b0ea17d728afe4e5205b7a5cffc9b11b79ba1dfa9a79959d45860", func := "waymark/waymarklaw11.BasePuts", spec := "basePuts", inPlace := ["slices.overlaps[waymark/api.Lsa]", "slices.overlaps[waymark/api.Epoch]"], unfollowed := true, recurses := true, apart := false, narrowed := true }
def BasePutsUptoSaid : Prop := basePutsUptoRow.holds Try.pinned (OpenSpec.upto basePutsSpec)

end Rows
end Go.Proofs.Ytdoomgohnocecaa
