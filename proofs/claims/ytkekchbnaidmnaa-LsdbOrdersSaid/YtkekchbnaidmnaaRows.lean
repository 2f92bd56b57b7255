/-
  No cell of these rows narrows 'for every input' (looked for: loops, veiled, ifaces, maps, wideKeys, modest, calm, conditions, laid).
  DERIVED. THE GIVEN ROWS OF THIS SEAT. 4 by the template 'for every input the law returns true; each argument reads behind the call as it read before'; 0 by the template 'total and deterministic' (their statements: YtkekchbnaidmnaaTotals.lean).
  GIVEN WITH THE SEED: the statements are not yours to turn. If you find one false, say at which input.
  Laid BY PROGRAM, IN A SANDBOX (cutbox-rows.mjs): the forced cells as the released guide's own fill.sh prints them over the translation 4b6a1864286c809d… (all of the seat's roots in one cut). By AI agents, Wed Nov 11 2026. No macro, syntax, notation, axiom, sorry.
-/
import Derived.Test.YtkekchbnaidmnaaChecked
import GoSem.Claim
import GoSem.ClaimJoined
import GoSem.ClaimMapViews
import Derived.JoinedTies
import Derived.KernelRfl
namespace Go.Proofs.Ytkekchbnaidmnaa
/- THE CELL 'sum', in the pinned program and in every row, IS THE sha256 OF THE DUMP (.gsa) THAT YtkekchbnaidmnaaProg.lean LOADS. Nothing in Lean hashes anything: it is a label: what it is worth is what the hold of that sum in a sandbox is worth. -/
noncomputable def Try.pinned : Pinned := { name := "ytkekchbnaidmnaa", sum := "4b6a1864286c809d4ae6c7cde77fe4d27aa1c553cdaa75fa6522d1cc3fa53a71", checked := Try.checked }
namespace Rows
def none {H : Type} : Left H := { results := [], args := [] }

/-- 'waymarklaw19.LsdbOrders': WHATEVER THE INPUT: true; the input reads as it did. -/
def lsdbOrdersSpec : ChangeSpec := { name := "lsdbOrders", fn := fun _ => fun
  | [d1, d2] => { results := [.lit (.bool true)], args := [d1, d2] }
  | _ => none }
def lsdbOrdersRow : OpenClaim := { program := "ytkekchbnaidmnaa", sum := "4b6a1864286c809d4ae6c7cde77fe4d27aa1c553cdaa75fa6522d1cc3fa53a71", func := "waymark/waymarklaw19.LsdbOrders", spec := "lsdbOrders", inPlace := ["slices.overlaps[waymark/api.Lsa]"], unfollowed := true, recurses := true, apart := false }
def LsdbOrdersSaid : Prop := lsdbOrdersRow.holds Try.pinned (OpenSpec.ofChange lsdbOrdersSpec)

/-- ITS FALSE NEIGHBOUR: 'it returns false'. Refute it at one input. -/
def lsdbOrdersWrong : ChangeSpec := { name := "lsdbOrders", fn := fun _ => fun
  | [d1, d2] => { results := [.lit (.bool false)], args := [d1, d2] }
  | _ => none }
def LsdbOrdersWrongFalsely : Prop := lsdbOrdersRow.holds Try.pinned (OpenSpec.ofChange lsdbOrdersWrong)

/-- 'waymarklaw19.LsdbPuts': WHATEVER THE INPUT: true; the input reads as it did. -/
def lsdbPutsSpec : ChangeSpec := { name := "lsdbPuts", fn := fun _ => fun
  | [d1, d2, d3] => { results := [.lit (.bool true)], args := [d1, d2, d3] }
  | _ => none }
def lsdbPutsRow : OpenClaim := { program := "ytkekchbnaidmnaa", sum := "4b6a1864286c809d4ae6c7cde77fe4d27aa1c553cdaa75fa6522d1cc3fa53a71", func := "waymark/waymarklaw19.LsdbPuts", spec := "lsdbPuts", inPlace := ["slices.overlaps[waymark/api.Lsa]"], unfollowed := true, recurses := true, apart := false }
def LsdbPutsSaid : Prop := lsdbPutsRow.holds Try.pinned (OpenSpec.ofChange lsdbPutsSpec)

/-- ITS FALSE NEIGHBOUR: 'it returns false'. Refute it at one input. -/
def lsdbPutsWrong : ChangeSpec := { name := "lsdbPuts", fn := fun _ => fun
  | [d1, d2, d3] => { results := [.lit (.bool false)], args := [d1, d2, d3] }
  | _ => none }
def LsdbPutsWrongFalsely : Prop := lsdbPutsRow.holds Try.pinned (OpenSpec.ofChange lsdbPutsWrong)

/-- 'waymarklaw19.LsdbTells': WHATEVER THE INPUT: true; the input reads as it did. -/
def lsdbTellsSpec : ChangeSpec := { name := "lsdbTells", fn := fun _ => fun
  | [d1, d2] => { results := [.lit (.bool true)], args := [d1, d2] }
  | _ => none }
def lsdbTellsRow : OpenClaim := { program := "ytkekchbnaidmnaa", sum := "4b6a1864286c809d4ae6c7cde77fe4d27aa1c553cdaa75fa6522d1cc3fa53a71", func := "waymark/waymarklaw19.LsdbTells", spec := "lsdbTells", inPlace := ["slices.overlaps[waymark/api.Lsa]"], unfollowed := true, recurses := true, apart := false }
def LsdbTellsSaid : Prop := lsdbTellsRow.holds Try.pinned (OpenSpec.ofChange lsdbTellsSpec)

/-- ITS FALSE NEIGHBOUR: 'it returns false'. Refute it at one input. -/
def lsdbTellsWrong : ChangeSpec := { name := "lsdbTells", fn := fun _ => fun
  | [d1, d2] => { results := [.lit (.bool false)], args := [d1, d2] }
  | _ => none }
def LsdbTellsWrongFalsely : Prop := lsdbTellsRow.holds Try.pinned (OpenSpec.ofChange lsdbTellsWrong)

/-- 'waymarklaw19.LsdbMeets': WHATEVER THE INPUT: true; the input reads as it did. -/
def lsdbMeetsSpec : ChangeSpec := { name := "lsdbMeets", fn := fun _ => fun
  | [d1, d2] => { results := [.lit (.bool true)], args := [d1, d2] }
  | _ => none }
def lsdbMeetsRow : OpenClaim := { program := "ytkekchbnaidmnaa", sum := "4b6a1864286c809d4ae6c7cde77fe4d27aa1c553cdaa75fa6522d1cc3fa53a71", func := "waymark/waymarklaw19.LsdbMeets", spec := "lsdbMeets", inPlace := ["slices.overlaps[waymark/api.Lsa]"], unfollowed := true, recurses := true, apart := false }
def LsdbMeetsSaid : Prop := lsdbMeetsRow.holds Try.pinned (OpenSpec.ofChange lsdbMeetsSpec)

/-- ITS FALSE NEIGHBOUR: 'it returns false'. Refute it at one input. -/
def lsdbMeetsWrong : ChangeSpec := { name := "lsdbMeets", fn := fun _ => fun
  | [d1, d2] => { results := [.lit (.bool false)], args := [d1, d2] }
  | _ => none }
def LsdbMeetsWrongFalsely : Prop := lsdbMeetsRow.holds Try.pinned (OpenSpec.ofChange lsdbMeetsWrong)

/- THE SECOND FORM. 'bulk': how many values and letters a reading holds, each counted each time it is reached (what is shared counts as often as it is met; a slice's spare places count too). A statement '..UptoSaid' is the law's where the arguments, and the package variables that the reading takes, are together of bulk at most 1048576: NARROWER than '..Said'. Prove '..Said' where nothing that the law and all that it calls make is longer than what came in: it says more and counts as full. Else prove '..UptoSaid'. A law counts once. -/
mutual
def uptoBulk {H : Type} : DataW H → Nat
  | .lit (.string bytes) => bytes.length + 1
  | .lit _ => 1
  | .nil => 1
  | .ptr d => uptoBulk d + 1
  | .slice elems spare => uptoBulkAll elems + uptoBulkAll spare + 1
  | .agg parts => uptoBulkAll parts + 1
  | .iface _ d => uptoBulk d + 1
  | .map entries => uptoBulkEntries entries + 1
  | .held _ => 1
def uptoBulkAll {H : Type} : List (DataW H) → Nat
  | [] => 0
  | d :: r => uptoBulk d + uptoBulkAll r
def uptoBulkEntries {H : Type} : List (Lit × DataW H) → Nat
  | [] => 0
  | x :: r => uptoBulkEntry x + uptoBulkEntries r
def uptoBulkEntry {H : Type} : Lit × DataW H → Nat
  | (.string bytes, d) => bytes.length + uptoBulk d + 1
  | (_, d) => uptoBulk d + 1
 end
def uptoSmall : (H : Type) → List (DataW H) → Bool := fun _ ds => decide (uptoBulkAll ds ≤ 1048576)
def OpenSpec.upto (s : _root_.Go.ChangeSpec) : _root_.Go.OpenSpec := { _root_.Go.OpenSpec.ofChange s with cond := some uptoSmall }

/-- 'waymarklaw19.LsdbOrders', WHERE WHAT IT READS IS OF BULK AT MOST 1048576: true; the input reads as it did. -/
def lsdbOrdersUptoRow : OpenClaim := { program := "ytkekchbnaidmnaa", sum := "4b6a1864286c809d4ae6c7cde77fe4d27aa1c553cdaa75fa6522d1cc3fa53a71", func := "waymark/waymarklaw19.LsdbOrders", spec := "lsdbOrders", inPlace := ["slices.overlaps[waymark/api.Lsa]"], unfollowed := true, recurses := true, apart := false, narrowed := true }
def LsdbOrdersUptoSaid : Prop := lsdbOrdersUptoRow.holds Try.pinned (OpenSpec.upto lsdbOrdersSpec)

/-- 'waymarklaw19.LsdbPuts', WHERE WHAT IT READS IS OF BULK AT MOST 1048576: true; the input reads as it did. -/
def lsdbPutsUptoRow : OpenClaim := { program := "ytkekchbnaidmnaa", sum := "4b6a1864286c809d4ae6c7cde77fe4d27aa1c553cdaa75fa6522d1cc3fa53a71", func := "waymark/waymarklaw19.LsdbPuts", spec := "lsdbPuts", inPlace := ["slices.overlaps[waymark/api.Lsa]"], unfollowed := true, recurses := true, apart := false, narrowed := true }
def LsdbPutsUptoSaid : Prop := lsdbPutsUptoRow.holds Try.pinned (OpenSpec.upto lsdbPutsSpec)

/-- 'waymarklaw19.LsdbTells', WHERE WHAT IT READS IS OF BULK AT MOST 1048576: true; the input reads as it did. -/
def lsdbTellsUptoRow : OpenClaim := { program := "ytkekchbnaidmnaa", sum := "4b6a1864286c809d4ae6c7cde77fe4d27aa1c553cdaa75fa6522d1cc3fa53a71", func := "waymark/waymarklaw19.LsdbTells", spec := "lsdbTells", inPlace := ["slices.overlaps[waymark/api.Lsa]"], unfollowed := true, recurses := true, apart := false, narrowed := true }
def LsdbTellsUptoSaid : Prop := lsdbTellsUptoRow.holds Try.pinned (OpenSpec.upto lsdbTellsSpec)

/-- 'waymarklaw19.LsdbMeets', WHERE WHAT IT READS IS OF BULK AT MOST 1048576: true; the input reads as it did. -/
def lsdbMeetsUptoRow : OpenClaim := { program := "ytkekchbnaidmnaa", sum := "4b6a1864286c809d4ae6c7cde77fe4d27aa1c553cdaa75fa6522d1cc3fa53a71", func := "waymark/waymarklaw19.LsdbMeets", spec := "lsdbMeets", inPlace := ["slices.overlaps[waymark/api.Lsa]"], unfollowed := true, recurses := true, apart := false, narrowed := true }
def LsdbMeetsUptoSaid : Prop := lsdbMeetsUptoRow.holds Try.pinned (OpenSpec.upto lsdbMeetsSpec)

end Rows
end Go.Proofs.Ytkekchbnaidmnaa
