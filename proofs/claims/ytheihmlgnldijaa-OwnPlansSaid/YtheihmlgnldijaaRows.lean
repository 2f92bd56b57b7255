/-
  No cell of these rows narrows 'for every input' (looked for: loops, veiled, ifaces, maps, wideKeys, modest, calm, conditions, laid).
  DERIVED. THE GIVEN ROWS OF THIS SEAT. 2 by the template 'for every input the law returns true; each argument reads behind the call as it read before'; 0 by the template 'total and deterministic' (their statements: YtheihmlgnldijaaTotals.lean).
  GIVEN WITH THE SEED: the statements are not yours to turn. If you find one false, say at which input.
  Laid BY PROGRAM, IN A SANDBOX (cutbox-rows.mjs): the forced cells as the released guide's own fill.sh prints them over the translation e83c496c0cf57b00… (all of the seat's roots in one cut). By AI agents, Wed Nov 11 2026. No macro, syntax, notation, axiom, sorry.
-/
import Derived.Test.YtheihmlgnldijaaChecked
import GoSem.Claim
import GoSem.ClaimJoined
import GoSem.ClaimMapViews
import Derived.JoinedTies
import Derived.KernelRfl
namespace Go.Proofs.Ytheihmlgnldijaa
/- THE CELL 'sum', in the pinned program and in every row, IS THE sha256 OF THE DUMP (.gsa) THAT YtheihmlgnldijaaProg.lean LOADS. Nothing in Lean hashes anything: it is a label: what it is worth is what the hold of that sum in a sandbox is worth. -/
noncomputable def Try.pinned : Pinned := { name := "ytheihmlgnldijaa", sum := "e83c496c0cf57b001761253241793c6d4d68abe866d880ea2c7dcfe4d8711b83", checked := Try.checked }
namespace Rows
def none {H : Type} : Left H := { results := [], args := [] }

/-- 'waymarklaw21.OwnMust': WHATEVER THE INPUT: true; the input reads as it did. -/
def ownMustSpec : ChangeSpec := { name := "ownMust", fn := fun _ => fun
  | [d1, d2, d3] => { results := [.lit (.bool true)], args := [d1, d2, d3] }
  | _ => none }
def ownMustRow : OpenClaim := { program := "ytheihmlgnldijaa", sum := "e83c496c0cf57b001761253241793c6d4d68abe866d880ea2c7dcfe4d8711b83", func := "waymark/waymarklaw21.OwnMust", spec := "ownMust", inPlace := ["slices.overlaps[waymark/api.Lsa]"], unfollowed := true, recurses := true, apart := false }
def OwnMustSaid : Prop := ownMustRow.holds Try.pinned (OpenSpec.ofChange ownMustSpec)

/-- ITS FALSE NEIGHBOUR: 'it returns false'. Refute it at one input. -/
def ownMustWrong : ChangeSpec := { name := "ownMust", fn := fun _ => fun
  | [d1, d2, d3] => { results := [.lit (.bool false)], args := [d1, d2, d3] }
  | _ => none }
def OwnMustWrongFalsely : Prop := ownMustRow.holds Try.pinned (OpenSpec.ofChange ownMustWrong)

/-- 'waymarklaw21.OwnPlans': WHATEVER THE INPUT: true; the input reads as it did. -/
def ownPlansSpec : ChangeSpec := { name := "ownPlans", fn := fun _ => fun
  | [d1, d2, d3] => { results := [.lit (.bool true)], args := [d1, d2, d3] }
  | _ => none }
def ownPlansRow : OpenClaim := { program := "ytheihmlgnldijaa", sum := "e83c496c0cf57b001761253241793c6d4d68abe866d880ea2c7dcfe4d8711b83", func := "waymark/waymarklaw21.OwnPlans", spec := "ownPlans", inPlace := ["slices.overlaps[waymark/api.Lsa]"], unfollowed := true, recurses := true, apart := false }
def OwnPlansSaid : Prop := ownPlansRow.holds Try.pinned (OpenSpec.ofChange ownPlansSpec)

/-- ITS FALSE NEIGHBOUR: 'it returns false'. Refute it at one input. -/
def ownPlansWrong : ChangeSpec := { name := "ownPlans", fn := fun _ => fun
  | [d1, d2, d3] => { results := [.lit (.bool false)], args := [d1, d2, d3] }
  | _ => none }
def OwnPlansWrongFalsely : Prop := ownPlansRow.holds Try.pinned (OpenSpec.ofChange ownPlansWrong)

/- THE SECOND FORM. 'bulk': how many values and letters a reading holds, each counted each time it is reached (what is shared counts as often as it is met; a slice's spare places count too). A statement '..UptoSaid' is the law's where the arguments, and the package variables that the reading takes, are together of bulk at most 1048576: NARROWER than '..Said'. Prove '..Said' where nothing that the law and all that it calls make is longer than what came in: it says more and counts as full. Else prove '..UptoSaid'. A law counts once. -/
mutual
def uptoBulk {H : Type} : DataW H → Nat
  | .lit (.string bytes) => bytes.length + 1
  | .lit _ => 1
  | .nil => 1
  | .ptr d => uptoBulk d + 1
  | .slice elems spare => uptoBulkAll elems + uptoBulkAll spare + 1
  | .agg parts => uptoBulkAll parts + 1
  | .iface _ d => uptoBulk d + 1
  | .map entries => uptoBulkEntries entries + 1
  | .held _ => 1
def uptoBulkAll {H : Type} : List (DataW H) → Nat
  | [] => 0
  | d :: r => uptoBulk d + uptoBulkAll r
def uptoBulkEntries {H : Type} : List (Lit × DataW H) → Nat
  | [] => 0
  | x :: r => uptoBulkEntry x + uptoBulkEntries r
def uptoBulkEntry {H : Type} : Lit × DataW H → Nat
  | (.string bytes, d) => bytes.length + uptoBulk d + 1
  | (_, d) => uptoBulk d + 1
 end
def uptoSmall : (H : Type) → List (DataW H) → Bool := fun _ ds => decide (uptoBulkAll ds ≤ 1048576)
def OpenSpec.upto (s : _root_.Go.ChangeSpec) : _root_.Go.OpenSpec := { _root_.Go.OpenSpec.ofChange s with cond := some uptoSmall }

/-- 'waymarklaw21.OwnMust', WHERE WHAT IT READS IS OF BULK AT MOST 1048576: true; the input reads as it did. -/
def ownMustUptoRow : OpenClaim := { program := "ytheihmlgnldijaa", sum := "e83c496c0cf57b001761253241793c6d4d68abe866d880ea2c7dcfe4d8711b83", func := "waymark/waymarklaw21.OwnMust", spec := "ownMust", inPlace := ["slices.overlaps[waymark/api.Lsa]"], unfollowed := true, recurses := true, apart := false, narrowed := true }
def OwnMustUptoSaid : Prop := ownMustUptoRow.holds Try.pinned (OpenSpec.upto ownMustSpec)

/-- 'waymarklaw21.OwnPlans', WHERE WHAT IT READS IS OF BULK AT MOST 1048576: true; the input reads as it did. -/
def ownPlansUptoRow : OpenClaim := { program := "ytheihmlgnldijaa", sum := "e83c496c0cf57b001761253241793c6d4d68abe866d880ea2c7dcfe4d8711b83", func := "waymark/waymarklaw21.OwnPlans", spec := "ownPlans", inPlace := ["slices.overlaps[waymark/api.Lsa]"], unfollowed := true, recurses := true, apart := false, narrowed := true }
def OwnPlansUptoSaid : Prop := ownPlansUptoRow.holds Try.pinned (OpenSpec.upto ownPlansSpec)

end Rows
end Go.Proofs.Ytheihmlgnldijaa
