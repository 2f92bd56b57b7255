/-
  No cell of these rows narrows 'for every input' (looked for: loops, veiled, ifaces, maps, wideKeys, modest, calm, conditions, laid).
  DERIVED. THE GIVEN ROWS OF THIS SEAT. 12 by the template 'for every input the law returns true; each argument reads behind the call as it read before'; 0 by the template 'total and deterministic' (their statements: YtompjoadhhjddaaTotals.lean).
  GIVEN WITH THE SEED: the statements are not yours to turn. If you find one false, say at which input.
  Laid BY PROGRAM, IN A SANDBOX (cutbox-rows.mjs): the forced cells as the released guide's own fill.sh prints them over the translation d793200020465c2b… (all of the seat's roots in one cut). By AI agents, Wed Nov 11 2026. No macro, syntax, notation, axiom, sorry.
-/
import Derived.Test.YtompjoadhhjddaaChecked
import GoSem.Claim
import GoSem.ClaimJoined
import GoSem.ClaimMapViews
import Derived.JoinedTies
import Derived.KernelRfl
namespace Go.Proofs.Ytompjoadhhjddaa
/- THE CELL 'sum', in the pinned program and in every row, IS THE sha256 OF THE DUMP (.gsa) THAT YtompjoadhhjddaaProg.lean LOADS. Nothing in Lean hashes anything: it is a label: what it is worth is what the hold of that sum in a sandbox is worth. -/
noncomputable def Try.pinned : Pinned := { name := "ytompjoadhhjddaa", sum := "d793200020465c2b50b9f48bfa620447818e3c76f801b53268de67c41991fbc4", checked := Try.checked }
namespace Rows
def none {H : Type} : Left H := { results := [], args := [] }

/-- 'waymarklaw09.LsaPuts': WHATEVER THE INPUT: true; the input reads as it did. -/
def lsaPutsSpec : ChangeSpec := { name := "lsaPuts", fn := fun _ => fun
  | [d1, d2, d3] => { results := [.lit (.bool true)], args := [d1, d2, d3] }
  | _ => none }
def lsaPutsRow : OpenClaim := { program := "ytompjoadhhjddaa", sum := "d793200020465c2b50b9f48bfa620447818e3c76f801b53268de67c41991fbc4", func := "waymark/waymarklaw09.LsaPuts", spec := "lsaPuts", apart := false }
def LsaPutsSaid : Prop := lsaPutsRow.holds Try.pinned (OpenSpec.ofChange lsaPutsSpec)

/-- ITS FALSE NEIGHBOUR: 'it returns false'. Refute it at one input. -/
def lsaPutsWrong : ChangeSpec := { name := "lsaPuts", fn := fun _ => fun
  | [d1, d2, d3] => { results := [.lit (.bool false)], args := [d1, d2, d3] }
  | _ => none }
def LsaPutsWrongFalsely : Prop := lsaPutsRow.holds Try.pinned (OpenSpec.ofChange lsaPutsWrong)

/-- 'waymarklaw09.LsaReads': WHATEVER THE INPUT: true; the input reads as it did. -/
def lsaReadsSpec : ChangeSpec := { name := "lsaReads", fn := fun _ => fun
  | [d] => { results := [.lit (.bool true)], args := [d] }
  | _ => none }
def lsaReadsRow : OpenClaim := { program := "ytompjoadhhjddaa", sum := "d793200020465c2b50b9f48bfa620447818e3c76f801b53268de67c41991fbc4", func := "waymark/waymarklaw09.LsaReads", spec := "lsaReads", apart := false }
def LsaReadsSaid : Prop := lsaReadsRow.holds Try.pinned (OpenSpec.ofChange lsaReadsSpec)

/-- ITS FALSE NEIGHBOUR: 'it returns false'. Refute it at one input. -/
def lsaReadsWrong : ChangeSpec := { name := "lsaReads", fn := fun _ => fun
  | [d] => { results := [.lit (.bool false)], args := [d] }
  | _ => none }
def LsaReadsWrongFalsely : Prop := lsaReadsRow.holds Try.pinned (OpenSpec.ofChange lsaReadsWrong)

/-- 'waymarklaw09.LsaTells': WHATEVER THE INPUT: true; the input reads as it did. -/
def lsaTellsSpec : ChangeSpec := { name := "lsaTells", fn := fun _ => fun
  | [d1, d2, d3] => { results := [.lit (.bool true)], args := [d1, d2, d3] }
  | _ => none }
def lsaTellsRow : OpenClaim := { program := "ytompjoadhhjddaa", sum := "d793200020465c2b50b9f48bfa620447818e3c76f801b53268de67c41991fbc4", func := "waymark/waymarklaw09.LsaTells", spec := "lsaTells", unfollowed := true, recurses := true, apart := false }
def LsaTellsSaid : Prop := lsaTellsRow.holds Try.pinned (OpenSpec.ofChange lsaTellsSpec)

/-- ITS FALSE NEIGHBOUR: 'it returns false'. Refute it at one input. -/
def lsaTellsWrong : ChangeSpec := { name := "lsaTells", fn := fun _ => fun
  | [d1, d2, d3] => { results := [.lit (.bool false)], args := [d1, d2, d3] }
  | _ => none }
def LsaTellsWrongFalsely : Prop := lsaTellsRow.holds Try.pinned (OpenSpec.ofChange lsaTellsWrong)

/-- 'waymarklaw05.RecordSplits': WHATEVER THE INPUT: true; the input reads as it did. -/
def recordSplitsSpec : ChangeSpec := { name := "recordSplits", fn := fun _ => fun
  | [d1, d2, d3] => { results := [.lit (.bool true)], args := [d1, d2, d3] }
  | _ => none }
def recordSplitsRow : OpenClaim := { program := "ytompjoadhhjddaa", sum := "d793200020465c2b50b9f48bfa620447818e3c76f801b53268de67c41991fbc4", func := "waymark/waymarklaw05.RecordSplits", spec := "recordSplits", apart := false }
def RecordSplitsSaid : Prop := recordSplitsRow.holds Try.pinned (OpenSpec.ofChange recordSplitsSpec)

/-- ITS FALSE NEIGHBOUR: 'it returns false'. Refute it at one input. -/
def recordSplitsWrong : ChangeSpec := { name := "recordSplits", fn := fun _ => fun
  | [d1, d2, d3] => { results := [.lit (.bool false)], args := [d1, d2, d3] }
  | _ => none }
def RecordSplitsWrongFalsely : Prop := recordSplitsRow.holds Try.pinned (OpenSpec.ofChange recordSplitsWrong)

/-- 'waymarklaw05.RecordJoins': WHATEVER THE INPUT: true; the input reads as it did. -/
def recordJoinsSpec : ChangeSpec := { name := "recordJoins", fn := fun _ => fun
  | [d] => { results := [.lit (.bool true)], args := [d] }
  | _ => none }
def recordJoinsRow : OpenClaim := { program := "ytompjoadhhjddaa", sum := "d793200020465c2b50b9f48bfa620447818e3c76f801b53268de67c41991fbc4", func := "waymark/waymarklaw05.RecordJoins", spec := "recordJoins", apart := false }
def RecordJoinsSaid : Prop := recordJoinsRow.holds Try.pinned (OpenSpec.ofChange recordJoinsSpec)

/-- ITS FALSE NEIGHBOUR: 'it returns false'. Refute it at one input. -/
def recordJoinsWrong : ChangeSpec := { name := "recordJoins", fn := fun _ => fun
  | [d] => { results := [.lit (.bool false)], args := [d] }
  | _ => none }
def RecordJoinsWrongFalsely : Prop := recordJoinsRow.holds Try.pinned (OpenSpec.ofChange recordJoinsWrong)

/-- 'waymarklaw05.RecordMixes': WHATEVER THE INPUT: true; the input reads as it did. -/
def recordMixesSpec : ChangeSpec := { name := "recordMixes", fn := fun _ => fun
  | [d1, d2, d3] => { results := [.lit (.bool true)], args := [d1, d2, d3] }
  | _ => none }
def recordMixesRow : OpenClaim := { program := "ytompjoadhhjddaa", sum := "d793200020465c2b50b9f48bfa620447818e3c76f801b53268de67c41991fbc4", func := "waymark/waymarklaw05.RecordMixes", spec := "recordMixes", apart := false }
def RecordMixesSaid : Prop := recordMixesRow.holds Try.pinned (OpenSpec.ofChange recordMixesSpec)

/-- ITS FALSE NEIGHBOUR: 'it returns false'. Refute it at one input. -/
def recordMixesWrong : ChangeSpec := { name := "recordMixes", fn := fun _ => fun
  | [d1, d2, d3] => { results := [.lit (.bool false)], args := [d1, d2, d3] }
  | _ => none }
def RecordMixesWrongFalsely : Prop := recordMixesRow.holds Try.pinned (OpenSpec.ofChange recordMixesWrong)

/-- 'waymarklaw10.ChangeGets': WHATEVER THE INPUT: true; the input reads as it did. -/
def changeGetsSpec : ChangeSpec := { name := "changeGets", fn := fun _ => fun
  | [d] => { results := [.lit (.bool true)], args := [d] }
  | _ => none }
def changeGetsRow : OpenClaim := { program := "ytompjoadhhjddaa", sum := "d793200020465c2b50b9f48bfa620447818e3c76f801b53268de67c41991fbc4", func := "waymark/waymarklaw10.ChangeGets", spec := "changeGets", apart := false }
def ChangeGetsSaid : Prop := changeGetsRow.holds Try.pinned (OpenSpec.ofChange changeGetsSpec)

/-- ITS FALSE NEIGHBOUR: 'it returns false'. Refute it at one input. -/
def changeGetsWrong : ChangeSpec := { name := "changeGets", fn := fun _ => fun
  | [d] => { results := [.lit (.bool false)], args := [d] }
  | _ => none }
def ChangeGetsWrongFalsely : Prop := changeGetsRow.holds Try.pinned (OpenSpec.ofChange changeGetsWrong)

/-- 'waymarklaw10.ChangeOne': WHATEVER THE INPUT: true; the input reads as it did. -/
def changeOneSpec : ChangeSpec := { name := "changeOne", fn := fun _ => fun
  | [d] => { results := [.lit (.bool true)], args := [d] }
  | _ => none }
def changeOneRow : OpenClaim := { program := "ytompjoadhhjddaa", sum := "d793200020465c2b50b9f48bfa620447818e3c76f801b53268de67c41991fbc4", func := "waymark/waymarklaw10.ChangeOne", spec := "changeOne", apart := false }
def ChangeOneSaid : Prop := changeOneRow.holds Try.pinned (OpenSpec.ofChange changeOneSpec)

/-- ITS FALSE NEIGHBOUR: 'it returns false'. Refute it at one input. -/
def changeOneWrong : ChangeSpec := { name := "changeOne", fn := fun _ => fun
  | [d] => { results := [.lit (.bool false)], args := [d] }
  | _ => none }
def ChangeOneWrongFalsely : Prop := changeOneRow.holds Try.pinned (OpenSpec.ofChange changeOneWrong)

/-- 'waymarklaw10.ChangePuts': WHATEVER THE INPUT: true; the input reads as it did. -/
def changePutsSpec : ChangeSpec := { name := "changePuts", fn := fun _ => fun
  | [d1, d2, d3] => { results := [.lit (.bool true)], args := [d1, d2, d3] }
  | _ => none }
def changePutsRow : OpenClaim := { program := "ytompjoadhhjddaa", sum := "d793200020465c2b50b9f48bfa620447818e3c76f801b53268de67c41991fbc4", func := "waymark/waymarklaw10.ChangePuts", spec := "changePuts", apart := false }
def ChangePutsSaid : Prop := changePutsRow.holds Try.pinned (OpenSpec.ofChange changePutsSpec)

/-- ITS FALSE NEIGHBOUR: 'it returns false'. Refute it at one input. -/
def changePutsWrong : ChangeSpec := { name := "changePuts", fn := fun _ => fun
  | [d1, d2, d3] => { results := [.lit (.bool false)], args := [d1, d2, d3] }
  | _ => none }
def ChangePutsWrongFalsely : Prop := changePutsRow.holds Try.pinned (OpenSpec.ofChange changePutsWrong)

/-- 'waymarklaw04.PageGets': WHATEVER THE INPUT: true; the input reads as it did. -/
def pageGetsSpec : ChangeSpec := { name := "pageGets", fn := fun _ => fun
  | [d] => { results := [.lit (.bool true)], args := [d] }
  | _ => none }
def pageGetsRow : OpenClaim := { program := "ytompjoadhhjddaa", sum := "d793200020465c2b50b9f48bfa620447818e3c76f801b53268de67c41991fbc4", func := "waymark/waymarklaw04.PageGets", spec := "pageGets", unfollowed := true, recurses := true, apart := false }
def PageGetsSaid : Prop := pageGetsRow.holds Try.pinned (OpenSpec.ofChange pageGetsSpec)

/-- ITS FALSE NEIGHBOUR: 'it returns false'. Refute it at one input. -/
def pageGetsWrong : ChangeSpec := { name := "pageGets", fn := fun _ => fun
  | [d] => { results := [.lit (.bool false)], args := [d] }
  | _ => none }
def PageGetsWrongFalsely : Prop := pageGetsRow.holds Try.pinned (OpenSpec.ofChange pageGetsWrong)

/-- 'waymarklaw04.PageTurns': WHATEVER THE INPUT: true; the input reads as it did. -/
def pageTurnsSpec : ChangeSpec := { name := "pageTurns", fn := fun _ => fun
  | [d1, d2, d3] => { results := [.lit (.bool true)], args := [d1, d2, d3] }
  | _ => none }
def pageTurnsRow : OpenClaim := { program := "ytompjoadhhjddaa", sum := "d793200020465c2b50b9f48bfa620447818e3c76f801b53268de67c41991fbc4", func := "waymark/waymarklaw04.PageTurns", spec := "pageTurns", unfollowed := true, recurses := true, apart := false }
def PageTurnsSaid : Prop := pageTurnsRow.holds Try.pinned (OpenSpec.ofChange pageTurnsSpec)

/-- ITS FALSE NEIGHBOUR: 'it returns false'. Refute it at one input. -/
def pageTurnsWrong : ChangeSpec := { name := "pageTurns", fn := fun _ => fun
  | [d1, d2, d3] => { results := [.lit (.bool false)], args := [d1, d2, d3] }
  | _ => none }
def PageTurnsWrongFalsely : Prop := pageTurnsRow.holds Try.pinned (OpenSpec.ofChange pageTurnsWrong)

/-- 'waymarklaw04.PagePuts': WHATEVER THE INPUT: true; the input reads as it did. -/
def pagePutsSpec : ChangeSpec := { name := "pagePuts", fn := fun _ => fun
  | [d1, d2] => { results := [.lit (.bool true)], args := [d1, d2] }
  | _ => none }
def pagePutsRow : OpenClaim := { program := "ytompjoadhhjddaa", sum := "d793200020465c2b50b9f48bfa620447818e3c76f801b53268de67c41991fbc4", func := "waymark/waymarklaw04.PagePuts", spec := "pagePuts", unfollowed := true, recurses := true, apart := false }
def PagePutsSaid : Prop := pagePutsRow.holds Try.pinned (OpenSpec.ofChange pagePutsSpec)

/-- ITS FALSE NEIGHBOUR: 'it returns false'. Refute it at one input. -/
def pagePutsWrong : ChangeSpec := { name := "pagePuts", fn := fun _ => fun
  | [d1, d2] => { results := [.lit (.bool false)], args := [d1, d2] }
  | _ => none }
def PagePutsWrongFalsely : Prop := pagePutsRow.holds Try.pinned (OpenSpec.ofChange pagePutsWrong)

/- THE SECOND FORM. 'bulk': how many values and letters a reading holds, each counted each time it is reached (what is shared counts as often as it is met; a slice's spare places count too). A statement '..UptoSaid' is the law's where the arguments, and the package variables that the reading takes, are together of bulk at most 1048576: NARROWER than '..Said'. Prove '..Said' where nothing that the law and all that it calls make is longer than what came in: it says more and counts as full. Else prove '..UptoSaid'. A law counts once. -/
mutual
def uptoBulk {H : Type} : DataW H → Nat
  | .lit (.string bytes) => bytes.length + 1
  | .lit _ => 1
  | .nil => 1
  | .ptr d => uptoBulk d + 1
  | .slice elems spare => uptoBulkAll elems + uptoBulkAll spare + 1
  | .agg parts => uptoBulkAll parts + 1
  | .iface _ d => uptoBulk d + 1
  | .map entries => uptoBulkEntries entries + 1
  | .held _ => 1
def uptoBulkAll {H : Type} : List (DataW H) → Nat
  | [] => 0
  | d :: r => uptoBulk d + uptoBulkAll r
def uptoBulkEntries {H : Type} : List (Lit × DataW H) → Nat
  | [] => 0
  | x :: r => uptoBulkEntry x + uptoBulkEntries r
def uptoBulkEntry {H : Type} : Lit × DataW H → Nat
  | (.string bytes, d) => bytes.length + uptoBulk d + 1
  | (_, d) => uptoBulk d + 1
 end
def uptoSmall : (H : Type) → List (DataW H) → Bool := fun _ ds => decide (uptoBulkAll ds ≤ 1048576)
def OpenSpec.upto (s : _root_.Go.ChangeSpec) : _root_.Go.OpenSpec := { _root_.Go.OpenSpec.ofChange s with cond := some uptoSmall }

/-- 'waymarklaw09.LsaPuts', WHERE WHAT IT READS IS OF BULK AT MOST 1048576: true; the input reads as it did. -/
def lsaPutsUptoRow : OpenClaim := { program := "ytompjoadhhjddaa", sum := "d793200020465c2b50b9f48bfa620447818e3c76f801b53268de67c41991fbc4", func := "waymark/waymarklaw09.LsaPuts", spec := "lsaPuts", apart := false, narrowed := true }
def LsaPutsUptoSaid : Prop := lsaPutsUptoRow.holds Try.pinned (OpenSpec.upto lsaPutsSpec)

/-- 'waymarklaw09.LsaReads', WHERE WHAT IT READS IS OF BULK AT MOST 1048576: true; the input reads as it did. -/
def lsaReadsUptoRow : OpenClaim := { program := "ytompjoadhhjddaa", sum := "d793200020465c2b50b9f48bfa620447818e3c76f801b53268de67c41991fbc4", func := "waymark/waymarklaw09.LsaReads", spec := "lsaReads", apart := false, narrowed := true }
def LsaReadsUptoSaid : Prop := lsaReadsUptoRow.holds Try.pinned (OpenSpec.upto lsaReadsSpec)

/-- 'waymarklaw09.LsaTells', WHERE WHAT IT READS IS OF BULK AT MOST 1048576: true; the input reads as it did. -/
def lsaTellsUptoRow : OpenClaim := { program := "ytompjoadhhjddaa", sum := "d793200020465c2b50b9f48bfa620447818e3c76f801b53268de67c41991fbc4", func := "waymark/waymarklaw09.LsaTells", spec := "lsaTells", unfollowed := true, recurses := true, apart := false, narrowed := true }
def LsaTellsUptoSaid : Prop := lsaTellsUptoRow.holds Try.pinned (OpenSpec.upto lsaTellsSpec)

/-- 'waymarklaw05.RecordSplits', WHERE WHAT IT READS IS OF BULK AT MOST 1048576: true; the input reads as it did. -/
def recordSplitsUptoRow : OpenClaim := { program := "ytompjoadhhjddaa", sum := "d793200020465c2b50b9f48bfa620447818e3c76f801b53268de67c41991fbc4", func := "waymark/waymarklaw05.RecordSplits", spec := "recordSplits", apart := false, narrowed := true }
def RecordSplitsUptoSaid : Prop := recordSplitsUptoRow.holds Try.pinned (OpenSpec.upto recordSplitsSpec)

/-- 'waymarklaw05.RecordJoins', WHERE WHAT IT READS IS OF BULK AT MOST 1048576: true; the input reads as it did. -/
def recordJoinsUptoRow : OpenClaim := { program := "ytompjoadhhjddaa", sum := "d793200020465c2b50b9f48bfa620447818e3c76f801b53268de67c41991fbc4", func := "waymark/waymarklaw05.RecordJoins", spec := "recordJoins", apart := false, narrowed := true }
def RecordJoinsUptoSaid : Prop := recordJoinsUptoRow.holds Try.pinned (OpenSpec.upto recordJoinsSpec)

/-- 'waymarklaw05.RecordMixes', WHERE WHAT IT READS IS OF BULK AT MOST 1048576: true; the input reads as it did. -/
def recordMixesUptoRow : OpenClaim := { program := "ytompjoadhhjddaa", sum := "d793200020465c2b50b9f48bfa620447818e3c76f801b53268de67c41991fbc4", func := "waymark/waymarklaw05.RecordMixes", spec := "recordMixes", apart := false, narrowed := true }
def RecordMixesUptoSaid : Prop := recordMixesUptoRow.holds Try.pinned (OpenSpec.upto recordMixesSpec)

/-- 'waymarklaw10.ChangeGets', WHERE WHAT IT READS IS OF BULK AT MOST 1048576: true; the input reads as it did. -/
def changeGetsUptoRow : OpenClaim := { program := "ytompjoadhhjddaa", sum := "d793200020465c2b50b9f48bfa620447818e3c76f801b53268de67c41991fbc4", func := "waymark/waymarklaw10.ChangeGets", spec := "changeGets", apart := false, narrowed := true }
def ChangeGetsUptoSaid : Prop := changeGetsUptoRow.holds Try.pinned (OpenSpec.upto changeGetsSpec)

/-- 'waymarklaw10.ChangeOne', WHERE WHAT IT READS IS OF BULK AT MOST 1048576: true; the input reads as it did. -/
def changeOneUptoRow : OpenClaim := { program := "ytompjoadhhjddaa", sum := "d793200020465c2b50b9f48bfa620447818e3c76f801b53268de67c41991fbc4", func := "waymark/waymarklaw10.ChangeOne", spec := "changeOne", apart := false, narrowed := true }
def ChangeOneUptoSaid : Prop := changeOneUptoRow.holds Try.pinned (OpenSpec.upto changeOneSpec)

/-- 'waymarklaw10.ChangePuts', WHERE WHAT IT READS IS OF BULK AT MOST 1048576: true; the input reads as it did. -/
def changePutsUptoRow : OpenClaim := { program := "ytompjoadhhjddaa", sum := "d793200020465c2b50b9f48bfa620447818e3c76f801b53268de67c41991fbc4", func := "waymark/waymarklaw10.ChangePuts", spec := "changePuts", apart := false, narrowed := true }
def ChangePutsUptoSaid : Prop := changePutsUptoRow.holds Try.pinned (OpenSpec.upto changePutsSpec)

/-- 'waymarklaw04.PageGets', WHERE WHAT IT READS IS OF BULK AT MOST 1048576: true; the input reads as it did. -/
def pageGetsUptoRow : OpenClaim := { program := "ytompjoadhhjddaa", sum := "d793200020465c2b50b9f48bfa620447818e3c76f801b53268de67c41991fbc4", func := "waymark/waymarklaw04.PageGets", spec := "pageGets", unfollowed := true, recurses := true, apart := false, narrowed := true }
def PageGetsUptoSaid : Prop := pageGetsUptoRow.holds Try.pinned (OpenSpec.upto pageGetsSpec)

/-- 'waymarklaw04.PageTurns', WHERE WHAT IT READS IS OF BULK AT MOST 1048576: true; the input reads as it did. -/
def pageTurnsUptoRow : OpenClaim := { program := "ytompjoadhhjddaa", sum := "d793200020465c2b50b9f48bfa620447818e3c76f801b53268de67c41991fbc4", func := "waymark/waymarklaw04.PageTurns", spec := "pageTurns", unfollowed := true, recurses := true, apart := false, narrowed := true }
def PageTurnsUptoSaid : Prop := pageTurnsUptoRow.holds Try.pinned (OpenSpec.upto pageTurnsSpec)

/-- 'waymarklaw04.PagePuts', WHERE WHAT IT READS IS OF BULK AT MOST 1048576: true; the input reads as it did. -/
def pagePutsUptoRow : OpenClaim := { program := "ytompjoadhhjddaa", sum := "d793200020465c2b50b9f48bfa620447818e3c76f801b53268de67c41991fbc4", func := "waymark/waymarklaw04.PagePuts", spec := "pagePuts", unfollowed := true, recurses := true, apart := false, narrowed := true }
def PagePutsUptoSaid : Prop := pagePutsUptoRow.holds Try.pinned (OpenSpec.upto pagePutsSpec)

end Rows
end Go.Proofs.Ytompjoadhhjddaa
