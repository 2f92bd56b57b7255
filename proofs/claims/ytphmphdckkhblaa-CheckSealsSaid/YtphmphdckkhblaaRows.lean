/-
  No cell of these rows narrows 'for every input' (looked for: loops, veiled, ifaces, maps, wideKeys, modest, calm, conditions, laid).
  DERIVED. THE GIVEN ROWS OF THIS SEAT. 15 by the template 'for every input the law returns true; each argument reads behind the call as it read before'; 0 by the template 'total and deterministic' (their statements: YtphmphdckkhblaaTotals.lean).
  GIVEN WITH THE SEED: the statements are not yours to turn. If you find one false, say at which input.
  Laid BY PROGRAM, IN A SANDBOX (cutbox-rows.mjs): the forced cells as the released guide's own fill.sh prints them over the translation 8f298102ac84e93d… (all of the seat's roots in one cut). By AI agents, Wed Nov 11 2026. No macro, syntax, notation, axiom, sorry.
-/
import Derived.Test.YtphmphdckkhblaaChecked
import GoSem.Claim
import GoSem.ClaimJoined
import GoSem.ClaimMapViews
import Derived.JoinedTies
import Derived.KernelRfl
namespace Go.Proofs.Ytphmphdckkhblaa
/- THE CELL 'sum', in the pinned program and in every row, IS THE sha256 OF THE DUMP (.gsa) THAT YtphmphdckkhblaaProg.lean LOADS. Nothing in Lean hashes anything: it is a label: what it is worth is what the hold of that sum in a sandbox is worth. -/
noncomputable def Try.pinned : Pinned := { name := "ytphmphdckkhblaa", sum := "8f298102ac84e93d607a797a295f18c0fb7cc3689d12a187894a4f46928bfd5e", checked := Try.checked }
namespace Rows
def none {H : Type} : Left H := { results := [], args := [] }

/-- 'waymarklaw01.CheckOf': WHATEVER THE INPUT: true; the input reads as it did. -/
def checkOfSpec : ChangeSpec := { name := "checkOf", fn := fun _ => fun
  | [d1, d2, d3] => { results := [.lit (.bool true)], args := [d1, d2, d3] }
  | _ => none }
def checkOfRow : OpenClaim := { program := "ytphmphdckkhblaa", sum := "8f298102ac84e93d607a797a295f18c0fb7cc3689d12a187894a4f46928bfd5e", func := "waymark/waymarklaw01.CheckOf", spec := "checkOf", apart := false }
def CheckOfSaid : Prop := checkOfRow.holds Try.pinned (OpenSpec.ofChange checkOfSpec)

/-- ITS FALSE NEIGHBOUR: 'it returns false'. Refute it at one input. -/
def checkOfWrong : ChangeSpec := { name := "checkOf", fn := fun _ => fun
  | [d1, d2, d3] => { results := [.lit (.bool false)], args := [d1, d2, d3] }
  | _ => none }
def CheckOfWrongFalsely : Prop := checkOfRow.holds Try.pinned (OpenSpec.ofChange checkOfWrong)

/-- 'waymarklaw01.CheckThree': WHATEVER THE INPUT: true; the input reads as it did. -/
def checkThreeSpec : ChangeSpec := { name := "checkThree", fn := fun _ => fun
  | [d1, d2, d3] => { results := [.lit (.bool true)], args := [d1, d2, d3] }
  | _ => none }
def checkThreeRow : OpenClaim := { program := "ytphmphdckkhblaa", sum := "8f298102ac84e93d607a797a295f18c0fb7cc3689d12a187894a4f46928bfd5e", func := "waymark/waymarklaw01.CheckThree", spec := "checkThree", apart := false }
def CheckThreeSaid : Prop := checkThreeRow.holds Try.pinned (OpenSpec.ofChange checkThreeSpec)

/-- ITS FALSE NEIGHBOUR: 'it returns false'. Refute it at one input. -/
def checkThreeWrong : ChangeSpec := { name := "checkThree", fn := fun _ => fun
  | [d1, d2, d3] => { results := [.lit (.bool false)], args := [d1, d2, d3] }
  | _ => none }
def CheckThreeWrongFalsely : Prop := checkThreeRow.holds Try.pinned (OpenSpec.ofChange checkThreeWrong)

/-- 'waymarklaw01.CheckTurns': WHATEVER THE INPUT: true; the input reads as it did. -/
def checkTurnsSpec : ChangeSpec := { name := "checkTurns", fn := fun _ => fun
  | [d1, d2, d3] => { results := [.lit (.bool true)], args := [d1, d2, d3] }
  | _ => none }
def checkTurnsRow : OpenClaim := { program := "ytphmphdckkhblaa", sum := "8f298102ac84e93d607a797a295f18c0fb7cc3689d12a187894a4f46928bfd5e", func := "waymark/waymarklaw01.CheckTurns", spec := "checkTurns", apart := false }
def CheckTurnsSaid : Prop := checkTurnsRow.holds Try.pinned (OpenSpec.ofChange checkTurnsSpec)

/-- ITS FALSE NEIGHBOUR: 'it returns false'. Refute it at one input. -/
def checkTurnsWrong : ChangeSpec := { name := "checkTurns", fn := fun _ => fun
  | [d1, d2, d3] => { results := [.lit (.bool false)], args := [d1, d2, d3] }
  | _ => none }
def CheckTurnsWrongFalsely : Prop := checkTurnsRow.holds Try.pinned (OpenSpec.ofChange checkTurnsWrong)

/-- 'waymarklaw06.PlotMakes': WHATEVER THE INPUT: true; the input reads as it did. -/
def plotMakesSpec : ChangeSpec := { name := "plotMakes", fn := fun _ => fun
  | [d1, d2, d3] => { results := [.lit (.bool true)], args := [d1, d2, d3] }
  | _ => none }
def plotMakesRow : OpenClaim := { program := "ytphmphdckkhblaa", sum := "8f298102ac84e93d607a797a295f18c0fb7cc3689d12a187894a4f46928bfd5e", func := "waymark/waymarklaw06.PlotMakes", spec := "plotMakes", apart := false }
def PlotMakesSaid : Prop := plotMakesRow.holds Try.pinned (OpenSpec.ofChange plotMakesSpec)

/-- ITS FALSE NEIGHBOUR: 'it returns false'. Refute it at one input. -/
def plotMakesWrong : ChangeSpec := { name := "plotMakes", fn := fun _ => fun
  | [d1, d2, d3] => { results := [.lit (.bool false)], args := [d1, d2, d3] }
  | _ => none }
def PlotMakesWrongFalsely : Prop := plotMakesRow.holds Try.pinned (OpenSpec.ofChange plotMakesWrong)

/-- 'waymarklaw06.PlotParts': WHATEVER THE INPUT: true; the input reads as it did. -/
def plotPartsSpec : ChangeSpec := { name := "plotParts", fn := fun _ => fun
  | [d1, d2] => { results := [.lit (.bool true)], args := [d1, d2] }
  | _ => none }
def plotPartsRow : OpenClaim := { program := "ytphmphdckkhblaa", sum := "8f298102ac84e93d607a797a295f18c0fb7cc3689d12a187894a4f46928bfd5e", func := "waymark/waymarklaw06.PlotParts", spec := "plotParts", apart := false }
def PlotPartsSaid : Prop := plotPartsRow.holds Try.pinned (OpenSpec.ofChange plotPartsSpec)

/-- ITS FALSE NEIGHBOUR: 'it returns false'. Refute it at one input. -/
def plotPartsWrong : ChangeSpec := { name := "plotParts", fn := fun _ => fun
  | [d1, d2] => { results := [.lit (.bool false)], args := [d1, d2] }
  | _ => none }
def PlotPartsWrongFalsely : Prop := plotPartsRow.holds Try.pinned (OpenSpec.ofChange plotPartsWrong)

/-- 'waymarklaw17.NearHello': WHATEVER THE INPUT: true; the input reads as it did. -/
def nearHelloSpec : ChangeSpec := { name := "nearHello", fn := fun _ => fun
  | [d1, d2, d3] => { results := [.lit (.bool true)], args := [d1, d2, d3] }
  | _ => none }
def nearHelloRow : OpenClaim := { program := "ytphmphdckkhblaa", sum := "8f298102ac84e93d607a797a295f18c0fb7cc3689d12a187894a4f46928bfd5e", func := "waymark/waymarklaw17.NearHello", spec := "nearHello", apart := false }
def NearHelloSaid : Prop := nearHelloRow.holds Try.pinned (OpenSpec.ofChange nearHelloSpec)

/-- ITS FALSE NEIGHBOUR: 'it returns false'. Refute it at one input. -/
def nearHelloWrong : ChangeSpec := { name := "nearHello", fn := fun _ => fun
  | [d1, d2, d3] => { results := [.lit (.bool false)], args := [d1, d2, d3] }
  | _ => none }
def NearHelloWrongFalsely : Prop := nearHelloRow.holds Try.pinned (OpenSpec.ofChange nearHelloWrong)

/-- 'waymarklaw13.SpaceTells': WHATEVER THE INPUT: true; the input reads as it did. -/
def spaceTellsSpec : ChangeSpec := { name := "spaceTells", fn := fun _ => fun
  | [d1, d2] => { results := [.lit (.bool true)], args := [d1, d2] }
  | _ => none }
def spaceTellsRow : OpenClaim := { program := "ytphmphdckkhblaa", sum := "8f298102ac84e93d607a797a295f18c0fb7cc3689d12a187894a4f46928bfd5e", func := "waymark/waymarklaw13.SpaceTells", spec := "spaceTells", apart := false }
def SpaceTellsSaid : Prop := spaceTellsRow.holds Try.pinned (OpenSpec.ofChange spaceTellsSpec)

/-- ITS FALSE NEIGHBOUR: 'it returns false'. Refute it at one input. -/
def spaceTellsWrong : ChangeSpec := { name := "spaceTells", fn := fun _ => fun
  | [d1, d2] => { results := [.lit (.bool false)], args := [d1, d2] }
  | _ => none }
def SpaceTellsWrongFalsely : Prop := spaceTellsRow.holds Try.pinned (OpenSpec.ofChange spaceTellsWrong)

/-- 'waymarklaw13.SpaceRises': WHATEVER THE INPUT: true; the input reads as it did. -/
def spaceRisesSpec : ChangeSpec := { name := "spaceRises", fn := fun _ => fun
  | [d1, d2] => { results := [.lit (.bool true)], args := [d1, d2] }
  | _ => none }
def spaceRisesRow : OpenClaim := { program := "ytphmphdckkhblaa", sum := "8f298102ac84e93d607a797a295f18c0fb7cc3689d12a187894a4f46928bfd5e", func := "waymark/waymarklaw13.SpaceRises", spec := "spaceRises", apart := false }
def SpaceRisesSaid : Prop := spaceRisesRow.holds Try.pinned (OpenSpec.ofChange spaceRisesSpec)

/-- ITS FALSE NEIGHBOUR: 'it returns false'. Refute it at one input. -/
def spaceRisesWrong : ChangeSpec := { name := "spaceRises", fn := fun _ => fun
  | [d1, d2] => { results := [.lit (.bool false)], args := [d1, d2] }
  | _ => none }
def SpaceRisesWrongFalsely : Prop := spaceRisesRow.holds Try.pinned (OpenSpec.ofChange spaceRisesWrong)

/-- 'waymarklaw02.OctetPuts': WHATEVER THE INPUT: true; the input reads as it did. -/
def octetPutsSpec : ChangeSpec := { name := "octetPuts", fn := fun _ => fun
  | [d] => { results := [.lit (.bool true)], args := [d] }
  | _ => none }
def octetPutsRow : OpenClaim := { program := "ytphmphdckkhblaa", sum := "8f298102ac84e93d607a797a295f18c0fb7cc3689d12a187894a4f46928bfd5e", func := "waymark/waymarklaw02.OctetPuts", spec := "octetPuts", apart := false }
def OctetPutsSaid : Prop := octetPutsRow.holds Try.pinned (OpenSpec.ofChange octetPutsSpec)

/-- ITS FALSE NEIGHBOUR: 'it returns false'. Refute it at one input. -/
def octetPutsWrong : ChangeSpec := { name := "octetPuts", fn := fun _ => fun
  | [d] => { results := [.lit (.bool false)], args := [d] }
  | _ => none }
def OctetPutsWrongFalsely : Prop := octetPutsRow.holds Try.pinned (OpenSpec.ofChange octetPutsWrong)

/-- 'waymarklaw17.NearTells': WHATEVER THE INPUT: true; the input reads as it did. -/
def nearTellsSpec : ChangeSpec := { name := "nearTells", fn := fun _ => fun
  | [d1, d2] => { results := [.lit (.bool true)], args := [d1, d2] }
  | _ => none }
def nearTellsRow : OpenClaim := { program := "ytphmphdckkhblaa", sum := "8f298102ac84e93d607a797a295f18c0fb7cc3689d12a187894a4f46928bfd5e", func := "waymark/waymarklaw17.NearTells", spec := "nearTells", apart := false }
def NearTellsSaid : Prop := nearTellsRow.holds Try.pinned (OpenSpec.ofChange nearTellsSpec)

/-- ITS FALSE NEIGHBOUR: 'it returns false'. Refute it at one input. -/
def nearTellsWrong : ChangeSpec := { name := "nearTells", fn := fun _ => fun
  | [d1, d2] => { results := [.lit (.bool false)], args := [d1, d2] }
  | _ => none }
def NearTellsWrongFalsely : Prop := nearTellsRow.holds Try.pinned (OpenSpec.ofChange nearTellsWrong)

/-- 'waymarklaw17.NearGoes': WHATEVER THE INPUT: true; the input reads as it did. -/
def nearGoesSpec : ChangeSpec := { name := "nearGoes", fn := fun _ => fun
  | [d1, d2] => { results := [.lit (.bool true)], args := [d1, d2] }
  | _ => none }
def nearGoesRow : OpenClaim := { program := "ytphmphdckkhblaa", sum := "8f298102ac84e93d607a797a295f18c0fb7cc3689d12a187894a4f46928bfd5e", func := "waymark/waymarklaw17.NearGoes", spec := "nearGoes", apart := false }
def NearGoesSaid : Prop := nearGoesRow.holds Try.pinned (OpenSpec.ofChange nearGoesSpec)

/-- ITS FALSE NEIGHBOUR: 'it returns false'. Refute it at one input. -/
def nearGoesWrong : ChangeSpec := { name := "nearGoes", fn := fun _ => fun
  | [d1, d2] => { results := [.lit (.bool false)], args := [d1, d2] }
  | _ => none }
def NearGoesWrongFalsely : Prop := nearGoesRow.holds Try.pinned (OpenSpec.ofChange nearGoesWrong)

/-- 'waymarklaw02.OctetReads': WHATEVER THE INPUT: true; the input reads as it did. -/
def octetReadsSpec : ChangeSpec := { name := "octetReads", fn := fun _ => fun
  | [d1, d2] => { results := [.lit (.bool true)], args := [d1, d2] }
  | _ => none }
def octetReadsRow : OpenClaim := { program := "ytphmphdckkhblaa", sum := "8f298102ac84e93d607a797a295f18c0fb7cc3689d12a187894a4f46928bfd5e", func := "waymark/waymarklaw02.OctetReads", spec := "octetReads", apart := false }
def OctetReadsSaid : Prop := octetReadsRow.holds Try.pinned (OpenSpec.ofChange octetReadsSpec)

/-- ITS FALSE NEIGHBOUR: 'it returns false'. Refute it at one input. -/
def octetReadsWrong : ChangeSpec := { name := "octetReads", fn := fun _ => fun
  | [d1, d2] => { results := [.lit (.bool false)], args := [d1, d2] }
  | _ => none }
def OctetReadsWrongFalsely : Prop := octetReadsRow.holds Try.pinned (OpenSpec.ofChange octetReadsWrong)

/-- 'waymarklaw02.OctetBack': WHATEVER THE INPUT: true; the input reads as it did. -/
def octetBackSpec : ChangeSpec := { name := "octetBack", fn := fun _ => fun
  | [d] => { results := [.lit (.bool true)], args := [d] }
  | _ => none }
def octetBackRow : OpenClaim := { program := "ytphmphdckkhblaa", sum := "8f298102ac84e93d607a797a295f18c0fb7cc3689d12a187894a4f46928bfd5e", func := "waymark/waymarklaw02.OctetBack", spec := "octetBack", apart := false }
def OctetBackSaid : Prop := octetBackRow.holds Try.pinned (OpenSpec.ofChange octetBackSpec)

/-- ITS FALSE NEIGHBOUR: 'it returns false'. Refute it at one input. -/
def octetBackWrong : ChangeSpec := { name := "octetBack", fn := fun _ => fun
  | [d] => { results := [.lit (.bool false)], args := [d] }
  | _ => none }
def OctetBackWrongFalsely : Prop := octetBackRow.holds Try.pinned (OpenSpec.ofChange octetBackWrong)

/-- 'waymarklaw02.OctetNone': WHATEVER THE INPUT: true; the input reads as it did. -/
def octetNoneSpec : ChangeSpec := { name := "octetNone", fn := fun _ => fun
  | [d1, d2] => { results := [.lit (.bool true)], args := [d1, d2] }
  | _ => none }
def octetNoneRow : OpenClaim := { program := "ytphmphdckkhblaa", sum := "8f298102ac84e93d607a797a295f18c0fb7cc3689d12a187894a4f46928bfd5e", func := "waymark/waymarklaw02.OctetNone", spec := "octetNone", apart := false }
def OctetNoneSaid : Prop := octetNoneRow.holds Try.pinned (OpenSpec.ofChange octetNoneSpec)

/-- ITS FALSE NEIGHBOUR: 'it returns false'. Refute it at one input. -/
def octetNoneWrong : ChangeSpec := { name := "octetNone", fn := fun _ => fun
  | [d1, d2] => { results := [.lit (.bool false)], args := [d1, d2] }
  | _ => none }
def OctetNoneWrongFalsely : Prop := octetNoneRow.holds Try.pinned (OpenSpec.ofChange octetNoneWrong)

/-- 'waymarklaw01.CheckSeals': WHATEVER THE INPUT: true; the input reads as it did. -/
def checkSealsSpec : ChangeSpec := { name := "checkSeals", fn := fun _ => fun
  | [d1, d2] => { results := [.lit (.bool true)], args := [d1, d2] }
  | _ => none }
def checkSealsRow : OpenClaim := { program := "ytphmphdckkhblaa", sum := "8f298102ac84e93d607a797a295f18c0fb7cc3689d12a187894a4f46928bfd5e", func := "waymark/waymarklaw01.CheckSeals", spec := "checkSeals", apart := false }
def CheckSealsSaid : Prop := checkSealsRow.holds Try.pinned (OpenSpec.ofChange checkSealsSpec)

/-- ITS FALSE NEIGHBOUR: 'it returns false'. Refute it at one input. -/
def checkSealsWrong : ChangeSpec := { name := "checkSeals", fn := fun _ => fun
  | [d1, d2] => { results := [.lit (.bool false)], args := [d1, d2] }
  | _ => none }
def CheckSealsWrongFalsely : Prop := checkSealsRow.holds Try.pinned (OpenSpec.ofChange checkSealsWrong)

/- THE SECOND FORM. 'bulk': how many values and letters a reading holds, each counted each time it is reached (what is shared counts as often as it is met; a slice's spare places count too). A statement '..UptoSaid' is the law's where the arguments, and the package variables that the reading takes, are together of bulk at most 1048576: NARROWER than '..Said'. Prove '..Said' where nothing that the law and all that it calls make is longer than what came in: it says more and counts as full. Else prove '..UptoSaid'. A law counts once. -/
mutual
def uptoBulk {H : Type} : DataW H → Nat
  | .lit (.string bytes) => bytes.length + 1
  | .lit _ => 1
  | .nil => 1
  | .ptr d => uptoBulk d + 1
  | .slice elems spare => uptoBulkAll elems + uptoBulkAll spare + 1
  | .agg parts => uptoBulkAll parts + 1
  | .iface _ d => uptoBulk d + 1
  | .map entries => uptoBulkEntries entries + 1
  | .held _ => 1
def uptoBulkAll {H : Type} : List (DataW H) → Nat
  | [] => 0
  | d :: r => uptoBulk d + uptoBulkAll r
def uptoBulkEntries {H : Type} : List (Lit × DataW H) → Nat
  | [] => 0
  | x :: r => uptoBulkEntry x + uptoBulkEntries r
def uptoBulkEntry {H : Type} : Lit × DataW H → Nat
  | (.string bytes, d) => bytes.length + uptoBulk d + 1
  | (_, d) => uptoBulk d + 1
 end
def uptoSmall : (H : Type) → List (DataW H) → Bool := fun _ ds => decide (uptoBulkAll ds ≤ 1048576)
def OpenSpec.upto (s : _root_.Go.ChangeSpec) : _root_.Go.OpenSpec := { _root_.Go.OpenSpec.ofChange s with cond := some uptoSmall }

/-- 'waymarklaw01.CheckOf', WHERE WHAT IT READS IS OF BULK AT MOST 1048576: true; the input reads as it did. -/
def checkOfUptoRow : OpenClaim := { program := "ytphmphdckkhblaa", sum := "8f298102ac84e93d607a797a295f18c0fb7cc3689d12a187894a4f46928bfd5e", func := "waymark/waymarklaw01.CheckOf", spec := "checkOf", apart := false, narrowed := true }
def CheckOfUptoSaid : Prop := checkOfUptoRow.holds Try.pinned (OpenSpec.upto checkOfSpec)

/-- 'waymarklaw01.CheckThree', WHERE WHAT IT READS IS OF BULK AT MOST 1048576: true; the input reads as it did. -/
def checkThreeUptoRow : OpenClaim := { program := "ytphmphdckkhblaa", sum := "8f298102ac84e93d607a797a295f18c0fb7cc3689d12a187894a4f46928bfd5e", func := "waymark/waymarklaw01.CheckThree", spec := "checkThree", apart := false, narrowed := true }
def CheckThreeUptoSaid : Prop := checkThreeUptoRow.holds Try.pinned (OpenSpec.upto checkThreeSpec)

/-- 'waymarklaw01.CheckTurns', WHERE WHAT IT READS IS OF BULK AT MOST 1048576: true; the input reads as it did. -/
def checkTurnsUptoRow : OpenClaim := { program := "ytphmphdckkhblaa", sum := "8f298102ac84e93d607a797a295f18c0fb7cc3689d12a187894a4f46928bfd5e", func := "waymark/waymarklaw01.CheckTurns", spec := "checkTurns", apart := false, narrowed := true }
def CheckTurnsUptoSaid : Prop := checkTurnsUptoRow.holds Try.pinned (OpenSpec.upto checkTurnsSpec)

/-- 'waymarklaw06.PlotMakes', WHERE WHAT IT READS IS OF BULK AT MOST 1048576: true; the input reads as it did. -/
def plotMakesUptoRow : OpenClaim := { program := "ytphmphdckkhblaa", sum := "8f298102ac84e93d607a797a295f18c0fb7cc3689d12a187894a4f46928bfd5e", func := "waymark/waymarklaw06.PlotMakes", spec := "plotMakes", apart := false, narrowed := true }
def PlotMakesUptoSaid : Prop := plotMakesUptoRow.holds Try.pinned (OpenSpec.upto plotMakesSpec)

/-- 'waymarklaw06.PlotParts', WHERE WHAT IT READS IS OF BULK AT MOST 1048576: true; the input reads as it did. -/
def plotPartsUptoRow : OpenClaim := { program := "ytphmphdckkhblaa", sum := "8f298102ac84e93d607a797a295f18c0fb7cc3689d12a187894a4f46928bfd5e", func := "waymark/waymarklaw06.PlotParts", spec := "plotParts", apart := false, narrowed := true }
def PlotPartsUptoSaid : Prop := plotPartsUptoRow.holds Try.pinned (OpenSpec.upto plotPartsSpec)

/-- 'waymarklaw17.NearHello', WHERE WHAT IT READS IS OF BULK AT MOST 1048576: true; the input reads as it did. -/
def nearHelloUptoRow : OpenClaim := { program := "ytphmphdckkhblaa", sum := "8f298102ac84e93d607a797a295f18c0fb7cc3689d12a187894a4f46928bfd5e", func := "waymark/waymarklaw17.NearHello", spec := "nearHello", apart := false, narrowed := true }
def NearHelloUptoSaid : Prop := nearHelloUptoRow.holds Try.pinned (OpenSpec.upto nearHelloSpec)

/-- 'waymarklaw13.SpaceTells', WHERE WHAT IT READS IS OF BULK AT MOST 1048576: true; the input reads as it did. -/
def spaceTellsUptoRow : OpenClaim := { program := "ytphmphdckkhblaa", sum := "8f298102ac84e93d607a797a295f18c0fb7cc3689d12a187894a4f46928bfd5e", func := "waymark/waymarklaw13.SpaceTells", spec := "spaceTells", apart := false, narrowed := true }
def SpaceTellsUptoSaid : Prop := spaceTellsUptoRow.holds Try.pinned (OpenSpec.upto spaceTellsSpec)

/-- 'waymarklaw13.SpaceRises', WHERE WHAT IT READS IS OF BULK AT MOST 1048576: true; the input reads as it did. -/
def spaceRisesUptoRow : OpenClaim := { program := "ytphmphdckkhblaa", sum := "8f298102ac84e93d607a797a295f18c0fb7cc3689d12a187894a4f46928bfd5e", func := "waymark/waymarklaw13.SpaceRises", spec := "spaceRises", apart := false, narrowed := true }
def SpaceRisesUptoSaid : Prop := spaceRisesUptoRow.holds Try.pinned (OpenSpec.upto spaceRisesSpec)

/-- 'waymarklaw02.OctetPuts', WHERE WHAT IT READS IS OF BULK AT MOST 1048576: true; the input reads as it did. -/
def octetPutsUptoRow : OpenClaim := { program := "ytphmphdckkhblaa", sum := "8f298102ac84e93d607a797a295f18c0fb7cc3689d12a187894a4f46928bfd5e", func := "waymark/waymarklaw02.OctetPuts", spec := "octetPuts", apart := false, narrowed := true }
def OctetPutsUptoSaid : Prop := octetPutsUptoRow.holds Try.pinned (OpenSpec.upto octetPutsSpec)

/-- 'waymarklaw17.NearTells', WHERE WHAT IT READS IS OF BULK AT MOST 1048576: true; the input reads as it did. -/
def nearTellsUptoRow : OpenClaim := { program := "ytphmphdckkhblaa", sum := "8f298102ac84e93d607a797a295f18c0fb7cc3689d12a187894a4f46928bfd5e", func := "waymark/waymarklaw17.NearTells", spec := "nearTells", apart := false, narrowed := true }
def NearTellsUptoSaid : Prop := nearTellsUptoRow.holds Try.pinned (OpenSpec.upto nearTellsSpec)

/-- 'waymarklaw17.NearGoes', WHERE WHAT IT READS IS OF BULK AT MOST 1048576: true; the input reads as it did. -/
def nearGoesUptoRow : OpenClaim := { program := "ytphmphdckkhblaa", sum := "8f298102ac84e93d607a797a295f18c0fb7cc3689d12a187894a4f46928bfd5e", func := "waymark/waymarklaw17.NearGoes", spec := "nearGoes", apart := false, narrowed := true }
def NearGoesUptoSaid : Prop := nearGoesUptoRow.holds Try.pinned (OpenSpec.upto nearGoesSpec)

/-- 'waymarklaw02.OctetReads', WHERE WHAT IT READS IS OF BULK AT MOST 1048576: true; the input reads as it did. -/
def octetReadsUptoRow : OpenClaim := { program := "ytphmphdckkhblaa", sum := "8f298102ac84e93d607a797a295f18c0fb7cc3689d12a187894a4f46928bfd5e", func := "waymark/waymarklaw02.OctetReads", spec := "octetReads", apart := false, narrowed := true }
def OctetReadsUptoSaid : Prop := octetReadsUptoRow.holds Try.pinned (OpenSpec.upto octetReadsSpec)

/-- 'waymarklaw02.OctetBack', WHERE WHAT IT READS IS OF BULK AT MOST 1048576: true; the input reads as it did. -/
def octetBackUptoRow : OpenClaim := { program := "ytphmphdckkhblaa", sum := "8f298102ac84e93d607a797a295f18c0fb7cc3689d12a187894a4f46928bfd5e", func := "waymark/waymarklaw02.OctetBack", spec := "octetBack", apart := false, narrowed := true }
def OctetBackUptoSaid : Prop := octetBackUptoRow.holds Try.pinned (OpenSpec.upto octetBackSpec)

/-- 'waymarklaw02.OctetNone', WHERE WHAT IT READS IS OF BULK AT MOST 1048576: true; the input reads as it did. -/
def octetNoneUptoRow : OpenClaim := { program := "ytphmphdckkhblaa", sum := "8f298102ac84e93d607a797a295f18c0fb7cc3689d12a187894a4f46928bfd5e", func := "waymark/waymarklaw02.OctetNone", spec := "octetNone", apart := false, narrowed := true }
def OctetNoneUptoSaid : Prop := octetNoneUptoRow.holds Try.pinned (OpenSpec.upto octetNoneSpec)

/-- 'waymarklaw01.CheckSeals', WHERE WHAT IT READS IS OF BULK AT MOST 1048576: true; the input reads as it did. -/
def checkSealsUptoRow : OpenClaim := { program := "ytphmphdckkhblaa", sum := "8f298102ac84e93d607a797a295f18c0fb7cc3689d12a187894a4f46928bfd5e", func := "waymark/waymarklaw01.CheckSeals", spec := "checkSeals", apart := false, narrowed := true }
def CheckSealsUptoSaid : Prop := checkSealsUptoRow.holds Try.pinned (OpenSpec.upto checkSealsSpec)

end Rows
end Go.Proofs.Ytphmphdckkhblaa
