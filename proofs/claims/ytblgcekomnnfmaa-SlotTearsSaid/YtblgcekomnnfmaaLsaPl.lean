import Derived.Test.YtblgcekomnnfmaaOctPl
set_option linter.unusedSimpArgs false
set_option linter.unusedVariables false
set_option linter.constructorNameAsVariable false
namespace Go.Vai.L
open Go.Vai.O
structure LinkS where
  to : Int
  co : Int
  deriving DecidableEq, Inhabited
structure Lsa where
  o : Int
  s : Int
  nil : Bool
  ls : List LinkS
def linkA (x : LinkS) : AV := .agg [.i .i64 x.to, .i .i64 x.co]
@[simp] theorem noPtrL_links (ls : List LinkS) : noPtrL (ls.map linkA) = true := noPtrL_map (fun _ => rfl) _
def node (n : Int) : Bool := decide (n ≥ 1) && decide (n ≤ 64)
/-- May a link stand behind another one? -/
def linkOK (o last : Int) (x : LinkS) : Bool := node x.to && (decide (last < x.to) && (!decide (x.to = o) && (decide (1 ≤ x.co) && decide (x.co ≤ 1073741824))))
def linksOK (o : Int) : Int → List LinkS → Bool
  | _, [] => true
  | last, x :: r => linkOK o last x && linksOK o x.to r
def lsaOK (l : Lsa) : Bool := node l.o && (decide (1 ≤ l.s) && (decide (l.s ≤ 4611686018427387904) && (decide (l.ls.length ≤ 16) && linksOK l.o 0 l.ls)))
def lsaE (l : Lsa) : Int := if lsaOK l then 0 else 1
def lastOf (ls : List LinkS) (k : Nat) : Int := if k = 0 then 0 else (ls.getD ((k : Int) - 1).toNat default).to
/-- A link's bytes; an Lsa's. -/
def linkB (x : LinkS) : List (BitVec 8) := numR x.to 1 ++ numR x.co 4
def linksB (ls : List LinkS) : List (BitVec 8) := ls.flatMap linkB
def lsaB (l : Lsa) : List (BitVec 8) := numR l.o 1 ++ (numR l.s 8 ++ (numR (l.ls.length : Int) 1 ++ linksB l.ls))
theorem numR_one (n : Int) : numR n 1 = [BitVec.ofInt 8 n] := by simp [numR, byteAt]
def lsaS (l : Lsa) : List (BitVec 8) := if lsaOK l then lsaB l else []
theorem numS1 (n : Int) : numS 1 n = numR n 1 := by rw [show numS 1 n = numB 1 n 1 from by simp [numS, mayW]]; exact numB_numR n 1
theorem numS4 (n : Int) : numS 4 n = numR n 4 := by rw [show numS 4 n = numB 4 n 4 from by simp [numS, mayW]]; exact numB_numR n 4
theorem nm1 (nil : Bool) : (nil && !mayW 1) = false := by cases nil <;> decide
theorem nm4 (nil : Bool) : (nil && !mayW 4) = false := by cases nil <;> decide
/-- Links that are read, one behind the other, as long as nothing is wrong. -/
def rdStep (p : List LinkS × List (BitVec 8) × Bool) : List LinkS × List (BitVec 8) × Bool :=
  if p.2.2 then p else
    let l1 := rnL p.2.1 p.2.2 1
    let w1 := rnW p.2.1 p.2.2 1
    (p.1 ++ [⟨rnV p.2.1 p.2.2 1, rnV l1 w1 4⟩], rnL l1 w1 4, rnW l1 w1 4)
def rdLinks (l : List (BitVec 8)) (w : Bool) : Nat → List LinkS × List (BitVec 8) × Bool
  | 0 => ([], l, w)
  | k + 1 => rdStep (rdLinks l w k)
def lsaA (l : Lsa) : AV := .agg [.i .i64 l.o, .i .i64 l.s, .sl 2 l.nil (l.ls.map linkA)]
def lsa0 : Lsa := ⟨0, 0, true, []⟩
/-- What is read of bytes: the head's rest, and behind it the links. -/
def hdL (l : List (BitVec 8)) (w : Bool) : List (BitVec 8) := rnL (rnL (rnL l w 1) (rnW l w 1) 8) (rnW (rnL l w 1) (rnW l w 1) 8) 1
def hdW (l : List (BitVec 8)) (w : Bool) : Bool := rnW (rnL (rnL l w 1) (rnW l w 1) 8) (rnW (rnL l w 1) (rnW l w 1) 8) 1
def hdN (l : List (BitVec 8)) (w : Bool) : Int := rnV (rnL (rnL l w 1) (rnW l w 1) 8) (rnW (rnL l w 1) (rnW l w 1) 8) 1
def rdP (l : List (BitVec 8)) (w : Bool) := rdLinks (hdL l w) (hdW l w) (hdN l w).toNat
def rdRaw (l : List (BitVec 8)) (w : Bool) : Lsa := ⟨rnV l w 1, IntKind.i64.wrap (rnV (rnL l w 1) (rnW l w 1) 8), (rdP l w).1.isEmpty, (rdP l w).1⟩
def rdR (l : List (BitVec 8)) (w : Bool) : List (BitVec 8) := (rdP l w).2.1
def rdW (l : List (BitVec 8)) (w : Bool) : Bool := (rdP l w).2.2
def rdOK (l : List (BitVec 8)) (w : Bool) : Bool := !rdW l w && lsaOK (rdRaw l w)
def rdL (l : List (BitVec 8)) (w : Bool) : Lsa := if rdOK l w then rdRaw l w else lsa0
/-! The document's answer: the Lsa that bytes begin with. -/
def rfB (l : List (BitVec 8)) : Nat := (l.getD 9 default).toNat
def rfShort (l : List (BitVec 8)) : Bool := decide (l.length < 10) || decide ((l.length : Int) < 10 + 5 * (rfB l : Int))
def rfLink (l : List (BitVec 8)) (k : Nat) : LinkS := ⟨((l.getD (10 + 5 * k) default).toNat : Int), rV l (11 + 5 * k) false 4⟩
def rfLinks (l : List (BitVec 8)) (k : Nat) : List LinkS := (List.range k).map (rfLink l)
def rfRaw (l : List (BitVec 8)) : Lsa := ⟨((l.getD 0 default).toNat : Int), IntKind.i64.wrap (rV l 1 false 8), (rfLinks l (rfB l)).isEmpty, rfLinks l (rfB l)⟩
def rfOK (l : List (BitVec 8)) : Bool := !rfShort l && lsaOK (rfRaw l)
def rfL (l : List (BitVec 8)) : Lsa := if rfOK l then rfRaw l else lsa0
def rfN (l : List (BitVec 8)) : Int := if rfOK l then 10 + 5 * (rfB l : Int) else 0
theorem rV_range4 (l : List (BitVec 8)) (at_ : Nat) (w : Bool) : 0 ≤ rV l at_ w 4 ∧ rV l at_ w 4 < 4294967296 := by
  unfold rV
  split
  · omega
  · obtain ⟨h1, h2⟩ := numV_range _ ((l.drop at_).take (4 : Int).toNat) rfl
    refine ⟨h1, Int.lt_of_lt_of_le h2 (Int.le_trans (pow256 (b := 4) ?_) (by decide))⟩
    simp; omega
theorem getD_get {l : List (BitVec 8)} {k : Nat} (h : k < l.length) : l[k] = l.getD k default := by rw [List.getD_eq_getElem?_getD, List.getElem?_eq_getElem h]; rfl
end Go.Vai.L
