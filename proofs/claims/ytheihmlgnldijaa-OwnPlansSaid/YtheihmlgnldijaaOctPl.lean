import Derived.Test.YtheihmlgnldijaaVaiD
set_option linter.unusedSimpArgs false
set_option linter.unusedVariables false
namespace Go.Vai.O
def mayW (w : Int) : Bool := decide (w ≥ 1) && decide (w ≤ 8)
def byteAt (n : Int) (i : Nat) : BitVec 8 := BitVec.ofInt 8 (n / 2 ^ (8 * i))
def numB (w : Nat) (n : Int) (k : Nat) : List (BitVec 8) := (List.range k).map fun j => byteAt n (w - 1 - j)
def numS (w n : Int) : List (BitVec 8) := if mayW w then numB w.toNat n w.toNat else []
def numR (n : Int) : Nat → List (BitVec 8)
 | 0 => []
 | k + 1 => byteAt n k :: numR n k
def numV (b : List (BitVec 8)) : Int := b.foldl (fun a c => a * 256 + (c.toNat : Int)) 0
def tkF (nil : Bool) (l : List (BitVec 8)) (w : Bool) (n : Int) : Bool := if w then true else if n > (l.length : Int) then true else nil
def tkV (l : List (BitVec 8)) (w : Bool) (n : Int) : List (BitVec 8) := if w then [] else if n > (l.length : Int) then [] else l.take n.toNat
def tkL (l : List (BitVec 8)) (w : Bool) (n : Int) : List (BitVec 8) := if w then l else if n > (l.length : Int) then l else l.drop n.toNat
def tkW (l : List (BitVec 8)) (w : Bool) (n : Int) : Bool := if w then true else decide (n > (l.length : Int))
def rnV (l : List (BitVec 8)) (w : Bool) (k : Int) : Int := if mayW k then numV (tkV l w k) else 0
def rnL (l : List (BitVec 8)) (w : Bool) (k : Int) : List (BitVec 8) := if mayW k then tkL l w k else l
def rnW (l : List (BitVec 8)) (w : Bool) (k : Int) : Bool := if mayW k then tkW l w k else true
def txW (l : List (BitVec 8)) (w : Bool) : Bool := if w then true else tkW (rnL l false 2) (rnW l false 2) (rnV l false 2)
def txL (l : List (BitVec 8)) (w : Bool) : List (BitVec 8) := if txW l w then l else tkL (rnL l false 2) (rnW l false 2) (rnV l false 2)
def txV (l : List (BitVec 8)) (w : Bool) : List (BitVec 8) := if txW l w then [] else tkV (rnL l false 2) (rnW l false 2) (rnV l false 2)
def txF (nil : Bool) (l : List (BitVec 8)) (w : Bool) : Bool := if txW l w then true else nil
def rBad (l : List (BitVec 8)) (at_ : Nat) (w : Bool) (k : Int) : Bool := ((w || decide (k < 1)) || decide (k > 8)) || decide (k > (l.length : Int) - (at_ : Int))
def rV (l : List (BitVec 8)) (at_ : Nat) (w : Bool) (k : Int) : Int := if rBad l at_ w k then 0 else numV ((l.drop at_).take k.toNat)
def rA (l : List (BitVec 8)) (at_ : Nat) (w : Bool) (k : Int) : Nat := if rBad l at_ w k then at_ else at_ + k.toNat
def sBad (l : List (BitVec 8)) (at_ : Nat) (w : Bool) : Bool := rBad l at_ w 2 || decide (rV l at_ w 2 > (l.length : Int) - (rA l at_ w 2 : Int))
def sA (l : List (BitVec 8)) (at_ : Nat) (w : Bool) : Nat := if sBad l at_ w then at_ else rA l at_ w 2 + (rV l at_ w 2).toNat
def sV (l : List (BitVec 8)) (at_ : Nat) (w : Bool) : List (BitVec 8) := if sBad l at_ w then [] else (l.drop (rA l at_ w 2)).take (rV l at_ w 2).toNat
end Go.Vai.O
