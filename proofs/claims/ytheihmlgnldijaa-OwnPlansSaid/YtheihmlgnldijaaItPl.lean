import Derived.Test.YtheihmlgnldijaaOrdPl
set_option linter.unusedSimpArgs false
set_option linter.unusedVariables false
namespace Go.Vai.I
structure It where
 o : Int
 s : Int
 deriving DecidableEq
instance : Inhabited It := ⟨⟨0, 0⟩⟩
def itok (x : It) : Bool := (decide (x.o ≤ 64) && decide (1 ≤ x.s)) && decide (x.s ≤ 4611686018427387904)
def itOK (l : List It) : Bool := chn itok It.o 0 l
def itE (l : List It) : Int := if itOK l then 0 else 1
def it1 (x : It) : Bool := itok x && decide (0 < x.o)
def lastI (ls : List It) (k : Nat) : Int := if k = 0 then 0 else (ls.getD ((k : Int) - 1).toNat default).o
def qK (l : List It) (t : Int) : Int := ((gK It.o l t).map It.s).getD 0
def oweF (r : List It) (y : It) : List It := insP It.o r ⟨y.o, max (qK r y.o) y.s⟩
def payF (r : List It) (y : It) : List It := r.filter fun z => !(decide (z.o = y.o) && decide (z.s ≤ y.s))
def oweS (l x : List It) (k : Nat) : List It := (x.take k).foldl oweF l
def payS (l x : List It) (k : Nat) : List It := (x.take k).foldl payF l
def wI (l : List It) (t q : Int) (i : Nat) : Option It := if (if (i : Int) + 1 = t then q else qK l ((i : Int) + 1)) > 0 then some ⟨(i : Int) + 1, if (i : Int) + 1 = t then q else qK l ((i : Int) + 1)⟩ else none
def wS (l : List It) (t q : Int) (k : Nat) : List It := (List.range k).filterMap (wI l t q)
def rOweF (s : Bool × List It) (y : It) : Bool × List It := if qK s.2 y.o < y.s then (false, wS s.2 y.o y.s 64) else s
def rPayF (s : Bool × List It) (y : It) : Bool × List It := if qK s.2 y.o ≤ y.s then (false, wS s.2 y.o 0 64) else s
def rOweS (nil : Bool) (l x : List It) (k : Nat) : Bool × List It := (x.take k).foldl rOweF (nil, l)
def rPayS (nil : Bool) (l x : List It) (k : Nat) : Bool × List It := (x.take k).foldl rPayF (nil, l)
def oweR (nil : Bool) (l x : List It) : Bool × List It × Int := if itOK l && x.all it1 then (nil && decide (x.length = 0), oweS l x x.length, 0) else (true, [], 1)
def payR (nil : Bool) (l x : List It) : Bool × List It × Int := if itOK l && x.all it1 then (nil, payS l x x.length, 0) else (true, [], 1)
def nextR (nil : Bool) (l : List It) (most : Int) : Bool × List It := if itOK l && decide (1 ≤ most) then (nil, l.take (min most l.length).toNat) else (true, [])
end Go.Vai.I
