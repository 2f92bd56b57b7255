import Derived.Test.YtblgcekomnnfmaaPktBk
set_option linter.unusedSimpArgs false
set_option linter.unusedVariables false
set_option linter.constructorNameAsVariable false
namespace Go.Vai.P
open Go.Vai.O Go.Vai.L Go.Vai.G
structure Sr where
  hs : List LinkS
  xs : List LinkS
  ls : List Lsa
  a : Nat
def rHear (b : List (BitVec 8)) (a : Nat) : LinkS := ⟨at1 b a, rV b (a + 1) false 4⟩
def rItem (b : List (BitVec 8)) (a : Nat) : LinkS := ⟨at1 b a, IntKind.i64.wrap (rV b (a + 1) false 8)⟩
def rstep (kind : Int) (b : List (BitVec 8)) (s : Sr) : Option Sr :=
  if s.a < b.length then
    if kind = 1 then some ⟨s.hs ++ [rHear b s.a], s.xs, s.ls, s.a + 5⟩
    else if kind = 4 then (if rfOK (b.drop s.a) then some ⟨s.hs, s.xs, s.ls ++ [rfL (b.drop s.a)], s.a + (10 + 5 * rfB (b.drop s.a))⟩ else none)
    else some ⟨s.hs, s.xs ++ [rItem b s.a], s.ls, s.a + 9⟩
  else some s
def rloop (kind : Int) (b : List (BitVec 8)) (a0 : Nat) : Nat → Option Sr
  | 0 => some ⟨[], [], [], a0⟩
  | k + 1 => (rloop kind b a0 k).bind (rstep kind b)
def rEp (b : List (BitVec 8)) : Int := if at1 b 0 = 2 ∨ at1 b 0 = 3 then rV b 11 false 4 else 0
def rTe (b : List (BitVec 8)) : Int := if at1 b 0 = 3 then rV b 15 false 4 else 0
def rA0 (b : List (BitVec 8)) : Nat := if at1 b 0 = 2 ∨ at1 b 0 = 3 then 16 else 12
def rMany (b : List (BitVec 8)) : Int := if at1 b 0 = 3 then 0 else if at1 b 0 = 2 ∧ (b.length : Int) > 15 then at1 b 15 else at1 b 11
def rMk (b : List (BitVec 8)) (s : Sr) : Pkt := mkP (at1 b 0) (at1 b 1) (rV b 2 false 4) (at1 b 6) (rV b 7 false 4) (rEp b) (rTe b) s.hs s.xs s.ls
def rEnd (b : List (BitVec 8)) : Option Sr := rloop (at1 b 0) b (rA0 b) (rMany b).toNat
end Go.Vai.P
