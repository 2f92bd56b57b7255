import Derived.Test.YtheihmlgnldijaaDbPl2
import Derived.Test.YtheihmlgnldijaaVaiD
set_option linter.unusedSimpArgs false
set_option linter.unusedVariables false
namespace Go.Vai.D
open Go.Vai.I Go.Vai.L
structure Dl where
 n1 : Bool
 nw : List Lsa
 n2 : Bool
 gn : List Int
 n3 : Bool
 ol : List Lsa
def dl0 : Dl := ⟨true, [], true, [], true, []⟩
abbrev gD (l : List Lsa) (t : Int) : Lsa := (gK Lsa.o l t).getD default
def nwP (a : List Lsa) (y : Lsa) : Bool := !isK Lsa.o a y.o || newer y ((gK Lsa.o a y.o).getD default)
def olP (a : List Lsa) (y : Lsa) : Bool := !nwP a y && !lsaEq y ((gK Lsa.o a y.o).getD default)
def gnP (b : List Lsa) (x : Lsa) : Bool := !isK Lsa.o b x.o
def nwL (a b : List Lsa) : List Lsa := b.filter (nwP a)
def olL (a b : List Lsa) : List Lsa := b.filter (olP a)
def gnL (a b : List Lsa) : List Int := (a.filter (gnP b)).map Lsa.o
def dlR (a b : List Lsa) : Dl := ⟨(nwL a b).isEmpty, nwL a b, (gnL a b).isEmpty, gnL a b, (olL a b).isEmpty, olL a b⟩
def ofR (a b : List Lsa) : Dl × Int := if dbOK a && dbOK b then (dlR a b, 0) else (dl0, 1)
def hasN (l : List Int) (x : Int) : Bool := l.any fun z => decide (x = z)
def kp (d : Dl) (x : Lsa) : Bool := !hasN d.gn x.o
def emptyD (d : Dl) : Bool := (decide ((d.nw.length : Int) = 0) && decide ((d.gn.length : Int) = 0)) && decide ((d.ol.length : Int) = 0)
def sameD (x y : Dl) : Bool := (eqAll lsaEq x.nw y.nw && eqAll lsaEq x.ol y.ol) && decide (x.gn = y.gn)
def mo (d : Dl) : List Lsa := d.ol ++ d.nw
def apA (a : List Lsa) (d : Dl) : List Lsa := a.filter (kp d)
def applyR (a : List Lsa) (d : Dl) : Bool × List Lsa × Int := if dbOK a && (mo d).all lsaOK then ((apA a d).isEmpty && decide ((mo d).length = 0), xS (apA a d) (mo d) (mo d).length, 0) else (true, [], 1)
theorem db_filter {a : List Lsa} {p : Lsa → Bool} (h : dbOK a = true) : dbOK (a.filter p) = true := by
 unfold dbOK at h ⊢
 rw [chn_iff] at h ⊢
 exact ⟨h.1.filter, fun x hx => h.2 x (List.mem_filter.1 hx).1⟩
theorem xS_app {a F G : List Lsa} : xS (xS a F F.length) G G.length = xS a (F ++ G) (F ++ G).length := by
 simp only [xS, List.take_length, List.foldl_append]
def mD (a b : List Lsa) : Dl := ⟨(nwL a b).isEmpty, nwL a b, true, [], true, []⟩
def mergeR (a b : List Lsa) : Bool × List Lsa × Int := if dbOK a && dbOK b then applyR a (mD a b) else (true, [], 1)
def rgF {α : Type} (f : Nat → Option α) (k : Nat) : List α := (List.range k).filterMap f
def roG (a b : List Lsa) (i : Nat) : Option Int := if (gD b ((i : Int) + 1)).o = 0 ∧ (gD a ((i : Int) + 1)).o > 0 then some ((i : Int) + 1) else none
def roN (a b : List Lsa) (i : Nat) : Option Lsa := if (gD b ((i : Int) + 1)).o = 0 ∧ (gD a ((i : Int) + 1)).o > 0 then none else if (gD b ((i : Int) + 1)).s > (gD a ((i : Int) + 1)).s then some (gD b ((i : Int) + 1)) else none
def roO (a b : List Lsa) (i : Nat) : Option Lsa := if (gD b ((i : Int) + 1)).o = 0 ∧ (gD a ((i : Int) + 1)).o > 0 then none else if (gD b ((i : Int) + 1)).s > (gD a ((i : Int) + 1)).s then none else if (!lsaEq (gD a ((i : Int) + 1)) (gD b ((i : Int) + 1))) = true then some (gD b ((i : Int) + 1)) else none
def mgX (a b : List Lsa) (i : Nat) : Lsa := if (gD b ((i : Int) + 1)).s > (gD a ((i : Int) + 1)).s then gD b ((i : Int) + 1) else gD a ((i : Int) + 1)
def mgI (a b : List Lsa) (i : Nat) : Option Lsa := if (mgX a b i).o > 0 then some (mgX a b i) else none
def rofR (a b : List Lsa) : Dl := ⟨(rgF (roN a b) 64).isEmpty, rgF (roN a b) 64, (rgF (roG a b) 64).isEmpty, rgF (roG a b) 64, (rgF (roO a b) 64).isEmpty, rgF (roO a b) 64⟩
end Go.Vai.D
