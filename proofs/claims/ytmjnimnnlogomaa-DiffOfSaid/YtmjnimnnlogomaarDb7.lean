import Derived.Test.YtmjnimnnlogomaarDb6
namespace Go.Vai.DB
open Go.Proofs Go.Vai Go.Vai.D Go.Vai.I Go.Vai.L Go.Vai.N Go.Vai.O
set_option linter.unusedSimpArgs false
set_option linter.unusedVariables false
set_option maxHeartbeats 4000000
set_option maxRecDepth 100000
theorem flt_yes {α : Type} {p : α → Bool} {l : List α} {k : Nat} (hk : k < l.length) (h : p l[k] = true) : (l.take (k + 1)).filter p = (l.take k).filter p ++ [l[k]] := by
  rw [List.take_succ_eq_append_getElem hk, List.filter_append]; simp [h]
theorem flt_no {α : Type} {p : α → Bool} {l : List α} {k : Nat} (hk : k < l.length) (h : p l[k] = false) : (l.take (k + 1)).filter p = (l.take k).filter p := by
  rw [List.take_succ_eq_append_getElem hk, List.filter_append]; simp [h]
theorem flt_len {α : Type} (p : α → Bool) (l : List α) (k : Nat) : ((l.take k).filter p).length ≤ k := Nat.le_trans (List.length_filter_le _ _) (by simp; omega)
def moreS (l : List Lsa) (y : It) : Bool := decide (sqL l y.o = 0) || decide (y.s > sqL l y.o)
def lackS (x : List It) (y : Lsa) : Bool := !hasI x (itm y)
def hasF (y : Lsa) (z : It) : Bool := decide (z.o = y.o) && decide (z.s ≥ y.s)
end Go.Vai.DB
