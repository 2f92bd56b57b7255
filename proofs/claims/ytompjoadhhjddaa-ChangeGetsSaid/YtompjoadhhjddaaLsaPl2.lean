import Derived.Test.YtompjoadhhjddaaLsaPl
set_option linter.unusedSimpArgs false
set_option linter.unusedVariables false
set_option linter.constructorNameAsVariable false
namespace Go.Vai.L
open Go.Vai.O
def lsaEq (a b : Lsa) : Bool := decide (a.o = b.o) && (decide (a.s = b.s) && decide (a.ls = b.ls))
def newer (a b : Lsa) : Bool := decide (a.o = b.o) && decide (a.s > b.s)
def costOf (ls : List LinkS) (to : Int) : Int := match ls.find? (fun x => decide (x.to = to)) with | some x => x.co | none => 0
theorem cost_at {ls : List LinkS} {to : Int} {k : Nat} (hk : k < ls.length) (h : ∀ x ∈ ls.take k, ¬ x.to = to) (hb : ls[k].to = to) : costOf ls to = ls[k].co := by
  have : ls.find? (fun x => decide (x.to = to)) = some ls[k] := by
    rw [List.find?_eq_some_iff_getElem]
    refine ⟨by simpa using hb, k, hk, rfl, fun j hj => ?_⟩
    have := h ls[j] (by rw [List.mem_take_iff_getElem]; exact ⟨j, by omega, rfl⟩)
    simpa using this
  simp [costOf, this]
theorem cost_none {ls : List LinkS} {to : Int} (h : ∀ x ∈ ls, ¬ x.to = to) : costOf ls to = 0 := by
  have : ls.find? (fun x => decide (x.to = to)) = none := by rw [List.find?_eq_none]; intro x hx; simpa using h x hx
  simp [costOf, this]
end Go.Vai.L
