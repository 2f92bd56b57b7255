import Derived.Test.YtheihmlgnldijaatTab4
namespace Go.Vai.T
open Go.Proofs Go.Vai Go.Vai.N
set_option linter.unusedSimpArgs false
set_option linter.unusedVariables false
structure Pr where
 a : Int
 b : Int
 deriving DecidableEq, Inhabited
def prA (x : Pr) : AV := .agg [.i .i64 x.a, .i .i64 x.b]
theorem cellsOf_pr (x : Pr) : cellsOf (prA x) = [.i .i64 x.a, .i .i64 x.b] := rfl
@[simp] theorem noPtr_pr (x : Pr) : noPtr (prA x) = true := by simp [prA, noPtr, noPtrL]
@[simp] theorem noPtrL_prs (l : List Pr) : noPtrL (l.map prA) = true := noPtrL_map noPtr_pr _
@[simp] theorem noPtrL_ints (l : List Int) : noPtrL (l.map i64) = true := noPtrL_map (fun _ => rfl) _
def thL {α : Type} (p : Nr → Bool) (t : Nr → α) (l : List Nr) : List α := (l.filter p).map t
def thR {α : Type} (p : Nr → Bool) (t : Nr → α) (l : List Nr) : List α := if tabOK l then thL p t l else []
theorem th_yes {α : Type} {p : Nr → Bool} {t : Nr → α} {l : List Nr} {k : Nat} (hk : k < l.length) (h : p l[k] = true) : thL p t (l.take (k + 1)) = thL p t (l.take k) ++ [t l[k]] := by
 rw [List.take_succ_eq_append_getElem hk, thL, thL, List.filter_append, List.map_append]; simp [h]
theorem th_no {α : Type} {p : Nr → Bool} {t : Nr → α} {l : List Nr} {k : Nat} (hk : k < l.length) (h : p l[k] = false) : thL p t (l.take (k + 1)) = thL p t (l.take k) := by
 rw [List.take_succ_eq_append_getElem hk, thL, thL, List.filter_append, List.map_append]; simp [h]
theorem th_le {α : Type} (p : Nr → Bool) (t : Nr → α) (l : List Nr) (k : Nat) : (thL p t (l.take k)).length ≤ k := by
 rw [thL, List.length_map]
 exact Nat.le_trans (List.length_filter_le _ _) (by simp; omega)
attribute [go_sem] cellsOf_pr
end Go.Vai.T
