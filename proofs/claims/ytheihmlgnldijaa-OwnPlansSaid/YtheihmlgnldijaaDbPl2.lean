import Derived.Test.YtheihmlgnldijaaDbPl
import Derived.Test.YtheihmlgnldijaaItPl2
set_option linter.unusedSimpArgs false
set_option linter.unusedVariables false
namespace Go.Vai.D
open Go.Vai.I Go.Vai.L
def fA (a b : List Lsa) : List Lsa := b.filter fun y => !hasI (a.map itm) (itm y)
def xS (a F : List Lsa) (k : Nat) : List Lsa := (F.take k).foldl (insP Lsa.o) a
theorem xS_succ {a F : List Lsa} {k : Nat} (hk : k < F.length) : xS a F (k + 1) = insP Lsa.o (xS a F k) F[k] := by
 rw [xS, List.take_succ_eq_append_getElem hk, List.foldl_append]; rfl
theorem xS_end {a F : List Lsa} {k : Nat} (hk : ¬ k < F.length) : xS a F (k + 1) = xS a F k := by
 rw [xS, xS, List.take_of_length_le (by omega), List.take_of_length_le (by omega)]
theorem xS_ok {a F : List Lsa} (ha : dbOK a = true) (hF : ∀ y ∈ F, lsaOK y = true) : ∀ k, dbOK (xS a F k) = true
 | 0 => ha
 | k + 1 => by
  by_cases hk : k < F.length
  ·rw [xS_succ hk]; exact ins_db (xS_ok ha hF k) (hF _ (List.getElem_mem hk))
  ·rw [xS_end hk]; exact xS_ok ha hF k
theorem take_none {F : List Lsa} (h : Srt Lsa.o F) {k : Nat} (hk : k < F.length) : gK Lsa.o (F.take k) F[k].o = none := by
 rw [gK_none]
 intro y hy e
 obtain ⟨j, hj, rfl⟩ := List.mem_take_iff_getElem.1 hy
 have := List.pairwise_iff_getElem.1 h j k (by omega) hk (by omega)
 omega
theorem xS_gK {a F : List Lsa} (h : Srt Lsa.o F) (t : Int) : ∀ k, k ≤ F.length → gK Lsa.o (xS a F k) t = (gK Lsa.o (F.take k) t).or (gK Lsa.o a t)
 | 0, _ => by simp [xS, gK]
 | k + 1, hk => by
  have hk : k < F.length := by omega
  rw [xS_succ hk, insP_gK, List.take_succ_eq_append_getElem hk, gK_append, gK_cons, gK_nil, xS_gK h t k (by omega)]
  by_cases e : t = F[k].o
  ·rw [if_pos e, if_pos e.symm, e, take_none h hk]; rfl
  ·rw [if_neg e, if_neg (fun h => e h.symm)]; cases gK Lsa.o (F.take k) t <;> rfl
def ordF (s : List Lsa) (x : Lsa) : List Lsa := if (putR s x).2.2 = 0 then (putR s x).2.1 else s
def ordS (x : List Lsa) (k : Nat) : List Lsa := (x.take k).foldl ordF []
def idxG {α : Type} (x : List α) (ts : List (BitVec 8)) (i : Nat) : Int := if i < ts.length then ((ts.getD i 0).toNat : Int) % (x.length : Int) else (x.length : Int) - 1 - ((i : Int) - (ts.length : Int))
def zsG {α : Type} [Inhabited α] (x : List α) (ts : List (BitVec 8)) : List α := if 0 < x.length then (List.range (ts.length + x.length)).map fun i => x.getD (idxG x ts i).toNat default else []
section
variable {α : Type}
end
end Go.Vai.D
