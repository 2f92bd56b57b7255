import Derived.Test.YtkekchbnaidmnaaItPl
set_option linter.unusedSimpArgs false
set_option linter.unusedVariables false
namespace Go.Vai.I
theorem gK_qK {l : List It} (h : itOK l = true) (t : Int) : gK It.o l t = if qK l t = 0 then none else some ⟨t, qK l t⟩ := by
 cases hg : gK It.o l t with
 | none => rw [qK_none hg]; rfl
 | some x =>
  have hm := gK_mem hg
  have := itok_of (chn_ok h x hm.1).1
  have hq : qK l t = x.s := by rw [qK, hg]; rfl
  rw [hq, if_neg (by omega), ← hm.2]
def mxF (t : Int) (m : Int) (y : It) : Int := if t = y.o then max m y.s else m
theorem mx_le {t c : Int} : ∀ (x : List It) (m : Int), x.foldl (mxF t) m ≤ c ↔ m ≤ c ∧ ∀ y ∈ x, t = y.o → y.s ≤ c
 | [], m => by simp
 | y :: x, m => by
  rw [List.foldl_cons, mx_le x]
  simp only [List.mem_cons, forall_eq_or_imp, mxF]
  split
  ·rename_i e
   constructor
   ·rintro ⟨h1, h2⟩; exact ⟨by omega, fun _ => by omega, h2⟩
   ·rintro ⟨h1, h2, h3⟩; have := h2 e; exact ⟨by omega, h3⟩
  ·rename_i e
   constructor
   ·rintro ⟨h1, h2⟩; exact ⟨h1, fun e' => absurd e' e, h2⟩
   ·rintro ⟨h1, _, h3⟩; exact ⟨h1, h3⟩
def idxI (x : List It) (ts : List (BitVec 8)) (i : Nat) : Int := if i < ts.length then ((ts.getD i 0).toNat : Int) % (x.length : Int) else (x.length : Int) - 1 - ((i : Int) - (ts.length : Int))
def zs (x : List It) (ts : List (BitVec 8)) : List It := if 0 < x.length then (List.range (ts.length + x.length)).map fun i => x.getD (idxI x ts i).toNat default else []
end Go.Vai.I
