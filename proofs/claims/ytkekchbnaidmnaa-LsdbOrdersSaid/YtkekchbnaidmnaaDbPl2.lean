import Derived.Test.YtkekchbnaidmnaaDbPl
import Derived.Test.YtkekchbnaidmnaaItPl2
set_option linter.unusedSimpArgs false
set_option linter.unusedVariables false
namespace Go.Vai.D
open Go.Vai.I Go.Vai.L
def fA (a b : List Lsa) : List Lsa := b.filter fun y => !hasI (a.map itm) (itm y)
def xS (a F : List Lsa) (k : Nat) : List Lsa := (F.take k).foldl (insP Lsa.o) a
def ordF (s : List Lsa) (x : Lsa) : List Lsa := if (putR s x).2.2 = 0 then (putR s x).2.1 else s
def ordS (x : List Lsa) (k : Nat) : List Lsa := (x.take k).foldl ordF []
theorem ordS_succ {x : List Lsa} {k : Nat} (hk : k < x.length) : ordS x (k + 1) = ordF (ordS x k) x[k] := by
 rw [ordS, List.take_succ_eq_append_getElem hk, List.foldl_append]; rfl
theorem ordF_is {s : List Lsa} {x : Lsa} (h : dbOK s = true) : ordF s x = if lsaOK x = true ∧ sqL s x.o < x.s then insP Lsa.o s x else s := by
 unfold ordF
 cases h1 : lsaOK x with
 | false => rw [putR_xno h1]; simp
 | true =>
  by_cases h2 : sqL s x.o ≥ x.s
  ·rw [putR_ge h h1 h2, if_neg (by decide), if_neg (by omega)]
  ·rw [putR_lt h h1 h2, if_pos rfl, if_pos ⟨rfl, by omega⟩]
theorem ordF_ok {s : List Lsa} {x : Lsa} (h : dbOK s = true) : dbOK (ordF s x) = true := by
 rw [ordF_is h]; split
 ·rename_i h2; exact ins_db h h2.1
 ·exact h
theorem ordF_mem {s : List Lsa} {x y : Lsa} (h : dbOK s = true) (hy : y ∈ ordF s x) : y = x ∨ y ∈ s := by
 rw [ordF_is h] at hy; split at hy
 ·exact insP_mem hy
 ·exact .inr hy
theorem fold_ok : ∀ (x s : List Lsa), dbOK s = true → dbOK (x.foldl ordF s) = true
 | [], _, h => h
 | y :: x, _, h => fold_ok x _ (ordF_ok h)
theorem fold_mem : ∀ (x s : List Lsa), dbOK s = true → ∀ y ∈ x.foldl ordF s, y ∈ x ∨ y ∈ s
 | [], _, _, _, hy => .inr hy
 | z :: x, s, h, y, hy => by
  rcases fold_mem x _ (ordF_ok h) y hy with h1 | h1
  ·exact .inl (List.mem_cons_of_mem _ h1)
  ·rcases ordF_mem h h1 with rfl | h2
   ·exact .inl (List.mem_cons_self ..)
   ·exact .inr h2
theorem ordS_ok (x : List Lsa) (k : Nat) : dbOK (ordS x k) = true := fold_ok _ _ rfl
theorem ordS_mem {x : List Lsa} {k : Nat} {y : Lsa} (hy : y ∈ ordS x k) : y ∈ x := by
 rcases fold_mem _ _ rfl y hy with h | h
 ·exact List.mem_of_mem_take h
 ·cases h
theorem sq_ord {s : List Lsa} {x : Lsa} {t : Int} (h : dbOK s = true) : sqL (ordF s x) t = if lsaOK x = true then mxF t (sqL s t) (itm x) else sqL s t := by
 rw [ordF_is h]
 cases h1 : lsaOK x with
 | false => simp
 | true =>
  rw [if_pos rfl, show mxF t (sqL s t) (itm x) = if t = x.o then max (sqL s t) x.s else sqL s t from rfl]
  by_cases h2 : sqL s x.o < x.s
  ·rw [if_pos ⟨rfl, h2⟩]
   by_cases e : t = x.o
   ·have e3 : gK Lsa.o (insP Lsa.o s x) t = some x := by rw [insP_gK, if_pos e]
    rw [if_pos e, sqL_some e3, e]; omega
   ·have e3 : sqL (insP Lsa.o s x) t = sqL s t := by rw [sqL, insP_gK, if_neg e]; rfl
    rw [if_neg e, e3]
  ·rw [if_neg (fun h => h2 h.2)]
   by_cases e : t = x.o
   ·rw [if_pos e, e]; omega
   ·rw [if_neg e]
theorem sq_fold (t : Int) : ∀ (x s : List Lsa), dbOK s = true → sqL (x.foldl ordF s) t = ((x.filter lsaOK).map itm).foldl (mxF t) (sqL s t)
 | [], _, _ => rfl
 | y :: x, s, h => by
  rw [List.foldl_cons, sq_fold t x _ (ordF_ok h), sq_ord h, List.filter_cons]
  cases h1 : lsaOK y <;> simp
theorem mx_same {t : Int} {x z : List It} (h : ∀ y, y ∈ z ↔ y ∈ x) (m : Int) : x.foldl (mxF t) m = z.foldl (mxF t) m := by
 refine Int.le_antisymm ?_ ?_
 ·rw [mx_le]
  have := (mx_le (t := t) z m).1 (Int.le_refl _)
  exact ⟨this.1, fun y hy => this.2 y ((h y).2 hy)⟩
 ·rw [mx_le]
  have := (mx_le (t := t) x m).1 (Int.le_refl _)
  exact ⟨this.1, fun y hy => this.2 y ((h y).1 hy)⟩
theorem ord_same {x z : List Lsa} (h : ∀ y, y ∈ z ↔ y ∈ x) : (ordS x x.length).map itm = (ordS z z.length).map itm := by
 have h1 := ordS_ok x x.length
 have h2 := ordS_ok z z.length
 refine srt_ext (it_srt (items_ok h1)) (it_srt (items_ok h2)) fun t => ?_
 rw [gK_qK (items_ok h1), gK_qK (items_ok h2), qK_itm, qK_itm]
 have : sqL (ordS x x.length) t = sqL (ordS z z.length) t := by
  rw [ordS, ordS, List.take_length, List.take_length, sq_fold t _ _ rfl, sq_fold t _ _ rfl]
  refine mx_same (fun y => ?_) _
  simp only [List.mem_map, List.mem_filter, h]
 rw [this]
def idxG {α : Type} (x : List α) (ts : List (BitVec 8)) (i : Nat) : Int := if i < ts.length then ((ts.getD i 0).toNat : Int) % (x.length : Int) else (x.length : Int) - 1 - ((i : Int) - (ts.length : Int))
def zsG {α : Type} [Inhabited α] (x : List α) (ts : List (BitVec 8)) : List α := if 0 < x.length then (List.range (ts.length + x.length)).map fun i => x.getD (idxG x ts i).toNat default else []
section
variable {α : Type}
theorem idxG_in {x : List α} {ts : List (BitVec 8)} {i : Nat} (hx : 0 < x.length) (hi : i < ts.length + x.length) : 0 ≤ idxG x ts i ∧ idxG x ts i < x.length := by
 unfold idxG
 split
 ·exact ⟨Int.emod_nonneg _ (by omega), Int.emod_lt_of_pos _ (by omega)⟩
 ·omega
theorem zsG_len [Inhabited α] (x : List α) (ts : List (BitVec 8)) : (zsG x ts).length = if 0 < x.length then ts.length + x.length else 0 := by
 unfold zsG; split <;> simp
theorem zsG_at [Inhabited α] {x : List α} {ts : List (BitVec 8)} {i : Nat} (hi : i < (zsG x ts).length) : ∃ h : (idxG x ts i).toNat < x.length, (zsG x ts)[i] = x[(idxG x ts i).toNat] := by
 have hl := hi
 rw [zsG_len] at hl
 split at hl
 ·rename_i hx
  have := idxG_in hx hl
  have h2 : (idxG x ts i).toNat < x.length := by omega
  refine ⟨h2, ?_⟩
  have : (zsG x ts) = (List.range (ts.length + x.length)).map fun i => x.getD (idxG x ts i).toNat default := if_pos hx
  simp only [this, List.getElem_map, List.getElem_range]
  exact getD_at h2
 ·omega
theorem zsG_mem [Inhabited α] (x : List α) (ts : List (BitVec 8)) (y : α) : y ∈ zsG x ts ↔ y ∈ x := by
 constructor
 ·intro h
  obtain ⟨i, hi, rfl⟩ := List.mem_iff_getElem.1 h
  obtain ⟨h2, e⟩ := zsG_at hi
  rw [e]; exact List.getElem_mem _
 ·intro h
  obtain ⟨j, hj, rfl⟩ := List.mem_iff_getElem.1 h
  have hi : ts.length + (x.length - 1 - j) < (zsG x ts).length := by rw [zsG_len, if_pos (by omega)]; omega
  obtain ⟨h2, e⟩ := zsG_at hi
  have hj2 : (idxG x ts (ts.length + (x.length - 1 - j))).toNat = j := by
   unfold idxG; rw [if_neg (by omega)]; omega
  have : (zsG x ts)[ts.length + (x.length - 1 - j)] = x[j] := by rw [e]; congr 1
  rw [← this]; exact List.getElem_mem _
theorem idxG_low {x : List α} {ts : List (BitVec 8)} {i : Nat} (hi : i < ts.length) : idxG x ts i = (ts[i].toNat : Int) % (x.length : Int) := by
 rw [idxG, if_pos hi, List.getD_eq_getElem?_getD, List.getElem?_eq_getElem hi]; rfl
theorem idxG_high {x : List α} {ts : List (BitVec 8)} {i : Nat} (hi : ¬ i < ts.length) : idxG x ts i = (x.length : Int) - 1 - ((i : Int) - (ts.length : Int)) := by
 rw [idxG, if_neg hi]
end
theorem ordersG (x : List Lsa) (ts : List (BitVec 8)) : (ordS (zsG x ts) (zsG x ts).length).map itm = (ordS x x.length).map itm := (ord_same fun y => zsG_mem x ts y).symm
end Go.Vai.D
