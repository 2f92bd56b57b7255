import Derived.Test.YtmjnimnnlogomaaDbPl
import Derived.Test.YtmjnimnnlogomaaItPl2
set_option linter.unusedSimpArgs false
set_option linter.unusedVariables false
namespace Go.Vai.D
open Go.Vai.I Go.Vai.L
theorem has_sq {a : List Lsa} {y : Lsa} (h : dbOK a = true) (hy : 1 ≤ y.s) : hasI (a.map itm) (itm y) = decide (sqL a y.o ≥ y.s) := by
 rw [Bool.eq_iff_iff, hasI, List.any_map, List.any_eq_true, decide_eq_true_eq]
 constructor
 ·rintro ⟨z, hz, h2⟩
  have h2 : (decide (z.o = y.o) && decide (z.s ≥ y.s)) = true := h2
  rw [Bool.and_eq_true, decide_eq_true_eq, decide_eq_true_eq] at h2
  rw [sqL_some (gK_of (db_srt h) hz h2.1)]; exact h2.2
 ·intro h2
  rcases sqL_pos (t := y.o) h with ⟨h3, _⟩ | ⟨_, z, h4, h5, h6, _, h7⟩
  ·omega
  ·exact ⟨z, h7, by
    show (decide (z.o = y.o) && decide (z.s ≥ y.s)) = true
    rw [Bool.and_eq_true, decide_eq_true_eq, decide_eq_true_eq]
    exact ⟨h6, by omega⟩⟩
def fA (a b : List Lsa) : List Lsa := b.filter fun y => !hasI (a.map itm) (itm y)
theorem fA_srt {a b : List Lsa} (hb : dbOK b = true) : Srt Lsa.o (fA a b) := (db_srt hb).filter
theorem fA_mem {a b : List Lsa} {y : Lsa} (ha : dbOK a = true) (hb : dbOK b = true) (hy : y ∈ fA a b) : y ∈ b ∧ lsaOK y = true ∧ sqL a y.o < y.s := by
 obtain ⟨h1, h2⟩ := List.mem_filter.1 hy
 have h3 := db_mem hb y h1
 have h4 := (lsa_bd h3).2.1.1
 rw [has_sq ha h4] at h2
 exact ⟨h1, h3, by simpa using h2⟩
theorem fA_gK {a b : List Lsa} {t : Int} (ha : dbOK a = true) (hb : dbOK b = true) : gK Lsa.o (fA a b) t = if sqL a t < sqL b t then gK Lsa.o b t else none := by
 have hs := fA_srt (a := a) hb
 split
 ·rename_i h
  rcases sqL_pos (t := t) hb with ⟨h3, _⟩ | ⟨_, y, h4, h5, h6, h8, h7⟩
  ·rcases sqL_pos (t := t) ha with ⟨h9, _⟩ | ⟨h9, _⟩ <;> omega
  ·rw [h4]
   refine gK_of hs (List.mem_filter.2 ⟨h7, ?_⟩) h6
   rw [has_sq ha (lsa_bd h8).2.1.1, h6]
   simp; omega
 ·rename_i h
  rw [gK_none]
  intro y hy e
  obtain ⟨h1, _, h3⟩ := fA_mem ha hb hy
  rw [e] at h3
  rw [sqL_some (gK_of (db_srt hb) h1 e)] at h
  omega
def xS (a F : List Lsa) (k : Nat) : List Lsa := (F.take k).foldl (insP Lsa.o) a
theorem xS_succ {a F : List Lsa} {k : Nat} (hk : k < F.length) : xS a F (k + 1) = insP Lsa.o (xS a F k) F[k] := by
 rw [xS, List.take_succ_eq_append_getElem hk, List.foldl_append]; rfl
theorem xS_end {a F : List Lsa} {k : Nat} (hk : ¬ k < F.length) : xS a F (k + 1) = xS a F k := by
 rw [xS, xS, List.take_of_length_le (by omega), List.take_of_length_le (by omega)]
theorem xS_ok {a F : List Lsa} (ha : dbOK a = true) (hF : ∀ y ∈ F, lsaOK y = true) : ∀ k, dbOK (xS a F k) = true
 | 0 => ha
 | k + 1 => by
  by_cases hk : k < F.length
  ·rw [xS_succ hk]; exact ins_db (xS_ok ha hF k) (hF _ (List.getElem_mem hk))
  ·rw [xS_end hk]; exact xS_ok ha hF k
theorem xS_mem {a F : List Lsa} : ∀ k, ∀ y ∈ xS a F k, y ∈ a ∨ y ∈ F
 | 0, y, hy => .inl hy
 | k + 1, y, hy => by
  by_cases hk : k < F.length
  ·rw [xS_succ hk] at hy
   rcases insP_mem hy with rfl | h
   ·exact .inr (List.getElem_mem hk)
   ·exact xS_mem k y h
  ·rw [xS_end hk] at hy; exact xS_mem k y hy
theorem take_none {F : List Lsa} (h : Srt Lsa.o F) {k : Nat} (hk : k < F.length) : gK Lsa.o (F.take k) F[k].o = none := by
 rw [gK_none]
 intro y hy e
 obtain ⟨j, hj, rfl⟩ := List.mem_take_iff_getElem.1 hy
 have := List.pairwise_iff_getElem.1 h j k (by omega) hk (by omega)
 omega
theorem xS_gK {a F : List Lsa} (h : Srt Lsa.o F) (t : Int) : ∀ k, k ≤ F.length → gK Lsa.o (xS a F k) t = (gK Lsa.o (F.take k) t).or (gK Lsa.o a t)
 | 0, _ => by simp [xS, gK]
 | k + 1, hk => by
  have hk : k < F.length := by omega
  rw [xS_succ hk, insP_gK, List.take_succ_eq_append_getElem hk, gK_append, gK_cons, gK_nil, xS_gK h t k (by omega)]
  by_cases e : t = F[k].o
  ·rw [if_pos e, if_pos e.symm, e, take_none h hk]; rfl
  ·rw [if_neg e, if_neg (fun h => e h.symm)]; cases gK Lsa.o (F.take k) t <;> rfl
theorem xS_fin {a b : List Lsa} (ha : dbOK a = true) (hb : dbOK b = true) (t : Int) : gK Lsa.o (xS a (fA a b) (fA a b).length) t = if sqL a t < sqL b t then gK Lsa.o b t else gK Lsa.o a t := by
 rw [xS_gK (fA_srt hb) t _ (Nat.le_refl _), List.take_length, fA_gK ha hb]
 split
 ·rename_i h
  rcases sqL_pos (t := t) hb with ⟨h3, _⟩ | ⟨_, y, h4, _⟩
  ·rcases sqL_pos (t := t) ha with ⟨h9, _⟩ | ⟨h9, _⟩ <;> omega
  ·rw [h4]; rfl
 ·rfl
theorem meet {a b : List Lsa} (ha : dbOK a = true) (hb : dbOK b = true) : (xS a (fA a b) (fA a b).length).map itm = (xS b (fA b a) (fA b a).length).map itm := by
 have h1 := xS_ok ha (fun y hy => (fA_mem ha hb hy).2.1) (fA a b).length
 have h2 := xS_ok hb (fun y hy => (fA_mem hb ha hy).2.1) (fA b a).length
 refine srt_ext (srt_itm (db_srt h1)) (srt_itm (db_srt h2)) fun t => ?_
 rw [gK_itm, gK_itm, xS_fin ha hb, xS_fin hb ha]
 by_cases e1 : sqL a t < sqL b t
 ·rw [if_pos e1, if_neg (by omega)]
 ·rw [if_neg e1]
  by_cases e2 : sqL b t < sqL a t
  ·rw [if_pos e2]
  ·rw [if_neg e2]
   rcases sqL_pos (t := t) ha with ⟨h3, h4⟩ | ⟨h3, y, h4, h5, h6, _⟩
   ·rcases sqL_pos (t := t) hb with ⟨h7, h8⟩ | ⟨h7, _⟩
    ·rw [h4, h8]
    ·omega
   ·rcases sqL_pos (t := t) hb with ⟨h7, h8⟩ | ⟨h7, z, h8, h9, h10, _⟩
    ·omega
    ·rw [h4, h8]
     simp only [Option.map_some, itm]
     rw [h6, h10, h5, h9, show sqL a t = sqL b t by omega]
def ordF (s : List Lsa) (x : Lsa) : List Lsa := if (putR s x).2.2 = 0 then (putR s x).2.1 else s
def ordS (x : List Lsa) (k : Nat) : List Lsa := (x.take k).foldl ordF []
def idxG {α : Type} (x : List α) (ts : List (BitVec 8)) (i : Nat) : Int := if i < ts.length then ((ts.getD i 0).toNat : Int) % (x.length : Int) else (x.length : Int) - 1 - ((i : Int) - (ts.length : Int))
def zsG {α : Type} [Inhabited α] (x : List α) (ts : List (BitVec 8)) : List α := if 0 < x.length then (List.range (ts.length + x.length)).map fun i => x.getD (idxG x ts i).toNat default else []
section
variable {α : Type}
end
end Go.Vai.D
