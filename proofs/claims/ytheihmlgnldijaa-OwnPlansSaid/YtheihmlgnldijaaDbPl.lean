import Derived.Test.YtheihmlgnldijaaItPl2
import Derived.Test.YtheihmlgnldijaaLsaPl2
set_option linter.unusedSimpArgs false
set_option linter.unusedVariables false
namespace Go.Vai.D
open Go.Vai.I Go.Vai.L
instance : Inhabited Lsa := ⟨⟨0, 0, true, []⟩⟩
def dbOK (l : List Lsa) : Bool := chn lsaOK Lsa.o 0 l
def dbE (l : List Lsa) : Int := if dbOK l then 0 else 1
theorem dbE_0 {l : List Lsa} (h : ¬ dbE l ≠ 0) : dbOK l = true := by
 cases e : dbOK l with
 | true => rfl
 | false => rw [dbE, e] at h; simp at h
theorem dbE_1 {l : List Lsa} (h : dbE l ≠ 0) : dbOK l = false := by
 cases e : dbOK l with
 | false => rfl
 | true => rw [dbE, e] at h; simp at h
theorem db_ok0 {l : List Lsa} (h : ¬ dbE l ≠ 0) : dbOK l = true := dbE_0 h
theorem db_no0 {l : List Lsa} (h : dbE l ≠ 0) : dbOK l = false := dbE_1 h
theorem lsaE_0 {x : Lsa} (h : ¬ lsaE x ≠ 0) : lsaOK x = true := lsaE_eq (Decidable.not_not.1 h)
theorem db_no {l : List Lsa} {last : Int} {k : Nat} (h : chn lsaOK Lsa.o 0 l = chn lsaOK Lsa.o last (l.drop k)) (hk : k < l.length) (h2 : lsaE l[k] ≠ 0 ∨ l[k].o ≤ last) : dbE l = 1 := by
 have : dbOK l = false := by
  refine chn_no h hk ?_
  rcases h2 with h2 | h2
  ·exact .inl (lsaE_ne h2)
  ·exact .inr h2
 rw [dbE, this]; rfl
theorem db_go {l : List Lsa} {last : Int} {k : Nat} (h : chn lsaOK Lsa.o 0 l = chn lsaOK Lsa.o last (l.drop k)) (hk : k < l.length) (h2 : ¬ lsaE l[k] ≠ 0 ∧ ¬ l[k].o ≤ last) : chn lsaOK Lsa.o 0 l = chn lsaOK Lsa.o l[k].o (l.drop (k + 1)) :=
 chn_go h hk (lsaE_0 h2.1) (by omega)
theorem db_end {l : List Lsa} {last : Int} (h : chn lsaOK Lsa.o 0 l = chn lsaOK Lsa.o last (l.drop l.length)) : dbE l = 0 := by
 rw [dbE, dbOK, h, chn_end]; rfl
def lastD (ls : List Lsa) (k : Nat) : Int := if k = 0 then 0 else (ls.getD ((k : Int) - 1).toNat default).o
theorem lastD_succ {ls : List Lsa} {k : Nat} (h : k < ls.length) : lastD ls (k + 1) = ls[k].o := by
 rw [lastD, if_neg (by omega), show (((k + 1 : Nat) : Int) - 1).toNat = k by omega, List.getD_eq_getElem?_getD, List.getElem?_eq_getElem h]; rfl
theorem rd_no {l : List Lsa} {k : Nat} (h : chn lsaOK Lsa.o 0 l = chn lsaOK Lsa.o (lastD l k) (l.drop k)) (hk : k < l.length) (h2 : (!lsaOK l[k]) = true ∨ ((k : Int) > 0 ∧ (l.getD ((k : Int) - 1).toNat default).o ≥ l[k].o)) : dbOK l = false := by
 refine chn_no h hk ?_
 rcases h2 with h2 | ⟨h2, h3⟩
 ·exact .inl (by simpa using h2)
 ·right; unfold lastD; rw [if_neg (by omega)]; omega
theorem rd_go {l : List Lsa} {k : Nat} (h : chn lsaOK Lsa.o 0 l = chn lsaOK Lsa.o (lastD l k) (l.drop k)) (hk : k < l.length) (h2 : (!lsaOK l[k]) = false ∧ (¬ (k : Int) > 0 ∨ ¬ (l.getD ((k : Int) - 1).toNat default).o ≥ l[k].o)) : chn lsaOK Lsa.o 0 l = chn lsaOK Lsa.o (lastD l (k + 1)) (l.drop (k + 1)) := by
 have h3 : lsaOK l[k] = true := by simpa using h2.1
 rw [lastD_succ hk]
 refine chn_go h hk h3 ?_
 have := (lsa_bd h3).1
 unfold lastD
 split <;> omega
theorem rd_end {l : List Lsa} (h : chn lsaOK Lsa.o 0 l = chn lsaOK Lsa.o (lastD l l.length) (l.drop l.length)) : dbOK l = true := by
 rw [dbOK, h, chn_end]
theorem db_srt {l : List Lsa} (h : dbOK l = true) : Srt Lsa.o l := chn_srt h
theorem db_mem {l : List Lsa} (h : dbOK l = true) : ∀ x ∈ l, lsaOK x = true := fun x hx => (chn_ok h x hx).1
theorem db_len {l : List Lsa} (h : dbOK l = true) : l.length ≤ 64 := by
 have h1 := chn_iff.1 h
 have : ∀ (l : List Lsa) (t : Int), 0 ≤ t → t ≤ 64 → Srt Lsa.o l → (∀ x ∈ l, x.o ≤ 64 ∧ t < x.o) → (l.length : Int) ≤ 64 - t := by
  intro l
  induction l with
  | nil => intro t h0 h1 _ _; simp; omega
  | cons x l ih =>
   intro t h0 _ hs hx
   have hx0 := hx x (List.mem_cons_self ..)
   have := ih x.o (by omega) hx0.1 hs.tail fun y hy => ⟨(hx y (List.mem_cons_of_mem _ hy)).1, hs.head y hy⟩
   simp only [List.length_cons]; omega
 have := this l 0 (by omega) (by omega) h1.1 fun x hx => ⟨(lsa_bd (h1.2 x hx).1).1.2, (h1.2 x hx).2⟩
 omega
def sqL (l : List Lsa) (t : Int) : Int := ((gK Lsa.o l t).map Lsa.s).getD 0
theorem sqL_hit {l : List Lsa} {t : Int} {k : Nat} (hk : k < l.length) (h : gK Lsa.o (l.take k) t = none) (h2 : l[k].o = t) : sqL l t = l[k].s := by rw [sqL, gK_hit hk h h2]; rfl
theorem sqL_none {l : List Lsa} {t : Int} (h : gK Lsa.o l t = none) : sqL l t = 0 := by rw [sqL, h]; rfl
theorem sqL_some {l : List Lsa} {t : Int} {x : Lsa} (h : gK Lsa.o l t = some x) : sqL l t = x.s := by rw [sqL, h]; rfl
def getR (l : List Lsa) (t : Int) : Lsa × Bool := if dbOK l then ((gK Lsa.o l t).getD default, isK Lsa.o l t) else (default, false)
theorem getR_no {l : List Lsa} {t : Int} (h : dbOK l = false) : getR l t = (default, false) := by rw [getR, h]; rfl
theorem getR_hit {l : List Lsa} {t : Int} (h : dbOK l = true) (h2 : isK Lsa.o l t = true) : getR l t = (l[posK Lsa.o l t]'(pos_lt (db_srt h) h2), true) := by
 rw [getR, h, (pos_at (db_srt h) h2).2, h2]; rfl
theorem getR_out {l : List Lsa} {t : Int} (h : dbOK l = true) (h2 : isK Lsa.o l t = false) : getR l t = (default, false) := by
 have : gK Lsa.o l t = none := by rwa [isK_gK, Option.isSome_eq_false_iff, Option.isNone_iff_eq_none] at h2
 rw [getR, h, h2, this]; rfl
def putR (l : List Lsa) (x : Lsa) : Bool × List Lsa × Int :=
 if dbOK l && lsaOK x then (if sqL l x.o < x.s then (false, insP Lsa.o l x, 0) else (true, [], 10)) else (true, [], 1)
theorem putR_no {l : List Lsa} {x : Lsa} (h : dbE l ≠ 0 ∨ lsaE x ≠ 0) : putR l x = (true, [], 1) := by
 rw [putR]
 rcases h with h | h
 ·rw [dbE_1 h]; rfl
 ·rw [lsaE_ne h, Bool.and_false]; rfl
theorem putR_new {l : List Lsa} {x : Lsa} (h : dbOK l = true) (h2 : lsaOK x = true) (h3 : isK Lsa.o l x.o = false) : putR l x = (false, l.take (posK Lsa.o l x.o) ++ [x] ++ l.drop (posK Lsa.o l x.o), 0) := by
 have hg : gK Lsa.o l x.o = none := by rwa [isK_gK, Option.isSome_eq_false_iff, Option.isNone_iff_eq_none] at h3
 have := (lsa_bd h2).2.1
 rw [putR, h, h2, sqL_none hg, ins_new (db_srt h) h3]
 simp only [Bool.and_self, if_true]
 rw [if_pos (by omega)]
theorem putR_set {l : List Lsa} {x : Lsa} (h : dbOK l = true) (h2 : lsaOK x = true) (h3 : isK Lsa.o l x.o = true) (h4 : newer x (l[posK Lsa.o l x.o]'(pos_lt (db_srt h) h3)) = true) : putR l x = (false, l.set (posK Lsa.o l x.o) x, 0) := by
 have hp := pos_at (db_srt h) h3
 simp only [newer, Bool.and_eq_true, decide_eq_true_eq] at h4
 rw [putR, h, h2, sqL_some hp.2, ← ins_old (db_srt h) h3]
 simp only [Bool.and_self, if_true]
 rw [if_pos (by omega)]
theorem putR_old {l : List Lsa} {x : Lsa} (h : dbOK l = true) (h2 : lsaOK x = true) (h3 : isK Lsa.o l x.o = true) (h4 : newer x (l[posK Lsa.o l x.o]'(pos_lt (db_srt h) h3)) = false) : putR l x = (true, [], 10) := by
 have hp := pos_at (db_srt h) h3
 simp only [newer, Bool.and_eq_false_iff, decide_eq_false_iff_not] at h4
 rw [putR, h, h2, sqL_some hp.2]
 simp only [Bool.and_self, if_true]
 rw [if_neg (by omega)]
def itm (x : Lsa) : It := ⟨x.o, x.s⟩
def itemsR (l : List Lsa) : List It := if dbOK l then l.map itm else []
def hasI (items : List It) (x : It) : Bool := items.any fun y => decide (y.o = x.o) && decide (y.s ≥ x.s)
def lacksR (l : List Lsa) (items : List It) : List It := (itemsR l).filter fun x => !hasI items x
def moreP (l : List Lsa) (x : It) : Bool := !(isK Lsa.o l x.o) || decide (x.s > ((gK Lsa.o l x.o).getD default).s)
def moreR (l : List Lsa) (items : List It) : List It := if dbOK l then items.filter (moreP l) else []
theorem getR_is {l : List Lsa} {t : Int} (h : dbOK l = true) : getR l t = ((gK Lsa.o l t).getD default, isK Lsa.o l t) := by rw [getR, h]; rfl
theorem putR_ge {l : List Lsa} {x : Lsa} (h : dbOK l = true) (h1 : lsaOK x = true) (h2 : sqL l x.o ≥ x.s) : putR l x = (true, [], 10) := by
 rw [putR, h, h1]
 simp only [Bool.and_self, if_true]
 rw [if_neg (by omega)]
theorem putR_lt {l : List Lsa} {x : Lsa} (h : dbOK l = true) (h1 : lsaOK x = true) (h2 : ¬ sqL l x.o ≥ x.s) : putR l x = (false, insP Lsa.o l x, 0) := by
 rw [putR, h, h1]
 simp only [Bool.and_self, if_true]
 rw [if_pos (by omega)]
theorem ins_db {l : List Lsa} {x : Lsa} (h : dbOK l = true) (h1 : lsaOK x = true) : dbOK (insP Lsa.o l x) = true := insP_chn h h1 (by have := (lsa_bd h1).1; omega)
end Go.Vai.D
