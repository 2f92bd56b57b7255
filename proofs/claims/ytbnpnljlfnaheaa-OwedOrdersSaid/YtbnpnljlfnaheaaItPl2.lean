import Derived.Test.YtbnpnljlfnaheaaItPl
set_option linter.unusedSimpArgs false
set_option linter.unusedVariables false
namespace Go.Vai.I
theorem gK_qK {l : List It} (h : itOK l = true) (t : Int) : gK It.o l t = if qK l t = 0 then none else some ⟨t, qK l t⟩ := by
 cases hg : gK It.o l t with
 | none => rw [qK_none hg]; rfl
 | some x =>
  have hm := gK_mem hg
  have := itok_of (chn_ok h x hm.1).1
  have hq : qK l t = x.s := by rw [qK, hg]; rfl
  rw [hq, if_neg (by omega), ← hm.2]
theorem qK_ins {r : List It} {y : It} {t : Int} : qK (insP It.o r y) t = if t = y.o then y.s else qK r t := by
 rw [qK, insP_gK]
 split <;> rfl
theorem qK_owe {r : List It} {y : It} {t : Int} : qK (oweF r y) t = if t = y.o then max (qK r t) y.s else qK r t := by
 rw [oweF, qK_ins]
 split
 ·rename_i e; rw [e]
 ·rfl
def mxF (t : Int) (m : Int) (y : It) : Int := if t = y.o then max m y.s else m
theorem qK_fold (t : Int) : ∀ (x : List It) (l : List It), qK (x.foldl oweF l) t = x.foldl (mxF t) (qK l t)
 | [], l => rfl
 | y :: x, l => by
  rw [List.foldl_cons, List.foldl_cons, qK_fold t x, qK_owe]; rfl
theorem mx_le {t c : Int} : ∀ (x : List It) (m : Int), x.foldl (mxF t) m ≤ c ↔ m ≤ c ∧ ∀ y ∈ x, t = y.o → y.s ≤ c
 | [], m => by simp
 | y :: x, m => by
  rw [List.foldl_cons, mx_le x]
  simp only [List.mem_cons, forall_eq_or_imp, mxF]
  split
  ·rename_i e
   constructor
   ·rintro ⟨h1, h2⟩; exact ⟨by omega, fun _ => by omega, h2⟩
   ·rintro ⟨h1, h2, h3⟩; have := h2 e; exact ⟨by omega, h3⟩
  ·rename_i e
   constructor
   ·rintro ⟨h1, h2⟩; exact ⟨h1, fun e' => absurd e' e, h2⟩
   ·rintro ⟨h1, _, h3⟩; exact ⟨h1, h3⟩
theorem oweS_all (l x : List It) : oweS l x x.length = x.foldl oweF l := by rw [oweS, List.take_length]
theorem payS_all (l x : List It) : payS l x x.length = x.foldl payF l := by rw [payS, List.take_length]
theorem owe_order {x z : List It} (hx : ∀ y ∈ x, it1 y = true) (h : ∀ y, y ∈ z ↔ y ∈ x) : oweS [] x x.length = oweS [] z z.length := by
 have h1 := owe_all (l := []) rfl hx x.length
 have h2 := owe_all (l := []) rfl (fun y hy => hx y ((h y).1 hy)) z.length
 refine srt_ext (it_srt h1) (it_srt h2) fun t => ?_
 rw [gK_qK h1, gK_qK h2, oweS_all, oweS_all, qK_fold, qK_fold]
 have e : x.foldl (mxF t) (qK [] t) = z.foldl (mxF t) (qK [] t) := by
  refine Int.le_antisymm ?_ ?_
  ·rw [mx_le]
   have := (mx_le (t := t) z (qK [] t)).1 (Int.le_refl _)
   exact ⟨this.1, fun y hy => this.2 y ((h y).2 hy)⟩
  ·rw [mx_le]
   have := (mx_le (t := t) x (qK [] t)).1 (Int.le_refl _)
   exact ⟨this.1, fun y hy => this.2 y ((h y).1 hy)⟩
 rw [e]
theorem pay_fold : ∀ (x l : List It), x.foldl payF l = l.filter fun z => x.all fun y => !(decide (z.o = y.o) && decide (z.s ≤ y.s))
 | [], l => by
  symm
  rw [List.foldl_nil, List.filter_eq_self]
  intro z _; rfl
 | y :: x, l => by
  rw [List.foldl_cons, pay_fold x, payF, List.filter_filter]
  congr 1; funext z
  rw [List.all_cons, Bool.and_comm]
theorem pay_none {x : List It} (hx : ∀ y ∈ x, it1 y = true) : payS (oweS [] x x.length) x x.length = [] := by
 have h1 := owe_all (l := []) rfl hx x.length
 rw [payS_all, pay_fold, List.filter_eq_nil_iff]
 intro z hz hall
 have hs := itok_of (chn_ok h1 z hz).1
 have hg := gK_of (it_srt h1) hz rfl
 have hq : qK (oweS [] x x.length) z.o = z.s := by rw [qK, hg]; rfl
 rw [oweS_all, qK_fold] at hq
 have : x.foldl (mxF z.o) (qK [] z.o) ≤ z.s - 1 := by
  rw [mx_le]
  refine ⟨by rw [qK_none gK_nil]; omega, fun y hy e => ?_⟩
  have := List.all_eq_true.1 hall y hy
  simp only [e, decide_true, Bool.true_and, Bool.not_eq_true', decide_eq_false_iff_not] at this
  omega
 omega
def idxI (x : List It) (ts : List (BitVec 8)) (i : Nat) : Int := if i < ts.length then ((ts.getD i 0).toNat : Int) % (x.length : Int) else (x.length : Int) - 1 - ((i : Int) - (ts.length : Int))
def zs (x : List It) (ts : List (BitVec 8)) : List It := if 0 < x.length then (List.range (ts.length + x.length)).map fun i => x.getD (idxI x ts i).toNat default else []
theorem idx_in {x : List It} {ts : List (BitVec 8)} {i : Nat} (hx : 0 < x.length) (hi : i < ts.length + x.length) : 0 ≤ idxI x ts i ∧ idxI x ts i < x.length := by
 unfold idxI
 split
 ·exact ⟨Int.emod_nonneg _ (by omega), Int.emod_lt_of_pos _ (by omega)⟩
 ·omega
theorem zs_len (x : List It) (ts : List (BitVec 8)) : (zs x ts).length = if 0 < x.length then ts.length + x.length else 0 := by
 unfold zs; split <;> simp
theorem zs_at {x : List It} {ts : List (BitVec 8)} {i : Nat} (hi : i < (zs x ts).length) : ∃ h : (idxI x ts i).toNat < x.length, (zs x ts)[i] = x[(idxI x ts i).toNat] := by
 have hl := hi
 rw [zs_len] at hl
 split at hl
 ·rename_i hx
  have := idx_in hx hl
  have h2 : (idxI x ts i).toNat < x.length := by omega
  refine ⟨h2, ?_⟩
  have : (zs x ts) = (List.range (ts.length + x.length)).map fun i => x.getD (idxI x ts i).toNat default := if_pos hx
  simp only [this, List.getElem_map, List.getElem_range]
  exact getD_at h2
 ·omega
theorem zs_mem (x : List It) (ts : List (BitVec 8)) (y : It) : y ∈ zs x ts ↔ y ∈ x := by
 constructor
 ·intro h
  obtain ⟨i, hi, rfl⟩ := List.mem_iff_getElem.1 h
  obtain ⟨h2, e⟩ := zs_at hi
  rw [e]; exact List.getElem_mem _
 ·intro h
  obtain ⟨j, hj, rfl⟩ := List.mem_iff_getElem.1 h
  have hi : ts.length + (x.length - 1 - j) < (zs x ts).length := by rw [zs_len, if_pos (by omega)]; omega
  obtain ⟨h2, e⟩ := zs_at hi
  have hj2 : (idxI x ts (ts.length + (x.length - 1 - j))).toNat = j := by
   unfold idxI; rw [if_neg (by omega)]; omega
  have : (zs x ts)[ts.length + (x.length - 1 - j)] = x[j] := by rw [e]; congr 1
  rw [← this]; exact List.getElem_mem _
theorem idx_low {x : List It} {ts : List (BitVec 8)} {i : Nat} (hi : i < ts.length) : idxI x ts i = (ts[i].toNat : Int) % (x.length : Int) := by
 rw [idxI, if_pos hi, List.getD_eq_getElem?_getD, List.getElem?_eq_getElem hi]; rfl
theorem idx_high {x : List It} {ts : List (BitVec 8)} {i : Nat} (hi : ¬ i < ts.length) : idxI x ts i = (x.length : Int) - 1 - ((i : Int) - (ts.length : Int)) := by
 rw [idxI, if_neg hi]
theorem orders {x : List It} (ts : List (BitVec 8)) (hx : ∀ y ∈ x, it1 y = true) : oweS [] (zs x ts) (zs x ts).length = oweS [] x x.length := (owe_order hx fun y => zs_mem x ts y).symm
end Go.Vai.I
