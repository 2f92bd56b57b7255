import Derived.Test.YtheihmlgnldijaaVaiE
set_option linter.unusedSimpArgs false
set_option linter.unusedVariables false
namespace Go.Vai
section
variable {α : Type}
def Srt (ky : α → Int) (l : List α) : Prop := l.Pairwise fun a b => ky a < ky b
def gK (ky : α → Int) (l : List α) (t : Int) : Option α := l.find? fun x => decide (ky x = t)
variable {ky : α → Int} {l m : List α} {t : Int}
theorem getD_at [Inhabited α] {j : Nat} (hj : j < l.length) : l.getD j default = l[j] := by rw [List.getD_eq_getElem?_getD, List.getElem?_eq_getElem hj]; rfl
theorem rise_iff [Inhabited α] : Rise ky l ↔ Srt ky l := by
 unfold Rise Srt
 rw [List.pairwise_iff_getElem]
 constructor
 ·intro h i j hi hj hij
  have := h i j hij hj
  rwa [getD_at hi, getD_at hj] at this
 ·intro h i j hij hj
  rw [getD_at (by omega), getD_at hj]
  exact h i j (by omega) hj hij
theorem Srt.tail {x : α} (h : Srt ky (x :: l)) : Srt ky l := (List.pairwise_cons.1 h).2
theorem Srt.head {x : α} (h : Srt ky (x :: l)) : ∀ y ∈ l, ky x < ky y := (List.pairwise_cons.1 h).1
theorem Srt.filter {p : α → Bool} (h : Srt ky l) : Srt ky (l.filter p) := List.Pairwise.filter p h
theorem srt_inj (h : Srt ky l) {x y : α} (hx : x ∈ l) (hy : y ∈ l) (e : ky x = ky y) : x = y := by
 induction l with
 | nil => simp at hx
 | cons z l ih =>
  rcases List.mem_cons.1 hx with e1 | h1
  ·rcases List.mem_cons.1 hy with e2 | h2
   ·rw [e1, e2]
   ·have := h.head y h2; rw [← e1] at this; omega
  ·rcases List.mem_cons.1 hy with e2 | h2
   ·have := h.head x h1; rw [← e2] at this; omega
   ·exact ih h.tail h1 h2
theorem gK_mem {x : α} (h : gK ky l t = some x) : x ∈ l ∧ ky x = t := by
 unfold gK at h
 exact ⟨List.mem_of_find?_eq_some h, by simpa using List.find?_some h⟩
theorem gK_none : gK ky l t = none ↔ ∀ x ∈ l, ky x ≠ t := by
 unfold gK; rw [List.find?_eq_none]; simp
theorem gK_of (h : Srt ky l) {x : α} (hx : x ∈ l) (e : ky x = t) : gK ky l t = some x := by
 cases hg : gK ky l t with
 | none => exact absurd e (gK_none.1 hg x hx)
 | some y =>
  obtain ⟨hy, ey⟩ := gK_mem hg
  rw [srt_inj h hx hy (by omega)]
theorem gK_nil : gK ky ([] : List α) t = none := rfl
theorem gK_cons {x : α} : gK ky (x :: l) t = if ky x = t then some x else gK ky l t := by
 unfold gK; rw [List.find?_cons]
 by_cases h : ky x = t <;> simp [h]
theorem gK_append : gK ky (l ++ m) t = (gK ky l t).or (gK ky m t) := by unfold gK; rw [List.find?_append]
theorem gK_filter {p : α → Bool} : gK ky (l.filter p) t = l.find? fun x => p x && decide (ky x = t) := by
 unfold gK; rw [List.find?_filter]; congr 1; funext x; rw [Bool.decide_and, Bool.decide_eq_true, Bool.decide_eq_true]
theorem srt_ext (h1 : Srt ky l) (h2 : Srt ky m) (h : ∀ t, gK ky l t = gK ky m t) : l = m := by
 have hm : ∀ x, x ∈ l ↔ x ∈ m := fun x => by
  constructor
  ·intro hx
   have := gK_of h1 hx rfl
   rw [h] at this
   exact (gK_mem this).1
  ·intro hx
   have := gK_of h2 hx rfl
   rw [← h] at this
   exact (gK_mem this).1
 clear h
 induction l generalizing m with
 | nil =>
  cases m with
  | nil => rfl
  | cons y m => exact absurd ((hm y).2 (List.mem_cons_self ..)) (by simp)
 | cons x l ih =>
  cases m with
  | nil => exact absurd ((hm x).1 (List.mem_cons_self ..)) (by simp)
  | cons y m =>
   have exy : x = y := by
    rcases List.mem_cons.1 ((hm x).1 (List.mem_cons_self ..)) with e | e
    ·exact e
    ·rcases List.mem_cons.1 ((hm y).2 (List.mem_cons_self ..)) with e2 | e2
     ·exact e2.symm
     ·have a := h2.head x e; have b := h1.head y e2; omega
   subst exy
   rw [ih h1.tail h2.tail fun z => ?_]
   constructor
   ·intro hz
    rcases List.mem_cons.1 ((hm z).1 (List.mem_cons_of_mem _ hz)) with e | e
    ·have := h1.head z hz; rw [e] at this; omega
    ·exact e
   ·intro hz
    rcases List.mem_cons.1 ((hm z).2 (List.mem_cons_of_mem _ hz)) with e | e
    ·have := h2.head z hz; rw [e] at this; omega
    ·exact e
theorem isK_gK : isK ky l t = (gK ky l t).isSome := by
 unfold isK gK
 rw [Bool.eq_iff_iff, List.find?_isSome]; simp
theorem pos_take (h : Srt ky l) : l.take (posK ky l t) = l.filter (fun x => decide (ky x < t)) ∧ l.drop (posK ky l t) = l.filter (fun x => decide (¬ ky x < t)) := by
 induction l with
 | nil => exact ⟨rfl, rfl⟩
 | cons x l ih =>
  obtain ⟨i1, i2⟩ := ih h.tail
  by_cases hx : ky x < t
  ·have e : posK ky (x :: l) t = posK ky l t + 1 := by simp [posK, hx]
   rw [e, List.take_succ_cons, List.drop_succ_cons, i1, i2]
   simp [hx]
  ·have e : posK ky (x :: l) t = 0 := by
    simp only [posK, List.filter_cons, hx, decide_false, Bool.false_eq_true, if_false, List.length_eq_zero_iff, List.filter_eq_nil_iff, decide_eq_true_eq]
    intro y hy; have := h.head y hy; omega
   have e2 : l.filter (fun x => decide (ky x < t)) = [] := by
    rw [List.filter_eq_nil_iff]; intro y hy; have := h.head y hy; simp; omega
   have e3 : l.filter (fun x => decide (¬ ky x < t)) = l := by
    rw [List.filter_eq_self]; intro y hy; have := h.head y hy; simp; omega
   rw [e, List.take_zero, List.drop_zero]
   simp only [List.filter_cons, hx, decide_false, Bool.false_eq_true, if_false, e2, e3, not_false_eq_true, decide_true, if_true, and_self]
def insP (ky : α → Int) (l : List α) (x : α) : List α := l.filter (fun y => decide (ky y < ky x)) ++ [x] ++ l.filter (fun y => decide (ky x < ky y))
theorem insP_srt (h : Srt ky l) (x : α) : Srt ky (insP ky l x) := by
 unfold insP Srt
 rw [List.pairwise_append, List.pairwise_append]
 refine ⟨⟨h.filter, by simp, ?_⟩, h.filter, ?_⟩
 ·intro a ha b hb
  simp only [List.mem_filter, decide_eq_true_eq] at ha
  rw [List.mem_singleton.1 hb]; exact ha.2
 ·intro a ha b hb
  simp only [List.mem_filter, decide_eq_true_eq] at hb
  rcases List.mem_append.1 ha with ha | ha
  ·simp only [List.mem_filter, decide_eq_true_eq] at ha; omega
  ·rw [List.mem_singleton.1 ha]; exact hb.2
theorem find_and {p q : α → Bool} (h : ∀ x ∈ l, q x = true → p x = true) : l.find? (fun x => p x && q x) = l.find? q := by
 induction l with
 | nil => rfl
 | cons x l ih =>
  rw [List.find?_cons, List.find?_cons, ih fun y hy => h y (List.mem_cons_of_mem _ hy)]
  cases hq : q x with
  | false => simp
  | true => simp [h x (List.mem_cons_self ..) hq]
theorem find_no {p q : α → Bool} (h : ∀ x ∈ l, q x = true → p x = false) : l.find? (fun x => p x && q x) = none := by
 rw [List.find?_eq_none]
 intro x hx hpq
 simp only [Bool.and_eq_true] at hpq
 rw [h x hx hpq.2] at hpq
 cases hpq.1
theorem insP_gK (x : α) : gK ky (insP ky l x) t = if t = ky x then some x else gK ky l t := by
 unfold insP
 rw [gK_append, gK_append, gK_filter, gK_filter, gK_cons, gK_nil]
 by_cases e : t = ky x
 ·subst e
  rw [find_no (fun y _ hq => by simp only [decide_eq_true_eq] at hq ⊢; simp; omega)]
  simp
 ·rw [if_neg e, if_neg (fun h => e h.symm)]
  rcases Int.lt_or_gt_of_ne e with h | h
  ·rw [find_and (fun y _ hq => by simp only [decide_eq_true_eq] at hq ⊢; omega), find_no (p := fun y => decide (ky x < ky y)) (fun y _ hq => by simp only [decide_eq_true_eq] at hq ⊢; simp; omega)]
   simp [gK]
  ·rw [find_no (p := fun y => decide (ky y < ky x)) (fun y _ hq => by simp only [decide_eq_true_eq] at hq ⊢; simp; omega), find_and (fun y _ hq => by simp only [decide_eq_true_eq] at hq ⊢; omega)]
   simp [gK]
theorem ins_new (h : Srt ky l) {x : α} (hn : isK ky l (ky x) = false) : l.take (posK ky l (ky x)) ++ [x] ++ l.drop (posK ky l (ky x)) = insP ky l x := by
 obtain ⟨h1, h2⟩ := pos_take (t := ky x) h
 rw [h1, h2, insP]
 congr 1
 apply List.filter_congr
 intro y hy
 have : ky y ≠ ky x := by
  rw [isK_gK, Option.isSome_eq_false_iff, Option.isNone_iff_eq_none, gK_none] at hn
  exact hn y hy
 rw [decide_eq_decide]; omega
theorem pos_lt (h : Srt ky l) (hn : isK ky l t = true) : posK ky l t < l.length := by
 have h1 := (pos_take (t := t) h).2
 rw [isK_gK, Option.isSome_iff_exists] at hn
 obtain ⟨y, hy⟩ := hn
 obtain ⟨hy, e⟩ := gK_mem hy
 rcases Nat.lt_or_ge (posK ky l t) l.length with g | g
 ·exact g
 ·rw [List.drop_of_length_le g] at h1
  have : y ∈ l.filter (fun x => decide (¬ ky x < t)) := by rw [List.mem_filter]; exact ⟨hy, by simp; omega⟩
  rw [← h1] at this; simp at this
theorem pos_at (h : Srt ky l) (hn : isK ky l t = true) : ky (l[posK ky l t]'(pos_lt h hn)) = t ∧ gK ky l t = some (l[posK ky l t]'(pos_lt h hn)) := by
 have hp := pos_lt h hn
 have h1 := (pos_take (t := t) h).2
 rw [isK_gK, Option.isSome_iff_exists] at hn
 obtain ⟨y, hy⟩ := hn
 obtain ⟨hy1, e⟩ := gK_mem hy
 have hmem : y ∈ l.drop (posK ky l t) := by rw [h1, List.mem_filter]; exact ⟨hy1, by simp; omega⟩
 have hsd : Srt ky (l.drop (posK ky l t)) := List.Pairwise.drop h
 rw [List.drop_eq_getElem_cons hp] at hmem hsd
 have hge : ¬ ky (l[posK ky l t]) < t := by
  have : l[posK ky l t] ∈ l.drop (posK ky l t) := by rw [List.drop_eq_getElem_cons hp]; exact List.mem_cons_self ..
  rw [h1, List.mem_filter] at this
  simpa using this.2
 rcases List.mem_cons.1 hmem with e1 | e1
 ·rw [← e1]; exact ⟨e, hy⟩
 ·have := hsd.head y e1; omega
theorem ins_old (h : Srt ky l) {x : α} (hn : isK ky l (ky x) = true) : l.set (posK ky l (ky x)) x = insP ky l x := by
 have hp := pos_lt h hn
 obtain ⟨h1, h2⟩ := pos_take (t := ky x) h
 rw [List.set_eq_take_append_cons_drop, if_pos hp, insP, h1, List.append_assoc]
 congr 1
 rw [List.singleton_append]
 congr 1
 have h3 : l.drop (posK ky l (ky x)) = l[posK ky l (ky x)] :: l.drop (posK ky l (ky x) + 1) := List.drop_eq_getElem_cons hp
 have h4 := (pos_at h hn).1
 rw [h2] at h3
 have h5 : (l.filter (fun y => decide (¬ ky y < ky x))).filter (fun y => decide (ky x < ky y)) = l.filter (fun y => decide (ky x < ky y)) := by
  rw [List.filter_filter]
  apply List.filter_congr
  intro y _
  rw [← Bool.decide_and, decide_eq_decide]; omega
 rw [← h5, h3, List.filter_cons, if_neg (by simp; omega)]
 have hsd : Srt ky (l.drop (posK ky l (ky x))) := List.Pairwise.drop h
 rw [h2, h3] at hsd
 symm
 rw [List.filter_eq_self]
 intro y hy
 have := hsd.head y hy
 simp; omega
def rstep (ky : α → Int) (x : α) (s : List α × Bool) (y : α) : List α × Bool :=
 let s1 := if (!s.2 && decide (ky y ≥ ky x)) = true then (s.1 ++ [x], true) else s
 if ky y ≠ ky x then (s1.1 ++ [y], s1.2) else s1
def rS (ky : α → Int) (l : List α) (x : α) (k : Nat) : List α × Bool := (l.take k).foldl (rstep ky x) ([], false)
theorem rS_succ {x : α} {k : Nat} (hk : k < l.length) : rS ky l x (k + 1) = rstep ky x (rS ky l x k) l[k] := by
 rw [rS, List.take_succ_eq_append_getElem hk, List.foldl_append]; rfl
def refPut (ky : α → Int) (l : List α) (x : α) : List α := if (!(rS ky l x l.length).2) = true then (rS ky l x l.length).1 ++ [x] else (rS ky l x l.length).1
theorem rfold_true {x : α} : ∀ {l : List α} (o : List α), (∀ y ∈ l, ky x < ky y) → l.foldl (rstep ky x) (o, true) = (o ++ l, true)
 | [], o, _ => by simp
 | y :: l, o, h => by
  have h0 := h y (List.mem_cons_self ..)
  rw [List.foldl_cons]
  have : rstep ky x (o, true) y = (o ++ [y], true) := by
   simp only [rstep, Bool.not_true, Bool.false_and, Bool.false_eq_true, if_false]
   rw [if_pos (by omega)]
  rw [this, rfold_true _ fun z hz => h z (List.mem_cons_of_mem _ hz)]
  simp
theorem rfold_false {x : α} : ∀ {l : List α} (o : List α), Srt ky l → (let s := l.foldl (rstep ky x) (o, false); (if (!s.2) = true then s.1 ++ [x] else s.1)) = o ++ insP ky l x
 | [], o, _ => by simp [insP]
 | y :: l, o, h => by
  rw [List.foldl_cons]
  by_cases hy : ky y < ky x
  ·have : rstep ky x (o, false) y = (o ++ [y], false) := by
    have a1 : decide (ky y ≥ ky x) = false := decide_eq_false (by omega)
    have a2 : ¬ ky y = ky x := by omega
    simp [rstep, a1, a2]
   rw [this, rfold_false _ h.tail]
   simp only [insP, List.filter_cons, hy, decide_true, if_true, decide_eq_true_eq]
   rw [if_neg (by omega)]
   simp
  ·have hg : ∀ z ∈ l, ky x < ky z := fun z hz => by have := h.head z hz; omega
   have e1 : l.filter (fun z => decide (ky z < ky x)) = [] := by rw [List.filter_eq_nil_iff]; intro z hz; have := hg z hz; simp; omega
   have e2 : l.filter (fun z => decide (ky x < ky z)) = l := by rw [List.filter_eq_self]; intro z hz; have := hg z hz; simpa using this
   by_cases he : ky y = ky x
   ·have : rstep ky x (o, false) y = (o ++ [x], true) := by
     have a1 : decide (ky y ≥ ky x) = true := decide_eq_true (by omega)
     simp [rstep, a1, he]
    rw [this, rfold_true _ hg]
    simp [insP, e1, e2, he]
   ·have : rstep ky x (o, false) y = (o ++ [x] ++ [y], true) := by
     have a1 : decide (ky y ≥ ky x) = true := decide_eq_true (by omega)
     simp [rstep, a1, he]
    rw [this, rfold_true _ hg]
    have h3 : ky x < ky y := by omega
    simp [insP, e1, e2, hy, h3]
theorem refPut_eq (h : Srt ky l) (x : α) : refPut ky l x = insP ky l x := by
 have := rfold_false (x := x) ([] : List α) h
 rw [refPut, rS, List.take_length]
 simpa using this
def chn (ok : α → Bool) (ky : α → Int) : Int → List α → Bool
 | _, [] => true
 | last, x :: r => (ok x && decide (last < ky x)) && chn ok ky (ky x) r
variable {ok : α → Bool} {last : Int}
theorem chn_drop {k : Nat} (h : k < l.length) : chn ok ky last (l.drop k) = ((ok l[k] && decide (last < ky l[k])) && chn ok ky (ky l[k]) (l.drop (k + 1))) := by
 rw [List.drop_eq_getElem_cons h]; rfl
theorem chn_end : chn ok ky last (l.drop l.length) = true := by simp [chn]
theorem chn_go {k : Nat} (h : chn ok ky t l = chn ok ky last (l.drop k)) (hk : k < l.length) (h1 : ok l[k] = true) (h2 : last < ky l[k]) : chn ok ky t l = chn ok ky (ky l[k]) (l.drop (k + 1)) := by
 rw [h, chn_drop hk, h1, decide_eq_true h2]; rfl
theorem chn_no {k : Nat} (h : chn ok ky t l = chn ok ky last (l.drop k)) (hk : k < l.length) (h1 : ok l[k] = false ∨ ky l[k] ≤ last) : chn ok ky t l = false := by
 rw [h, chn_drop hk]
 rcases h1 with h1 | h1
 ·rw [h1]; rfl
 ·rw [decide_eq_false (by omega)]; simp
theorem chn_ok : ∀ {l : List α} {t : Int}, chn ok ky t l = true → ∀ x ∈ l, ok x = true ∧ t < ky x
 | [], _, _, _, h => by simp at h
 | y :: l, t, h, x, hx => by
  simp only [chn, Bool.and_eq_true, decide_eq_true_eq] at h
  rcases List.mem_cons.1 hx with rfl | hx
  ·exact h.1
  ·have := chn_ok h.2 x hx; exact ⟨this.1, by omega⟩
theorem chn_srt : ∀ {l : List α} {t : Int}, chn ok ky t l = true → Srt ky l
 | [], _, _ => List.Pairwise.nil
 | y :: l, t, h => by
  simp only [chn, Bool.and_eq_true, decide_eq_true_eq] at h
  exact List.pairwise_cons.2 ⟨fun x hx => (chn_ok h.2 x hx).2, chn_srt h.2⟩
theorem chn_of : ∀ {l : List α} {t : Int}, Srt ky l → (∀ x ∈ l, ok x = true ∧ t < ky x) → chn ok ky t l = true
 | [], _, _, _ => rfl
 | y :: l, t, h, h2 => by
  simp only [chn, Bool.and_eq_true, decide_eq_true_eq]
  exact ⟨h2 y (List.mem_cons_self ..), chn_of h.tail fun x hx => ⟨(h2 x (List.mem_cons_of_mem _ hx)).1, h.head x hx⟩⟩
theorem chn_iff : chn ok ky t l = true ↔ Srt ky l ∧ ∀ x ∈ l, ok x = true ∧ t < ky x := ⟨fun h => ⟨chn_srt h, chn_ok h⟩, fun ⟨a, b⟩ => chn_of a b⟩
theorem insP_mem {x y : α} (h : y ∈ insP ky l x) : y = x ∨ y ∈ l := by
 unfold insP at h
 rcases List.mem_append.1 h with h | h
 ·rcases List.mem_append.1 h with h | h
  ·exact .inr (List.mem_filter.1 h).1
  ·exact .inl (List.mem_singleton.1 h)
 ·exact .inr (List.mem_filter.1 h).1
theorem insP_chn {x : α} (h : chn ok ky t l = true) (h1 : ok x = true) (h2 : t < ky x) : chn ok ky t (insP ky l x) = true := by
 rw [chn_iff] at h ⊢
 refine ⟨insP_srt h.1 x, fun y hy => ?_⟩
 rcases insP_mem hy with rfl | hy
 ·exact ⟨h1, h2⟩
 ·exact h.2 y hy
end
section
variable {α : Type} {ky : α → Int} {l : List α} {x : α} {k : Nat} {t : Int}
theorem rS_tt (hk : k < l.length) (h1 : (!(rS ky l x k).2 && decide (ky l[k] ≥ ky x)) = true) (h2 : decide (ky l[k] ≠ ky x) = true) : rS ky l x (k + 1) = ((rS ky l x k).1 ++ [x] ++ [l[k]], true) := by
 rw [rS_succ hk, rstep, if_pos h1]; simp only [decide_eq_true_eq] at h2; rw [if_pos h2]
theorem rS_tf (hk : k < l.length) (h1 : (!(rS ky l x k).2 && decide (ky l[k] ≥ ky x)) = true) (h2 : decide (ky l[k] ≠ ky x) = false) : rS ky l x (k + 1) = ((rS ky l x k).1 ++ [x], true) := by
 rw [rS_succ hk, rstep, if_pos h1]; simp only [decide_eq_false_iff_not] at h2; rw [if_neg h2]
theorem rS_ft (hk : k < l.length) (h1 : (!(rS ky l x k).2 && decide (ky l[k] ≥ ky x)) = false) (h2 : decide (ky l[k] ≠ ky x) = true) : rS ky l x (k + 1) = ((rS ky l x k).1 ++ [l[k]], (rS ky l x k).2) := by
 simp only [decide_eq_true_eq] at h2; rw [rS_succ hk, rstep]; simp only [h1, h2, Bool.false_eq_true, if_false, ne_eq, not_false_eq_true, if_true]
theorem rS_ff (hk : k < l.length) (h1 : (!(rS ky l x k).2 && decide (ky l[k] ≥ ky x)) = false) (h2 : decide (ky l[k] ≠ ky x) = false) : rS ky l x (k + 1) = rS ky l x k := by
 simp only [decide_eq_false_iff_not] at h2; rw [rS_succ hk, rstep]; simp only [h1, h2, Bool.false_eq_true, if_false]
theorem rfin_t (h : (!(rS ky l x l.length).2) = true) : refPut ky l x = (rS ky l x l.length).1 ++ [x] := by rw [refPut, if_pos h]
theorem rfin_f (h : (!(rS ky l x l.length).2) = false) : refPut ky l x = (rS ky l x l.length).1 := by rw [refPut, if_neg (by rw [h]; simp)]
theorem gK_hit (hk : k < l.length) (h : gK ky (l.take k) t = none) (h2 : ky l[k] = t) : gK ky l t = some l[k] := by
 have e : l = l.take k ++ l[k] :: l.drop (k + 1) := by rw [← List.drop_eq_getElem_cons hk, List.take_append_drop]
 conv => lhs; rw [e]
 rw [gK_append, h, gK_cons, if_pos h2]; rfl
end
end Go.Vai
