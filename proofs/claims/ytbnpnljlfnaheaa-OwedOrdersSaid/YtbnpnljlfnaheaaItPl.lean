import Derived.Test.YtbnpnljlfnaheaaOrdPl
set_option linter.unusedSimpArgs false
set_option linter.unusedVariables false
namespace Go.Vai.I
structure It where
 o : Int
 s : Int
 deriving DecidableEq
instance : Inhabited It := ⟨⟨0, 0⟩⟩
def itok (x : It) : Bool := (decide (x.o ≤ 64) && decide (1 ≤ x.s)) && decide (x.s ≤ 4611686018427387904)
def itOK (l : List It) : Bool := chn itok It.o 0 l
def itE (l : List It) : Int := if itOK l then 0 else 1
def it1 (x : It) : Bool := itok x && decide (0 < x.o)
theorem it1_eq (x : It) : itOK [x] = it1 x := by simp [itOK, chn, it1]
theorem itE_dec (l : List It) : decide (itE l ≠ 0) = !itOK l := by rw [itE]; cases itOK l <;> rfl
theorem itok_of {x : It} (h : itok x = true) : x.o ≤ 64 ∧ 1 ≤ x.s ∧ x.s ≤ 4611686018427387904 := by
 simp only [itok, Bool.and_eq_true, decide_eq_true_eq] at h; exact ⟨h.1.1, h.1.2, h.2⟩
theorem it_no {l : List It} {last : Int} {k : Nat} (h : chn itok It.o 0 l = chn itok It.o last (l.drop k)) (hk : k < l.length) (h2 : ((l[k].o ≤ last ∨ l[k].o > 64) ∨ l[k].s < 1) ∨ l[k].s > 4611686018427387904) : itE l = 1 := by
 have : itOK l = false := by
  refine chn_no h hk ?_
  by_cases h3 : l[k].o ≤ last
  ·exact .inr h3
  ·left
   simp only [itok, Bool.and_eq_false_iff, decide_eq_false_iff_not]
   omega
 rw [itE, this]; rfl
theorem it_go {l : List It} {last : Int} {k : Nat} (h : chn itok It.o 0 l = chn itok It.o last (l.drop k)) (hk : k < l.length) (h2 : ((¬ l[k].o ≤ last ∧ ¬ l[k].o > 64) ∧ ¬ l[k].s < 1) ∧ ¬ l[k].s > 4611686018427387904) : chn itok It.o 0 l = chn itok It.o l[k].o (l.drop (k + 1)) := by
 refine chn_go h hk ?_ (by omega)
 simp only [itok, Bool.and_eq_true, decide_eq_true_eq]
 omega
theorem it_end {l : List It} {last : Int} (h : chn itok It.o 0 l = chn itok It.o last (l.drop l.length)) : itE l = 0 := by
 rw [itE, itOK, h, chn_end]; rfl
def lastI (ls : List It) (k : Nat) : Int := if k = 0 then 0 else (ls.getD ((k : Int) - 1).toNat default).o
theorem lastI_succ {ls : List It} {k : Nat} (h : k < ls.length) : lastI ls (k + 1) = ls[k].o := by
 rw [lastI, if_neg (by omega), show (((k + 1 : Nat) : Int) - 1).toNat = k by omega, List.getD_eq_getElem?_getD, List.getElem?_eq_getElem h]; rfl
theorem ri_bad {l : List It} {k : Nat} (h : chn itok It.o 0 l = chn itok It.o (lastI l k) (l.drop k)) (h0 : 0 ≤ lastI l k) (hk : k < l.length)
  (h2 : (((l[k].o < 1 ∨ l[k].o > 64) ∨ l[k].s < 1) ∨ l[k].s > 4611686018427387904) ∨ ((k : Int) > 0 ∧ (l.getD ((k : Int) - 1).toNat default).o ≥ l[k].o)) : itOK l = false := by
 refine chn_no h hk ?_
 by_cases h3 : l[k].o ≤ lastI l k
 ·exact .inr h3
 ·left
  simp only [itok, Bool.and_eq_false_iff, decide_eq_false_iff_not]
  unfold lastI at h3 h0
  split at h3 <;> omega
theorem ri_go0 {l : List It} {k : Nat} (hk : k < l.length) (h2 : (((¬ l[k].o < 1 ∧ ¬ l[k].o > 64) ∧ ¬ l[k].s < 1) ∧ ¬ l[k].s > 4611686018427387904) ∧ (¬ (k : Int) > 0 ∨ ¬ (l.getD ((k : Int) - 1).toNat default).o ≥ l[k].o)) : 0 ≤ lastI l (k + 1) := by
 rw [lastI_succ hk]; omega
theorem ri_go {l : List It} {k : Nat} (h : chn itok It.o 0 l = chn itok It.o (lastI l k) (l.drop k)) (hk : k < l.length)
  (h2 : (((¬ l[k].o < 1 ∧ ¬ l[k].o > 64) ∧ ¬ l[k].s < 1) ∧ ¬ l[k].s > 4611686018427387904) ∧ (¬ (k : Int) > 0 ∨ ¬ (l.getD ((k : Int) - 1).toNat default).o ≥ l[k].o)) : chn itok It.o 0 l = chn itok It.o (lastI l (k + 1)) (l.drop (k + 1)) := by
 rw [lastI_succ hk]
 refine chn_go h hk ?_ ?_
 ·simp only [itok, Bool.and_eq_true, decide_eq_true_eq]; omega
 ·unfold lastI
  split <;> omega
theorem ri_end {l : List It} (h : chn itok It.o 0 l = chn itok It.o (lastI l l.length) (l.drop l.length)) : itOK l = true := by
 rw [itOK, h, chn_end]
def qK (l : List It) (t : Int) : Int := ((gK It.o l t).map It.s).getD 0
theorem qK_none {l : List It} {t : Int} (h : gK It.o l t = none) : qK l t = 0 := by rw [qK, h]; rfl
theorem it_srt {l : List It} (h : itOK l = true) : Srt It.o l := chn_srt h
def oweF (r : List It) (y : It) : List It := insP It.o r ⟨y.o, max (qK r y.o) y.s⟩
def payF (r : List It) (y : It) : List It := r.filter fun z => !(decide (z.o = y.o) && decide (z.s ≤ y.s))
theorem owe_ok {r : List It} {y : It} (h : itOK r = true) (hy : it1 y = true) : itOK (oweF r y) = true := by
 simp only [it1, Bool.and_eq_true, decide_eq_true_eq] at hy
 have h1 := itok_of hy.1
 refine insP_chn h ?_ hy.2
 have hq : qK r y.o ≤ 4611686018427387904 := by
  unfold qK
  cases e : gK It.o r y.o with
  | none => simp
  | some x => have := itok_of (chn_ok h x (gK_mem e).1).1; simp; omega
 simp only [itok, Bool.and_eq_true, decide_eq_true_eq]
 omega
theorem pay_ok {r : List It} {y : It} (h : itOK r = true) : itOK (payF r y) = true := by
 unfold itOK at h ⊢
 rw [chn_iff] at h ⊢
 exact ⟨h.1.filter, fun x hx => h.2 x (List.mem_filter.1 hx).1⟩
def oweS (l x : List It) (k : Nat) : List It := (x.take k).foldl oweF l
def payS (l x : List It) (k : Nat) : List It := (x.take k).foldl payF l
theorem oweS_succ {l x : List It} {k : Nat} (hk : k < x.length) : oweS l x (k + 1) = oweF (oweS l x k) x[k] := by
 rw [oweS, List.take_succ_eq_append_getElem hk, List.foldl_append]; rfl
theorem payS_succ {l x : List It} {k : Nat} (hk : k < x.length) : payS l x (k + 1) = payF (payS l x k) x[k] := by
 rw [payS, List.take_succ_eq_append_getElem hk, List.foldl_append]; rfl
theorem owe_all {l x : List It} (h : itOK l = true) (hx : ∀ y ∈ x, it1 y = true) : ∀ k, itOK (oweS l x k) = true
 | 0 => h
 | k + 1 => by
  by_cases hk : k < x.length
  ·rw [oweS_succ hk]; exact owe_ok (owe_all h hx k) (hx _ (List.getElem_mem hk))
  ·have := owe_all h hx k
   rw [oweS, List.take_of_length_le (by omega)] at this ⊢; exact this
theorem pay_all {l x : List It} (h : itOK l = true) : ∀ k, itOK (payS l x k) = true
 | 0 => h
 | k + 1 => by
  by_cases hk : k < x.length
  ·rw [payS_succ hk]; exact pay_ok (pay_all h k)
  ·have := pay_all (x := x) h k
   rw [payS, List.take_of_length_le (by omega)] at this ⊢; exact this
theorem it_len {l : List It} (h : itOK l = true) : l.length ≤ 64 := by
 have h1 := chn_iff.1 h
 have : ∀ (l : List It) (t : Int), 0 ≤ t → t ≤ 64 → Srt It.o l → (∀ x ∈ l, x.o ≤ 64 ∧ t < x.o) → (l.length : Int) ≤ 64 - t := by
  intro l
  induction l with
  | nil => intro t h0 h1 _ _; simp; omega
  | cons x l ih =>
   intro t h0 _ hs hx
   have hx0 := hx x (List.mem_cons_self ..)
   have := ih x.o (by omega) hx0.1 hs.tail fun y hy => ⟨(hx y (List.mem_cons_of_mem _ hy)).1, hs.head y hy⟩
   simp only [List.length_cons]; omega
 have := this l 0 (by omega) (by omega) h1.1 fun x hx => ⟨(itok_of (h1.2 x hx).1).1, (h1.2 x hx).2⟩
 omega
theorem oweF_new {r : List It} {y : It} (h : itOK r = true) (hn : isK It.o r y.o = false) (hy : it1 y = true) : oweF r y = r.take (posK It.o r y.o) ++ [y] ++ r.drop (posK It.o r y.o) := by
 simp only [it1, Bool.and_eq_true, decide_eq_true_eq] at hy
 have h1 := itok_of hy.1
 have hq : qK r y.o = 0 := by
  rw [isK_gK, Option.isSome_eq_false_iff, Option.isNone_iff_eq_none] at hn
  exact qK_none hn
 rw [ins_new (it_srt h) hn, oweF, hq, show max (0 : Int) y.s = y.s by omega]
theorem oweF_old {r : List It} {y : It} (h : itOK r = true) (hn : isK It.o r y.o = true) : oweF r y = r.set (posK It.o r y.o) ⟨(r[posK It.o r y.o]'(pos_lt (it_srt h) hn)).o, if y.s > (r[posK It.o r y.o]'(pos_lt (it_srt h) hn)).s then y.s else (r[posK It.o r y.o]'(pos_lt (it_srt h) hn)).s⟩ := by
 have hs := it_srt h
 obtain ⟨e1, e2⟩ := pos_at hs hn
 have hq : qK r y.o = (r[posK It.o r y.o]'(pos_lt hs hn)).s := by rw [qK, e2]; rfl
 rw [oweF, hq]
 have : (⟨(r[posK It.o r y.o]'(pos_lt hs hn)).o, if y.s > (r[posK It.o r y.o]'(pos_lt hs hn)).s then y.s else (r[posK It.o r y.o]'(pos_lt hs hn)).s⟩ : It) = ⟨y.o, max (r[posK It.o r y.o]'(pos_lt hs hn)).s y.s⟩ := by
  rw [e1]; congr 1; split <;> omega
 rw [this]
 have := ins_old (x := (⟨y.o, max (r[posK It.o r y.o]'(pos_lt hs hn)).s y.s⟩ : It)) hs hn
 exact this.symm
theorem payF_no {r : List It} {y : It} (h : itOK r = true) (hn : isK It.o r y.o = false ∨ ¬ qK r y.o ≤ y.s) : payF r y = r := by
 rw [payF, List.filter_eq_self]
 intro z hz
 have hs := it_srt h
 by_cases e : z.o = y.o
 ·have hg := gK_of hs hz e
  have hi : isK It.o r y.o = true := by rw [isK_gK, hg]; rfl
  rw [hi] at hn
  simp only [Bool.true_eq_false, false_or] at hn
  rw [qK, hg] at hn
  simp at hn
  simp [e]; omega
 ·simp [e]
theorem payF_yes {r : List It} {y : It} (h : itOK r = true) (hn : isK It.o r y.o = true) (h2 : qK r y.o ≤ y.s) : payF r y = r.take (posK It.o r y.o) ++ r.drop (posK It.o r y.o + 1) := by
 have hs := it_srt h
 rw [del_at hs hn, payF]
 apply List.filter_congr
 intro z hz
 by_cases e : z.o = y.o
 ·have hg := gK_of hs hz e
  rw [qK, hg] at h2
  simp at h2
  simp [e, h2]
 ·simp [e]
def wI (l : List It) (t q : Int) (i : Nat) : Option It := if (if (i : Int) + 1 = t then q else qK l ((i : Int) + 1)) > 0 then some ⟨(i : Int) + 1, if (i : Int) + 1 = t then q else qK l ((i : Int) + 1)⟩ else none
def wS (l : List It) (t q : Int) (k : Nat) : List It := (List.range k).filterMap (wI l t q)
def rOweF (s : Bool × List It) (y : It) : Bool × List It := if qK s.2 y.o < y.s then (false, wS s.2 y.o y.s 64) else s
def rPayF (s : Bool × List It) (y : It) : Bool × List It := if qK s.2 y.o ≤ y.s then (false, wS s.2 y.o 0 64) else s
def rOweS (nil : Bool) (l x : List It) (k : Nat) : Bool × List It := (x.take k).foldl rOweF (nil, l)
def rPayS (nil : Bool) (l x : List It) (k : Nat) : Bool × List It := (x.take k).foldl rPayF (nil, l)
def oweR (nil : Bool) (l x : List It) : Bool × List It × Int := if itOK l && x.all it1 then (nil && decide (x.length = 0), oweS l x x.length, 0) else (true, [], 1)
def payR (nil : Bool) (l x : List It) : Bool × List It × Int := if itOK l && x.all it1 then (nil, payS l x x.length, 0) else (true, [], 1)
def nextR (nil : Bool) (l : List It) (most : Int) : Bool × List It := if itOK l && decide (1 ≤ most) then (nil, l.take (min most l.length).toNat) else (true, [])
theorem cut1 {α : Type} {x : List α} {k : Nat} (hk : k < x.length) : List.drop k (List.take ((k : Int) + 1).toNat x) = [x[k]] := by
 rw [show ((k : Int) + 1).toNat = k + 1 by omega, List.take_succ_eq_append_getElem hk, List.drop_append_of_le_length (by simp; omega), List.drop_eq_nil_of_le (by simp; omega)]; rfl
theorem it_way (l : List It) (t : Int) : isK It.o l t = false ∨ isK It.o l t = true := by cases isK It.o l t <;> simp
theorem qK_at {l : List It} {t v : Int} (hs : Srt It.o l) (hn : isK It.o l t = true) (h : (l[posK It.o l t]'(pos_lt hs hn)).s ≤ v) : qK l t ≤ v := by
 rw [qK, (pos_at hs hn).2]; exact h
theorem qK_at2 {l : List It} {t v : Int} (hs : Srt It.o l) (hn : isK It.o l t = true) (h : ¬ (l[posK It.o l t]'(pos_lt hs hn)).s ≤ v) : ¬ qK l t ≤ v := by
 rw [qK, (pos_at hs hn).2]; exact h
end Go.Vai.I
