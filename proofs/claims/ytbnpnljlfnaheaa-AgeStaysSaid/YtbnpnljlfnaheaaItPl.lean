import Derived.Test.YtbnpnljlfnaheaaOrdPl
set_option linter.unusedSimpArgs false
set_option linter.unusedVariables false
namespace Go.Vai.I
structure It where
 o : Int
 s : Int
 deriving DecidableEq
instance : Inhabited It := ⟨⟨0, 0⟩⟩
def itok (x : It) : Bool := (decide (x.o ≤ 64) && decide (1 ≤ x.s)) && decide (x.s ≤ 4611686018427387904)
def itOK (l : List It) : Bool := chn itok It.o 0 l
def itE (l : List It) : Int := if itOK l then 0 else 1
def it1 (x : It) : Bool := itok x && decide (0 < x.o)
theorem it1_eq (x : It) : itOK [x] = it1 x := by simp [itOK, chn, it1]
theorem itok_of {x : It} (h : itok x = true) : x.o ≤ 64 ∧ 1 ≤ x.s ∧ x.s ≤ 4611686018427387904 := by
 simp only [itok, Bool.and_eq_true, decide_eq_true_eq] at h; exact ⟨h.1.1, h.1.2, h.2⟩
def lastI (ls : List It) (k : Nat) : Int := if k = 0 then 0 else (ls.getD ((k : Int) - 1).toNat default).o
theorem lastI_succ {ls : List It} {k : Nat} (h : k < ls.length) : lastI ls (k + 1) = ls[k].o := by
 rw [lastI, if_neg (by omega), show (((k + 1 : Nat) : Int) - 1).toNat = k by omega, List.getD_eq_getElem?_getD, List.getElem?_eq_getElem h]; rfl
theorem ri_bad {l : List It} {k : Nat} (h : chn itok It.o 0 l = chn itok It.o (lastI l k) (l.drop k)) (h0 : 0 ≤ lastI l k) (hk : k < l.length)
  (h2 : (((l[k].o < 1 ∨ l[k].o > 64) ∨ l[k].s < 1) ∨ l[k].s > 4611686018427387904) ∨ ((k : Int) > 0 ∧ (l.getD ((k : Int) - 1).toNat default).o ≥ l[k].o)) : itOK l = false := by
 refine chn_no h hk ?_
 by_cases h3 : l[k].o ≤ lastI l k
 ·exact .inr h3
 ·left
  simp only [itok, Bool.and_eq_false_iff, decide_eq_false_iff_not]
  unfold lastI at h3 h0
  split at h3 <;> omega
theorem ri_go0 {l : List It} {k : Nat} (hk : k < l.length) (h2 : (((¬ l[k].o < 1 ∧ ¬ l[k].o > 64) ∧ ¬ l[k].s < 1) ∧ ¬ l[k].s > 4611686018427387904) ∧ (¬ (k : Int) > 0 ∨ ¬ (l.getD ((k : Int) - 1).toNat default).o ≥ l[k].o)) : 0 ≤ lastI l (k + 1) := by
 rw [lastI_succ hk]; omega
theorem ri_go {l : List It} {k : Nat} (h : chn itok It.o 0 l = chn itok It.o (lastI l k) (l.drop k)) (hk : k < l.length)
  (h2 : (((¬ l[k].o < 1 ∧ ¬ l[k].o > 64) ∧ ¬ l[k].s < 1) ∧ ¬ l[k].s > 4611686018427387904) ∧ (¬ (k : Int) > 0 ∨ ¬ (l.getD ((k : Int) - 1).toNat default).o ≥ l[k].o)) : chn itok It.o 0 l = chn itok It.o (lastI l (k + 1)) (l.drop (k + 1)) := by
 rw [lastI_succ hk]
 refine chn_go h hk ?_ ?_
 ·simp only [itok, Bool.and_eq_true, decide_eq_true_eq]; omega
 ·unfold lastI
  split <;> omega
theorem ri_end {l : List It} (h : chn itok It.o 0 l = chn itok It.o (lastI l l.length) (l.drop l.length)) : itOK l = true := by
 rw [itOK, h, chn_end]
def qK (l : List It) (t : Int) : Int := ((gK It.o l t).map It.s).getD 0
def oweF (r : List It) (y : It) : List It := insP It.o r ⟨y.o, max (qK r y.o) y.s⟩
def payF (r : List It) (y : It) : List It := r.filter fun z => !(decide (z.o = y.o) && decide (z.s ≤ y.s))
def oweS (l x : List It) (k : Nat) : List It := (x.take k).foldl oweF l
def payS (l x : List It) (k : Nat) : List It := (x.take k).foldl payF l
def wI (l : List It) (t q : Int) (i : Nat) : Option It := if (if (i : Int) + 1 = t then q else qK l ((i : Int) + 1)) > 0 then some ⟨(i : Int) + 1, if (i : Int) + 1 = t then q else qK l ((i : Int) + 1)⟩ else none
def wS (l : List It) (t q : Int) (k : Nat) : List It := (List.range k).filterMap (wI l t q)
def rOweF (s : Bool × List It) (y : It) : Bool × List It := if qK s.2 y.o < y.s then (false, wS s.2 y.o y.s 64) else s
def rPayF (s : Bool × List It) (y : It) : Bool × List It := if qK s.2 y.o ≤ y.s then (false, wS s.2 y.o 0 64) else s
def rOweS (nil : Bool) (l x : List It) (k : Nat) : Bool × List It := (x.take k).foldl rOweF (nil, l)
def rPayS (nil : Bool) (l x : List It) (k : Nat) : Bool × List It := (x.take k).foldl rPayF (nil, l)
def oweR (nil : Bool) (l x : List It) : Bool × List It × Int := if itOK l && x.all it1 then (nil && decide (x.length = 0), oweS l x x.length, 0) else (true, [], 1)
def payR (nil : Bool) (l x : List It) : Bool × List It × Int := if itOK l && x.all it1 then (nil, payS l x x.length, 0) else (true, [], 1)
def nextR (nil : Bool) (l : List It) (most : Int) : Bool × List It := if itOK l && decide (1 ≤ most) then (nil, l.take (min most l.length).toNat) else (true, [])
end Go.Vai.I
