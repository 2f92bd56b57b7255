import Derived.Test.YtmjnimnnlogomaaOrdPl
set_option linter.unusedSimpArgs false
set_option linter.unusedVariables false
namespace Go.Vai.I
structure It where
 o : Int
 s : Int
 deriving DecidableEq
instance : Inhabited It := ⟨⟨0, 0⟩⟩
def itok (x : It) : Bool := (decide (x.o ≤ 64) && decide (1 ≤ x.s)) && decide (x.s ≤ 4611686018427387904)
def itOK (l : List It) : Bool := chn itok It.o 0 l
def itE (l : List It) : Int := if itOK l then 0 else 1
def it1 (x : It) : Bool := itok x && decide (0 < x.o)
def lastI (ls : List It) (k : Nat) : Int := if k = 0 then 0 else (ls.getD ((k : Int) - 1).toNat default).o
def qK (l : List It) (t : Int) : Int := ((gK It.o l t).map It.s).getD 0
def oweF (r : List It) (y : It) : List It := insP It.o r ⟨y.o, max (qK r y.o) y.s⟩
def payF (r : List It) (y : It) : List It := r.filter fun z => !(decide (z.o = y.o) && decide (z.s ≤ y.s))
def oweS (l x : List It) (k : Nat) : List It := (x.take k).foldl oweF l
def payS (l x : List It) (k : Nat) : List It := (x.take k).foldl payF l
theorem gK_range {α : Type} {ky : α → Int} {f : Nat → Option α} (hf : ∀ i x, f i = some x → ky x = (i : Int) + 1) : ∀ n, Srt ky ((List.range n).filterMap f) ∧ ∀ t, gK ky ((List.range n).filterMap f) t = if 1 ≤ t ∧ t ≤ n then f (t - 1).toNat else none
 | 0 => ⟨List.Pairwise.nil, fun t => by rw [if_neg (by omega)]; rfl⟩
 | n + 1 => by
  obtain ⟨i1, i2⟩ := gK_range hf n
  rw [List.range_succ, List.filterMap_append]
  refine ⟨?_, fun t => ?_⟩
  ·unfold Srt
   rw [List.pairwise_append]
   refine ⟨i1, ?_, fun a ha b hb => ?_⟩
   ·cases e : f n <;> simp [e]
   ·obtain ⟨i, hi, e⟩ := List.mem_filterMap.1 ha
    obtain ⟨j, hj, e2⟩ := List.mem_filterMap.1 hb
    have := hf _ _ e
    have := hf _ _ e2
    have h3 := List.mem_range.1 hi
    simp at hj
    omega
  ·rw [gK_append, i2]
   have h3 : gK ky ([n].filterMap f) t = if t = (n : Int) + 1 then f n else none := by
    cases e : f n with
    | none => simp [e, gK]
    | some x =>
     have := hf _ _ e
     simp only [List.filterMap_cons, e, List.filterMap_nil]
     rw [gK_cons, gK_nil, this]
     by_cases h : t = (n : Int) + 1
     ·rw [if_pos h.symm, if_pos h]
     ·rw [if_neg (fun h' => h h'.symm), if_neg h]
   rw [h3]
   by_cases h1 : 1 ≤ t ∧ t ≤ n
   ·rw [if_pos h1, if_neg (by omega), if_pos (by omega)]; cases f (t - 1).toNat <;> rfl
   ·rw [if_neg h1]
    by_cases h2 : t = (n : Int) + 1
    ·rw [if_pos h2, if_pos (by omega), show (t - 1).toNat = n by omega]; cases f n <;> rfl
    ·rw [if_neg h2, if_neg (by omega)]; rfl
def wI (l : List It) (t q : Int) (i : Nat) : Option It := if (if (i : Int) + 1 = t then q else qK l ((i : Int) + 1)) > 0 then some ⟨(i : Int) + 1, if (i : Int) + 1 = t then q else qK l ((i : Int) + 1)⟩ else none
def wS (l : List It) (t q : Int) (k : Nat) : List It := (List.range k).filterMap (wI l t q)
def rOweF (s : Bool × List It) (y : It) : Bool × List It := if qK s.2 y.o < y.s then (false, wS s.2 y.o y.s 64) else s
def rPayF (s : Bool × List It) (y : It) : Bool × List It := if qK s.2 y.o ≤ y.s then (false, wS s.2 y.o 0 64) else s
def rOweS (nil : Bool) (l x : List It) (k : Nat) : Bool × List It := (x.take k).foldl rOweF (nil, l)
def rPayS (nil : Bool) (l x : List It) (k : Nat) : Bool × List It := (x.take k).foldl rPayF (nil, l)
def oweR (nil : Bool) (l x : List It) : Bool × List It × Int := if itOK l && x.all it1 then (nil && decide (x.length = 0), oweS l x x.length, 0) else (true, [], 1)
def payR (nil : Bool) (l x : List It) : Bool × List It × Int := if itOK l && x.all it1 then (nil, payS l x x.length, 0) else (true, [], 1)
def nextR (nil : Bool) (l : List It) (most : Int) : Bool × List It := if itOK l && decide (1 ≤ most) then (nil, l.take (min most l.length).toNat) else (true, [])
end Go.Vai.I
