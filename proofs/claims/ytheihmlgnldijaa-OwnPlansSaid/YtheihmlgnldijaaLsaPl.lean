import Derived.Test.YtheihmlgnldijaaOctPl
set_option linter.unusedSimpArgs false
set_option linter.unusedVariables false
namespace Go.Vai.L
open Go.Vai.O
structure LinkS where
 to : Int
 co : Int
 deriving DecidableEq, Inhabited
structure Lsa where
 o : Int
 s : Int
 nil : Bool
 ls : List LinkS
def linkA (x : LinkS) : AV := .agg [.i .i64 x.to, .i .i64 x.co]
theorem cellsOf_link (x : LinkS) : cellsOf (linkA x) = [.i .i64 x.to, .i .i64 x.co] := rfl
@[simp] theorem noPtrL_links (ls : List LinkS) : noPtrL (ls.map linkA) = true := noPtrL_map (fun _ => rfl) _
def node (n : Int) : Bool := decide (n ≥ 1) && decide (n ≤ 64)
def linkOK (o last : Int) (x : LinkS) : Bool := node x.to && (decide (last < x.to) && (!decide (x.to = o) && (decide (1 ≤ x.co) && decide (x.co ≤ 1073741824))))
def linksOK (o : Int) : Int → List LinkS → Bool
 | _, [] => true
 | last, x :: r => linkOK o last x && linksOK o x.to r
def lsaOK (l : Lsa) : Bool := node l.o && (decide (1 ≤ l.s) && (decide (l.s ≤ 4611686018427387904) && (decide (l.ls.length ≤ 16) && linksOK l.o 0 l.ls)))
def lsaE (l : Lsa) : Int := if lsaOK l then 0 else 1
def lastOf (ls : List LinkS) (k : Nat) : Int := if k = 0 then 0 else (ls.getD ((k : Int) - 1).toNat default).to
theorem lastOf_succ {ls : List LinkS} {k : Nat} (h : k < ls.length) : lastOf ls (k + 1) = ls[k].to := by
 rw [lastOf, if_neg (by omega), show (((k + 1 : Nat) : Int) - 1).toNat = k by omega, List.getD_eq_getElem?_getD, List.getElem?_eq_getElem h]; rfl
theorem links_drop {o last : Int} {ls : List LinkS} {k : Nat} (h : k < ls.length) : linksOK o last (ls.drop k) = (linkOK o last ls[k] && linksOK o ls[k].to (ls.drop (k + 1))) := by
 rw [List.drop_eq_getElem_cons h]; rfl
theorem links_end {o last : Int} {ls : List LinkS} : linksOK o last (ls.drop ls.length) = true := by simp [linksOK]
theorem link_is {o last : Int} {x : LinkS} (h : ((((!node x.to) = false ∧ ¬ x.to ≤ last) ∧ ¬ x.to = o) ∧ ¬ x.co < 1) ∧ ¬ x.co > 1073741824) : linkOK o last x = true := by
 obtain ⟨⟨⟨⟨h1, h2⟩, h3⟩, h4⟩, h5⟩ := h
 have h1 : node x.to = true := by simpa using h1
 simp only [linkOK, h1, Bool.true_and, Bool.and_eq_true, decide_eq_true_eq, Bool.not_eq_true', decide_eq_false_iff_not]
 exact ⟨by omega, h3, by omega, by omega⟩
theorem lsa_is {l : Lsa} (h : (((!node l.o) = false ∧ ¬ l.s < 1) ∧ ¬ l.s > 4611686018427387904) ∧ ¬ (l.ls.length : Int) > 16) (hk : linksOK l.o 0 l.ls = true) : lsaOK l = true := by
 obtain ⟨⟨⟨h1, h2⟩, h3⟩, h4⟩ := h
 have h1 : node l.o = true := by simpa using h1
 simp only [lsaOK, h1, hk, Bool.true_and, Bool.and_true, Bool.and_eq_true, decide_eq_true_eq]
 exact ⟨by omega, by omega, by omega⟩
theorem may_no {o : Int} {ls : List LinkS} {k : Nat} {x : LinkS} (h : ((((x.to < 1 ∨ x.to > 64) ∨ x.to = o) ∨ x.co < 1) ∨ x.co > 1073741824) ∨ ((k : Int) > 0 ∧ (ls.getD ((k : Int) - 1).toNat default).to ≥ x.to)) : linkOK o (lastOf ls k) x = false := by
 cases hx : linkOK o (lastOf ls k) x with
 | false => rfl
 | true =>
  simp only [linkOK, node, Bool.and_eq_true, decide_eq_true_eq, Bool.not_eq_true', decide_eq_false_iff_not] at hx
  obtain ⟨⟨h1, h2⟩, h3, h4, h5, h6⟩ := hx
  exfalso
  rcases h with ((((h | h) | h) | h) | h) | ⟨h, h'⟩ <;> first | omega | exact h4 h | (rw [lastOf, if_neg (by omega)] at h3; omega)
theorem may_is {o : Int} {ls : List LinkS} {k : Nat} {x : LinkS} (h : ((((¬ x.to < 1 ∧ ¬ x.to > 64) ∧ ¬ x.to = o) ∧ ¬ x.co < 1) ∧ ¬ x.co > 1073741824) ∧ (¬ (k : Int) > 0 ∨ ¬ (ls.getD ((k : Int) - 1).toNat default).to ≥ x.to)) : linkOK o (lastOf ls k) x = true := by
 obtain ⟨⟨⟨⟨⟨h1, h2⟩, h3⟩, h4⟩, h5⟩, h6⟩ := h
 simp only [linkOK, node, Bool.and_eq_true, decide_eq_true_eq, Bool.not_eq_true', decide_eq_false_iff_not]
 refine ⟨⟨by omega, by omega⟩, ?_, h3, by omega, by omega⟩
 unfold lastOf
 split
 ·omega
 ·rcases h6 with h6 | h6 <;> omega
theorem may_end {o q : Int} {nil : Bool} {ls : List LinkS} {b : Bool} (z : linksOK o 0 ls = true) (h : b = true ↔ (1 ≤ o ∧ o ≤ 64) ∧ (1 ≤ q ∧ q ≤ 4611686018427387904) ∧ ls.length ≤ 16) : b = lsaOK ⟨o, q, nil, ls⟩ := by
 rw [Bool.eq_iff_iff, h]
 simp only [lsaOK, node, z, Bool.and_true, Bool.and_eq_true, decide_eq_true_eq]
 constructor
 ·intro h; exact ⟨⟨by omega, by omega⟩, by omega, by omega, by omega⟩
 ·intro h; omega
theorem link_eq {x y : LinkS} (h : (!(x.to == y.to && x.co == y.co)) = false) : x = y := by
 simp at h; cases x; cases y; simp_all
theorem link_ne {x y : LinkS} (h : (!(x.to == y.to && x.co == y.co)) = true) (e : x = y) : False := by subst e; simp at h
def linkB (x : LinkS) : List (BitVec 8) := numR x.to 1 ++ numR x.co 4
def linksB (ls : List LinkS) : List (BitVec 8) := ls.flatMap linkB
def lsaB (l : Lsa) : List (BitVec 8) := numR l.o 1 ++ (numR l.s 8 ++ (numR (l.ls.length : Int) 1 ++ linksB l.ls))
def lsaS (l : Lsa) : List (BitVec 8) := if lsaOK l then lsaB l else []
theorem lsaE_eq {l : Lsa} (h : lsaE l = 0) : lsaOK l = true := by
 cases hx : lsaOK l with
 | true => rfl
 | false => simp [lsaE, hx] at h
theorem lsaE_ne {l : Lsa} (h : ¬ lsaE l = 0) : lsaOK l = false := by
 cases hx : lsaOK l with
 | false => rfl
 | true => simp [lsaE, hx] at h
theorem lsa_bd {l : Lsa} (h : lsaOK l = true) : (1 ≤ l.o ∧ l.o ≤ 64) ∧ (1 ≤ l.s ∧ l.s ≤ 4611686018427387904) ∧ l.ls.length ≤ 16 ∧ linksOK l.o 0 l.ls = true := by
 simp only [lsaOK, node, Bool.and_eq_true, decide_eq_true_eq] at h
 obtain ⟨⟨h1, h2⟩, h3, h4, h5, h6⟩ := h
 exact ⟨⟨by omega, h2⟩, ⟨h3, h4⟩, h5, h6⟩
def rdStep (p : List LinkS × List (BitVec 8) × Bool) : List LinkS × List (BitVec 8) × Bool :=
 if p.2.2 then p else
  let l1 := rnL p.2.1 p.2.2 1
  let w1 := rnW p.2.1 p.2.2 1
  (p.1 ++ [⟨rnV p.2.1 p.2.2 1, rnV l1 w1 4⟩], rnL l1 w1 4, rnW l1 w1 4)
def rdLinks (l : List (BitVec 8)) (w : Bool) : Nat → List LinkS × List (BitVec 8) × Bool
 | 0 => ([], l, w)
 | k + 1 => rdStep (rdLinks l w k)
def lsaA (l : Lsa) : AV := .agg [.i .i64 l.o, .i .i64 l.s, .sl 2 l.nil (l.ls.map linkA)]
def lsa0 : Lsa := ⟨0, 0, true, []⟩
theorem rd_no {l : Lsa} {w : Bool} (h : w = true ∨ ¬ lsaE l = 0) : (!w && lsaOK l) = false := by
 rcases h with h | h
 ·simp [h]
 ·simp [lsaE_ne h]
def hdL (l : List (BitVec 8)) (w : Bool) : List (BitVec 8) := rnL (rnL (rnL l w 1) (rnW l w 1) 8) (rnW (rnL l w 1) (rnW l w 1) 8) 1
def hdW (l : List (BitVec 8)) (w : Bool) : Bool := rnW (rnL (rnL l w 1) (rnW l w 1) 8) (rnW (rnL l w 1) (rnW l w 1) 8) 1
def hdN (l : List (BitVec 8)) (w : Bool) : Int := rnV (rnL (rnL l w 1) (rnW l w 1) 8) (rnW (rnL l w 1) (rnW l w 1) 8) 1
def rdP (l : List (BitVec 8)) (w : Bool) := rdLinks (hdL l w) (hdW l w) (hdN l w).toNat
def rdRaw (l : List (BitVec 8)) (w : Bool) : Lsa := ⟨rnV l w 1, IntKind.i64.wrap (rnV (rnL l w 1) (rnW l w 1) 8), (rdP l w).1.isEmpty, (rdP l w).1⟩
def rdR (l : List (BitVec 8)) (w : Bool) : List (BitVec 8) := (rdP l w).2.1
def rdW (l : List (BitVec 8)) (w : Bool) : Bool := (rdP l w).2.2
def rdOK (l : List (BitVec 8)) (w : Bool) : Bool := !rdW l w && lsaOK (rdRaw l w)
def rdL (l : List (BitVec 8)) (w : Bool) : Lsa := if rdOK l w then rdRaw l w else lsa0
def rfB (l : List (BitVec 8)) : Nat := (l.getD 9 default).toNat
def rfShort (l : List (BitVec 8)) : Bool := decide (l.length < 10) || decide ((l.length : Int) < 10 + 5 * (rfB l : Int))
def rfLink (l : List (BitVec 8)) (k : Nat) : LinkS := ⟨((l.getD (10 + 5 * k) default).toNat : Int), rV l (11 + 5 * k) false 4⟩
def rfLinks (l : List (BitVec 8)) (k : Nat) : List LinkS := (List.range k).map (rfLink l)
def rfRaw (l : List (BitVec 8)) : Lsa := ⟨((l.getD 0 default).toNat : Int), IntKind.i64.wrap (rV l 1 false 8), (rfLinks l (rfB l)).isEmpty, rfLinks l (rfB l)⟩
def rfOK (l : List (BitVec 8)) : Bool := !rfShort l && lsaOK (rfRaw l)
def rfL (l : List (BitVec 8)) : Lsa := if rfOK l then rfRaw l else lsa0
def rfN (l : List (BitVec 8)) : Int := if rfOK l then 10 + 5 * (rfB l : Int) else 0
end Go.Vai.L
