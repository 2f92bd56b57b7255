import Derived.Test.YtdoomgohnocecaasTy
import Derived.Test.YtdoomgohnocecaaVaiD
import Derived.Test.YtdoomgohnocecaaVaiE
namespace Go.Vai
open Go.Proofs Go.Vai
set_option linter.unusedSimpArgs false
set_option linter.unusedVariables false
def impF : List FuncId := [27, 36, 37, 38, 39, 55, 56, 57, 64, 65, 93, 94, 95, 96, 97]
def nsF : List FuncId := [10, 11, 16, 17, 18, 20, 22, 29, 33, 36, 38, 40, 41, 42, 43, 47, 48, 49, 50, 51, 59, 60, 62, 64, 67, 71, 75]
def xfF : List FuncId := [71, 75]
def cfg : Cfg := { pure := fun f => !(impF.contains f), xfer := fun f => xfF.contains f, scalar := fun f => !(nsF.contains f) && !(impF.contains f) }
def cfgG : Cfg := { cfg with glob := fun _ => true }
def cfgP : Cfg := { cfg with pure := fun _ => true }
def cfg1 : Cfg := { cfg with move := fun t => t == 1 }
def cfg2 : Cfg := { cfg with move := fun t => t == 2 }
def cfg3 : Cfg := { cfg with move := fun t => t == 3 }
def cfg4 : Cfg := { cfg with move := fun t => t == 4 }
def cfg5 : Cfg := { cfg with move := fun t => t == 5 }
def cfg6 : Cfg := { cfg with move := fun t => t == 6 }
def cfgN : Cfg := cfg6
theorem gl0 {d : Tmp} : cfg.glob d = false := rfl
theorem glG {d : Tmp} : cfgG.glob d = true := rfl
theorem glP {d : Tmp} : cfgP.glob d = false := rfl
theorem gl1 {d : Tmp} : cfg1.glob d = false := rfl
theorem gl2 {d : Tmp} : cfg2.glob d = false := rfl
theorem gl3 {d : Tmp} : cfg3.glob d = false := rfl
theorem gl4 {d : Tmp} : cfg4.glob d = false := rfl
theorem gl5 {d : Tmp} : cfg5.glob d = false := rfl
theorem gl6 {d : Tmp} : cfg6.glob d = false := rfl
attribute [go_sem] gl0 glG glP gl1 gl2 gl3 gl4 gl5 gl6
end Go.Vai
namespace Go.Vai.N
open Go.Proofs Go.Vai
set_option linter.unusedSimpArgs false
set_option linter.unusedVariables false
set_option maxHeartbeats 4000000
set_option maxRecDepth 100000
attribute [go_sem] ne_eq not_true_eq_false
theorem good_isNaN (a : Int) : Good Try.prog 76 [(i64 a, false)] [] [(.b false, false)] [] := by
  refine good_of_body2 6 Try.func76 rfl rfl rfl (by simp) ?_
  intro s m ha hr hv hG
  have f0 : s 0 = .v (i64 a) := ha 0 _ rfl
  clear ha
  have hc : True := trivial
  have F := (And.intro f0 hG)
  refine AW.seq ?_
  refine AW.region (cfg := cfg) ?_
  refine stp (fun _ h => s0 h) ?_
  refine aops_nil ?_
  refine AW.seq ?_
  refine AW.region (cfg := cfg) ?_
  iterate 4 refine stp (fun _ h => s0 h) ?_
  refine aops_nil ?_
  refine AW.ret ?_
  refine ⟨.inr rfl, ?_⟩
  refine leaves_tmp1 2 rfl ?_ (by exact hG)
  simp (disch := first | omega | decide) only [go_sem, F, aIndex_map]
  all_goals (simp; done)
theorem good_cmpInt (a b : Int) : Good Try.prog 70 [(i64 a, false), (i64 b, false)] [] [(i64 (cmpI a b), false)] [] := by
  refine good_of_body2 20 Try.func70 rfl rfl rfl (by simp) ?_
  intro s m ha hr hv hG
  have f0 : s 0 = .v (i64 a) := ha 0 _ rfl
  have f1 : s 1 = .v (i64 b) := ha 1 _ rfl
  clear ha
  have hc : True := trivial
  have F := (And.intro f0 (And.intro f1 hG))
  refine AW.seq ?_
  refine AW.region (cfg := cfg) ?_
  refine stp (fun _ h => s0 h) ?_
  refine aops_nil ?_
  refine AW.seq ?_
  refine AW.region (cfg := cfg) ?_
  refine stp (fun _ h => s0 h) ?_
  refine stp (fun _ h => cs (w := good_isNaN _) (x := h)) ?_
  refine stp (fun _ h => s0 h) ?_
  refine aops_nil ?_
  refine AW.seq ?_
  refine AW.region (cfg := cfg) ?_
  refine stp (fun _ h => s0 h) ?_
  refine stp (fun _ h => cs (w := good_isNaN _) (x := h)) ?_
  refine stp (fun _ h => s0 h) ?_
  refine aops_nil ?_
  refine AW.seq ?_
  refine AW.seq ?_
  refine AW.region (cfg := cfg) ?_
  refine stp (fun _ h => s0 h) ?_
  refine aops_nil ?_
  refine cnd (fun hb => ?ht1) (fun hb => ?hf1)
  case ht1 => (simp at hb; done)
  case hf1 =>
  have hbt11 := hb
  refine AW.skip ?_
  refine AW.seq ?_
  refine AW.seq ?_
  refine AW.region (cfg := cfg) ?_
  refine stp (fun _ h => s0 h) ?_
  refine aops_nil ?_
  refine cnd (fun hb => ?ht2) (fun hb => ?hf2)
  case ht2 => (simp at hb; done)
  case hf2 =>
  have hbt13 := hb
  refine AW.skip ?_
  refine AW.seq ?_
  refine AW.seq ?_
  refine AW.region (cfg := cfg) ?_
  iterate 3 refine stp (fun _ h => s0 h) ?_
  refine aops_nil ?_
  refine cnd (fun hb => ?ht3) (fun hb => ?hf3)
  case ht3 =>
    have hw16 := hb
    try simp only [bo1, bo2, bo3, bo4, bo5, bo6] at hb
    have hbt16 := hb
    refine AW.seq ?_
    refine AW.region (cfg := cfg) ?_
    refine stp (fun _ h => s0 h) ?_
    refine aops_nil ?_
    refine AW.ret ?_
    refine ⟨.inr rfl, ?_⟩
    refine leaves_tmp1 4 rfl ?_ (by exact hG)
    simp (disch := first | omega | decide) only [go_sem, F, aIndex_map]
    all_goals (simp only [cmpI]; split <;> (try split) <;> rfl)
  case hf3 =>
    have hw16 := hb
    try simp only [bo1, bo2, bo3, bo4, bo5, bo6] at hb
    have hbt16 := hb
    refine AW.skip ?_
    refine AW.seq ?_
    refine AW.seq ?_
    refine AW.region (cfg := cfg) ?_
    iterate 3 refine stp (fun _ h => s0 h) ?_
    refine aops_nil ?_
    refine cnd (fun hb => ?ht4) (fun hb => ?hf4)
    case ht4 =>
      have hw19 := hb
      try simp only [bo1, bo2, bo3, bo4, bo5, bo6] at hb
      have hbt19 := hb
      refine AW.seq ?_
      refine AW.region (cfg := cfg) ?_
      refine stp (fun _ h => s0 h) ?_
      refine aops_nil ?_
      refine AW.ret ?_
      refine ⟨.inr rfl, ?_⟩
      refine leaves_tmp1 4 rfl ?_ (by exact hG)
      simp (disch := first | omega | decide) only [go_sem, F, aIndex_map]
      all_goals (simp only [cmpI]; split <;> (try split) <;> first | rfl | omega)
    case hf4 =>
      have hw19 := hb
      try simp only [bo1, bo2, bo3, bo4, bo5, bo6] at hb
      have hbt19 := hb
      refine AW.skip ?_
      refine AW.seq ?_
      refine AW.region (cfg := cfg) ?_
      refine stp (fun _ h => s0 h) ?_
      refine aops_nil ?_
      refine AW.ret ?_
      refine ⟨.inr rfl, ?_⟩
      refine leaves_tmp1 4 rfl ?_ (by exact hG)
      simp (disch := first | omega | decide) only [go_sem, F, aIndex_map]
      all_goals (simp only [cmpI]; split <;> (try split) <;> first | rfl | omega)
end Go.Vai.N
set_option linter.unusedSimpArgs false
set_option linter.unusedVariables false
namespace Go.Vai.O
def mayW (w : Int) : Bool := decide (w ≥ 1) && decide (w ≤ 8)
def byteAt (n : Int) (i : Nat) : BitVec 8 := BitVec.ofInt 8 (n / 2 ^ (8 * i))
def numB (w : Nat) (n : Int) (k : Nat) : List (BitVec 8) := (List.range k).map fun j => byteAt n (w - 1 - j)
def numS (w n : Int) : List (BitVec 8) := if mayW w then numB w.toNat n w.toNat else []
theorem numB_length (w : Nat) (n : Int) (k : Nat) : (numB w n k).length = k := by simp [numB]
theorem numB_succ (w : Nat) (n : Int) (k : Nat) : numB w n (k + 1) = numB w n k ++ [byteAt n (w - 1 - k)] := by simp [numB, List.range_succ]
def numR (n : Int) : Nat → List (BitVec 8)
 | 0 => []
 | k + 1 => byteAt n k :: numR n k
theorem numR_length (n : Int) : ∀ k, (numR n k).length = k
 | 0 => rfl
 | k + 1 => by simp [numR, numR_length n k]
theorem numR_get (n : Int) : ∀ (k j : Nat), j < k → (numR n k)[j]? = some (byteAt n (k - 1 - j))
 | 0, j, h => by omega
 | k + 1, 0, h => by simp [numR]
 | k + 1, j + 1, h => by
  simp only [numR, List.getElem?_cons_succ]
  rw [numR_get n k j (by omega), show k + 1 - 1 - (j + 1) = k - 1 - j by omega]
theorem numB_numR (n : Int) (k : Nat) : numB k n k = numR n k := by
 apply List.ext_getElem?
 intro j
 by_cases h : j < k
 ·rw [numR_get n k j h, numB, List.getElem?_map, List.getElem?_range h]; rfl
 ·rw [List.getElem?_eq_none (by rw [numB_length]; omega), List.getElem?_eq_none (by rw [numR_length]; omega)]
def numV (b : List (BitVec 8)) : Int := b.foldl (fun a c => a * 256 + (c.toNat : Int)) 0
theorem numV_snoc (b : List (BitVec 8)) (c : BitVec 8) : numV (b ++ [c]) = numV b * 256 + (c.toNat : Int) := by simp [numV, List.foldl_append]
theorem numV_range : ∀ (k : Nat) (b : List (BitVec 8)), b.length = k → 0 ≤ numV b ∧ numV b < 256 ^ k
 | 0, b, h => by rw [List.eq_nil_of_length_eq_zero h]; simp [numV]
 | k + 1, b, h => by
  have e : b = b.take k ++ [b[k]] := by rw [← List.take_succ_eq_append_getElem (by omega), List.take_of_length_le (by omega)]
  have hl : (b.take k).length = k := by simp; omega
  obtain ⟨h1, h2⟩ := numV_range k (b.take k) hl
  rw [e, numV_snoc]
  have := (b[k]).isLt
  rw [Int.pow_succ]
  omega
def tkF (nil : Bool) (l : List (BitVec 8)) (w : Bool) (n : Int) : Bool := if w then true else if n > (l.length : Int) then true else nil
def tkV (l : List (BitVec 8)) (w : Bool) (n : Int) : List (BitVec 8) := if w then [] else if n > (l.length : Int) then [] else l.take n.toNat
def tkL (l : List (BitVec 8)) (w : Bool) (n : Int) : List (BitVec 8) := if w then l else if n > (l.length : Int) then l else l.drop n.toNat
def tkW (l : List (BitVec 8)) (w : Bool) (n : Int) : Bool := if w then true else decide (n > (l.length : Int))
def rnV (l : List (BitVec 8)) (w : Bool) (k : Int) : Int := if mayW k then numV (tkV l w k) else 0
def rnL (l : List (BitVec 8)) (w : Bool) (k : Int) : List (BitVec 8) := if mayW k then tkL l w k else l
def rnW (l : List (BitVec 8)) (w : Bool) (k : Int) : Bool := if mayW k then tkW l w k else true
theorem tkV_length (l : List (BitVec 8)) (w : Bool) (n : Int) : (tkV l w n).length ≤ n.toNat := by
 unfold tkV; split
 ·simp
 ·split <;> simp <;> omega
theorem pow256 {a b : Nat} (h : a ≤ b) : (256 : Int) ^ a ≤ 256 ^ b := by
 have := Nat.pow_le_pow_right (n := 256) (by omega) h
 rw [show (256 : Int) = ((256 : Nat) : Int) from rfl, ← Int.natCast_pow, ← Int.natCast_pow]
 exact Int.ofNat_le.2 this
theorem rnV_range (l : List (BitVec 8)) (w : Bool) (k : Int) : 0 ≤ rnV l w k ∧ rnV l w k < 18446744073709551616 := by
 unfold rnV
 split
 ·rename_i h
  simp only [mayW, Bool.and_eq_true, decide_eq_true_eq] at h
  obtain ⟨h1, h2⟩ := numV_range _ (tkV l w k) rfl
  refine ⟨h1, Int.lt_of_lt_of_le h2 ?_⟩
  have := tkV_length l w k
  have h3 : (256 : Int) ^ (tkV l w k).length ≤ 256 ^ 8 := pow256 (by omega)
  exact Int.le_trans h3 (by decide)
 ·omega
theorem numV_lt {b : List (BitVec 8)} (h : b.length ≤ 7) : 0 ≤ numV b ∧ numV b < 72057594037927936 := by
 obtain ⟨h1, h2⟩ := numV_range _ b rfl
 exact ⟨h1, Int.lt_of_lt_of_le h2 (Int.le_trans (pow256 h) (by decide))⟩
theorem numV_take {b : List (BitVec 8)} {j : Nat} (h : j < b.length) : numV (b.take (j + 1)) = numV (b.take j) * 256 + ((b[j]).toNat : Int) := by
 rw [List.take_succ_eq_append_getElem h, numV_snoc]
theorem rnL_len (l : List (BitVec 8)) (w : Bool) (k : Int) : (rnL l w k).length ≤ l.length := by
 unfold rnL tkL; split
 ·split
  ·omega
  ·split <;> simp
 ·omega
theorem rnL_nil {l : List (BitVec 8)} (h : l = []) (w : Bool) (k : Int) : rnL l w k = [] := by
 have := rnL_len l w k
 rw [h] at this
 exact List.eq_nil_of_length_eq_zero (by simpa [h] using this)
def txW (l : List (BitVec 8)) (w : Bool) : Bool := if w then true else tkW (rnL l false 2) (rnW l false 2) (rnV l false 2)
def txL (l : List (BitVec 8)) (w : Bool) : List (BitVec 8) := if txW l w then l else tkL (rnL l false 2) (rnW l false 2) (rnV l false 2)
def txV (l : List (BitVec 8)) (w : Bool) : List (BitVec 8) := if txW l w then [] else tkV (rnL l false 2) (rnW l false 2) (rnV l false 2)
def txF (nil : Bool) (l : List (BitVec 8)) (w : Bool) : Bool := if txW l w then true else nil
def rBad (l : List (BitVec 8)) (at_ : Nat) (w : Bool) (k : Int) : Bool := ((w || decide (k < 1)) || decide (k > 8)) || decide (k > (l.length : Int) - (at_ : Int))
def rV (l : List (BitVec 8)) (at_ : Nat) (w : Bool) (k : Int) : Int := if rBad l at_ w k then 0 else numV ((l.drop at_).take k.toNat)
def rA (l : List (BitVec 8)) (at_ : Nat) (w : Bool) (k : Int) : Nat := if rBad l at_ w k then at_ else at_ + k.toNat
def sBad (l : List (BitVec 8)) (at_ : Nat) (w : Bool) : Bool := rBad l at_ w 2 || decide (rV l at_ w 2 > (l.length : Int) - (rA l at_ w 2 : Int))
def sA (l : List (BitVec 8)) (at_ : Nat) (w : Bool) : Nat := if sBad l at_ w then at_ else rA l at_ w 2 + (rV l at_ w 2).toNat
def sV (l : List (BitVec 8)) (at_ : Nat) (w : Bool) : List (BitVec 8) := if sBad l at_ w then [] else (l.drop (rA l at_ w 2)).take (rV l at_ w 2).toNat
end Go.Vai.O
set_option linter.unusedSimpArgs false
set_option linter.unusedVariables false
namespace Go.Vai.L
open Go.Vai.O
structure LinkS where
 to : Int
 co : Int
 deriving DecidableEq, Inhabited
structure Lsa where
 o : Int
 s : Int
 nil : Bool
 ls : List LinkS
def linkA (x : LinkS) : AV := .agg [.i .i64 x.to, .i .i64 x.co]
theorem cellsOf_link (x : LinkS) : cellsOf (linkA x) = [.i .i64 x.to, .i .i64 x.co] := rfl
@[simp] theorem noPtrL_links (ls : List LinkS) : noPtrL (ls.map linkA) = true := noPtrL_map (fun _ => rfl) _
def node (n : Int) : Bool := decide (n ≥ 1) && decide (n ≤ 64)
def linkOK (o last : Int) (x : LinkS) : Bool := node x.to && (decide (last < x.to) && (!decide (x.to = o) && (decide (1 ≤ x.co) && decide (x.co ≤ 1073741824))))
def linksOK (o : Int) : Int → List LinkS → Bool
 | _, [] => true
 | last, x :: r => linkOK o last x && linksOK o x.to r
def lsaOK (l : Lsa) : Bool := node l.o && (decide (1 ≤ l.s) && (decide (l.s ≤ 4611686018427387904) && (decide (l.ls.length ≤ 16) && linksOK l.o 0 l.ls)))
def lsaE (l : Lsa) : Int := if lsaOK l then 0 else 1
def lastOf (ls : List LinkS) (k : Nat) : Int := if k = 0 then 0 else (ls.getD ((k : Int) - 1).toNat default).to
theorem lastOf_succ {ls : List LinkS} {k : Nat} (h : k < ls.length) : lastOf ls (k + 1) = ls[k].to := by
 rw [lastOf, if_neg (by omega), show (((k + 1 : Nat) : Int) - 1).toNat = k by omega, List.getD_eq_getElem?_getD, List.getElem?_eq_getElem h]; rfl
theorem links_drop {o last : Int} {ls : List LinkS} {k : Nat} (h : k < ls.length) : linksOK o last (ls.drop k) = (linkOK o last ls[k] && linksOK o ls[k].to (ls.drop (k + 1))) := by
 rw [List.drop_eq_getElem_cons h]; rfl
theorem links_end {o last : Int} {ls : List LinkS} : linksOK o last (ls.drop ls.length) = true := by simp [linksOK]
theorem link_is {o last : Int} {x : LinkS} (h : ((((!node x.to) = false ∧ ¬ x.to ≤ last) ∧ ¬ x.to = o) ∧ ¬ x.co < 1) ∧ ¬ x.co > 1073741824) : linkOK o last x = true := by
 obtain ⟨⟨⟨⟨h1, h2⟩, h3⟩, h4⟩, h5⟩ := h
 have h1 : node x.to = true := by simpa using h1
 simp only [linkOK, h1, Bool.true_and, Bool.and_eq_true, decide_eq_true_eq, Bool.not_eq_true', decide_eq_false_iff_not]
 exact ⟨by omega, h3, by omega, by omega⟩
theorem lsa_is {l : Lsa} (h : (((!node l.o) = false ∧ ¬ l.s < 1) ∧ ¬ l.s > 4611686018427387904) ∧ ¬ (l.ls.length : Int) > 16) (hk : linksOK l.o 0 l.ls = true) : lsaOK l = true := by
 obtain ⟨⟨⟨h1, h2⟩, h3⟩, h4⟩ := h
 have h1 : node l.o = true := by simpa using h1
 simp only [lsaOK, h1, hk, Bool.true_and, Bool.and_true, Bool.and_eq_true, decide_eq_true_eq]
 exact ⟨by omega, by omega, by omega⟩
theorem may_no {o : Int} {ls : List LinkS} {k : Nat} {x : LinkS} (h : ((((x.to < 1 ∨ x.to > 64) ∨ x.to = o) ∨ x.co < 1) ∨ x.co > 1073741824) ∨ ((k : Int) > 0 ∧ (ls.getD ((k : Int) - 1).toNat default).to ≥ x.to)) : linkOK o (lastOf ls k) x = false := by
 cases hx : linkOK o (lastOf ls k) x with
 | false => rfl
 | true =>
  simp only [linkOK, node, Bool.and_eq_true, decide_eq_true_eq, Bool.not_eq_true', decide_eq_false_iff_not] at hx
  obtain ⟨⟨h1, h2⟩, h3, h4, h5, h6⟩ := hx
  exfalso
  rcases h with ((((h | h) | h) | h) | h) | ⟨h, h'⟩ <;> first | omega | exact h4 h | (rw [lastOf, if_neg (by omega)] at h3; omega)
theorem may_is {o : Int} {ls : List LinkS} {k : Nat} {x : LinkS} (h : ((((¬ x.to < 1 ∧ ¬ x.to > 64) ∧ ¬ x.to = o) ∧ ¬ x.co < 1) ∧ ¬ x.co > 1073741824) ∧ (¬ (k : Int) > 0 ∨ ¬ (ls.getD ((k : Int) - 1).toNat default).to ≥ x.to)) : linkOK o (lastOf ls k) x = true := by
 obtain ⟨⟨⟨⟨⟨h1, h2⟩, h3⟩, h4⟩, h5⟩, h6⟩ := h
 simp only [linkOK, node, Bool.and_eq_true, decide_eq_true_eq, Bool.not_eq_true', decide_eq_false_iff_not]
 refine ⟨⟨by omega, by omega⟩, ?_, h3, by omega, by omega⟩
 unfold lastOf
 split
 ·omega
 ·rcases h6 with h6 | h6 <;> omega
theorem may_end {o q : Int} {nil : Bool} {ls : List LinkS} {b : Bool} (z : linksOK o 0 ls = true) (h : b = true ↔ (1 ≤ o ∧ o ≤ 64) ∧ (1 ≤ q ∧ q ≤ 4611686018427387904) ∧ ls.length ≤ 16) : b = lsaOK ⟨o, q, nil, ls⟩ := by
 rw [Bool.eq_iff_iff, h]
 simp only [lsaOK, node, z, Bool.and_true, Bool.and_eq_true, decide_eq_true_eq]
 constructor
 ·intro h; exact ⟨⟨by omega, by omega⟩, by omega, by omega, by omega⟩
 ·intro h; omega
theorem link_eq {x y : LinkS} (h : (!(x.to == y.to && x.co == y.co)) = false) : x = y := by
 simp at h; cases x; cases y; simp_all
theorem link_ne {x y : LinkS} (h : (!(x.to == y.to && x.co == y.co)) = true) (e : x = y) : False := by subst e; simp at h
def linkB (x : LinkS) : List (BitVec 8) := numR x.to 1 ++ numR x.co 4
def linksB (ls : List LinkS) : List (BitVec 8) := ls.flatMap linkB
def lsaB (l : Lsa) : List (BitVec 8) := numR l.o 1 ++ (numR l.s 8 ++ (numR (l.ls.length : Int) 1 ++ linksB l.ls))
theorem linksB_take {ls : List LinkS} {k : Nat} (h : k < ls.length) : linksB (ls.take (k + 1)) = linksB (ls.take k) ++ linkB ls[k] := by
 rw [List.take_succ_eq_append_getElem h]; simp only [linksB, List.flatMap_append, List.flatMap_cons, List.flatMap_nil, List.append_nil]
theorem linksB_len : ∀ (ls : List LinkS), (linksB ls).length = 5 * ls.length
 | [] => rfl
 | x :: r => by
  have := linksB_len r
  simp only [linksB, List.flatMap_cons, List.length_append, List.length_cons, linkB, numR_length] at this ⊢
  omega
theorem numR_one (n : Int) : numR n 1 = [BitVec.ofInt 8 n] := by simp [numR, byteAt]
def lsaS (l : Lsa) : List (BitVec 8) := if lsaOK l then lsaB l else []
theorem numS1 (n : Int) : numS 1 n = numR n 1 := by rw [show numS 1 n = numB 1 n 1 from by simp [numS, mayW]]; exact numB_numR n 1
theorem numS4 (n : Int) : numS 4 n = numR n 4 := by rw [show numS 4 n = numB 4 n 4 from by simp [numS, mayW]]; exact numB_numR n 4
theorem numS8 (n : Int) : numS 8 n = numR n 8 := by rw [show numS 8 n = numB 8 n 8 from by simp [numS, mayW]]; exact numB_numR n 8
theorem nm1 (nil : Bool) : (nil && !mayW 1) = false := by cases nil <;> decide
theorem nm4 (nil : Bool) : (nil && !mayW 4) = false := by cases nil <;> decide
theorem nm8 (nil : Bool) : (nil && !mayW 8) = false := by cases nil <;> decide
theorem lsaE_eq {l : Lsa} (h : lsaE l = 0) : lsaOK l = true := by
 cases hx : lsaOK l with
 | true => rfl
 | false => simp [lsaE, hx] at h
theorem lsaE_ne {l : Lsa} (h : ¬ lsaE l = 0) : lsaOK l = false := by
 cases hx : lsaOK l with
 | false => rfl
 | true => simp [lsaE, hx] at h
theorem lsa_bd {l : Lsa} (h : lsaOK l = true) : (1 ≤ l.o ∧ l.o ≤ 64) ∧ (1 ≤ l.s ∧ l.s ≤ 4611686018427387904) ∧ l.ls.length ≤ 16 ∧ linksOK l.o 0 l.ls = true := by
 simp only [lsaOK, node, Bool.and_eq_true, decide_eq_true_eq] at h
 obtain ⟨⟨h1, h2⟩, h3, h4, h5, h6⟩ := h
 exact ⟨⟨by omega, h2⟩, ⟨h3, h4⟩, h5, h6⟩
theorem link_bd {o : Int} : ∀ {ls : List LinkS} {last : Int}, linksOK o last ls = true → ∀ {k : Nat} (h : k < ls.length), (1 ≤ ls[k].to ∧ ls[k].to ≤ 64) ∧ (1 ≤ ls[k].co ∧ ls[k].co ≤ 1073741824)
 | x :: r, last, hk, k, h => by
  simp only [linksOK, Bool.and_eq_true] at hk
  cases k with
  | zero =>
   have hx := hk.1
   simp only [linkOK, node, Bool.and_eq_true, decide_eq_true_eq] at hx
   obtain ⟨⟨h1, h2⟩, h3, h4, h5, h6⟩ := hx
   exact ⟨⟨by simpa using h1, h2⟩, ⟨h5, h6⟩⟩
  | succ k => exact link_bd (ls := r) hk.2 (by simpa using h)
def rdStep (p : List LinkS × List (BitVec 8) × Bool) : List LinkS × List (BitVec 8) × Bool :=
 if p.2.2 then p else
  let l1 := rnL p.2.1 p.2.2 1
  let w1 := rnW p.2.1 p.2.2 1
  (p.1 ++ [⟨rnV p.2.1 p.2.2 1, rnV l1 w1 4⟩], rnL l1 w1 4, rnW l1 w1 4)
def rdLinks (l : List (BitVec 8)) (w : Bool) : Nat → List LinkS × List (BitVec 8) × Bool
 | 0 => ([], l, w)
 | k + 1 => rdStep (rdLinks l w k)
theorem rnV_rangeK (l : List (BitVec 8)) (w : Bool) (k : Nat) (hk : mayW (k : Int) = true) : 0 ≤ rnV l w k ∧ rnV l w k < 256 ^ k := by
 obtain ⟨h1, h2⟩ := numV_range _ (tkV l w k) rfl
 have h4 : rnV l w k = numV (tkV l w k) := if_pos hk
 rw [h4]
 refine ⟨h1, Int.lt_of_lt_of_le h2 ?_⟩
 have := tkV_length l w k
 exact pow256 (by omega)
theorem rnV_range1 (l : List (BitVec 8)) (w : Bool) : 0 ≤ rnV l w 1 ∧ rnV l w 1 < 256 := by simpa using rnV_rangeK l w 1 (by decide)
theorem rnV_range4 (l : List (BitVec 8)) (w : Bool) : 0 ≤ rnV l w 4 ∧ rnV l w 4 < 4294967296 := by simpa using rnV_rangeK l w 4 (by decide)
def lsaA (l : Lsa) : AV := .agg [.i .i64 l.o, .i .i64 l.s, .sl 2 l.nil (l.ls.map linkA)]
def lsa0 : Lsa := ⟨0, 0, true, []⟩
theorem rd_no {l : Lsa} {w : Bool} (h : w = true ∨ ¬ lsaE l = 0) : (!w && lsaOK l) = false := by
 rcases h with h | h
 ·simp [h]
 ·simp [lsaE_ne h]
theorem rd_yes {l : Lsa} {w : Bool} (h : w = false ∧ ¬ lsaE l ≠ 0) : (!w && lsaOK l) = true := by simp [h.1, lsaE_eq (Decidable.not_not.1 h.2)]
def hdL (l : List (BitVec 8)) (w : Bool) : List (BitVec 8) := rnL (rnL (rnL l w 1) (rnW l w 1) 8) (rnW (rnL l w 1) (rnW l w 1) 8) 1
def hdW (l : List (BitVec 8)) (w : Bool) : Bool := rnW (rnL (rnL l w 1) (rnW l w 1) 8) (rnW (rnL l w 1) (rnW l w 1) 8) 1
def hdN (l : List (BitVec 8)) (w : Bool) : Int := rnV (rnL (rnL l w 1) (rnW l w 1) 8) (rnW (rnL l w 1) (rnW l w 1) 8) 1
def rdP (l : List (BitVec 8)) (w : Bool) := rdLinks (hdL l w) (hdW l w) (hdN l w).toNat
def rdRaw (l : List (BitVec 8)) (w : Bool) : Lsa := ⟨rnV l w 1, IntKind.i64.wrap (rnV (rnL l w 1) (rnW l w 1) 8), (rdP l w).1.isEmpty, (rdP l w).1⟩
def rdR (l : List (BitVec 8)) (w : Bool) : List (BitVec 8) := (rdP l w).2.1
def rdW (l : List (BitVec 8)) (w : Bool) : Bool := (rdP l w).2.2
def rdOK (l : List (BitVec 8)) (w : Bool) : Bool := !rdW l w && lsaOK (rdRaw l w)
def rdL (l : List (BitVec 8)) (w : Bool) : Lsa := if rdOK l w then rdRaw l w else lsa0
theorem rd_next {l l' : List (BitVec 8)} {w : Bool} {k : Nat} {xs : List LinkS} (h : rdLinks l w k = (xs, l', false)) :
  rdLinks l w (k + 1) = (xs ++ [⟨rnV l' false 1, rnV (rnL l' false 1) (rnW l' false 1) 4⟩], rnL (rnL l' false 1) (rnW l' false 1) 4, rnW (rnL l' false 1) (rnW l' false 1) 4) := by
 simp [rdLinks, h, rdStep]
theorem rd_stop {l l' : List (BitVec 8)} {w wk : Bool} {k : Nat} {xs : List LinkS} (h : rdLinks l w k = (xs, l', wk)) (hw : wk = true) : ∀ {n : Nat}, k ≤ n → rdLinks l w n = (xs, l', wk) := by
 intro n hn
 induction n with
 | zero =>
  obtain rfl : k = 0 := by omega
  exact h
 | succ n ih =>
  by_cases e : k = n + 1
  ·subst e; exact h
  ·rw [rdLinks, ih (by omega)]; simp [rdStep, hw]
def rfB (l : List (BitVec 8)) : Nat := (l.getD 9 default).toNat
def rfShort (l : List (BitVec 8)) : Bool := decide (l.length < 10) || decide ((l.length : Int) < 10 + 5 * (rfB l : Int))
def rfLink (l : List (BitVec 8)) (k : Nat) : LinkS := ⟨((l.getD (10 + 5 * k) default).toNat : Int), rV l (11 + 5 * k) false 4⟩
def rfLinks (l : List (BitVec 8)) (k : Nat) : List LinkS := (List.range k).map (rfLink l)
theorem rfLinks_length (l : List (BitVec 8)) (k : Nat) : (rfLinks l k).length = k := by simp [rfLinks]
def rfRaw (l : List (BitVec 8)) : Lsa := ⟨((l.getD 0 default).toNat : Int), IntKind.i64.wrap (rV l 1 false 8), (rfLinks l (rfB l)).isEmpty, rfLinks l (rfB l)⟩
def rfOK (l : List (BitVec 8)) : Bool := !rfShort l && lsaOK (rfRaw l)
def rfL (l : List (BitVec 8)) : Lsa := if rfOK l then rfRaw l else lsa0
def rfN (l : List (BitVec 8)) : Int := if rfOK l then 10 + 5 * (rfB l : Int) else 0
theorem getD_get {l : List (BitVec 8)} {k : Nat} (h : k < l.length) : l[k] = l.getD k default := by rw [List.getD_eq_getElem?_getD, List.getElem?_eq_getElem h]; rfl
end Go.Vai.L
set_option linter.unusedSimpArgs false
set_option linter.unusedVariables false
namespace Go.Vai.L
open Go.Vai.O
def lsaEq (a b : Lsa) : Bool := decide (a.o = b.o) && (decide (a.s = b.s) && decide (a.ls = b.ls))
def newer (a b : Lsa) : Bool := decide (a.o = b.o) && decide (a.s > b.s)
def costOf (ls : List LinkS) (to : Int) : Int := match ls.find? (fun x => decide (x.to = to)) with | some x => x.co | none => 0
end Go.Vai.L
namespace Go.Vai.L
open Go.Proofs Go.Vai Go.Vai.O
set_option linter.unusedSimpArgs false
set_option linter.unusedVariables false
set_option maxHeartbeats 4000000
set_option maxRecDepth 100000
attribute [go_sem] cellsOf_link
theorem good_node (n : Int) : Good Try.prog 61 [(i64 n, false)] [] [(.b (node n), false)] [] := by
  refine good_of_body2 9 Try.func61 rfl rfl rfl (by simp) ?_
  intro s m ha hr hv hG
  have f0 : s 0 = .v (i64 n) := ha 0 _ rfl
  clear ha
  have hc : True := trivial
  have F := (And.intro f0 hG)
  refine AW.seq ?_
  refine AW.region (cfg := cfg) ?_
  refine stp (fun _ h => s0 h) ?_
  refine aops_nil ?_
  refine AW.seq ?_
  refine AW.region (cfg := cfg) ?_
  iterate 3 refine stp (fun _ h => s0 h) ?_
  iterate 2 refine mrg wa (fun hc _ h => s0 h) ?_
  iterate 2 refine stp (fun _ h => s0 h) ?_
  refine aops_nil ?_
  refine AW.ret ?_
  refine ⟨.inr rfl, ?_⟩
  refine leaves_mwp2 (rs := [.tmp 2]) rfl ?_
  simp (config := {failIfUnchanged := false}) [giveL, srcOne, rehome, freezeN, sub, upd, opn, aLoad, loadL, giveOne, reify, reifyL, readL, readOne, Mwp, M.bind, Mem.set, setAt, cellsL, hG, f0, node]
  all_goals first | done | omega | (simp_all; done) | (simp_all; omega) | grind
theorem good_Check (o q : Int) (nil : Bool) (ls : List LinkS) (hl : ls.length ≤ 9223372036854775807) : Good Try.prog 30 [(.agg [i64 o, i64 q, .sl 2 nil (ls.map linkA)], false)] [] [(i64 (lsaE ⟨o, q, nil, ls⟩), false)] [] := by
  refine good_of_body2 63 Try.func30 rfl rfl rfl (by simp) ?_
  intro s m ha hr hv hG
  have f0 : s 0 = .v (.agg [i64 o, i64 q, .sl 2 nil (ls.map linkA)]) := ha 0 _ rfl
  clear ha
  have hc : True := trivial
  have F := (And.intro f0 hG)
  refine AW.seq ?_
  refine AW.region (cfg := cfg) ?_
  refine stp (fun _ h => sb h) ?_
  refine stp (fun _ h => s0 h) ?_
  refine aops_nil ?_
  refine AW.seq ?_
  refine AW.seq ?_
  refine AW.region (cfg := cfg) ?_
  refine stp (fun _ h => sx h) ?_
  refine stp (fun _ h => sl h) ?_
  refine stp (fun _ h => cs (w := good_node _) (x := h)) ?_
  iterate 2 refine stp (fun _ h => s0 h) ?_
  refine mrg wa (fun hc _ h => sx h) ?_
  refine mrg wa (fun hc _ h => sl h) ?_
  refine mrg wa (fun hc _ h => s0 h) ?_
  iterate 2 refine stp (fun _ h => s0 h) ?_
  refine mrg wa (fun hc _ h => sx h) ?_
  refine mrg wa (fun hc _ h => sl h) ?_
  refine mrg wa (fun hc _ h => s0 h) ?_
  iterate 2 refine stp (fun _ h => s0 h) ?_
  refine mrg wa (fun hc _ h => sx h) ?_
  refine mrg wa (fun hc _ h => sl h) ?_
  refine mrg wa (fun hc _ h => sd h) ?_
  refine mrg wa (fun hc _ h => s0 h) ?_
  refine stp (fun _ h => s0 h) ?_
  refine aops_nil ?_
  refine cnd (fun hb => ?ht1) (fun hb => ?hf1)
  case ht1 =>
    have hw25 := hb
    try simp only [bo1, bo2, bo3, bo4, bo5, bo6] at hb
    have hbt25 := hb
    refine AW.seq ?_
    refine AW.region (cfg := cfg) ?_
    refine stp (fun _ h => s0 h) ?_
    refine aops_nil ?_
    refine AW.ret ?_
    refine ⟨.inr rfl, ?_⟩
    refine leaves_tmp1 2 rfl ?_ (by exact hG)
    simp (disch := first | omega | decide) only [go_sem, F, aIndex_map]
    all_goals (have z : lsaOK ⟨o, q, nil, ls⟩ = false := (by cases hn : node o <;> simp [lsaOK, hn] at hbt25 ⊢; omega); simp [lsaE, z]; done)
  case hf1 =>
    have hw25 := hb
    try simp only [bo1, bo2, bo3, bo4, bo5, bo6] at hb
    have hbt25 := hb
    refine AW.skip ?_
    refine AW.seq ?_
    refine AW.region (cfg := cfg) ?_
    refine stp (fun _ h => s0 h) ?_
    refine aops_nil ?_
    refine AW.seq ?_
    refine AW.seq ?_
    refine AW.region (cfg := cfg) ?_
    refine stp (fun _ h => sx h) ?_
    refine stp (fun _ h => sl h) ?_
    refine stp (fun _ h => sd h) ?_
    refine stp (fun _ h => s0 h) ?_
    refine aops_nil ?_
    refine AW.block ?_
    refine AW.forN (fun k σ => ∃ s m last, σ = ⟨63, s, m⟩ ∧ s 1 = .lptr (.tmp 1 0) (m.objs (.tmp 1 0)).1 0 ∧ (m.objs (.tmp 1 0)).2 = .box [.v (i64 o), .v (i64 q), .v (.sl 2 nil (ls.map linkA))] ∧ s 3 = .v (i64 last) ∧ s 27 = .v (.sl 2 nil (ls.map linkA)) ∧ s 28 = .v (i64 (ls.length : Int)) ∧ s 29 = .v (i64 (k : Int)) ∧ (linksOK o 0 ls = linksOK o last (ls.drop k)) ∧ m.G = []) (ls.length) ?_ ?_ ?_
    · refine ⟨_, _, 0, rfl, ?_, ?_, ?_, ?_, ?_, ?_, ?_, (by exact hG)⟩ <;> try simp (disch := first | omega | decide) only [go_sem, F, aIndex_map]
      all_goals rfl
    · clear F f0 hG
      rintro k σ hk ⟨s, m, last, rfl, f1, o1, f3, f27, f28, f29, mo0, hG⟩
      obtain ⟨g1, o1⟩ : ∃ g, m.objs (.tmp 1 0) = (g, .box [.v (i64 o), .v (i64 q), .v (.sl 2 nil (ls.map linkA))]) := ⟨_, Prod.ext rfl o1⟩
      rw [o1] at f1
      have F := (And.intro f1 (And.intro f3 (And.intro f27 (And.intro f28 (And.intro f29 (And.intro o1 hG))))))
      refine AW.seq ?_
      refine AW.region (cfg := cfg) ?_
      refine stp (fun _ h => s0 h) ?_
      refine aops_nil ?_
      refine AW.seq ?_
      refine cnd (fun hb => ?ht2) (fun hb => ?hf2)
      case hf2 => (simp at hb; omega)
      case ht2 =>
      have hbt30 := hb
      refine AW.skip ?_
      refine AW.seq ?_
      refine AW.block ?_
      refine AW.seq ?_
      refine AW.region (cfg := cfg) ?_
      refine stp (fun _ h => si h) ?_
      refine stp (fun _ h => sl h) ?_
      refine stp (fun _ h => sd h) ?_
      refine stp0 (fun _ h => ss h) ?_
      refine aops_nil ?_
      refine AW.seq ?_
      refine AW.seq ?_
      refine AW.region (cfg := cfg) ?_
      refine stp (fun _ h => sx h) ?_
      refine stp (fun _ h => sl h) ?_
      refine stp (fun _ h => cs (w := good_node _) (x := h)) ?_
      iterate 2 refine stp (fun _ h => s0 h) ?_
      refine mrg wa (fun hc _ h => sx h) ?_
      refine mrg wa (fun hc _ h => sl h) ?_
      iterate 2 refine mrg wa (fun hc _ h => s0 h) ?_
      iterate 2 refine stp (fun _ h => s0 h) ?_
      refine mrg wa (fun hc _ h => sx h) ?_
      refine mrg wa (fun hc _ h => sl h) ?_
      refine mrg wa (fun hc _ h => sx h) ?_
      refine mrg wa (fun hc _ h => sl h) ?_
      refine mrg wa (fun hc _ h => s0 h) ?_
      iterate 2 refine stp (fun _ h => s0 h) ?_
      refine mrg wa (fun hc _ h => sx h) ?_
      refine mrg wa (fun hc _ h => sl h) ?_
      refine mrg wa (fun hc _ h => s0 h) ?_
      iterate 2 refine stp (fun _ h => s0 h) ?_
      refine mrg wa (fun hc _ h => sx h) ?_
      refine mrg wa (fun hc _ h => sl h) ?_
      refine mrg wa (fun hc _ h => s0 h) ?_
      refine stp (fun _ h => s0 h) ?_
      refine aops_nil ?_
      refine cnd (fun hb => ?ht3) (fun hb => ?hf3)
      case ht3 =>
        have hw59 := hb
        try simp only [bo1, bo2, bo3, bo4, bo5, bo6] at hb
        have hbt59 := hb
        refine AW.seq ?_
        refine AW.region (cfg := cfg) ?_
        refine stp (fun _ h => s0 h) ?_
        refine aops_nil ?_
        refine AW.ret ?_
        refine ⟨.inr rfl, ?_⟩
        refine leaves_tmp1 2 rfl ?_ (by exact hG)
        simp (disch := first | omega | decide) only [go_sem, F, aIndex_map]
        all_goals (have z : lsaOK ⟨o, q, nil, ls⟩ = false := (by simp only [lsaOK, mo0, links_drop hk]; have y : linkOK o last ls[k] = false := (by cases hn : node ls[k].to <;> simp [linkOK, hn] at hbt59 ⊢; omega); simp [y]); simp [lsaE, z]; done)
      case hf3 =>
        have hw59 := hb
        try simp only [bo1, bo2, bo3, bo4, bo5, bo6] at hb
        have hbt59 := hb
        refine AW.skip ?_
        refine AW.region (cfg := cfg) ?_
        refine stp (fun _ h => sx h) ?_
        refine stp (fun _ h => sl h) ?_
        refine stp (fun _ h => s0 h) ?_
        refine aops_nil ?_
        refine AW.region (cfg := cfg) ?_
        refine stp (fun _ h => sd h) ?_
        refine stp (fun _ h => s0 h) ?_
        refine aops_nil ?_
        refine ⟨_, _, ?_, rfl, ?_, ?_, ?_, ?_, ?_, ?_, ?_, (by exact hG)⟩ <;> try simp (disch := first | omega | decide) only [go_sem, F, aIndex_map]
        all_goals first | rfl | skip
        all_goals (rw [mo0, links_drop hk, link_is hbt59, Bool.true_and]; done)
    · clear F f0 hG
      rintro σ ⟨s, m, last, rfl, f1, o1, f3, f27, f28, f29, mo0, hG⟩
      obtain ⟨g1, o1⟩ : ∃ g, m.objs (.tmp 1 0) = (g, .box [.v (i64 o), .v (i64 q), .v (.sl 2 nil (ls.map linkA))]) := ⟨_, Prod.ext rfl o1⟩
      rw [o1] at f1
      have F := (And.intro f1 (And.intro f3 (And.intro f27 (And.intro f28 (And.intro f29 (And.intro o1 hG))))))
      refine AW.seq ?_
      refine AW.region (cfg := cfg) ?_
      refine stp (fun _ h => s0 h) ?_
      refine aops_nil ?_
      refine AW.seq ?_
      refine cnd (fun hb => ?ht4) (fun hb => ?hf4)
      case ht4 => (simp at hb; done)
      case hf4 =>
      have hbt30 := hb
      refine AW.exit ?_
      refine AW.seq ?_
      refine AW.region (cfg := cfg) ?_
      refine stp (fun _ h => s0 h) ?_
      refine aops_nil ?_
      refine AW.ret ?_
      refine ⟨.inr rfl, ?_⟩
      refine leaves_tmp1 2 rfl ?_ (by exact hG)
      simp (disch := first | omega | decide) only [go_sem, F, aIndex_map]
      all_goals (have z : lsaOK ⟨o, q, nil, ls⟩ = true := lsa_is hbt25 (mo0.trans links_end); simp [lsaE, z]; done)
theorem good_refMay (o q : Int) (nil : Bool) (ls : List LinkS) (hl : ls.length ≤ 9223372036854775807) : Good Try.prog 31 [(.agg [i64 o, i64 q, .sl 2 nil (ls.map linkA)], false)] [] [(.b (lsaOK ⟨o, q, nil, ls⟩), false)] [] := by
  refine good_of_body2 82 Try.func31 rfl rfl rfl (by simp) ?_
  intro s m ha hr hv hG
  have f0 : s 0 = .v (.agg [i64 o, i64 q, .sl 2 nil (ls.map linkA)]) := ha 0 _ rfl
  clear ha
  have hc : True := trivial
  have F := (And.intro f0 hG)
  refine AW.seq ?_
  refine AW.region (cfg := cfg) ?_
  refine stp (fun _ h => sb h) ?_
  refine stp (fun _ h => s0 h) ?_
  refine aops_nil ?_
  refine AW.seq ?_
  refine AW.seq ?_
  refine AW.region (cfg := cfg) ?_
  refine stp (fun _ h => s0 h) ?_
  refine aops_nil ?_
  refine AW.block ?_
  refine AW.forN (fun k σ => ∃ s m, σ = ⟨82, s, m⟩ ∧ s 1 = .lptr (.tmp 1 0) (m.objs (.tmp 1 0)).1 0 ∧ (m.objs (.tmp 1 0)).2 = .box [.v (i64 o), .v (i64 q), .v (.sl 2 nil (ls.map linkA))] ∧ s 3 = .v (i64 (k : Int)) ∧ (linksOK o 0 ls = linksOK o (lastOf ls k) (ls.drop k)) ∧ m.G = []) (ls.length) ?_ ?_ ?_
  · refine ⟨_, _, rfl, ?_, ?_, ?_, ?_, (by exact hG)⟩ <;> try simp (disch := first | omega | decide) only [go_sem, F, aIndex_map]
    all_goals rfl
  · clear F f0 hG
    rintro k σ hk ⟨s, m, rfl, f1, o1, f3, mo0, hG⟩
    obtain ⟨g1, o1⟩ : ∃ g, m.objs (.tmp 1 0) = (g, .box [.v (i64 o), .v (i64 q), .v (.sl 2 nil (ls.map linkA))]) := ⟨_, Prod.ext rfl o1⟩
    rw [o1] at f1
    have F := (And.intro f1 (And.intro f3 (And.intro o1 hG)))
    refine AW.seq ?_
    refine AW.seq ?_
    refine AW.region (cfg := cfg) ?_
    refine stp (fun _ h => s0 h) ?_
    refine stp (fun _ h => sx h) ?_
    refine stp (fun _ h => sl h) ?_
    refine stp (fun _ h => sd h) ?_
    refine stp (fun _ h => s0 h) ?_
    refine aops_nil ?_
    refine cnd (fun hb => ?ht1) (fun hb => ?hf1)
    case hf1 => (simp at hb; omega)
    case ht1 =>
    have hbt9 := hb
    refine AW.skip ?_
    refine AW.seq ?_
    refine AW.block ?_
    refine AW.seq ?_
    refine AW.region (cfg := cfg) ?_
    refine stp (fun _ h => sx h) ?_
    refine stp (fun _ h => sl h) ?_
    refine stp (fun _ h => s0 h) ?_
    refine stp (fun _ h => si h) ?_
    refine stp (fun _ h => sl h) ?_
    refine stp (fun _ h => sd h) ?_
    refine stp0 (fun _ h => ss h) ?_
    refine aops_nil ?_
    refine AW.seq ?_
    refine AW.draw (cfg := cfg) (by kernel_rfl) (by kernel_rfl) (by kernel_rfl) ?_
    refine dstp (fun _ h => sx h) ?_
    refine dstp (fun _ h => sl h) ?_
    iterate 2 refine dstp (fun _ h => s0 h) ?_
    refine dmrg wa (fun hc _ h => sx h) ?_
    refine dmrg wa (fun hc _ h => sl h) ?_
    refine dmrg wa (fun hc _ h => s0 h) ?_
    iterate 2 refine dstp (fun _ h => s0 h) ?_
    refine dmrg wa (fun hc _ h => sx h) ?_
    refine dmrg wa (fun hc _ h => sl h) ?_
    refine dmrg wa (fun hc _ h => sx h) ?_
    refine dmrg wa (fun hc _ h => sl h) ?_
    refine dmrg wa (fun hc _ h => s0 h) ?_
    iterate 2 refine dstp (fun _ h => s0 h) ?_
    refine dmrg wa (fun hc _ h => sx h) ?_
    refine dmrg wa (fun hc _ h => sl h) ?_
    refine dmrg wa (fun hc _ h => s0 h) ?_
    iterate 2 refine dstp (fun _ h => s0 h) ?_
    refine dmrg wa (fun hc _ h => sx h) ?_
    refine dmrg wa (fun hc _ h => sl h) ?_
    refine dmrg wa (fun hc _ h => s0 h) ?_
    iterate 2 refine dstp (fun _ h => s0 h) ?_
    iterate 3 refine dmrg wa (fun hc _ h => s0 h) ?_
    refine dmrg wa (fun hc _ h => sx h) ?_
    refine dmrg wa (fun hc _ h => sl h) ?_
    refine dmrg wa (fun hc _ h => s0 h) ?_
    refine dmrg wa (fun hc _ h => sd h) ?_
    refine dmrg wa (fun hc _ h => sg h) ?_
    refine dmrg wa (fun hc _ h => sx h) ?_
    refine dmrg wa (fun hc _ h => sl h) ?_
    refine dmrg wa (fun hc _ h => sx h) ?_
    refine dmrg wa (fun hc _ h => sl h) ?_
    iterate 2 refine dmrg wa (fun hc _ h => s0 h) ?_
    refine dstp (fun _ h => s0 h) ?_
    refine adraw_nil (by kernel_rfl) ?_
    refine cnd (fun hb => ?ht2) (fun hb => ?hf2)
    case ht2 =>
      have hw57 := hb
      try simp only [bo1, bo2, bo3, bo4, bo5, bo6] at hb
      have hbt57 := hb
      refine AW.seq ?_
      refine AW.region (cfg := cfg) ?_
      refine stp (fun _ h => s0 h) ?_
      refine aops_nil ?_
      refine AW.ret ?_
      refine ⟨.inr rfl, ?_⟩
      refine leaves_tmp1 2 rfl ?_ (by exact hG)
      simp (disch := first | omega | decide) only [go_sem, F, aIndex_map]
      all_goals (have z : lsaOK ⟨o, q, nil, ls⟩ = false := (by simp only [lsaOK, mo0, links_drop hk, may_no hbt57]; simp); rw [z]; done)
    case hf2 =>
      have hw57 := hb
      try simp only [bo1, bo2, bo3, bo4, bo5, bo6] at hb
      have hbt57 := hb
      refine AW.skip ?_
      refine AW.region (cfg := cfg) ?_
      refine stp (fun _ h => s0 h) ?_
      refine stp (fun _ h => sd h) ?_
      refine stp (fun _ h => s0 h) ?_
      refine aops_nil ?_
      refine ⟨_, _, rfl, ?_, ?_, ?_, ?_, (by exact hG)⟩ <;> try simp (disch := first | omega | decide) only [go_sem, F, aIndex_map]
      all_goals first | rfl | skip
      all_goals (rw [mo0, links_drop hk, may_is hbt57, Bool.true_and, lastOf_succ hk]; done)
  · clear F f0 hG
    rintro σ ⟨s, m, rfl, f1, o1, f3, mo0, hG⟩
    obtain ⟨g1, o1⟩ : ∃ g, m.objs (.tmp 1 0) = (g, .box [.v (i64 o), .v (i64 q), .v (.sl 2 nil (ls.map linkA))]) := ⟨_, Prod.ext rfl o1⟩
    rw [o1] at f1
    have F := (And.intro f1 (And.intro f3 (And.intro o1 hG)))
    refine AW.seq ?_
    refine AW.seq ?_
    refine AW.region (cfg := cfg) ?_
    refine stp (fun _ h => s0 h) ?_
    refine stp (fun _ h => sx h) ?_
    refine stp (fun _ h => sl h) ?_
    refine stp (fun _ h => sd h) ?_
    refine stp (fun _ h => s0 h) ?_
    refine aops_nil ?_
    refine cnd (fun hb => ?ht3) (fun hb => ?hf3)
    case ht3 => (simp at hb; done)
    case hf3 =>
    have hbt9 := hb
    refine AW.exit ?_
    refine AW.seq ?_
    refine AW.region (cfg := cfg) ?_
    refine stp (fun _ h => sx h) ?_
    refine stp (fun _ h => sl h) ?_
    iterate 2 refine stp (fun _ h => s0 h) ?_
    refine mrg wa (fun hc _ h => sx h) ?_
    refine mrg wa (fun hc _ h => sl h) ?_
    refine mrg wa (fun hc _ h => s0 h) ?_
    iterate 2 refine stp (fun _ h => s0 h) ?_
    refine mrg wa (fun hc _ h => sx h) ?_
    refine mrg wa (fun hc _ h => sl h) ?_
    refine mrg wa (fun hc _ h => s0 h) ?_
    iterate 2 refine stp (fun _ h => s0 h) ?_
    refine mrg wa (fun hc _ h => sx h) ?_
    refine mrg wa (fun hc _ h => sl h) ?_
    refine mrg wa (fun hc _ h => s0 h) ?_
    iterate 2 refine stp (fun _ h => s0 h) ?_
    refine mrg wa (fun hc _ h => sx h) ?_
    refine mrg wa (fun hc _ h => sl h) ?_
    refine mrg wa (fun hc _ h => sd h) ?_
    refine mrg wa (fun hc _ h => s0 h) ?_
    iterate 2 refine stp (fun _ h => s0 h) ?_
    refine aops_nil ?_
    refine AW.ret ?_
    refine ⟨.inr rfl, ?_⟩
    refine leaves_tmp1 2 rfl ?_ (by exact hG)
    simp (disch := first | omega | decide) only [go_sem, F, aIndex_map]
    all_goals (have z : linksOK o 0 ls = true := mo0.trans links_end; refine congrArg (fun b => LV.v (AV.b b)) ?_; refine may_end z ?_; simp only [Bool.and_eq_true, decide_eq_true_eq]; omega)
end Go.Vai.L
namespace Go.Vai.L
open Go.Proofs Go.Vai Go.Vai.O
set_option linter.unusedSimpArgs false
set_option linter.unusedVariables false
set_option maxHeartbeats 4000000
set_option maxRecDepth 100000
theorem good_EqualLink (na nb : Bool) (a b : List LinkS) (ha : a.length ≤ 9223372036854775807) (hb : b.length ≤ 9223372036854775807) : Good Try.prog 66 [(.sl 2 na (a.map linkA), false), (.sl 2 nb (b.map linkA), false)] [] [(.b (decide (a = b)), false)] [] := by
  refine good_of_body2 26 Try.func66 rfl rfl rfl (by simp) ?_
  intro s m ha hr hv hG
  have f0 : s 0 = .v (.sl 2 na (a.map linkA)) := ha 0 _ rfl
  have f1 : s 1 = .v (.sl 2 nb (b.map linkA)) := ha 1 _ rfl
  clear ha
  have hc : True := trivial
  have F := (And.intro f0 (And.intro f1 hG))
  refine AW.seq ?_
  refine AW.region (cfg := cfg) ?_
  refine stp (fun _ h => s0 h) ?_
  refine aops_nil ?_
  refine AW.seq ?_
  refine AW.seq ?_
  refine AW.region (cfg := cfg) ?_
  refine stp (fun _ h => s0 h) ?_
  refine stp (fun _ h => sd h) ?_
  refine stp (fun _ h => s0 h) ?_
  refine stp (fun _ h => sd h) ?_
  refine stp (fun _ h => s0 h) ?_
  refine aops_nil ?_
  refine cnd (fun hb => ?ht1) (fun hb => ?hf1)
  case ht1 =>
    have hw10 := hb
    try simp only [bo1, bo2, bo3, bo4, bo5, bo6] at hb
    have hbt10 := hb
    refine AW.seq ?_
    refine AW.region (cfg := cfg) ?_
    refine stp (fun _ h => s0 h) ?_
    refine aops_nil ?_
    refine AW.ret ?_
    refine ⟨.inr rfl, ?_⟩
    refine leaves_tmp1 4 rfl ?_ (by exact hG)
    simp (disch := first | omega | decide) only [go_sem, F, aIndex_map]
    all_goals (rw [decide_eq_false (fun e => by have := congrArg List.length e; omega)]; done)
  case hf1 =>
    have hw10 := hb
    try simp only [bo1, bo2, bo3, bo4, bo5, bo6] at hb
    have hbt10 := hb
    refine AW.skip ?_
    refine AW.seq ?_
    refine AW.seq ?_
    refine AW.region (cfg := cfg) ?_
    refine stp (fun _ h => s0 h) ?_
    refine stp (fun _ h => sd h) ?_
    refine stp (fun _ h => s0 h) ?_
    refine aops_nil ?_
    refine AW.block ?_
    refine AW.forN (fun k σ => ∃ s m, σ = ⟨26, s, m⟩ ∧ s 0 = .v (.sl 2 na (a.map linkA)) ∧ s 1 = .v (.sl 2 nb (b.map linkA)) ∧ s 12 = .v (i64 (a.length : Int)) ∧ s 13 = .v (i64 (k : Int)) ∧ (a.length = b.length) ∧ (a.take k = b.take k) ∧ m.G = []) (a.length) ?_ ?_ ?_
    · refine ⟨_, _, rfl, ?_, ?_, ?_, ?_, ?_, ?_, (by exact hG)⟩ <;> try simp (disch := first | omega | decide) only [go_sem, F, aIndex_map]
      all_goals first | rfl | omega
    · clear F f0 f1 hG
      rintro k σ hk ⟨s, m, rfl, f0, f1, f12, f13, mo0, mo1, hG⟩
      have F := (And.intro f0 (And.intro f1 (And.intro f12 (And.intro f13 hG))))
      refine AW.seq ?_
      refine AW.region (cfg := cfg) ?_
      refine stp (fun _ h => s0 h) ?_
      refine aops_nil ?_
      refine AW.seq ?_
      refine cnd (fun hb => ?ht2) (fun hb => ?hf2)
      case hf2 => (simp at hb; omega)
      case ht2 =>
      have hbt14 := hb
      refine AW.skip ?_
      refine AW.seq ?_
      refine AW.block ?_
      refine AW.seq ?_
      refine AW.region (cfg := cfg) ?_
      iterate 2 refine stp (fun _ h => s0 h) ?_
      refine aops_nil ?_
      refine AW.seq ?_
      refine AW.draw (cfg := cfg) (by kernel_rfl) (by kernel_rfl) (by kernel_rfl) ?_
      iterate 2 refine dstp (fun _ h => s0 h) ?_
      refine dstp (fun _ h => si h) ?_
      refine dstp (fun _ h => sl h) ?_
      iterate 2 refine dstp (fun _ h => s0 h) ?_
      refine dstp (fun _ h => si h) ?_
      refine dstp (fun _ h => sl h) ?_
      refine dstp (fun _ h => s0 h) ?_
      refine adraw_nil (by kernel_rfl) ?_
      refine cnd (fun hb => ?ht3) (fun hb => ?hf3)
      case ht3 =>
        have hw24 := hb
        try simp only [bo1, bo2, bo3, bo4, bo5, bo6] at hb
        have hbt24 := hb
        refine AW.seq ?_
        refine AW.region (cfg := cfg) ?_
        refine stp (fun _ h => s0 h) ?_
        refine aops_nil ?_
        refine AW.ret ?_
        refine ⟨.inr rfl, ?_⟩
        refine leaves_tmp1 4 rfl ?_ (by exact hG)
        simp (disch := first | omega | decide) only [go_sem, F, aIndex_map]
        all_goals (rw [decide_eq_false (fun e => by subst e; exact link_ne hb rfl)]; done)
      case hf3 =>
        have hw24 := hb
        try simp only [bo1, bo2, bo3, bo4, bo5, bo6] at hb
        have hbt24 := hb
        refine AW.skip ?_
        refine AW.region (cfg := cfg) ?_
        refine stp (fun _ h => sd h) ?_
        refine stp (fun _ h => s0 h) ?_
        refine aops_nil ?_
        refine ⟨_, _, rfl, ?_, ?_, ?_, ?_, ?_, ?_, (by exact hG)⟩ <;> try simp (disch := first | omega | decide) only [go_sem, F, aIndex_map]
        all_goals first | rfl | assumption | skip
        all_goals (rw [List.take_succ_eq_append_getElem (by omega), List.take_succ_eq_append_getElem (by omega), mo1]; congr 2; exact link_eq hb)
    · clear F f0 f1 hG
      rintro σ ⟨s, m, rfl, f0, f1, f12, f13, mo0, mo1, hG⟩
      have F := (And.intro f0 (And.intro f1 (And.intro f12 (And.intro f13 hG))))
      refine AW.seq ?_
      refine AW.region (cfg := cfg) ?_
      refine stp (fun _ h => s0 h) ?_
      refine aops_nil ?_
      refine AW.seq ?_
      refine cnd (fun hb => ?ht4) (fun hb => ?hf4)
      case ht4 => (simp at hb; done)
      case hf4 =>
      have hbt14 := hb
      refine AW.exit ?_
      refine AW.seq ?_
      refine AW.region (cfg := cfg) ?_
      refine stp (fun _ h => s0 h) ?_
      refine aops_nil ?_
      refine AW.ret ?_
      refine ⟨.inr rfl, ?_⟩
      refine leaves_tmp1 4 rfl ?_ (by exact hG)
      simp (disch := first | omega | decide) only [go_sem, F, aIndex_map]
      all_goals (rw [decide_eq_true (by rw [List.take_length, mo0, List.take_length] at mo1; exact mo1)]; done)
theorem good_CloneLink (nil : Bool) (l : List LinkS) (hl : l.length ≤ 8796093022208) (hz : nil = true → l = []) : Good Try.prog 67 [(.sl 2 nil (l.map linkA), false)] [] [(.sl 2 nil (l.map linkA), true)] [] := by
  refine good_of_body3 8 Try.func67 rfl rfl rfl (by simp) ?_
  intro s m ha hr hv hG
  have f0 : s 0 = .v (.sl 2 nil (l.map linkA)) := ha 0 _ rfl
  clear ha
  have hc : True := trivial
  have F := (And.intro f0 hG)
  refine AW.seq ?_
  refine AW.region (cfg := cfg) ?_
  refine stp (fun _ h => s0 h) ?_
  refine aops_nil ?_
  refine AW.seq ?_
  refine AW.seq ?_
  refine AW.region (cfg := cfg) ?_
  iterate 2 refine stp (fun _ h => s0 h) ?_
  refine aops_nil ?_
  refine cnd (fun hb => ?ht1) (fun hb => ?hf1)
  case ht1 =>
    have hw4 := hb
    try simp only [bo1, bo2, bo3, bo4, bo5, bo6] at hb
    have hbt4 := hb
    refine AW.seq ?_
    refine AW.region (cfg := cfg) ?_
    refine stp (fun _ h => s0 h) ?_
    refine aops_nil ?_
    refine AW.ret ?_
    refine ⟨.inr rfl, ?_⟩
    (obtain rfl : nil = true := (by simpa using hb); obtain rfl := hz rfl; refine ⟨_, nilEq_nil (nilEq_refl _), leaves_own1 2 rfl (by simp (disch := first | omega | decide) only [go_sem, F, aIndex_map] <;> rfl) (by simp (disch := first | omega | decide) only [go_sem, F, aIndex_map] <;> rfl) (by decide) (by simp [sub, List.take_of_length_le]) (by exact hG)⟩)
  case hf1 =>
    have hw4 := hb
    try simp only [bo1, bo2, bo3, bo4, bo5, bo6] at hb
    have hbt4 := hb
    refine AW.skip ?_
    refine AW.seq ?_
    refine AW.region (cfg := cfg) ?_
    refine stp (fun _ h => sq h) ?_
    refine stp (fun _ h => s0 h) ?_
    refine stp (fun _ h => sp h) ?_
    refine stp (fun _ h => st h) ?_
    refine aops_nil ?_
    refine AW.ret ?_
    refine ⟨.inr rfl, ?_⟩
    (obtain rfl : nil = false := (by simpa using hb); refine leavesN (leaves_own1 2 rfl (by simp (disch := first | omega | decide) only [go_sem, F, aIndex_map] <;> rfl) (by simp (disch := first | omega | decide) only [go_sem, F, aIndex_map] <;> rfl) (by decide) (by simp [sub, List.take_of_length_le]) (by exact hG)))
end Go.Vai.L
namespace Go.Vai.L
open Go.Proofs Go.Vai Go.Vai.O
set_option linter.unusedSimpArgs false
set_option linter.unusedVariables false
set_option maxHeartbeats 4000000
set_option maxRecDepth 100000
theorem same_is {a b : Lsa} {k : Nat} (h0 : (a.o = b.o ∧ a.s = b.s) ∧ (a.ls.length : Int) = (b.ls.length : Int)) (h : a.ls.take k = b.ls.take k) (hk : k = a.ls.length) : lsaEq a b = true := by
  have : a.ls = b.ls := by
    have e : k = b.ls.length := by omega
    rw [show a.ls.take k = a.ls by rw [hk, List.take_length], show b.ls.take k = b.ls by rw [e, List.take_length]] at h
    exact h
  simp [lsaEq, h0.1.1, h0.1.2, this]
theorem same_no {a b : Lsa} (h : (¬ a.o = b.o ∨ ¬ a.s = b.s) ∨ ¬ (a.ls.length : Int) = (b.ls.length : Int)) : lsaEq a b = false := by
  cases e : lsaEq a b with
  | false => rfl
  | true =>
    simp [lsaEq] at e
    rcases h with (h | h) | h
    · exact absurd e.1 h
    · exact absurd e.2.1 h
    · rw [e.2.2] at h; exact absurd rfl h
theorem same_at {a b : Lsa} {k : Nat} (h1 : k < a.ls.length) (h2 : k < b.ls.length) (h : ¬ a.ls[k] = b.ls[k]) : lsaEq a b = false := by
  cases e : lsaEq a b with
  | false => rfl
  | true =>
    simp [lsaEq] at e
    exact absurd (by simp [e.2.2]) h
theorem good_refSame (x : Lsa) (hx : x.ls.length ≤ 9223372036854775807)(y : Lsa) (hy : y.ls.length ≤ 9223372036854775807) : Good Try.prog 34 [(lsaA x, false), (lsaA y, false)] [] [(.b (lsaEq x y), false)] [] := by
  refine good_of_body2 45 Try.func34 rfl rfl rfl (by simp) ?_
  intro s m ha hr hv hG
  have f0 : s 0 = .v (.agg [i64 x.o, i64 x.s, .sl 2 x.nil (x.ls.map linkA)]) := ha 0 _ rfl
  have f1 : s 1 = .v (.agg [i64 y.o, i64 y.s, .sl 2 y.nil (y.ls.map linkA)]) := ha 1 _ rfl
  clear ha
  have hc : True := trivial
  have F := (And.intro f0 (And.intro f1 hG))
  refine AW.seq ?_
  refine AW.region (cfg := cfg) ?_
  iterate 2 refine stp (fun _ h => sb h) ?_
  refine stp (fun _ h => s0 h) ?_
  refine aops_nil ?_
  refine AW.seq ?_
  refine AW.seq ?_
  refine AW.region (cfg := cfg) ?_
  refine stp (fun _ h => sx h) ?_
  refine stp (fun _ h => sl h) ?_
  refine stp (fun _ h => sx h) ?_
  refine stp (fun _ h => sl h) ?_
  iterate 2 refine stp (fun _ h => s0 h) ?_
  refine mrg wa (fun hc _ h => sx h) ?_
  refine mrg wa (fun hc _ h => sl h) ?_
  refine mrg wa (fun hc _ h => sx h) ?_
  refine mrg wa (fun hc _ h => sl h) ?_
  refine mrg wa (fun hc _ h => s0 h) ?_
  iterate 2 refine stp (fun _ h => s0 h) ?_
  refine mrg wa (fun hc _ h => sx h) ?_
  refine mrg wa (fun hc _ h => sl h) ?_
  refine mrg wa (fun hc _ h => sd h) ?_
  refine mrg wa (fun hc _ h => sx h) ?_
  refine mrg wa (fun hc _ h => sl h) ?_
  refine mrg wa (fun hc _ h => sd h) ?_
  refine mrg wa (fun hc _ h => s0 h) ?_
  refine stp (fun _ h => s0 h) ?_
  refine aops_nil ?_
  refine cnd (fun hb => ?ht1) (fun hb => ?hf1)
  case ht1 =>
    have hw26 := hb
    try simp only [bo1, bo2, bo3, bo4, bo5, bo6] at hb
    have hbt26 := hb
    refine AW.seq ?_
    refine AW.region (cfg := cfg) ?_
    refine stp (fun _ h => s0 h) ?_
    refine aops_nil ?_
    refine AW.ret ?_
    refine ⟨.inr rfl, ?_⟩
    refine leaves_tmp1 4 rfl ?_ (by exact hG)
    simp (disch := first | omega | decide) only [go_sem, F, aIndex_map]
    all_goals (rw [same_no (by simpa using hbt26)]; done)
  case hf1 =>
    have hw26 := hb
    try simp only [bo1, bo2, bo3, bo4, bo5, bo6] at hb
    have hbt26 := hb
    refine AW.skip ?_
    refine AW.seq ?_
    refine AW.seq ?_
    refine AW.region (cfg := cfg) ?_
    refine stp (fun _ h => s0 h) ?_
    refine aops_nil ?_
    refine AW.block ?_
    refine AW.forN (fun k σ => ∃ s m, σ = ⟨45, s, m⟩ ∧ s 2 = .lptr (.tmp 2 0) (m.objs (.tmp 2 0)).1 0 ∧ (m.objs (.tmp 2 0)).2 = .box [.v (i64 x.o), .v (i64 x.s), .v (.sl 2 x.nil (x.ls.map linkA))] ∧ s 3 = .lptr (.tmp 3 0) (m.objs (.tmp 3 0)).1 0 ∧ (m.objs (.tmp 3 0)).2 = .box [.v (i64 y.o), .v (i64 y.s), .v (.sl 2 y.nil (y.ls.map linkA))] ∧ s 5 = .v (i64 (k : Int)) ∧ ((x.o = y.o ∧ x.s = y.s) ∧ (x.ls.length : Int) = (y.ls.length : Int)) ∧ (x.ls.take k = y.ls.take k) ∧ m.G = []) (x.ls.length) ?_ ?_ ?_
    · refine ⟨_, _, rfl, ?_, ?_, ?_, ?_, ?_, ?_, ?_, (by exact hG)⟩ <;> try simp (disch := first | omega | decide) only [go_sem, F, aIndex_map]
      all_goals first | rfl | (simpa using hbt26)
    · clear F f0 f1 hG
      rintro k σ hk ⟨s, m, rfl, f2, o2, f3, o3, f5, mo0, mo1, hG⟩
      obtain ⟨g2, o2⟩ : ∃ g, m.objs (.tmp 2 0) = (g, .box [.v (i64 x.o), .v (i64 x.s), .v (.sl 2 x.nil (x.ls.map linkA))]) := ⟨_, Prod.ext rfl o2⟩
      rw [o2] at f2
      obtain ⟨g3, o3⟩ : ∃ g, m.objs (.tmp 3 0) = (g, .box [.v (i64 y.o), .v (i64 y.s), .v (.sl 2 y.nil (y.ls.map linkA))]) := ⟨_, Prod.ext rfl o3⟩
      rw [o3] at f3
      have F := (And.intro f2 (And.intro f3 (And.intro f5 (And.intro o2 (And.intro o3 hG)))))
      refine AW.seq ?_
      refine AW.seq ?_
      refine AW.region (cfg := cfg) ?_
      refine stp (fun _ h => s0 h) ?_
      refine stp (fun _ h => sx h) ?_
      refine stp (fun _ h => sl h) ?_
      refine stp (fun _ h => sd h) ?_
      refine stp (fun _ h => s0 h) ?_
      refine aops_nil ?_
      refine cnd (fun hb => ?ht2) (fun hb => ?hf2)
      case hf2 => (simp at hb; omega)
      case ht2 =>
      have hbt31 := hb
      refine AW.skip ?_
      refine AW.seq ?_
      refine AW.block ?_
      refine AW.seq ?_
      have hky : k < y.ls.length := by omega
      refine AW.draw (cfg := cfg) (by kernel_rfl) (by kernel_rfl) (by kernel_rfl) ?_
      refine dstp (fun _ h => sx h) ?_
      refine dstp (fun _ h => sl h) ?_
      refine dstp (fun _ h => s0 h) ?_
      refine dstp (fun _ h => si h) ?_
      refine dstp (fun _ h => sl h) ?_
      refine dstp (fun _ h => sx h) ?_
      refine dstp (fun _ h => sl h) ?_
      refine dstp (fun _ h => s0 h) ?_
      refine dstp (fun _ h => si h) ?_
      refine dstp (fun _ h => sl h) ?_
      refine dstp (fun _ h => s0 h) ?_
      refine adraw_nil (by kernel_rfl) ?_
      refine cnd (fun hb => ?ht3) (fun hb => ?hf3)
      case ht3 =>
        have hw44 := hb
        try simp only [bo1, bo2, bo3, bo4, bo5, bo6] at hb
        have hbt44 := hb
        refine AW.seq ?_
        refine AW.region (cfg := cfg) ?_
        refine stp (fun _ h => s0 h) ?_
        refine aops_nil ?_
        refine AW.ret ?_
        refine ⟨.inr rfl, ?_⟩
        refine leaves_tmp1 4 rfl ?_ (by exact hG)
        simp (disch := first | omega | decide) only [go_sem, F, aIndex_map]
        all_goals (rw [same_at (by omega) (by omega) (fun e => link_ne hb e)]; done)
      case hf3 =>
        have hw44 := hb
        try simp only [bo1, bo2, bo3, bo4, bo5, bo6] at hb
        have hbt44 := hb
        refine AW.skip ?_
        refine AW.region (cfg := cfg) ?_
        refine stp (fun _ h => s0 h) ?_
        refine stp (fun _ h => sd h) ?_
        refine stp (fun _ h => s0 h) ?_
        refine aops_nil ?_
        refine ⟨_, _, rfl, ?_, ?_, ?_, ?_, ?_, ?_, ?_, (by exact hG)⟩ <;> try simp (disch := first | omega | decide) only [go_sem, F, aIndex_map]
        all_goals first | rfl | assumption | skip
        all_goals (rw [List.take_succ_eq_append_getElem (by omega), List.take_succ_eq_append_getElem (by omega), mo1]; congr 2; exact link_eq hb)
    · clear F f0 f1 hG
      rintro σ ⟨s, m, rfl, f2, o2, f3, o3, f5, mo0, mo1, hG⟩
      obtain ⟨g2, o2⟩ : ∃ g, m.objs (.tmp 2 0) = (g, .box [.v (i64 x.o), .v (i64 x.s), .v (.sl 2 x.nil (x.ls.map linkA))]) := ⟨_, Prod.ext rfl o2⟩
      rw [o2] at f2
      obtain ⟨g3, o3⟩ : ∃ g, m.objs (.tmp 3 0) = (g, .box [.v (i64 y.o), .v (i64 y.s), .v (.sl 2 y.nil (y.ls.map linkA))]) := ⟨_, Prod.ext rfl o3⟩
      rw [o3] at f3
      have F := (And.intro f2 (And.intro f3 (And.intro f5 (And.intro o2 (And.intro o3 hG)))))
      refine AW.seq ?_
      refine AW.seq ?_
      refine AW.region (cfg := cfg) ?_
      refine stp (fun _ h => s0 h) ?_
      refine stp (fun _ h => sx h) ?_
      refine stp (fun _ h => sl h) ?_
      refine stp (fun _ h => sd h) ?_
      refine stp (fun _ h => s0 h) ?_
      refine aops_nil ?_
      refine cnd (fun hb => ?ht4) (fun hb => ?hf4)
      case ht4 => (simp at hb; done)
      case hf4 =>
      have hbt31 := hb
      refine AW.exit ?_
      refine AW.seq ?_
      refine AW.region (cfg := cfg) ?_
      refine stp (fun _ h => s0 h) ?_
      refine aops_nil ?_
      refine AW.ret ?_
      refine ⟨.inr rfl, ?_⟩
      refine leaves_tmp1 4 rfl ?_ (by exact hG)
      simp (disch := first | omega | decide) only [go_sem, F, aIndex_map]
      all_goals (rw [same_is mo0 mo1 rfl]; done)
theorem good_Light (x : Lsa) (hx : x.ls.length ≤ 9223372036854775807) : Good Try.prog 23 [(lsaA x, false)] [] [(.b (decide ((x.ls.length : Int) ≤ 40)), false)] [] := by
  refine good_of_body2 7 Try.func23 rfl rfl rfl (by simp) ?_
  intro s m ha hr hv hG
  have f0 : s 0 = .v (.agg [i64 x.o, i64 x.s, .sl 2 x.nil (x.ls.map linkA)]) := ha 0 _ rfl
  clear ha
  have hc : True := trivial
  have F := (And.intro f0 hG)
  refine AW.seq ?_
  refine AW.region (cfg := cfg) ?_
  refine stp (fun _ h => sb h) ?_
  refine stp (fun _ h => s0 h) ?_
  refine aops_nil ?_
  refine AW.seq ?_
  refine AW.region (cfg := cfg) ?_
  refine stp (fun _ h => sx h) ?_
  refine stp (fun _ h => sl h) ?_
  refine stp (fun _ h => sd h) ?_
  iterate 2 refine stp (fun _ h => s0 h) ?_
  refine aops_nil ?_
  refine AW.ret ?_
  refine ⟨.inr rfl, ?_⟩
  refine leaves_tmp1 2 rfl ?_ (by exact hG)
  simp (disch := first | omega | decide) only [go_sem, F, aIndex_map]
  all_goals first | done | rfl | trace_state
theorem good_Newer (x : Lsa) (hx : x.ls.length ≤ 9223372036854775807)(y : Lsa) (hy : y.ls.length ≤ 9223372036854775807) : Good Try.prog 72 [(lsaA x, false), (lsaA y, false)] [] [(.b (newer x y), false)] [] := by
  refine good_of_body2 17 Try.func72 rfl rfl rfl (by simp) ?_
  intro s m ha hr hv hG
  have f0 : s 0 = .v (.agg [i64 x.o, i64 x.s, .sl 2 x.nil (x.ls.map linkA)]) := ha 0 _ rfl
  have f1 : s 1 = .v (.agg [i64 y.o, i64 y.s, .sl 2 y.nil (y.ls.map linkA)]) := ha 1 _ rfl
  clear ha
  have hc : True := trivial
  have F := (And.intro f0 (And.intro f1 hG))
  refine AW.seq ?_
  refine AW.region (cfg := cfg) ?_
  iterate 2 refine stp (fun _ h => sb h) ?_
  refine stp (fun _ h => s0 h) ?_
  refine aops_nil ?_
  refine AW.seq ?_
  refine AW.region (cfg := cfg) ?_
  refine stp (fun _ h => sx h) ?_
  refine stp (fun _ h => sl h) ?_
  refine stp (fun _ h => sx h) ?_
  refine stp (fun _ h => sl h) ?_
  iterate 2 refine stp (fun _ h => s0 h) ?_
  refine mrg wa (fun hc _ h => sx h) ?_
  refine mrg wa (fun hc _ h => sl h) ?_
  refine mrg wa (fun hc _ h => sx h) ?_
  refine mrg wa (fun hc _ h => sl h) ?_
  refine mrg wa (fun hc _ h => s0 h) ?_
  iterate 2 refine stp (fun _ h => s0 h) ?_
  refine aops_nil ?_
  refine AW.ret ?_
  refine ⟨.inr rfl, ?_⟩
  refine leaves_tmp1 4 rfl ?_ (by exact hG)
  simp (disch := first | omega | decide) only [go_sem, F, aIndex_map]
  all_goals rfl
theorem good_Same (x : Lsa) (hx : x.ls.length ≤ 9223372036854775807)(y : Lsa) (hy : y.ls.length ≤ 9223372036854775807) : Good Try.prog 45 [(lsaA x, false), (lsaA y, false)] [] [(.b (lsaEq x y), false)] [] := by
  refine good_of_body2 24 Try.func45 rfl rfl rfl (by simp) ?_
  intro s m ha hr hv hG
  have f0 : s 0 = .v (.agg [i64 x.o, i64 x.s, .sl 2 x.nil (x.ls.map linkA)]) := ha 0 _ rfl
  have f1 : s 1 = .v (.agg [i64 y.o, i64 y.s, .sl 2 y.nil (y.ls.map linkA)]) := ha 1 _ rfl
  clear ha
  have hc : True := trivial
  have F := (And.intro f0 (And.intro f1 hG))
  refine AW.seq ?_
  refine AW.region (cfg := cfg) ?_
  iterate 2 refine stp (fun _ h => sb h) ?_
  refine stp (fun _ h => s0 h) ?_
  refine aops_nil ?_
  refine AW.seq ?_
  refine AW.region (cfg := cfg) ?_
  refine stp (fun _ h => sx h) ?_
  refine stp (fun _ h => sl h) ?_
  refine stp (fun _ h => sx h) ?_
  refine stp (fun _ h => sl h) ?_
  iterate 2 refine stp (fun _ h => s0 h) ?_
  refine mrg wa (fun hc _ h => sx h) ?_
  refine mrg wa (fun hc _ h => sl h) ?_
  refine mrg wa (fun hc _ h => sx h) ?_
  refine mrg wa (fun hc _ h => sl h) ?_
  refine mrg wa (fun hc _ h => s0 h) ?_
  iterate 2 refine stp (fun _ h => s0 h) ?_
  refine mrg wa (fun hc _ h => sx h) ?_
  refine mrg wa (fun hc _ h => sl h) ?_
  refine mrg wa (fun hc _ h => sx h) ?_
  refine mrg wa (fun hc _ h => sl h) ?_
  refine mrg wa (fun hc _ h => cs (w := good_EqualLink _ _ _ _ (by omega) (by omega)) (x := h)) ?_
  iterate 2 refine stp (fun _ h => s0 h) ?_
  refine aops_nil ?_
  refine AW.ret ?_
  refine ⟨.inr rfl, ?_⟩
  refine leaves_tmp1 4 rfl ?_ (by exact hG)
  simp (disch := first | omega | decide) only [go_sem, F, aIndex_map]
  all_goals (simp [lsaEq, Bool.and_assoc]; done)
theorem good_Copy (x : Lsa) (hx : x.ls.length ≤ 9223372036854775807) (hx2 : x.ls.length ≤ 8796093022208) (hz : x.nil = true → x.ls = []) : Good Try.prog 49 [(lsaA x, false)] [] [(lsaA x, false)] [] := by
  refine good_of_body2 8 Try.func49 rfl rfl rfl (by simp) ?_
  intro s m ha hr hv hG
  have f0 : s 0 = .v (.agg [i64 x.o, i64 x.s, .sl 2 x.nil (x.ls.map linkA)]) := ha 0 _ rfl
  clear ha
  have hc : True := trivial
  have F := (And.intro f0 hG)
  refine AW.seq ?_
  refine AW.region (cfg := cfg) ?_
  refine stp (fun _ h => sb h) ?_
  refine stp (fun _ h => sd h) ?_
  refine aops_nil ?_
  refine AW.seq ?_
  refine AW.region (cfg := cfg) ?_
  refine stp (fun _ h => sx h) ?_
  refine stp (fun _ h => sl h) ?_
  refine stp (fun _ h => co1 (w := good_CloneLink _ _ (by omega) hz) (x := h)) ?_
  refine stp (fun _ h => sx h) ?_
  refine stp0 (fun _ h => ss h) ?_
  refine aops_nil ?_
  refine AW.seq ?_
  refine AW.region (cfg := cfg) ?_
  refine stp (fun _ h => sl h) ?_
  refine stp0 (fun _ h => ss h) ?_
  refine aops_nil ?_
  refine AW.ret ?_
  refine ⟨.inr rfl, ?_⟩
  refine leaves_mwp2 (rs := [.cell 2 50]) rfl ?_
  simp (config := {failIfUnchanged := false}) [giveL, srcOne, rehome, freezeN, sub, ti50, upd, opn, aLoad, loadL, giveOne, reify, reifyL, readL, readOne, Mwp, M.bind, Mem.set, setAt, cellsL, hG, f0, lsaA]
  all_goals exact List.take_of_length_le (by simp)
@[simp] theorem noPtr_lsa (x : Lsa) : noPtr (lsaA x) = true := by simp [lsaA, noPtr, noPtrL, noPtrL_links]
@[simp] theorem noPtrL_lsas (l : List Lsa) : noPtrL (l.map lsaA) = true := noPtrL_map noPtr_lsa _
theorem cellsOf_lsa (x : Lsa) : cellsOf (lsaA x) = [.i .i64 x.o, .i .i64 x.s, .sl 2 x.nil (x.ls.map linkA)] := rfl
attribute [go_sem] cellsOf_lsa
end Go.Vai.L
set_option linter.unusedSimpArgs false
set_option linter.unusedVariables false
namespace Go.Vai
section
variable {α : Type}
def Srt (ky : α → Int) (l : List α) : Prop := l.Pairwise fun a b => ky a < ky b
def gK (ky : α → Int) (l : List α) (t : Int) : Option α := l.find? fun x => decide (ky x = t)
variable {ky : α → Int} {l m : List α} {t : Int}
theorem getD_at [Inhabited α] {j : Nat} (hj : j < l.length) : l.getD j default = l[j] := by rw [List.getD_eq_getElem?_getD, List.getElem?_eq_getElem hj]; rfl
theorem rise_iff [Inhabited α] : Rise ky l ↔ Srt ky l := by
 unfold Rise Srt
 rw [List.pairwise_iff_getElem]
 constructor
 ·intro h i j hi hj hij
  have := h i j hij hj
  rwa [getD_at hi, getD_at hj] at this
 ·intro h i j hij hj
  rw [getD_at (by omega), getD_at hj]
  exact h i j (by omega) hj hij
theorem Srt.tail {x : α} (h : Srt ky (x :: l)) : Srt ky l := (List.pairwise_cons.1 h).2
theorem Srt.head {x : α} (h : Srt ky (x :: l)) : ∀ y ∈ l, ky x < ky y := (List.pairwise_cons.1 h).1
theorem Srt.filter {p : α → Bool} (h : Srt ky l) : Srt ky (l.filter p) := List.Pairwise.filter p h
theorem srt_inj (h : Srt ky l) {x y : α} (hx : x ∈ l) (hy : y ∈ l) (e : ky x = ky y) : x = y := by
 induction l with
 | nil => simp at hx
 | cons z l ih =>
  rcases List.mem_cons.1 hx with e1 | h1
  ·rcases List.mem_cons.1 hy with e2 | h2
   ·rw [e1, e2]
   ·have := h.head y h2; rw [← e1] at this; omega
  ·rcases List.mem_cons.1 hy with e2 | h2
   ·have := h.head x h1; rw [← e2] at this; omega
   ·exact ih h.tail h1 h2
theorem gK_mem {x : α} (h : gK ky l t = some x) : x ∈ l ∧ ky x = t := by
 unfold gK at h
 exact ⟨List.mem_of_find?_eq_some h, by simpa using List.find?_some h⟩
theorem gK_none : gK ky l t = none ↔ ∀ x ∈ l, ky x ≠ t := by
 unfold gK; rw [List.find?_eq_none]; simp
theorem gK_of (h : Srt ky l) {x : α} (hx : x ∈ l) (e : ky x = t) : gK ky l t = some x := by
 cases hg : gK ky l t with
 | none => exact absurd e (gK_none.1 hg x hx)
 | some y =>
  obtain ⟨hy, ey⟩ := gK_mem hg
  rw [srt_inj h hx hy (by omega)]
theorem gK_nil : gK ky ([] : List α) t = none := rfl
theorem gK_cons {x : α} : gK ky (x :: l) t = if ky x = t then some x else gK ky l t := by
 unfold gK; rw [List.find?_cons]
 by_cases h : ky x = t <;> simp [h]
theorem gK_append : gK ky (l ++ m) t = (gK ky l t).or (gK ky m t) := by unfold gK; rw [List.find?_append]
theorem gK_filter {p : α → Bool} : gK ky (l.filter p) t = l.find? fun x => p x && decide (ky x = t) := by
 unfold gK; rw [List.find?_filter]; congr 1; funext x; rw [Bool.decide_and, Bool.decide_eq_true, Bool.decide_eq_true]
theorem srt_ext (h1 : Srt ky l) (h2 : Srt ky m) (h : ∀ t, gK ky l t = gK ky m t) : l = m := by
 have hm : ∀ x, x ∈ l ↔ x ∈ m := fun x => by
  constructor
  ·intro hx
   have := gK_of h1 hx rfl
   rw [h] at this
   exact (gK_mem this).1
  ·intro hx
   have := gK_of h2 hx rfl
   rw [← h] at this
   exact (gK_mem this).1
 clear h
 induction l generalizing m with
 | nil =>
  cases m with
  | nil => rfl
  | cons y m => exact absurd ((hm y).2 (List.mem_cons_self ..)) (by simp)
 | cons x l ih =>
  cases m with
  | nil => exact absurd ((hm x).1 (List.mem_cons_self ..)) (by simp)
  | cons y m =>
   have exy : x = y := by
    rcases List.mem_cons.1 ((hm x).1 (List.mem_cons_self ..)) with e | e
    ·exact e
    ·rcases List.mem_cons.1 ((hm y).2 (List.mem_cons_self ..)) with e2 | e2
     ·exact e2.symm
     ·have a := h2.head x e; have b := h1.head y e2; omega
   subst exy
   rw [ih h1.tail h2.tail fun z => ?_]
   constructor
   ·intro hz
    rcases List.mem_cons.1 ((hm z).1 (List.mem_cons_of_mem _ hz)) with e | e
    ·have := h1.head z hz; rw [e] at this; omega
    ·exact e
   ·intro hz
    rcases List.mem_cons.1 ((hm z).2 (List.mem_cons_of_mem _ hz)) with e | e
    ·have := h2.head z hz; rw [e] at this; omega
    ·exact e
theorem isK_gK : isK ky l t = (gK ky l t).isSome := by
 unfold isK gK
 rw [Bool.eq_iff_iff, List.find?_isSome]; simp
theorem pos_take (h : Srt ky l) : l.take (posK ky l t) = l.filter (fun x => decide (ky x < t)) ∧ l.drop (posK ky l t) = l.filter (fun x => decide (¬ ky x < t)) := by
 induction l with
 | nil => exact ⟨rfl, rfl⟩
 | cons x l ih =>
  obtain ⟨i1, i2⟩ := ih h.tail
  by_cases hx : ky x < t
  ·have e : posK ky (x :: l) t = posK ky l t + 1 := by simp [posK, hx]
   rw [e, List.take_succ_cons, List.drop_succ_cons, i1, i2]
   simp [hx]
  ·have e : posK ky (x :: l) t = 0 := by
    simp only [posK, List.filter_cons, hx, decide_false, Bool.false_eq_true, if_false, List.length_eq_zero_iff, List.filter_eq_nil_iff, decide_eq_true_eq]
    intro y hy; have := h.head y hy; omega
   have e2 : l.filter (fun x => decide (ky x < t)) = [] := by
    rw [List.filter_eq_nil_iff]; intro y hy; have := h.head y hy; simp; omega
   have e3 : l.filter (fun x => decide (¬ ky x < t)) = l := by
    rw [List.filter_eq_self]; intro y hy; have := h.head y hy; simp; omega
   rw [e, List.take_zero, List.drop_zero]
   simp only [List.filter_cons, hx, decide_false, Bool.false_eq_true, if_false, e2, e3, not_false_eq_true, decide_true, if_true, and_self]
def insP (ky : α → Int) (l : List α) (x : α) : List α := l.filter (fun y => decide (ky y < ky x)) ++ [x] ++ l.filter (fun y => decide (ky x < ky y))
theorem insP_srt (h : Srt ky l) (x : α) : Srt ky (insP ky l x) := by
 unfold insP Srt
 rw [List.pairwise_append, List.pairwise_append]
 refine ⟨⟨h.filter, by simp, ?_⟩, h.filter, ?_⟩
 ·intro a ha b hb
  simp only [List.mem_filter, decide_eq_true_eq] at ha
  rw [List.mem_singleton.1 hb]; exact ha.2
 ·intro a ha b hb
  simp only [List.mem_filter, decide_eq_true_eq] at hb
  rcases List.mem_append.1 ha with ha | ha
  ·simp only [List.mem_filter, decide_eq_true_eq] at ha; omega
  ·rw [List.mem_singleton.1 ha]; exact hb.2
theorem find_and {p q : α → Bool} (h : ∀ x ∈ l, q x = true → p x = true) : l.find? (fun x => p x && q x) = l.find? q := by
 induction l with
 | nil => rfl
 | cons x l ih =>
  rw [List.find?_cons, List.find?_cons, ih fun y hy => h y (List.mem_cons_of_mem _ hy)]
  cases hq : q x with
  | false => simp
  | true => simp [h x (List.mem_cons_self ..) hq]
theorem find_no {p q : α → Bool} (h : ∀ x ∈ l, q x = true → p x = false) : l.find? (fun x => p x && q x) = none := by
 rw [List.find?_eq_none]
 intro x hx hpq
 simp only [Bool.and_eq_true] at hpq
 rw [h x hx hpq.2] at hpq
 cases hpq.1
theorem insP_gK (x : α) : gK ky (insP ky l x) t = if t = ky x then some x else gK ky l t := by
 unfold insP
 rw [gK_append, gK_append, gK_filter, gK_filter, gK_cons, gK_nil]
 by_cases e : t = ky x
 ·subst e
  rw [find_no (fun y _ hq => by simp only [decide_eq_true_eq] at hq ⊢; simp; omega)]
  simp
 ·rw [if_neg e, if_neg (fun h => e h.symm)]
  rcases Int.lt_or_gt_of_ne e with h | h
  ·rw [find_and (fun y _ hq => by simp only [decide_eq_true_eq] at hq ⊢; omega), find_no (p := fun y => decide (ky x < ky y)) (fun y _ hq => by simp only [decide_eq_true_eq] at hq ⊢; simp; omega)]
   simp [gK]
  ·rw [find_no (p := fun y => decide (ky y < ky x)) (fun y _ hq => by simp only [decide_eq_true_eq] at hq ⊢; simp; omega), find_and (fun y _ hq => by simp only [decide_eq_true_eq] at hq ⊢; omega)]
   simp [gK]
theorem ins_new (h : Srt ky l) {x : α} (hn : isK ky l (ky x) = false) : l.take (posK ky l (ky x)) ++ [x] ++ l.drop (posK ky l (ky x)) = insP ky l x := by
 obtain ⟨h1, h2⟩ := pos_take (t := ky x) h
 rw [h1, h2, insP]
 congr 1
 apply List.filter_congr
 intro y hy
 have : ky y ≠ ky x := by
  rw [isK_gK, Option.isSome_eq_false_iff, Option.isNone_iff_eq_none, gK_none] at hn
  exact hn y hy
 rw [decide_eq_decide]; omega
theorem pos_lt (h : Srt ky l) (hn : isK ky l t = true) : posK ky l t < l.length := by
 have h1 := (pos_take (t := t) h).2
 rw [isK_gK, Option.isSome_iff_exists] at hn
 obtain ⟨y, hy⟩ := hn
 obtain ⟨hy, e⟩ := gK_mem hy
 rcases Nat.lt_or_ge (posK ky l t) l.length with g | g
 ·exact g
 ·rw [List.drop_of_length_le g] at h1
  have : y ∈ l.filter (fun x => decide (¬ ky x < t)) := by rw [List.mem_filter]; exact ⟨hy, by simp; omega⟩
  rw [← h1] at this; simp at this
theorem pos_at (h : Srt ky l) (hn : isK ky l t = true) : ky (l[posK ky l t]'(pos_lt h hn)) = t ∧ gK ky l t = some (l[posK ky l t]'(pos_lt h hn)) := by
 have hp := pos_lt h hn
 have h1 := (pos_take (t := t) h).2
 rw [isK_gK, Option.isSome_iff_exists] at hn
 obtain ⟨y, hy⟩ := hn
 obtain ⟨hy1, e⟩ := gK_mem hy
 have hmem : y ∈ l.drop (posK ky l t) := by rw [h1, List.mem_filter]; exact ⟨hy1, by simp; omega⟩
 have hsd : Srt ky (l.drop (posK ky l t)) := List.Pairwise.drop h
 rw [List.drop_eq_getElem_cons hp] at hmem hsd
 have hge : ¬ ky (l[posK ky l t]) < t := by
  have : l[posK ky l t] ∈ l.drop (posK ky l t) := by rw [List.drop_eq_getElem_cons hp]; exact List.mem_cons_self ..
  rw [h1, List.mem_filter] at this
  simpa using this.2
 rcases List.mem_cons.1 hmem with e1 | e1
 ·rw [← e1]; exact ⟨e, hy⟩
 ·have := hsd.head y e1; omega
theorem ins_old (h : Srt ky l) {x : α} (hn : isK ky l (ky x) = true) : l.set (posK ky l (ky x)) x = insP ky l x := by
 have hp := pos_lt h hn
 obtain ⟨h1, h2⟩ := pos_take (t := ky x) h
 rw [List.set_eq_take_append_cons_drop, if_pos hp, insP, h1, List.append_assoc]
 congr 1
 rw [List.singleton_append]
 congr 1
 have h3 : l.drop (posK ky l (ky x)) = l[posK ky l (ky x)] :: l.drop (posK ky l (ky x) + 1) := List.drop_eq_getElem_cons hp
 have h4 := (pos_at h hn).1
 rw [h2] at h3
 have h5 : (l.filter (fun y => decide (¬ ky y < ky x))).filter (fun y => decide (ky x < ky y)) = l.filter (fun y => decide (ky x < ky y)) := by
  rw [List.filter_filter]
  apply List.filter_congr
  intro y _
  rw [← Bool.decide_and, decide_eq_decide]; omega
 rw [← h5, h3, List.filter_cons, if_neg (by simp; omega)]
 have hsd : Srt ky (l.drop (posK ky l (ky x))) := List.Pairwise.drop h
 rw [h2, h3] at hsd
 symm
 rw [List.filter_eq_self]
 intro y hy
 have := hsd.head y hy
 simp; omega
def rstep (ky : α → Int) (x : α) (s : List α × Bool) (y : α) : List α × Bool :=
 let s1 := if (!s.2 && decide (ky y ≥ ky x)) = true then (s.1 ++ [x], true) else s
 if ky y ≠ ky x then (s1.1 ++ [y], s1.2) else s1
def rS (ky : α → Int) (l : List α) (x : α) (k : Nat) : List α × Bool := (l.take k).foldl (rstep ky x) ([], false)
def refPut (ky : α → Int) (l : List α) (x : α) : List α := if (!(rS ky l x l.length).2) = true then (rS ky l x l.length).1 ++ [x] else (rS ky l x l.length).1
def chn (ok : α → Bool) (ky : α → Int) : Int → List α → Bool
 | _, [] => true
 | last, x :: r => (ok x && decide (last < ky x)) && chn ok ky (ky x) r
variable {ok : α → Bool} {last : Int}
theorem chn_drop {k : Nat} (h : k < l.length) : chn ok ky last (l.drop k) = ((ok l[k] && decide (last < ky l[k])) && chn ok ky (ky l[k]) (l.drop (k + 1))) := by
 rw [List.drop_eq_getElem_cons h]; rfl
theorem chn_end : chn ok ky last (l.drop l.length) = true := by simp [chn]
theorem chn_go {k : Nat} (h : chn ok ky t l = chn ok ky last (l.drop k)) (hk : k < l.length) (h1 : ok l[k] = true) (h2 : last < ky l[k]) : chn ok ky t l = chn ok ky (ky l[k]) (l.drop (k + 1)) := by
 rw [h, chn_drop hk, h1, decide_eq_true h2]; rfl
theorem chn_no {k : Nat} (h : chn ok ky t l = chn ok ky last (l.drop k)) (hk : k < l.length) (h1 : ok l[k] = false ∨ ky l[k] ≤ last) : chn ok ky t l = false := by
 rw [h, chn_drop hk]
 rcases h1 with h1 | h1
 ·rw [h1]; rfl
 ·rw [decide_eq_false (by omega)]; simp
theorem chn_ok : ∀ {l : List α} {t : Int}, chn ok ky t l = true → ∀ x ∈ l, ok x = true ∧ t < ky x
 | [], _, _, _, h => by simp at h
 | y :: l, t, h, x, hx => by
  simp only [chn, Bool.and_eq_true, decide_eq_true_eq] at h
  rcases List.mem_cons.1 hx with rfl | hx
  ·exact h.1
  ·have := chn_ok h.2 x hx; exact ⟨this.1, by omega⟩
theorem chn_srt : ∀ {l : List α} {t : Int}, chn ok ky t l = true → Srt ky l
 | [], _, _ => List.Pairwise.nil
 | y :: l, t, h => by
  simp only [chn, Bool.and_eq_true, decide_eq_true_eq] at h
  exact List.pairwise_cons.2 ⟨fun x hx => (chn_ok h.2 x hx).2, chn_srt h.2⟩
theorem chn_of : ∀ {l : List α} {t : Int}, Srt ky l → (∀ x ∈ l, ok x = true ∧ t < ky x) → chn ok ky t l = true
 | [], _, _, _ => rfl
 | y :: l, t, h, h2 => by
  simp only [chn, Bool.and_eq_true, decide_eq_true_eq]
  exact ⟨h2 y (List.mem_cons_self ..), chn_of h.tail fun x hx => ⟨(h2 x (List.mem_cons_of_mem _ hx)).1, h.head x hx⟩⟩
theorem chn_iff : chn ok ky t l = true ↔ Srt ky l ∧ ∀ x ∈ l, ok x = true ∧ t < ky x := ⟨fun h => ⟨chn_srt h, chn_ok h⟩, fun ⟨a, b⟩ => chn_of a b⟩
theorem insP_mem {x y : α} (h : y ∈ insP ky l x) : y = x ∨ y ∈ l := by
 unfold insP at h
 rcases List.mem_append.1 h with h | h
 ·rcases List.mem_append.1 h with h | h
  ·exact .inr (List.mem_filter.1 h).1
  ·exact .inl (List.mem_singleton.1 h)
 ·exact .inr (List.mem_filter.1 h).1
theorem insP_chn {x : α} (h : chn ok ky t l = true) (h1 : ok x = true) (h2 : t < ky x) : chn ok ky t (insP ky l x) = true := by
 rw [chn_iff] at h ⊢
 refine ⟨insP_srt h.1 x, fun y hy => ?_⟩
 rcases insP_mem hy with rfl | hy
 ·exact ⟨h1, h2⟩
 ·exact h.2 y hy
end
section
variable {α : Type} {ky : α → Int} {l : List α} {x : α} {k : Nat} {t : Int}
theorem take_eq {a b : List α} (hk : k < a.length) (h : a.length = b.length) (h1 : a.take k = b.take k) (h2 : a[k] = b[k]'(by omega)) : a.take (k + 1) = b.take (k + 1) := by
 rw [List.take_succ_eq_append_getElem hk, List.take_succ_eq_append_getElem (by omega), h1, h2]
end
end Go.Vai
set_option linter.unusedSimpArgs false
set_option linter.unusedVariables false
namespace Go.Vai.I
structure It where
 o : Int
 s : Int
 deriving DecidableEq
instance : Inhabited It := ⟨⟨0, 0⟩⟩
def itok (x : It) : Bool := (decide (x.o ≤ 64) && decide (1 ≤ x.s)) && decide (x.s ≤ 4611686018427387904)
def itOK (l : List It) : Bool := chn itok It.o 0 l
def itE (l : List It) : Int := if itOK l then 0 else 1
def it1 (x : It) : Bool := itok x && decide (0 < x.o)
def lastI (ls : List It) (k : Nat) : Int := if k = 0 then 0 else (ls.getD ((k : Int) - 1).toNat default).o
def qK (l : List It) (t : Int) : Int := ((gK It.o l t).map It.s).getD 0
theorem qK_none {l : List It} {t : Int} (h : gK It.o l t = none) : qK l t = 0 := by rw [qK, h]; rfl
def oweF (r : List It) (y : It) : List It := insP It.o r ⟨y.o, max (qK r y.o) y.s⟩
def payF (r : List It) (y : It) : List It := r.filter fun z => !(decide (z.o = y.o) && decide (z.s ≤ y.s))
def oweS (l x : List It) (k : Nat) : List It := (x.take k).foldl oweF l
def payS (l x : List It) (k : Nat) : List It := (x.take k).foldl payF l
def wI (l : List It) (t q : Int) (i : Nat) : Option It := if (if (i : Int) + 1 = t then q else qK l ((i : Int) + 1)) > 0 then some ⟨(i : Int) + 1, if (i : Int) + 1 = t then q else qK l ((i : Int) + 1)⟩ else none
def wS (l : List It) (t q : Int) (k : Nat) : List It := (List.range k).filterMap (wI l t q)
def rOweF (s : Bool × List It) (y : It) : Bool × List It := if qK s.2 y.o < y.s then (false, wS s.2 y.o y.s 64) else s
def rPayF (s : Bool × List It) (y : It) : Bool × List It := if qK s.2 y.o ≤ y.s then (false, wS s.2 y.o 0 64) else s
def rOweS (nil : Bool) (l x : List It) (k : Nat) : Bool × List It := (x.take k).foldl rOweF (nil, l)
def rPayS (nil : Bool) (l x : List It) (k : Nat) : Bool × List It := (x.take k).foldl rPayF (nil, l)
def oweR (nil : Bool) (l x : List It) : Bool × List It × Int := if itOK l && x.all it1 then (nil && decide (x.length = 0), oweS l x x.length, 0) else (true, [], 1)
def payR (nil : Bool) (l x : List It) : Bool × List It × Int := if itOK l && x.all it1 then (nil, payS l x x.length, 0) else (true, [], 1)
def nextR (nil : Bool) (l : List It) (most : Int) : Bool × List It := if itOK l && decide (1 ≤ most) then (nil, l.take (min most l.length).toNat) else (true, [])
end Go.Vai.I
set_option linter.unusedSimpArgs false
set_option linter.unusedVariables false
namespace Go.Vai.I
def mxF (t : Int) (m : Int) (y : It) : Int := if t = y.o then max m y.s else m
def idxI (x : List It) (ts : List (BitVec 8)) (i : Nat) : Int := if i < ts.length then ((ts.getD i 0).toNat : Int) % (x.length : Int) else (x.length : Int) - 1 - ((i : Int) - (ts.length : Int))
def zs (x : List It) (ts : List (BitVec 8)) : List It := if 0 < x.length then (List.range (ts.length + x.length)).map fun i => x.getD (idxI x ts i).toNat default else []
end Go.Vai.I
set_option linter.unusedSimpArgs false
set_option linter.unusedVariables false
namespace Go.Vai.D
open Go.Vai.I Go.Vai.L
instance : Inhabited Lsa := ⟨⟨0, 0, true, []⟩⟩
def dbOK (l : List Lsa) : Bool := chn lsaOK Lsa.o 0 l
def dbE (l : List Lsa) : Int := if dbOK l then 0 else 1
theorem dbE_0 {l : List Lsa} (h : ¬ dbE l ≠ 0) : dbOK l = true := by
 cases e : dbOK l with
 | true => rfl
 | false => rw [dbE, e] at h; simp at h
theorem dbE_1 {l : List Lsa} (h : dbE l ≠ 0) : dbOK l = false := by
 cases e : dbOK l with
 | false => rfl
 | true => rw [dbE, e] at h; simp at h
theorem lsaE_0 {x : Lsa} (h : ¬ lsaE x ≠ 0) : lsaOK x = true := lsaE_eq (Decidable.not_not.1 h)
theorem db_no {l : List Lsa} {last : Int} {k : Nat} (h : chn lsaOK Lsa.o 0 l = chn lsaOK Lsa.o last (l.drop k)) (hk : k < l.length) (h2 : lsaE l[k] ≠ 0 ∨ l[k].o ≤ last) : dbE l = 1 := by
 have : dbOK l = false := by
  refine chn_no h hk ?_
  rcases h2 with h2 | h2
  ·exact .inl (lsaE_ne h2)
  ·exact .inr h2
 rw [dbE, this]; rfl
theorem db_go {l : List Lsa} {last : Int} {k : Nat} (h : chn lsaOK Lsa.o 0 l = chn lsaOK Lsa.o last (l.drop k)) (hk : k < l.length) (h2 : ¬ lsaE l[k] ≠ 0 ∧ ¬ l[k].o ≤ last) : chn lsaOK Lsa.o 0 l = chn lsaOK Lsa.o l[k].o (l.drop (k + 1)) :=
 chn_go h hk (lsaE_0 h2.1) (by omega)
theorem db_end {l : List Lsa} {last : Int} (h : chn lsaOK Lsa.o 0 l = chn lsaOK Lsa.o last (l.drop l.length)) : dbE l = 0 := by
 rw [dbE, dbOK, h, chn_end]; rfl
def lastD (ls : List Lsa) (k : Nat) : Int := if k = 0 then 0 else (ls.getD ((k : Int) - 1).toNat default).o
theorem lastD_succ {ls : List Lsa} {k : Nat} (h : k < ls.length) : lastD ls (k + 1) = ls[k].o := by
 rw [lastD, if_neg (by omega), show (((k + 1 : Nat) : Int) - 1).toNat = k by omega, List.getD_eq_getElem?_getD, List.getElem?_eq_getElem h]; rfl
theorem rd_no {l : List Lsa} {k : Nat} (h : chn lsaOK Lsa.o 0 l = chn lsaOK Lsa.o (lastD l k) (l.drop k)) (hk : k < l.length) (h2 : (!lsaOK l[k]) = true ∨ ((k : Int) > 0 ∧ (l.getD ((k : Int) - 1).toNat default).o ≥ l[k].o)) : dbOK l = false := by
 refine chn_no h hk ?_
 rcases h2 with h2 | ⟨h2, h3⟩
 ·exact .inl (by simpa using h2)
 ·right; unfold lastD; rw [if_neg (by omega)]; omega
theorem rd_go {l : List Lsa} {k : Nat} (h : chn lsaOK Lsa.o 0 l = chn lsaOK Lsa.o (lastD l k) (l.drop k)) (hk : k < l.length) (h2 : (!lsaOK l[k]) = false ∧ (¬ (k : Int) > 0 ∨ ¬ (l.getD ((k : Int) - 1).toNat default).o ≥ l[k].o)) : chn lsaOK Lsa.o 0 l = chn lsaOK Lsa.o (lastD l (k + 1)) (l.drop (k + 1)) := by
 have h3 : lsaOK l[k] = true := by simpa using h2.1
 rw [lastD_succ hk]
 refine chn_go h hk h3 ?_
 have := (lsa_bd h3).1
 unfold lastD
 split <;> omega
theorem rd_end {l : List Lsa} (h : chn lsaOK Lsa.o 0 l = chn lsaOK Lsa.o (lastD l l.length) (l.drop l.length)) : dbOK l = true := by
 rw [dbOK, h, chn_end]
theorem db_srt {l : List Lsa} (h : dbOK l = true) : Srt Lsa.o l := chn_srt h
theorem db_mem {l : List Lsa} (h : dbOK l = true) : ∀ x ∈ l, lsaOK x = true := fun x hx => (chn_ok h x hx).1
theorem db_len {l : List Lsa} (h : dbOK l = true) : l.length ≤ 64 := by
 have h1 := chn_iff.1 h
 have : ∀ (l : List Lsa) (t : Int), 0 ≤ t → t ≤ 64 → Srt Lsa.o l → (∀ x ∈ l, x.o ≤ 64 ∧ t < x.o) → (l.length : Int) ≤ 64 - t := by
  intro l
  induction l with
  | nil => intro t h0 h1 _ _; simp; omega
  | cons x l ih =>
   intro t h0 _ hs hx
   have hx0 := hx x (List.mem_cons_self ..)
   have := ih x.o (by omega) hx0.1 hs.tail fun y hy => ⟨(hx y (List.mem_cons_of_mem _ hy)).1, hs.head y hy⟩
   simp only [List.length_cons]; omega
 have := this l 0 (by omega) (by omega) h1.1 fun x hx => ⟨(lsa_bd (h1.2 x hx).1).1.2, (h1.2 x hx).2⟩
 omega
def sqL (l : List Lsa) (t : Int) : Int := ((gK Lsa.o l t).map Lsa.s).getD 0
theorem sqL_none {l : List Lsa} {t : Int} (h : gK Lsa.o l t = none) : sqL l t = 0 := by rw [sqL, h]; rfl
theorem sqL_some {l : List Lsa} {t : Int} {x : Lsa} (h : gK Lsa.o l t = some x) : sqL l t = x.s := by rw [sqL, h]; rfl
def getR (l : List Lsa) (t : Int) : Lsa × Bool := if dbOK l then ((gK Lsa.o l t).getD default, isK Lsa.o l t) else (default, false)
def putR (l : List Lsa) (x : Lsa) : Bool × List Lsa × Int :=
 if dbOK l && lsaOK x then (if sqL l x.o < x.s then (false, insP Lsa.o l x, 0) else (true, [], 10)) else (true, [], 1)
def itm (x : Lsa) : It := ⟨x.o, x.s⟩
def itemsR (l : List Lsa) : List It := if dbOK l then l.map itm else []
def hasI (items : List It) (x : It) : Bool := items.any fun y => decide (y.o = x.o) && decide (y.s ≥ x.s)
def lacksR (l : List Lsa) (items : List It) : List It := (itemsR l).filter fun x => !hasI items x
def moreP (l : List Lsa) (x : It) : Bool := !(isK Lsa.o l x.o) || decide (x.s > ((gK Lsa.o l x.o).getD default).s)
def moreR (l : List Lsa) (items : List It) : List It := if dbOK l then items.filter (moreP l) else []
theorem ins_db {l : List Lsa} {x : Lsa} (h : dbOK l = true) (h1 : lsaOK x = true) : dbOK (insP Lsa.o l x) = true := insP_chn h h1 (by have := (lsa_bd h1).1; omega)
end Go.Vai.D
namespace Go.Vai.DB
open Go.Proofs Go.Vai Go.Vai.D Go.Vai.I Go.Vai.L Go.Vai.N Go.Vai.O
set_option linter.unusedSimpArgs false
set_option linter.unusedVariables false
set_option maxHeartbeats 4000000
set_option maxRecDepth 100000
open Go.Vai.L Go.Vai.D Go.Vai.I
def itA (x : It) : AV := .agg [i64 x.o, i64 x.s]
theorem itA_eq (x : It) : itA x = .agg [i64 x.o, i64 x.s] := rfl
theorem cellsOf_it (x : It) : cellsOf (itA x) = [i64 x.o, i64 x.s] := rfl
@[simp] theorem noPtr_it (x : It) : noPtr (itA x) = true := by simp [itA, noPtr, noPtrL]
@[simp] theorem noPtrL_its (l : List It) : noPtrL (l.map itA) = true := noPtrL_map noPtr_it _
attribute [go_sem] cellsOf_it
theorem lsaA_eq (x : Lsa) : lsaA x = .agg [i64 x.o, i64 x.s, .sl 2 x.nil (x.ls.map linkA)] := rfl
abbrev fit (x : Lsa) : Prop := x.ls.length ≤ 1000000 ∧ (x.nil = true → x.ls = [])
theorem good_CheckX (x : Lsa) (hx : x.ls.length ≤ 9223372036854775807) : Good Try.prog 30 [(lsaA x, false)] [] [(i64 (lsaE x), false)] [] := L.good_Check x.o x.s x.nil x.ls hx
theorem good_refMayX (x : Lsa) (hx : x.ls.length ≤ 9223372036854775807) : Good Try.prog 31 [(lsaA x, false)] [] [(.b (lsaOK x), false)] [] := L.good_refMay x.o x.s x.nil x.ls hx
def lightD (l : List Lsa) : Bool := (l.all fun x => decide ((x.ls.length : Int) ≤ 40)) && decide ((l.length : Int) ≤ 70)
theorem light_no {l : List Lsa} {k : Nat} (hk : k < l.length) (h : ¬ (l[k].ls.length : Int) ≤ 40) : lightD l = false := by
  have : (l.all fun x => decide ((x.ls.length : Int) ≤ 40)) = false := by
    rw [List.all_eq_false]
    exact ⟨l[k], List.getElem_mem hk, by simpa using h⟩
  rw [lightD, this]; rfl
theorem light_go {l : List Lsa} {k : Nat} (hk : k < l.length) (h0 : ((l.take k).all fun x => decide ((x.ls.length : Int) ≤ 40)) = true) (h : (l[k].ls.length : Int) ≤ 40) : ((l.take (k + 1)).all fun x => decide ((x.ls.length : Int) ≤ 40)) = true := by
  rw [List.take_succ_eq_append_getElem hk, List.all_append, h0]; simpa using h
theorem light_end {l : List Lsa} (h0 : ((l.take (if l.length < 71 then l.length else 71)).all fun x => decide ((x.ls.length : Int) ≤ 40)) = true) : lightD l = decide ((l.length : Int) ≤ 70) := by
  rw [lightD]
  by_cases h : (l.length : Int) ≤ 70
  · rw [if_pos (by omega), List.take_length] at h0
    rw [h0]; rfl
  · rw [decide_eq_false h, Bool.and_false]
theorem light_of {l : List Lsa} (h : lightD l = true) (hz : ∀ x ∈ l, x.nil = true → x.ls = []) : l.length ≤ 70 ∧ ∀ x ∈ l, fit x := by
  simp only [lightD, Bool.and_eq_true, List.all_eq_true, decide_eq_true_eq] at h
  exact ⟨by omega, fun x hx => ⟨by have := h.1 x hx; omega, hz x hx⟩⟩
end Go.Vai.DB
namespace Go.Vai.DB
open Go.Proofs Go.Vai Go.Vai.D Go.Vai.I Go.Vai.L Go.Vai.N Go.Vai.O
set_option linter.unusedSimpArgs false
set_option linter.unusedVariables false
set_option maxHeartbeats 4000000
set_option maxRecDepth 100000
theorem good_BSearchLsa (nil : Bool) (l : List Lsa) (t : Int) (f : FuncId) (hl : l.length ≤ 1000000) (hs : Rise Lsa.o l) (hpu : cfg.pure f = true) (hsc : cfg.scalar f = true) (hxf : cfg.xfer f = false) (hp : ∀ x, Good Try.prog f [(lsaA x, false), (i64 t, false)] [] [(i64 (cmpI (Lsa.o x) t), false)] []) : Good Try.prog 68 [(.sl 3 nil (l.map lsaA), false), (i64 t, false), (.clo f [], false)] [] [(i64 (posK Lsa.o l t : Nat), false), (.b (isK Lsa.o l t), false)] [] := by
  refine good_of_body2 49 Try.func68 rfl rfl rfl (by simp) ?_
  intro s m ha hr hv hG
  have f0 : s 0 = .v (.sl 3 nil (l.map lsaA)) := ha 0 _ rfl
  have f1 : s 1 = .v (i64 t) := ha 1 _ rfl
  have f2 : s 2 = .v (.clo f []) := ha 2 _ rfl
  clear ha
  have hc : True := trivial
  have F := (And.intro f0 (And.intro f1 (And.intro f2 hG)))
  obtain ⟨N, hlt, hge⟩ := bs_end Lsa.o l t
  refine AW.seq ?_
  refine AW.region (cfg := cfg) ?_
  iterate 2 refine stp (fun _ h => s0 h) ?_
  refine aops_nil ?_
  refine AW.seq ?_
  refine AW.region (cfg := cfg) ?_
  refine stp (fun _ h => s0 h) ?_
  refine stp (fun _ h => sd h) ?_
  refine stp (fun _ h => s0 h) ?_
  refine aops_nil ?_
  refine AW.seq ?_
  refine AW.region (cfg := cfg) ?_
  iterate 3 refine stp (fun _ h => s0 h) ?_
  refine aops_nil ?_
  refine AW.seq ?_
  refine AW.block ?_
  refine AW.forN (fun k σ => ∃ s m, σ = ⟨49, s, m⟩ ∧ s 0 = .v (.sl 3 nil (l.map lsaA)) ∧ s 1 = .v (i64 t) ∧ s 2 = .v (.clo f []) ∧ s 8 = .v (i64 (l.length : Int)) ∧ s 9 = .v (i64 ((bsS Lsa.o l t k).1 : Int)) ∧ s 10 = .v (i64 ((bsS Lsa.o l t k).2 : Int)) ∧ (∀ i, (m.objs (.res i)).2 = .dead) ∧ m.G = []) (N) ?_ ?_ ?_
  · refine ⟨_, _, rfl, ?_, ?_, ?_, ?_, ?_, ?_, (by intro i; simp [Mem.set, hr]), (by exact hG)⟩ <;> try simp (disch := first | omega | decide) only [go_sem, F, aIndex_map]
    all_goals rfl
  · clear F f0 f1 f2 hr hG
    rintro k σ hk ⟨s, m, rfl, f0, f1, f2, f8, f9, f10, hr, hG⟩
    have F := (And.intro f0 (And.intro f1 (And.intro f2 (And.intro f8 (And.intro f9 (And.intro f10 hG))))))
    refine AW.seq ?_
    refine AW.seq ?_
    refine AW.region (cfg := cfg) ?_
    iterate 3 refine stp (fun _ h => s0 h) ?_
    refine aops_nil ?_
    refine cnd (fun hb => ?ht1) (fun hb => ?hf1)
    case hf1 => (have hb1 := of_decide_eq_false hb; have hlt2 := hlt _ hk; omega)
    case ht1 =>
    have hbt17 := hb
    refine AW.skip ?_
    refine AW.block ?_
    refine AW.seq ?_
    have hbl := bs_le Lsa.o l t k
    have hlt2 := hlt k hk
    have hmid : IntKind.i64.wrap ((((bsS Lsa.o l t k).1 : Int) + ((bsS Lsa.o l t k).2 : Int)) / 2 ^ Int.toNat 1) = ((bsM (bsS Lsa.o l t k) : Nat) : Int) := bs_mid (by omega)
    have F := And.intro hmid F
    refine AW.region (cfg := cfg) ?_
    iterate 2 refine stp (fun _ h => s0 h) ?_
    iterate 4 refine stp (fun _ h => sd h) ?_
    refine stp (fun _ h => s0 h) ?_
    refine aops_nil ?_
    refine AW.seq ?_
    have hbl := bs_le Lsa.o l t k
    have hlt2 := hlt k hk
    have hmd : bsM (bsS Lsa.o l t k) < l.length := by simp only [bsM]; omega
    refine AW.region (cfg := cfg) ?_
    iterate 3 refine stp (fun _ h => s0 h) ?_
    refine stp (fun _ h => si h) ?_
    refine stp (fun _ h => sl h) ?_
    refine stp (fun _ h => s0 h) ?_
    apply aops_step (by decide) rfl
    · intro K hK
      simp (disch := first | omega | decide) only [go_sem, F, aIndex_map, act_callv, List.map]
      apply mwp_call_sc hpu hxf hsc
      · intro Q hQ
        simp (disch := first | omega | decide) only [go_sem, F, aIndex_map, peekL, reifyL_nil, reifyL_cons, reify_v]
        exact hQ
      · exact hp _
      · simp [noPtrL, noPtr, lsaA]
      · rfl
      · exact hK _
    refine stp (fun _ h => s0 h) ?_
    refine aops_nil ?_
    refine cnd (fun hb => ?ht2) (fun hb => ?hf2)
    case ht2 =>
      have hw31 := hb
      try simp only [bo1, bo2, bo3, bo4, bo5, bo6] at hb
      have hbt31 := hb
      refine AW.region (cfg := cfg) ?_
      refine stp (fun _ h => s0 h) ?_
      refine stp (fun _ h => sd h) ?_
      refine stp (fun _ h => s0 h) ?_
      refine aops_nil ?_
      refine ⟨_, _, rfl, ?_, ?_, ?_, ?_, ?_, ?_, (by intro i; simp [Mem.set, hr]), (by exact hG)⟩ <;> try simp (disch := first | omega | decide) only [go_sem, F, aIndex_map]
      all_goals first | (rw [bs_yes hlt2 (bs_at1 hmd hb)]; done) | (rw [bs_yes hlt2 (bs_at1 hmd hb)]; rfl)
    case hf2 =>
      have hw31 := hb
      try simp only [bo1, bo2, bo3, bo4, bo5, bo6] at hb
      have hbt31 := hb
      refine AW.region (cfg := cfg) ?_
      iterate 2 refine stp (fun _ h => s0 h) ?_
      refine aops_nil ?_
      refine ⟨_, _, rfl, ?_, ?_, ?_, ?_, ?_, ?_, (by intro i; simp [Mem.set, hr]), (by exact hG)⟩ <;> try simp (disch := first | omega | decide) only [go_sem, F, aIndex_map]
      all_goals (rw [bs_no hlt2 (bs_at2 hmd hb)]; done)
  · clear F f0 f1 f2 hr hG
    rintro σ ⟨s, m, rfl, f0, f1, f2, f8, f9, f10, hr, hG⟩
    have F := (And.intro f0 (And.intro f1 (And.intro f2 (And.intro f8 (And.intro f9 (And.intro f10 hG))))))
    refine AW.seq ?_
    refine AW.seq ?_
    refine AW.region (cfg := cfg) ?_
    iterate 3 refine stp (fun _ h => s0 h) ?_
    refine aops_nil ?_
    refine cnd (fun hb => ?ht3) (fun hb => ?hf3)
    case ht3 => (simp at hb; omega)
    case hf3 =>
    have hbt17 := hb
    refine AW.exit ?_
    refine AW.seq ?_
    rw [bs_pos hs hge] at f9
    have F := (And.intro f0 (And.intro f1 (And.intro f2 (And.intro f8 (And.intro f9 (And.intro f10 hG))))))
    by_cases hsp : ((posK Lsa.o l t : Nat) : Int) < (l.length : Int)
    · have hd := decide_eq_true hsp
      have hpl : posK Lsa.o l t < l.length := by omega
      have F := And.intro hd F
      refine AW.region (cfg := cfg) ?_
      iterate 8 refine stp (fun _ h => s0 h) ?_
      refine stp (fun _ h => si h) ?_
      refine stp (fun _ h => sl h) ?_
      refine stp (fun _ h => s0 h) ?_
      apply aops_step (by decide) rfl
      · intro K hK
        simp (disch := first | omega | decide) only [go_sem, F, aIndex_map, act_callv, List.map]
        apply mwp_call_sc hpu hxf hsc
        · intro Q hQ
          simp (disch := first | omega | decide) only [go_sem, F, aIndex_map, peekL, reifyL_nil, reifyL_cons, reify_v]
          exact hQ
        · exact hp _
        · simp [noPtrL, noPtr, lsaA]
        · rfl
        · exact hK _
      iterate 4 refine stp (fun _ h => s0 h) ?_
      refine aops_nil ?_
      refine AW.ret ?_
      refine ⟨.inr rfl, ?_⟩
      refine leaves_mwp2 (rs := [.tmp 6, .tmp 7]) rfl ?_
      simp (config := {failIfUnchanged := false}) [giveL, srcOne, rehome, freezeN, sub, upd, opn, aLoad, loadL, giveOne, reify, reifyL, readL, readOne, Mwp, M.bind, Mem.set, setAt, cellsL, hG, f0, f1, f2, f8, f9, f10, hd]
      all_goals (rw [isK_in2 hs hpl]; done)
    · have hd := decide_eq_false hsp
      have hpl : ¬ posK Lsa.o l t < l.length := by omega
      have F := And.intro hd F
      refine AW.region (cfg := cfg) ?_
      iterate 5 refine stp (fun _ h => s0 h) ?_
      iterate 8 refine skp ?_
      iterate 3 refine stp (fun _ h => s0 h) ?_
      refine aops_nil ?_
      refine AW.ret ?_
      refine ⟨.inr rfl, ?_⟩
      refine leaves_mwp2 (rs := [.tmp 6, .tmp 7]) rfl ?_
      simp (config := {failIfUnchanged := false}) [giveL, srcOne, rehome, freezeN, sub, upd, opn, aLoad, loadL, giveOne, reify, reifyL, readL, readOne, Mwp, M.bind, Mem.set, setAt, cellsL, hG, f0, f1, f2, f8, f9, f10, hd]
      all_goals (rw [isK_out hs hpl]; done)
theorem good_CloneLsa (nil : Bool) (l : List Lsa) (hl : l.length ≤ 1000000000000) (hz : nil = true → l = []) : Good Try.prog 47 [(.sl 3 nil (l.map lsaA), false)] [] [(.sl 3 nil (l.map lsaA), true)] [] := by
  refine good_of_body3 8 Try.func47 rfl rfl rfl (by simp) ?_
  intro s m ha hr hv hG
  have f0 : s 0 = .v (.sl 3 nil (l.map lsaA)) := ha 0 _ rfl
  clear ha
  have hc : True := trivial
  have F := (And.intro f0 hG)
  refine AW.seq ?_
  refine AW.region (cfg := cfg) ?_
  refine stp (fun _ h => s0 h) ?_
  refine aops_nil ?_
  refine AW.seq ?_
  refine AW.seq ?_
  refine AW.region (cfg := cfg) ?_
  iterate 2 refine stp (fun _ h => s0 h) ?_
  refine aops_nil ?_
  refine cnd (fun hb => ?ht1) (fun hb => ?hf1)
  case ht1 =>
    have hw4 := hb
    try simp only [bo1, bo2, bo3, bo4, bo5, bo6] at hb
    have hbt4 := hb
    refine AW.seq ?_
    refine AW.region (cfg := cfg) ?_
    refine stp (fun _ h => s0 h) ?_
    refine aops_nil ?_
    refine AW.ret ?_
    refine ⟨.inr rfl, ?_⟩
    (obtain rfl : nil = true := (by simpa using hb); obtain rfl := hz rfl; refine ⟨_, nilEq_nil (nilEq_refl _), leaves_own1 2 rfl (by simp (disch := first | omega | decide) only [go_sem, F, aIndex_map] <;> rfl) (by simp (disch := first | omega | decide) only [go_sem, F, aIndex_map] <;> rfl) (by decide) (by simp [sub, List.take_of_length_le]) (by exact hG)⟩)
  case hf1 =>
    have hw4 := hb
    try simp only [bo1, bo2, bo3, bo4, bo5, bo6] at hb
    have hbt4 := hb
    refine AW.skip ?_
    refine AW.seq ?_
    refine AW.region (cfg := cfg) ?_
    refine stp (fun _ h => sq h) ?_
    refine stp (fun _ h => s0 h) ?_
    refine stp (fun _ h => sp h) ?_
    refine stp (fun _ h => st h) ?_
    refine aops_nil ?_
    refine AW.ret ?_
    refine ⟨.inr rfl, ?_⟩
    (obtain rfl : nil = false := (by simpa using hb); refine leavesN (leaves_own1 2 rfl (by simp (disch := first | omega | decide) only [go_sem, F, aIndex_map] <;> rfl) (by simp (disch := first | omega | decide) only [go_sem, F, aIndex_map] <;> rfl) (by decide) (by simp [sub, List.take_of_length_le]) (by exact hG)))
end Go.Vai.DB
