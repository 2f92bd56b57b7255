import Derived.Test.YtblgcekomnnfmaaLsaPl2
import Derived.Test.YtblgcekomnnfmaaOctBk
set_option linter.unusedSimpArgs false
set_option linter.unusedVariables false
set_option linter.constructorNameAsVariable false
namespace Go.Vai.L
open Go.Vai.O
theorem lsaB_len (l : Lsa) : (lsaB l).length = 10 + 5 * l.ls.length := by
  simp only [lsaB, List.length_append, numR_length, linksB_len]; omega
theorem back1 {n : Int} (h : 0 ≤ n ∧ n < 256) (r : List (BitVec 8)) : rnV (numR n 1 ++ r) false 1 = n ∧ rnL (numR n 1 ++ r) false 1 = r ∧ rnW (numR n 1 ++ r) false 1 = false := by
  obtain ⟨e1, e2, e3⟩ := num_back (n := n) h.1 (w := 1) (by omega) r
  refine ⟨?_, e2, e3⟩
  have : n % 2 ^ (8 * (1 : Int).toNat) = n := by
    have : (2 : Int) ^ (8 * (1 : Int).toNat) = 256 := rfl
    rw [this]; omega
  rw [this] at e1; exact e1
theorem back4 {n : Int} (h : 0 ≤ n ∧ n < 4294967296) (r : List (BitVec 8)) : rnV (numR n 4 ++ r) false 4 = n ∧ rnL (numR n 4 ++ r) false 4 = r ∧ rnW (numR n 4 ++ r) false 4 = false := by
  obtain ⟨e1, e2, e3⟩ := num_back (n := n) h.1 (w := 4) (by omega) r
  refine ⟨?_, e2, e3⟩
  have : n % 2 ^ (8 * (4 : Int).toNat) = n := by
    have : (2 : Int) ^ (8 * (4 : Int).toNat) = 4294967296 := rfl
    rw [this]; omega
  rw [this] at e1; exact e1
theorem back8 {n : Int} (h : 0 ≤ n ∧ n < 18446744073709551616) (r : List (BitVec 8)) : rnV (numR n 8 ++ r) false 8 = n ∧ rnL (numR n 8 ++ r) false 8 = r ∧ rnW (numR n 8 ++ r) false 8 = false := by
  obtain ⟨e1, e2, e3⟩ := num_back (n := n) h.1 (w := 8) (by omega) r
  refine ⟨?_, e2, e3⟩
  have : n % 2 ^ (8 * (8 : Int).toNat) = n := by
    have : (2 : Int) ^ (8 * (8 : Int).toNat) = 18446744073709551616 := rfl
    rw [this]; omega
  rw [this] at e1; exact e1
theorem linksB_drop {ls : List LinkS} {k : Nat} (h : k < ls.length) (r : List (BitVec 8)) : linksB (ls.drop k) ++ r = numR ls[k].to 1 ++ (numR ls[k].co 4 ++ (linksB (ls.drop (k + 1)) ++ r)) := by
  rw [List.drop_eq_getElem_cons h]
  simp only [linksB, List.flatMap_cons, linkB, List.append_assoc]
theorem links_back {o last : Int} {ls : List LinkS} (h : linksOK o last ls = true) (r : List (BitVec 8)) : ∀ k, k ≤ ls.length → rdLinks (linksB ls ++ r) false k = (ls.take k, linksB (ls.drop k) ++ r, false)
  | 0, _ => by simp [rdLinks]
  | k + 1, hk => by
    have ih := links_back h r k (by omega)
    obtain ⟨b1, b2⟩ := link_bd h (k := k) (by omega)
    rw [rd_next ih, linksB_drop (by omega)]
    obtain ⟨e1, e2, e3⟩ := back1 (n := ls[k].to) (by omega) (numR ls[k].co 4 ++ (linksB (ls.drop (k + 1)) ++ r))
    obtain ⟨f1, f2, f3⟩ := back4 (n := ls[k].co) (by omega) (linksB (ls.drop (k + 1)) ++ r)
    rw [e1, e2, e3, f1, f2, f3, List.take_succ_eq_append_getElem (by omega)]
theorem rd_back {l : Lsa} (h : lsaOK l = true) (r : List (BitVec 8)) : rdP (lsaB l ++ r) false = (l.ls, r, false) ∧ rnV (lsaB l ++ r) false 1 = l.o ∧ rnV (rnL (lsaB l ++ r) false 1) (rnW (lsaB l ++ r) false 1) 8 = l.s := by
  obtain ⟨b1, b2, b3, b4⟩ := lsa_bd h
  have e0 : lsaB l ++ r = numR l.o 1 ++ (numR l.s 8 ++ (numR (l.ls.length : Int) 1 ++ (linksB l.ls ++ r))) := by simp only [lsaB, List.append_assoc]
  obtain ⟨e1, e2, e3⟩ := back1 (n := l.o) (by omega) (numR l.s 8 ++ (numR (l.ls.length : Int) 1 ++ (linksB l.ls ++ r)))
  obtain ⟨f1, f2, f3⟩ := back8 (n := l.s) (by omega) (numR (l.ls.length : Int) 1 ++ (linksB l.ls ++ r))
  obtain ⟨g1, g2, g3⟩ := back1 (n := (l.ls.length : Int)) (by omega) (linksB l.ls ++ r)
  rw [e0]
  refine ⟨?_, e1, by rw [e2, e3, f1]⟩
  unfold rdP hdL hdW hdN
  rw [e2, e3, f2, f3, g1, g2, g3, Int.toNat_natCast, links_back b4 r _ (Nat.le_refl _)]
  simp [linksB]
theorem wrap_seq {n : Int} (h : 1 ≤ n ∧ n ≤ 4611686018427387904) : IntKind.i64.wrap n = n := by
  have := wrap64 (n := n) (by omega)
  exact this
theorem rd_backs {l : Lsa} (h : lsaOK l = true) (r : List (BitVec 8)) : rdL (lsaB l ++ r) false = ⟨l.o, l.s, l.ls.isEmpty, l.ls⟩ ∧ rdOK (lsaB l ++ r) false = true ∧ rdR (lsaB l ++ r) false = r ∧ rdW (lsaB l ++ r) false = false := by
  obtain ⟨e1, e2, e3⟩ := rd_back h r
  have hw : rdW (lsaB l ++ r) false = false := by simp [rdW, e1]
  have hr : rdRaw (lsaB l ++ r) false = ⟨l.o, l.s, l.ls.isEmpty, l.ls⟩ := by
    simp only [rdRaw, e1, e2, e3]
    rw [wrap_seq (lsa_bd h).2.1]
  have ho : rdOK (lsaB l ++ r) false = true := by rw [rdOK, hw, hr]; exact h
  exact ⟨by rw [rdL, ho, if_pos rfl, hr], ho, by simp [rdR, e1], hw⟩
/-! Both readers. -/
end Go.Vai.L
namespace Go.Vai.L
open Go.Vai.O
theorem rdLinks_le (l : List (BitVec 8)) (w : Bool) : ∀ k, (rdLinks l w k).2.1.length ≤ l.length
  | 0 => Nat.le_refl _
  | k + 1 => by
    have ih := rdLinks_le l w k
    rw [rdLinks, rdStep]
    split
    · exact ih
    · show (rnL (rnL (rdLinks l w k).2.1 (rdLinks l w k).2.2 1) _ 4).length ≤ _
      exact Nat.le_trans (rnL_len _ _ _) (Nat.le_trans (rnL_len _ _ _) ih)
theorem rdR_le (l : List (BitVec 8)) (w : Bool) : (rdR l w).length ≤ l.length := by
  unfold rdR rdP
  refine Nat.le_trans (rdLinks_le _ _ _) ?_
  unfold hdL
  exact Nat.le_trans (rnL_len _ _ _) (Nat.le_trans (rnL_len _ _ _) (rnL_len _ _ _))
theorem rdR_nil {w : Bool} : rdR [] w = [] := List.eq_nil_of_length_eq_zero (by have := rdR_le [] w; simpa using this)
end Go.Vai.L
