import Derived.Test.YtblgcekomnnfmaaOctPl
set_option linter.unusedSimpArgs false
set_option linter.unusedVariables false
namespace Go.Vai.O
structure PutS where
 nb : Bool
 b : List (BitVec 8)
 w : Int
 n : Int
 nt : Bool
 t : List (BitVec 8)
def putA (p : PutS) : AV := .agg [.sl 1 p.nb (bsl p.b), .i .i64 p.w, .i .u64 p.n, .sl 1 p.nt (bsl p.t)]
def okPut (p : PutS) : Prop := 1 ≤ p.w ∧ p.w ≤ 8 ∧ p.t.length ≤ 300
def enc1 (p : PutS) : List (BitVec 8) := numR p.n p.w.toNat ++ (numR (p.t.length : Int) 2 ++ p.t)
def enc (l : List PutS) : List (BitVec 8) := l.flatMap enc1
theorem byteAt_toNat (n : Int) (i : Nat) : ((byteAt n i).toNat : Int) = n / 2 ^ (8 * i) % 256 := by
 unfold byteAt
 rw [BitVec.toNat_ofInt]
 have h := Int.emod_nonneg (n / 2 ^ (8 * i)) (show (256 : Int) ≠ 0 by decide)
 show ((((n / 2 ^ (8 * i)) % 256).toNat : Nat) : Int) = _
 omega
theorem numV_cons (c : BitVec 8) : ∀ (b : List (BitVec 8)), numV (c :: b) = (c.toNat : Int) * 256 ^ b.length + numV b := by
 have key : ∀ (b : List (BitVec 8)) (a : Int), b.foldl (fun a c => a * 256 + (c.toNat : Int)) a = a * 256 ^ b.length + b.foldl (fun a c => a * 256 + (c.toNat : Int)) 0 := by
  intro b
  induction b with
  | nil => intro a; simp
  | cons x b ih =>
   intro a
   simp only [List.foldl_cons, List.length_cons]
   rw [ih, ih (0 * 256 + (x.toNat : Int)), Int.pow_succ, Int.add_mul, Int.add_mul]
   simp only [Int.zero_mul, Int.zero_add]
   rw [Int.mul_assoc, Int.mul_comm 256, Int.add_assoc]
 intro b
 simp only [numV, List.foldl_cons]
 rw [key]
 simp
theorem pow_256 (k : Nat) : (2 : Int) ^ (8 * k) = 256 ^ k := by
 rw [Int.pow_mul]; rfl
theorem numV_numR {n : Int} (hn : 0 ≤ n) : ∀ k, numV (numR n k) = n % 2 ^ (8 * k)
 | 0 => by simp [numR, numV, Int.emod_one]
 | k + 1 => by
  rw [numR, numV_cons, numV_numR hn k, numR_length, byteAt_toNat, pow_256, pow_256, Int.pow_succ]
  obtain ⟨m, rfl⟩ := Int.eq_ofNat_of_zero_le hn
  have h1 := congrArg (fun z : Nat => (z : Int)) (Nat.mod_mul (x := m) (a := 256 ^ k) (b := 256))
  simp only [Int.natCast_add, Int.natCast_mul, Int.natCast_emod, Int.natCast_ediv, Int.natCast_pow] at h1
  show (m : Int) / 256 ^ k % 256 * 256 ^ k + (m : Int) % 256 ^ k = (m : Int) % (256 ^ k * 256)
  have h2 : ((256 : Nat) : Int) = 256 := rfl
  rw [h2] at h1
  rw [h1, Int.mul_comm (256 ^ k), Int.add_comm]
theorem num_back {n : Int} (hn : 0 ≤ n) {w : Int} (hw : 1 ≤ w ∧ w ≤ 8) (r : List (BitVec 8)) : rnV (numR n w.toNat ++ r) false w = n % 2 ^ (8 * w.toNat) ∧ rnL (numR n w.toNat ++ r) false w = r ∧ rnW (numR n w.toNat ++ r) false w = false := by
 have hm : mayW w = true := by simp [mayW]; omega
 have hl : ¬ w > ((numR n w.toNat ++ r).length : Int) := by rw [List.length_append, numR_length]; omega
 have ht : (numR n w.toNat ++ r).take w.toNat = numR n w.toNat := by
  rw [List.take_append_of_le_length (by rw [numR_length]; omega), List.take_of_length_le (by rw [numR_length]; omega)]
 have hd : (numR n w.toNat ++ r).drop w.toNat = r := by
  rw [List.drop_append_of_le_length (by rw [numR_length]; omega), List.drop_of_length_le (by rw [numR_length]; omega), List.nil_append]
 refine ⟨?_, ?_, ?_⟩
 ·simp only [rnV, hm, if_true, tkV, Bool.false_eq_true, if_false, if_neg hl]
  rw [ht, numV_numR hn]
 ·simp only [rnL, hm, if_true, tkL, Bool.false_eq_true, if_false, if_neg hl]
  exact hd
 ·simp only [rnW, hm, if_true, tkW, Bool.false_eq_true, if_false]
  exact decide_eq_false hl
end Go.Vai.O
