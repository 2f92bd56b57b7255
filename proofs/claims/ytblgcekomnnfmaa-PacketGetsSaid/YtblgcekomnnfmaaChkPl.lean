import Derived.Test.YtblgcekomnnfmaaVaiD
set_option linter.unusedSimpArgs false
set_option linter.unusedVariables false
namespace Go.Vai.U
def half (r : BitVec 32) : BitVec 32 := (r >>> 1) ^^^ (3988292384#32 * (r &&& 1#32))
def turns : Nat → BitVec 32 → BitVec 32
 | 0, r => r
 | k + 1, r => half (turns k r)
def moreS (r : BitVec 32) (l : List (BitVec 8)) : BitVec 32 := l.foldl (fun r c => turns 8 (r ^^^ c.setWidth 32)) r
def rstep (c : BitVec 8) (k : Nat) (r : BitVec 32) : BitVec 32 := if (c.setWidth 32 >>> k) % 2#32 ≠ r % 2#32 then (r / 2#32) ^^^ 3988292384#32 else r / 2#32
def rbyte (c : BitVec 8) : Nat → BitVec 32 → BitVec 32
 | 0, r => r
 | k + 1, r => rstep c k (rbyte c k r)
def refS (l : List (BitVec 8)) : BitVec 32 := 4294967295#32 - l.foldl (fun r c => rbyte c 8 r) 4294967295#32
def ofS (ps : List (Bool × List (BitVec 8))) : BitVec 32 := ~~~ ((ps.map (·.2)).foldl moreS 4294967295#32)
theorem low2 (x : BitVec 32) : x % 2#32 = x &&& 1#32 := by
 apply BitVec.eq_of_toNat_eq; simp [Nat.and_one_is_mod]
theorem div2 (x : BitVec 32) : x / 2#32 = x >>> 1 := by
 apply BitVec.eq_of_toNat_eq; simp [Nat.shiftRight_eq_div_pow]
theorem lowc (x : BitVec 32) : x &&& 1#32 = 0#32 ∨ x &&& 1#32 = 1#32 := by
 have h : (x &&& 1#32).toNat = x.toNat % 2 := by simp [Nat.and_one_is_mod]
 rcases Nat.mod_two_eq_zero_or_one x.toNat with h1 | h1
 ·left; apply BitVec.eq_of_toNat_eq; rw [h, h1]; rfl
 ·right; apply BitVec.eq_of_toNat_eq; rw [h, h1]; rfl
theorem half_xor (y d : BitVec 32) : half (y ^^^ d) = (if d % 2#32 ≠ y % 2#32 then (y / 2#32) ^^^ 3988292384#32 else y / 2#32) ^^^ (d >>> 1) := by
 have hx : (y ^^^ d) &&& 1#32 = (y &&& 1#32) ^^^ (d &&& 1#32) := by
  apply BitVec.eq_of_getLsbD_eq; intro i hi; simp only [BitVec.getLsbD_and, BitVec.getLsbD_xor]; cases y.getLsbD i <;> cases d.getLsbD i <;> simp
 simp only [half, low2, div2, hx, BitVec.ushiftRight_xor_distrib]
 rcases lowc y with h | h <;> rcases lowc d with h' | h' <;> rw [h, h'] <;> simp
 ·rw [BitVec.xor_assoc, BitVec.xor_comm (d >>> 1), ← BitVec.xor_assoc]
 ·rw [BitVec.xor_assoc, BitVec.xor_comm (d >>> 1), ← BitVec.xor_assoc]
theorem turns_xor (c : BitVec 8) (r : BitVec 32) : ∀ k, turns k (r ^^^ c.setWidth 32) = rbyte c k r ^^^ (c.setWidth 32 >>> k)
 | 0 => by simp [turns, rbyte]
 | k + 1 => by
  simp only [turns, rbyte, rstep]
  rw [turns_xor c r k, half_xor, BitVec.shiftRight_add]
theorem sh8 (c : BitVec 8) : c.setWidth 32 >>> 8 = 0#32 := by
 apply BitVec.eq_of_toNat_eq
 have h := c.isLt
 rw [BitVec.toNat_ushiftRight, BitVec.toNat_setWidth, Nat.shiftRight_eq_div_pow, Nat.mod_eq_of_lt (by omega)]
 exact Nat.div_eq_of_lt h
theorem byte_gen (c : BitVec 8) (r : BitVec 32) (k : Nat) (h : c.setWidth 32 >>> k = 0#32) : turns k (r ^^^ c.setWidth 32) = rbyte c k r := by
 rw [turns_xor, h, BitVec.xor_zero]
theorem byte_same (c : BitVec 8) (r : BitVec 32) : turns 8 (r ^^^ c.setWidth 32) = rbyte c 8 r := byte_gen c r 8 (sh8 c)
theorem ones_sub (x : BitVec 32) : 4294967295#32 - x = ~~~ x := by
 have : 4294967295#32 = BitVec.allOnes 32 := by decide
 rw [this]
 exact BitVec.allOnes_sub_eq_not x
theorem more_same (l : List (BitVec 8)) (r : BitVec 32) : moreS r l = l.foldl (fun r c => rbyte c 8 r) r := by
 unfold moreS
 congr 1
 funext r c
 exact byte_same c r
theorem ref_of (n : Bool) (l : List (BitVec 8)) : refS l = ofS [(n, l)] := by
 simp only [refS, ofS, ones_sub, List.map, List.foldl, more_same]
def x3 (a b c : List (BitVec 8)) (i : Nat) : BitVec 8 := a.getD i 0#8 ^^^ b.getD i 0#8 ^^^ c.getD i 0#8
def xor3 (a b c : List (BitVec 8)) (k : Nat) : List (BitVec 8) := (List.range k).map (x3 a b c)
end Go.Vai.U
