import Derived.Test.YtblgcekomnnfmaaChkPl
set_option linter.unusedSimpArgs false
set_option linter.unusedVariables false
set_option linter.constructorNameAsVariable false
namespace Go.Vai.U
def bit1 (b : Bool) : BitVec 32 := if b then 1#32 else 0#32
def bstep (r : BitVec 32) (b : Bool) : BitVec 32 := half (r ^^^ bit1 b)
def run (r : BitVec 32) (f : Nat → Bool) : Nat → BitVec 32
  | 0 => r
  | n + 1 => bstep (run r f n) (f n)
theorem run_add (r : BitVec 32) (f : Nat → Bool) (a : Nat) : ∀ n, run r f (a + n) = run (run r f a) (fun j => f (a + j)) n
  | 0 => rfl
  | n + 1 => by show bstep (run r f (a + n)) _ = _; rw [run_add r f a n]; rfl
theorem run_congr (r : BitVec 32) {f g : Nat → Bool} : ∀ n, (∀ j, j < n → f j = g j) → run r f n = run r g n
  | 0, _ => rfl
  | n + 1, h => by simp only [run]; rw [run_congr r n fun j hj => h j (by omega), h n (by omega)]
theorem bit1_xor (a b : Bool) : bit1 (a ^^ b) = bit1 a ^^^ bit1 b := by cases a <;> cases b <;> rfl
theorem run_xor (r s : BitVec 32) (f g : Nat → Bool) : ∀ n, run (r ^^^ s) (fun j => f j ^^ g j) n = run r f n ^^^ run s g n
  | 0 => rfl
  | n + 1 => by
    simp only [run, bstep]
    rw [run_xor r s f g n, ← half_lin, bit1_xor]
    congr 1
    ac_rfl
theorem half_zero : half 0#32 = 0#32 := by decide
theorem run_none (f : Nat → Bool) : ∀ n, (∀ j, j < n → f j = false) → run 0#32 f n = 0#32
  | 0, _ => rfl
  | n + 1, h => by simp only [run, bstep]; rw [run_none f n fun j hj => h j (by omega), h n (by omega)]; exact half_zero
theorem half_ker (d : BitVec 32) (h : half d = 0#32) : d = 0#32 := by
  have e : d = (d >>> 1) <<< 1 ^^^ (d &&& 1#32) := by
    apply BitVec.eq_of_getLsbD_eq
    intro i hi
    simp only [BitVec.getLsbD_xor, BitVec.getLsbD_shiftLeft, BitVec.getLsbD_and, BitVec.getLsbD_ushiftRight]
    cases i with
    | zero => simp
    | succ i => have h1 : (1#32).getLsbD (i + 1) = false := by rw [BitVec.getLsbD_one]; simp
                simp [hi, h1, Nat.add_comm]
  rcases lowc d with h1 | h1
  · rw [half, h1] at h
    have h2 : d >>> 1 = 0#32 := by simpa using h
    rw [e, h1, h2]; decide
  · rw [half, h1] at h
    have h2 := congrArg (fun x => x.getLsbD 31) h
    have h3 : (3988292384#32 * 1#32).getLsbD 31 = true := by decide
    simp only [BitVec.getLsbD_xor, h3, BitVec.getLsbD_ushiftRight] at h2
    have h4 : d.getLsbD (1 + 31) = false := BitVec.getLsbD_of_ge _ _ (by omega)
    rw [h4] at h2
    simp at h2
theorem turns_ker (d : BitVec 32) : ∀ k, turns k d = 0#32 → d = 0#32
  | 0, h => h
  | k + 1, h => turns_ker d k (half_ker _ h)
theorem run_ker (r : BitVec 32) (f : Nat → Bool) : ∀ n, (∀ j, j < n → f j = false) → run r f n = 0#32 → r = 0#32
  | 0, _, h => h
  | n + 1, hf, h => by
    simp only [run, bstep, hf n (by omega), bit1] at h
    exact run_ker r f n (fun j hj => hf j (by omega)) (by have := half_ker _ h; simpa using this)
theorem bit1_shift (X : BitVec 32) (k : Nat) : X >>> k = (X >>> (k + 1)) <<< 1 ^^^ bit1 (X.getLsbD k) := by
  apply BitVec.eq_of_getLsbD_eq
  intro i hi
  simp only [BitVec.getLsbD_xor, BitVec.getLsbD_shiftLeft, BitVec.getLsbD_ushiftRight]
  cases i with
  | zero => cases h : X.getLsbD k <;> simp [h, bit1]
  | succ i =>
    have h1 : (bit1 (X.getLsbD k)).getLsbD (i + 1) = false := by
      unfold bit1; split
      · rw [BitVec.getLsbD_one]; simp
      · simp
    rw [h1]
    simp [hi, show k + (i + 1) = k + 1 + i by omega]
theorem half_up (r X : BitVec 32) (k : Nat) : half (r ^^^ (X >>> k)) = bstep r (X.getLsbD k) ^^^ (X >>> (k + 1)) := by
  rw [bit1_shift X k, bstep, ← BitVec.xor_assoc, BitVec.xor_comm r, BitVec.xor_assoc, half_lin, BitVec.xor_comm]
  congr 1
  have hl : ((X >>> (k + 1)) <<< 1) &&& 1#32 = 0#32 := by
    apply BitVec.eq_of_getLsbD_eq
    intro i hi
    simp only [BitVec.getLsbD_and, BitVec.getLsbD_shiftLeft]
    cases i with
    | zero => simp
    | succ i => have h1 : (1#32).getLsbD (i + 1) = false := by rw [BitVec.getLsbD_one]; simp
                rw [h1]; simp
  rw [half, hl]
  apply BitVec.eq_of_getLsbD_eq
  intro i hi
  by_cases h31 : i = 31
  · subst h31
    simp only [BitVec.getLsbD_xor, BitVec.getLsbD_ushiftRight, BitVec.getLsbD_shiftLeft]
    have : X.getLsbD (k + 1 + 31) = false := BitVec.getLsbD_of_ge _ _ (by omega)
    simp [this]
  · simp [BitVec.getLsbD_ushiftRight, BitVec.getLsbD_shiftLeft, Nat.add_comm]
    intro _; omega
/-- The register behind bits that were told at once. -/
theorem turns_run (r X : BitVec 32) : ∀ k, turns k (r ^^^ X) = run r X.getLsbD k ^^^ (X >>> k)
  | 0 => by simp [turns, run]
  | k + 1 => by rw [turns, turns_run r X k, half_up]; rfl
def bitAt (l : List (BitVec 8)) (j : Nat) : Bool := (l.getD (j / 8) 0#8).getLsbD (j % 8)
theorem moreS_run (l : List (BitVec 8)) (r : BitVec 32) : ∀ k, k ≤ l.length → moreS r (l.take k) = run r (bitAt l) (8 * k)
  | 0, _ => by simp [moreS, run]
  | k + 1, h => by
    rw [List.take_succ_eq_append_getElem h, moreS_snoc, moreS_run l r k (by omega), turns_run, show 8 * (k + 1) = 8 * k + 8 by omega, run_add]
    rw [sh8, BitVec.xor_zero]
    refine run_congr _ 8 fun j hj => ?_
    unfold bitAt
    rw [show (8 * k + j) / 8 = k by omega, show (8 * k + j) % 8 = j by omega, List.getD_eq_getElem?_getD, List.getElem?_eq_getElem h]
    simp [BitVec.getLsbD_setWidth, show j < 32 by omega]
/-- The bits that are turned up to 'i'. -/
def turnS (l : List (BitVec 8)) (s : Nat) (X : BitVec 32) : Nat → List (BitVec 8)
  | 0 => l
  | i + 1 => if X.getLsbD i then (turnS l s X i).set ((s + i) / 8) ((turnS l s X i).getD ((s + i) / 8) 0#8 ^^^ (1#8 <<< ((s + i) % 8))) else turnS l s X i
def turnedS (X : BitVec 32) : Nat → Bool
  | 0 => false
  | i + 1 => turnedS X i || X.getLsbD i
theorem turnS_length (l : List (BitVec 8)) (s : Nat) (X : BitVec 32) : ∀ i, (turnS l s X i).length = l.length
  | 0 => rfl
  | i + 1 => by simp only [turnS]; split <;> simp [turnS_length l s X i]
theorem one_shift (a b : Nat) (hb : b < 8) : (1#8 <<< a).getLsbD b = decide (a = b) := by
  rw [BitVec.getLsbD_shiftLeft, BitVec.getLsbD_one]
  by_cases h : a = b
  · subst h; simp [hb]
  · simp [h, hb]; omega
theorem turnS_bit (l : List (BitVec 8)) (s : Nat) (X : BitVec 32) : ∀ i, s + i ≤ 8 * l.length → ∀ j, bitAt (turnS l s X i) j = (bitAt l j ^^ (decide (s ≤ j ∧ j < s + i) && X.getLsbD (j - s)))
  | 0, _, j => by rw [turnS, decide_eq_false (by omega)]; simp
  | i + 1, h, j => by
    have ih := turnS_bit l s X i (by omega) j
    by_cases hX : X.getLsbD i = true
    · have hl := turnS_length l s X i
      simp only [turnS, hX, if_true]
      by_cases hj : j / 8 = (s + i) / 8
      · unfold bitAt
        have e1 : ∀ v, (((turnS l s X i).set ((s + i) / 8) v).getD (j / 8) 0#8) = v := fun v => by
          rw [hj, List.getD_eq_getElem?_getD, List.getElem?_set_self (by omega)]; rfl
        rw [e1, BitVec.getLsbD_xor, one_shift _ _ (Nat.mod_lt _ (by omega)), ← hj]
        have ih' : ((turnS l s X i).getD (j / 8) 0#8).getLsbD (j % 8) = _ := ih
        rw [ih']
        unfold bitAt
        by_cases he : j = s + i
        · subst he
          simp [hX]
        · have : ¬ ((s + i) % 8 = j % 8) := by omega
          rw [decide_eq_false this, Bool.xor_false]
          congr 2
          exact decide_eq_decide.2 (by omega)
      · have hne : bitAt ((turnS l s X i).set ((s + i) / 8) ((turnS l s X i).getD ((s + i) / 8) 0#8 ^^^ (1#8 <<< ((s + i) % 8)))) j = bitAt (turnS l s X i) j := by
          unfold bitAt
          rw [List.getD_eq_getElem?_getD, List.getElem?_set_ne (by omega), ← List.getD_eq_getElem?_getD]
        rw [hne, ih]
        congr 2
        exact decide_eq_decide.2 (by omega)
    · have hX' : X.getLsbD i = false := by simpa using hX
      simp only [turnS, hX', Bool.false_eq_true, if_false]
      rw [ih]
      by_cases he : j = s + i
      · subst he
        simp [hX']
      · congr 2
        exact decide_eq_decide.2 (by omega)
theorem turnedS_false (X : BitVec 32) : ∀ i, turnedS X i = false ↔ ∀ j, j < i → X.getLsbD j = false
  | 0 => by simp [turnedS]
  | i + 1 => by
    simp only [turnedS, Bool.or_eq_false_iff, turnedS_false X i]
    constructor
    · intro ⟨h1, h2⟩ j hj
      by_cases he : j = i
      · subst he; exact h2
      · exact h1 j (by omega)
    · exact fun h => ⟨fun j hj => h j (by omega), h i (by omega)⟩
theorem run_low (X : BitVec 32) (m : Nat) (hm : m ≤ 32) (h : run 0#32 X.getLsbD m = 0#32) : ∀ j, j < m → X.getLsbD j = false := by
  let Y : BitVec 32 := (X <<< (32 - m)) >>> (32 - m)
  have hY : ∀ j, Y.getLsbD j = (decide (j < m) && X.getLsbD j) := fun j => by
    simp only [Y, BitVec.getLsbD_ushiftRight, BitVec.getLsbD_shiftLeft]
    by_cases hj : j < m
    · simp [hj, show 32 - m + j < 32 by omega]
    · simp [hj, show ¬ (32 - m + j < 32) by omega]
  have h1 : run 0#32 Y.getLsbD m = 0#32 := by
    exact (run_congr _ m fun j hj => by rw [hY]; simp [hj]).trans h
  have h2 := turns_run 0#32 Y m
  have h3 : Y >>> m = 0#32 := by
    apply BitVec.eq_of_getLsbD_eq
    intro i hi
    rw [BitVec.getLsbD_ushiftRight, hY, decide_eq_false (by omega)]; simp
  rw [h1, h3] at h2
  have h4 := turns_ker _ _ (by rw [h2]; rfl)
  have h5 : Y = 0#32 := by simpa using h4
  intro j hj
  have := hY j
  rw [h5] at this
  simpa [hj] using this.symm
/-- Bits that are turned within 32 in a row are told. -/
theorem turned_told (n n' : Bool) (l : List (BitVec 8)) (s : Nat) (X : BitVec 32) (m : Nat) (hm : m ≤ 32) (hs : s + m ≤ 8 * l.length) :
    decide (ofS [(n, l)] ≠ ofS [(n', turnS l s X m)]) = turnedS X m := by
  have hl := turnS_length l s X m
  have e1 : ∀ (b : Bool) (k : List (BitVec 8)), k.length = l.length → ofS [(b, k)] = ~~~ (run 4294967295#32 (bitAt k) (8 * l.length)) := fun b k hk => by
    simp only [ofS, List.map, List.foldl]
    rw [← hk, ← moreS_run k _ k.length (Nat.le_refl _), List.take_length]
  rw [e1 n l rfl, e1 n' _ hl]
  let h : Nat → Bool := fun j => decide (s ≤ j ∧ j < s + m) && X.getLsbD (j - s)
  have e2 : run 4294967295#32 (bitAt (turnS l s X m)) (8 * l.length) = run 4294967295#32 (bitAt l) (8 * l.length) ^^^ run 0#32 h (8 * l.length) := by
    rw [← run_xor, BitVec.xor_zero]
    exact run_congr _ _ fun j _ => turnS_bit l s X m hs j
  have e3 : run 0#32 h (8 * l.length) = 0#32 ↔ ∀ j, j < m → X.getLsbD j = false := by
    have hw : run 0#32 h (s + m) = run 0#32 X.getLsbD m := by
      rw [run_add, run_none h s fun j hj => by simp only [h]; rw [decide_eq_false (by omega)]; rfl]
      exact run_congr _ _ fun j hj => by simp only [h]; rw [decide_eq_true (by omega)]; simp
    constructor
    · intro he
      rw [show 8 * l.length = (s + m) + (8 * l.length - (s + m)) by omega, run_add] at he
      have := run_ker _ _ _ (fun j _ => by simp only [h]; rw [decide_eq_false (by omega)]; rfl) he
      rw [hw] at this
      exact run_low X m hm this
    · intro hx
      refine run_none _ _ fun j hj => ?_
      simp only [h]
      by_cases hj : s ≤ j ∧ j < s + m
      · rw [hx (j - s) (by omega)]; simp
      · rw [decide_eq_false hj]; rfl
  cases ht : turnedS X m with
  | false =>
    rw [turnedS_false] at ht
    rw [e2, e3.2 ht]
    simp
  | true =>
    simp only [decide_eq_true_eq]
    intro he
    have h1 := congrArg (fun z => ~~~ z) he
    simp only [BitVec.not_not] at h1
    rw [e2] at h1
    have h2 : run 0#32 h (8 * l.length) = 0#32 := by
      have h3 := congrArg (fun z => run 4294967295#32 (bitAt l) (8 * l.length) ^^^ z) h1
      simp only [← BitVec.xor_assoc, BitVec.xor_self] at h3
      simpa using h3.symm
    have h3 := (turnedS_false X m).2 (e3.1 h2)
    rw [ht] at h3
    cases h3
end Go.Vai.U
