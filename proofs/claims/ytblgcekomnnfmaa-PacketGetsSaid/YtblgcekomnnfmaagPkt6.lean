import Derived.Test.YtblgcekomnnfmaagPkt5
namespace Go.Vai.P
open Go.Proofs Go.Vai Go.Vai.G Go.Vai.L Go.Vai.O Go.Vai.U Go.Vai.Z
set_option linter.unusedSimpArgs false
set_option linter.unusedVariables false
def okR (nv : Bool) (n : Nat) (p : RS) : Prop := p.1.length ≤ n ∧ (nv = true → p.1 = [])
theorem okR_rs {nv : Bool} {n : Nat} {p : RS} (h : okR nv n p) (k : Int) : okR nv n (rs p k) :=
 ⟨Nat.le_trans (rnL_len _ _ _) h.1, fun e => rnL_nil (h.2 e) _ _⟩
theorem okR_lR {nv : Bool} {n : Nat} {p : RS} (h : okR nv n p) : okR nv n (lR p) :=
 ⟨Nat.le_trans (rdR_le _ _) h.1, fun e => by show rdR p.1 p.2 = []; rw [h.2 e]; exact rdR_nil⟩
theorem okR_loop {nv : Bool} {n : Nat} {kind : Int} {p : RS} (h : okR nv n p) : ∀ k, okR nv n (loopP kind p k).p
 | 0 => h
 | k + 1 => by
  have i := okR_loop (kind := kind) h k
  rw [loopP, stepP]
  split
  ·exact okR_rs (okR_rs i _) _
  ·split
   ·exact okR_rs (okR_rs i _) _
   ·split
    ·exact okR_lR i
    ·exact i
theorem okR_q7 {nv : Bool} {i : List (BitVec 8)} (h : nv = true → i = []) : okR nv i.length (q5 i) ∧ okR nv i.length (q6 i) ∧ okR nv i.length (q7 i) := by
 have h0 : okR nv i.length (i, false) := ⟨Nat.le_refl _, h⟩
 have h5 : okR nv i.length (q5 i) := okR_rs (okR_rs (okR_rs (okR_rs (okR_rs h0 _) _) _) _) _
 have h6 : okR nv i.length (q6 i) := by
  rw [q6]; split
  ·exact okR_rs h5 _
  ·exact h5
 refine ⟨h5, h6, ?_⟩
 rw [q7]; split
 ·exact okR_rs h6 _
 ·exact okR_rs h6 _
theorem rd_lsn (l : List (BitVec 8)) (w : Bool) : (rdL l w).ls.length ≤ 255 := by
 have hn : ∀ k, (rdLinks (hdL l w) (hdW l w) k).1.length ≤ k := by
  intro k
  induction k with
  | zero => simp [rdLinks]
  | succ k ih =>
   rw [rdLinks, rdStep]
   split
   ·omega
   ·simp; omega
 rw [rdL]
 split
 ·have h1 := hn (hdN l w).toNat
  have h2 : 0 ≤ hdN l w ∧ hdN l w < 256 := rnV_range1 _ _
  show (rdP l w).1.length ≤ 255
  rw [rdP]; omega
 ·simp [lsa0]
theorem loop_bd {kind : Int} {p : RS} : ∀ k, (loopP kind p k).hs.length ≤ k ∧ (loopP kind p k).xs.length ≤ k ∧ (loopP kind p k).ls.length ≤ k ∧ ∀ x ∈ (loopP kind p k).ls, x.ls.length ≤ 255
 | 0 => ⟨Nat.le_refl _, Nat.le_refl _, Nat.le_refl _, fun x hx => by cases hx⟩
 | k + 1 => by
  obtain ⟨i1, i2, i3, i4⟩ := loop_bd (kind := kind) (p := p) k
  have one : ∀ {α : Type} (l : List α) (x : α), l.length ≤ k → (l ++ [x]).length ≤ k + 1 := fun l x h => by simp; omega
  rw [loopP, stepP]
  split
  ·exact ⟨one _ _ i1, Nat.le_succ_of_le i2, Nat.le_succ_of_le i3, i4⟩
  ·split
   ·exact ⟨Nat.le_succ_of_le i1, one _ _ i2, Nat.le_succ_of_le i3, i4⟩
   ·split
    ·refine ⟨Nat.le_succ_of_le i1, Nat.le_succ_of_le i2, one _ _ i3, fun x hx => ?_⟩
     rcases List.mem_append.1 hx with h | h
     ·exact i4 x h
     ·rw [List.mem_singleton.1 h]; exact rd_lsn _ _
    ·exact ⟨Nat.le_succ_of_le i1, Nat.le_succ_of_le i2, Nat.le_succ_of_le i3, i4⟩
theorem rv1_bd (p : RS) : 0 ≤ rv p 1 ∧ rv p 1 < 256 := rnV_range1 p.1 p.2
theorem rv4_bd (p : RS) : 0 ≤ rv p 4 ∧ rv p 4 < 4294967296 := rnV_range4 p.1 p.2
theorem nOf_bd (i : List (BitVec 8)) : 0 ≤ nOf i ∧ nOf i < 256 := by
 rw [nOf]; split
 ·omega
 ·exact rv1_bd _
theorem epOf_bd (i : List (BitVec 8)) : 0 ≤ epOf i ∧ epOf i < 4294967296 := by
 rw [epOf]; split
 ·exact rv4_bd _
 ·omega
theorem teOf_bd (i : List (BitVec 8)) : 0 ≤ teOf i ∧ teOf i < 4294967296 := by
 rw [teOf]; split
 ·exact rv4_bd _
 ·omega
theorem okV_nil {nil : Bool} {l : List (BitVec 8)} (hz : nil = true → l = []) : (if okO l = true then nil else true) = true → okV l = [] := fun h => by
 rw [okV]
 split
 ·rename_i e
  rw [if_pos e] at h
  rw [hz h]; rfl
 ·rfl
def pkOK (l : List (BitVec 8)) : Bool := okO l && inOK (okV l)
def pkV (l : List (BitVec 8)) : Pkt := if pkOK l then rawP (okV l) else pkt0
def pkR (l : List (BitVec 8)) : Int := if pkOK l then 0 else 2
theorem pk_yes {l : List (BitVec 8)} (h : pkOK l = true) : pkV l = rawP (okV l) ∧ pkR l = 0 := by simp [pkV, pkR, h]
theorem pk_not {l : List (BitVec 8)} (h : pkOK l = false) : pkV l = pkt0 ∧ pkR l = 2 := by simp [pkV, pkR, h]
theorem pk_go {l : List (BitVec 8)} (h : ((!okO l) = true ∨ (!doneP (okV l)) = true) ∨ pktEr (rawP (okV l)) ≠ 0) : pkOK l = false := by
 have e := er_ok (rawP (okV l))
 rw [pkOK, inOK]
 rcases h with (h | h) | h
 ·have : okO l = false := by simpa using h
  rw [this, Bool.false_and]
 ·have : doneP (okV l) = false := by simpa using h
  rw [this, Bool.false_and, Bool.and_false]
 ·rw [← e, decide_eq_false h]; simp
theorem pk_in {l : List (BitVec 8)} (h : ((!okO l) = false ∧ (!doneP (okV l)) = false) ∧ ¬ pktEr (rawP (okV l)) ≠ 0) : pkOK l = true := by
 have e := er_ok (rawP (okV l))
 rw [pkOK, inOK, ← e, decide_eq_true (Decidable.not_not.1 h.2), show okO l = true by simpa using h.1.1, show doneP (okV l) = true by simpa using h.1.2]; rfl
theorem good_rd (nv : Bool) (p : RS) {n : Nat} (h : okR nv n p) (hn : n ≤ 140737488355000) (k : Int) : Good Try.prog 34 [(.gp 0 0, false), (i64 k, false)] [[.sl 1 nv (bsl p.1), .b p.2]] [(.i .u64 (rv p k), false)] [[.sl 1 nv (bsl (rs p k).1), .b (rs p k).2]] :=
 O.good_NumR nv p.1 p.2 (Nat.le_trans h.1 hn) h.2 k
theorem good_rdE (nv : Bool) {i : List (BitVec 8)} (h : nv = true → i = []) (hn : i.length ≤ 140737488355000) (hk : kOf i = 2 ∨ kOf i = 3) : Good Try.prog 34 [(.gp 0 0, false), (i64 4, false)] [[.sl 1 nv (bsl (q5 i).1), .b (q5 i).2]] [(.i .u64 (epOf i), false)] [[.sl 1 nv (bsl (q6 i).1), .b (q6 i).2]] := by
 have g := good_rd nv (q5 i) (okR_q7 h).1 hn 4
 rw [epOf, q6, if_pos hk, if_pos hk]; exact g
theorem good_rdT (nv : Bool) {i : List (BitVec 8)} (h : nv = true → i = []) (hn : i.length ≤ 140737488355000) (hk : kOf i = 3) : Good Try.prog 34 [(.gp 0 0, false), (i64 4, false)] [[.sl 1 nv (bsl (q6 i).1), .b (q6 i).2]] [(.i .u64 (teOf i), false)] [[.sl 1 nv (bsl (q7 i).1), .b (q7 i).2]] := by
 have g := good_rd nv (q6 i) (okR_q7 h).2.1 hn 4
 rw [teOf, q7, if_pos hk, if_pos hk]; exact g
theorem good_rdN (nv : Bool) {i : List (BitVec 8)} (h : nv = true → i = []) (hn : i.length ≤ 140737488355000) (hk : ¬ kOf i = 3) : Good Try.prog 34 [(.gp 0 0, false), (i64 1, false)] [[.sl 1 nv (bsl (q6 i).1), .b (q6 i).2]] [(.i .u64 (nOf i), false)] [[.sl 1 nv (bsl (q7 i).1), .b (q7 i).2]] := by
 have g := good_rd nv (q6 i) (okR_q7 h).2.1 hn 1
 rw [nOf, q7, if_neg hk, if_neg hk]; exact g
theorem q6_no {i : List (BitVec 8)} (h : ¬ kOf i = 2 ∧ ¬ kOf i = 3) : q5 i = q6 i := by rw [q6, if_neg (by omega)]
theorem good_rdL (nv : Bool) (p : RS) {n : Nat} (h : okR nv n p) (hn : n ≤ 140737488355000) : Good Try.prog 35 [(.gp 0 0, false)] [[.sl 1 nv (bsl p.1), .b p.2]] [(lsaA (lV p), false), (.b (rdOK p.1 p.2), false)] [[.sl 1 nv (bsl (lR p).1), .b (lR p).2]] :=
 L.good_Read nv p.1 p.2 (Nat.le_trans h.1 hn) h.2
theorem good_r0 (nv : Bool) {i : List (BitVec 8)} (h : nv = true → i = []) (hn : i.length ≤ 140737488355000) : Good Try.prog 34 [(.gp 0 0, false), (i64 1, false)] [[.sl 1 nv (bsl i), .b false]] [(.i .u64 (kOf i), false)] [[.sl 1 nv (bsl (q1 i).1), .b (q1 i).2]] :=
 good_rd nv (i, false) ⟨Nat.le_refl _, h⟩ hn 1
theorem okR_q1 {nv : Bool} {i : List (BitVec 8)} (h : nv = true → i = []) : okR nv i.length (q1 i) := okR_rs ⟨Nat.le_refl _, h⟩ _
theorem good_r1 (nv : Bool) {i : List (BitVec 8)} (h : nv = true → i = []) (hn : i.length ≤ 140737488355000) : Good Try.prog 34 [(.gp 0 0, false), (i64 1, false)] [[.sl 1 nv (bsl (q1 i).1), .b (q1 i).2]] [(.i .u64 (rv (q1 i) 1), false)] [[.sl 1 nv (bsl (q2 i).1), .b (q2 i).2]] :=
 good_rd nv (q1 i) (okR_q1 h) hn 1
theorem good_r2 (nv : Bool) {i : List (BitVec 8)} (h : nv = true → i = []) (hn : i.length ≤ 140737488355000) : Good Try.prog 34 [(.gp 0 0, false), (i64 4, false)] [[.sl 1 nv (bsl (q2 i).1), .b (q2 i).2]] [(.i .u64 (rv (q2 i) 4), false)] [[.sl 1 nv (bsl (q3 i).1), .b (q3 i).2]] :=
 good_rd nv (q2 i) (okR_rs (okR_q1 h) _) hn 4
theorem good_r3 (nv : Bool) {i : List (BitVec 8)} (h : nv = true → i = []) (hn : i.length ≤ 140737488355000) : Good Try.prog 34 [(.gp 0 0, false), (i64 1, false)] [[.sl 1 nv (bsl (q3 i).1), .b (q3 i).2]] [(.i .u64 (rv (q3 i) 1), false)] [[.sl 1 nv (bsl (q4 i).1), .b (q4 i).2]] :=
 good_rd nv (q3 i) (okR_rs (okR_rs (okR_q1 h) _) _) hn 1
theorem good_r4 (nv : Bool) {i : List (BitVec 8)} (h : nv = true → i = []) (hn : i.length ≤ 140737488355000) : Good Try.prog 34 [(.gp 0 0, false), (i64 4, false)] [[.sl 1 nv (bsl (q4 i).1), .b (q4 i).2]] [(.i .u64 (rv (q4 i) 4), false)] [[.sl 1 nv (bsl (q5 i).1), .b (q5 i).2]] :=
 good_rd nv (q4 i) (okR_rs (okR_rs (okR_rs (okR_q1 h) _) _) _) hn 4
theorem loop_s1 {kind : Int} (h : kind = 1) (p : RS) (k : Nat) : loopP kind p (k + 1) = ⟨(loopP kind p k).hs ++ [hearP (loopP kind p k).p], (loopP kind p k).xs, (loopP kind p k).ls, rs (rs (loopP kind p k).p 1) 4⟩ := by rw [loopP, step_1 h]
theorem loop_s2 {kind : Int} (h : kind = 2 ∨ kind = 5) (p : RS) (k : Nat) : loopP kind p (k + 1) = ⟨(loopP kind p k).hs, (loopP kind p k).xs ++ [itemP (loopP kind p k).p], (loopP kind p k).ls, rs (rs (loopP kind p k).p 1) 8⟩ := by rw [loopP, step_2 h]
theorem loop_s4 {kind : Int} (h : kind = 4) (p : RS) (k : Nat) : loopP kind p (k + 1) = ⟨(loopP kind p k).hs, (loopP kind p k).xs, (loopP kind p k).ls ++ [lV (loopP kind p k).p], lR (loopP kind p k).p⟩ := by rw [loopP, step_4 h]
theorem loop_s0 {kind : Int} (h : ¬ (kind = 1) ∧ ¬ (kind = 2 ∨ kind = 5) ∧ ¬ kind = 4) (p : RS) (k : Nat) : loopP kind p (k + 1) = loopP kind p k := by rw [loopP, step_0 h]
theorem pk_goI {l i : List (BitVec 8)} (hi : i = okV l) (h : ((!okO l) = true ∨ (!doneP i) = true) ∨ pktEr (rawP i) ≠ 0) : pkOK l = false := by subst hi; exact pk_go h
theorem pk_inI {l i : List (BitVec 8)} (hi : i = okV l) (h : ((!okO l) = false ∧ (!doneP i) = false) ∧ ¬ pktEr (rawP i) ≠ 0) : pkOK l = true := by subst hi; exact pk_in h
end Go.Vai.P
