import Derived.Test.YtblgcekomnnfmaaPktPl
set_option linter.unusedSimpArgs false
set_option linter.unusedVariables false
namespace Go.Vai.P
open Go.Vai.O Go.Vai.L Go.Vai.G
abbrev RS := List (BitVec 8) × Bool
def rs (p : RS) (k : Int) : RS := (rnL p.1 p.2 k, rnW p.1 p.2 k)
def rv (p : RS) (k : Int) : Int := rnV p.1 p.2 k
theorem rs_cons {p : RS} {k : Int} (hk : 1 ≤ k ∧ k ≤ 8) (h : (rs p k).2 = false) : p.2 = false ∧ p.1 = numR (rv p k) k.toNat ++ (rs p k).1 := rn_cons hk h
theorem rs1 {n : Int} (h : 0 ≤ n ∧ n < 256) (r : List (BitVec 8)) : rv (numR n 1 ++ r, false) 1 = n ∧ rs (numR n 1 ++ r, false) 1 = (r, false) := by
 obtain ⟨e1, e2, e3⟩ := back1 h r
 exact ⟨e1, Prod.ext e2 e3⟩
theorem rs4 {n : Int} (h : 0 ≤ n ∧ n < 4294967296) (r : List (BitVec 8)) : rv (numR n 4 ++ r, false) 4 = n ∧ rs (numR n 4 ++ r, false) 4 = (r, false) := by
 obtain ⟨e1, e2, e3⟩ := back4 h r
 exact ⟨e1, Prod.ext e2 e3⟩
theorem rs8 {n : Int} (h : 0 ≤ n ∧ n < 18446744073709551616) (r : List (BitVec 8)) : rv (numR n 8 ++ r, false) 8 = n ∧ rs (numR n 8 ++ r, false) 8 = (r, false) := by
 obtain ⟨e1, e2, e3⟩ := back8 h r
 exact ⟨e1, Prod.ext e2 e3⟩
def lR (p : RS) : RS := (rdR p.1 p.2, rdW p.1 p.2)
def lV (p : RS) : Lsa := rdL p.1 p.2
structure St where
 hs : List LinkS
 xs : List LinkS
 ls : List Lsa
 p : RS
def hearP (p : RS) : LinkS := ⟨rv p 1, rv (rs p 1) 4⟩
def itemP (p : RS) : LinkS := ⟨rv p 1, IntKind.i64.wrap (rv (rs p 1) 8)⟩
def stepP (kind : Int) (s : St) : St :=
 if kind = 1 then ⟨s.hs ++ [hearP s.p], s.xs, s.ls, rs (rs s.p 1) 4⟩
 else if kind = 2 ∨ kind = 5 then ⟨s.hs, s.xs ++ [itemP s.p], s.ls, rs (rs s.p 1) 8⟩
 else if kind = 4 then ⟨s.hs, s.xs, s.ls ++ [lV s.p], lR s.p⟩
 else s
def loopP (kind : Int) (p : RS) : Nat → St
 | 0 => ⟨[], [], [], p⟩
 | k + 1 => stepP kind (loopP kind p k)
theorem step_1 {kind : Int} (h : kind = 1) (s : St) : stepP kind s = ⟨s.hs ++ [hearP s.p], s.xs, s.ls, rs (rs s.p 1) 4⟩ := if_pos h
theorem step_2 {kind : Int} (h : kind = 2 ∨ kind = 5) (s : St) : stepP kind s = ⟨s.hs, s.xs ++ [itemP s.p], s.ls, rs (rs s.p 1) 8⟩ := by
 rw [stepP, if_neg (by omega), if_pos h]
theorem step_4 {kind : Int} (h : kind = 4) (s : St) : stepP kind s = ⟨s.hs, s.xs, s.ls ++ [lV s.p], lR s.p⟩ := by
 rw [stepP, if_neg (by omega), if_neg (by omega), if_pos h]
theorem step_0 {kind : Int} (h : ¬ (kind = 1) ∧ ¬ (kind = 2 ∨ kind = 5) ∧ ¬ kind = 4) (s : St) : stepP kind s = s := by
 rw [stepP, if_neg h.1, if_neg h.2.1, if_neg h.2.2]
theorem loop1_cons {kind : Int} (hk : kind = 1) {p : RS} : ∀ n, ((loopP kind p n).p.2 = false → p.2 = false ∧ p.1 = linksB (loopP kind p n).hs ++ (loopP kind p n).p.1) ∧ (loopP kind p n).hs.length = n ∧ (loopP kind p n).xs = [] ∧ (loopP kind p n).ls = []
 | 0 => ⟨fun h => ⟨h, rfl⟩, rfl, rfl, rfl⟩
 | n + 1 => by
  obtain ⟨i1, i2, i3, i4⟩ := loop1_cons hk (p := p) n
  rw [loopP, step_1 hk]
  refine ⟨fun h => ?_, by simp [i2], i3, i4⟩
  obtain ⟨j1, j2⟩ := rs_cons (k := 4) (by omega) h
  obtain ⟨k1, k2⟩ := rs_cons (k := 1) (by omega) j1
  obtain ⟨m1, m2⟩ := i1 k1
  refine ⟨m1, ?_⟩
  rw [m2, k2, j2]
  simp only [linksB, List.flatMap_append, List.flatMap_cons, List.flatMap_nil, List.append_nil, linkB, hearP, List.append_assoc]
  rfl
theorem loop2_cons {kind : Int} (hk : kind = 2 ∨ kind = 5) {p : RS} : ∀ n, ((loopP kind p n).p.2 = false → p.2 = false ∧ p.1 = itemsB (loopP kind p n).xs ++ (loopP kind p n).p.1) ∧ (loopP kind p n).xs.length = n ∧ (loopP kind p n).hs = [] ∧ (loopP kind p n).ls = []
 | 0 => ⟨fun h => ⟨h, rfl⟩, rfl, rfl, rfl⟩
 | n + 1 => by
  obtain ⟨i1, i2, i3, i4⟩ := loop2_cons hk (p := p) n
  rw [loopP, step_2 hk]
  refine ⟨fun h => ?_, by simp [i2], i3, i4⟩
  obtain ⟨j1, j2⟩ := rs_cons (k := 8) (by omega) h
  obtain ⟨k1, k2⟩ := rs_cons (k := 1) (by omega) j1
  obtain ⟨m1, m2⟩ := i1 k1
  refine ⟨m1, ?_⟩
  rw [m2, k2, j2]
  simp only [itemsB, List.flatMap_append, List.flatMap_cons, List.flatMap_nil, List.append_nil, itemB, itemP, List.append_assoc, numR_wrap]
  rfl
theorem lsa0_no : lsaOK lsa0 = false := by decide
theorem lV_ok {p : RS} (h : lsaOK (lV p) = true) : p.2 = false ∧ p.1 = lsaB (lV p) ++ (lR p).1 := by
 cases e : rdOK p.1 p.2 with
 | true =>
  obtain ⟨h1, h2, _, _⟩ := rd_cons e
  exact ⟨h1, h2⟩
 | false =>
  have : lV p = lsa0 := by rw [lV, rdL, e]; rfl
  rw [this, lsa0_no] at h; cases h
theorem loop4_cons {kind : Int} (hk : kind = 4) {p : RS} : ∀ n, ((loopP kind p n).p.2 = false → (∀ x ∈ (loopP kind p n).ls, lsaOK x = true) → p.2 = false ∧ p.1 = lsasB (loopP kind p n).ls ++ (loopP kind p n).p.1) ∧ (loopP kind p n).ls.length = n ∧ (loopP kind p n).hs = [] ∧ (loopP kind p n).xs = []
 | 0 => ⟨fun h _ => ⟨h, rfl⟩, rfl, rfl, rfl⟩
 | n + 1 => by
  obtain ⟨i1, i2, i3, i4⟩ := loop4_cons hk (p := p) n
  rw [loopP, step_4 hk]
  refine ⟨fun h ho => ?_, by simp [i2], i3, i4⟩
  obtain ⟨j1, j2⟩ := lV_ok (ho (lV (loopP kind p n).p) (by simp))
  obtain ⟨m1, m2⟩ := i1 j1 fun x hx => ho x (by simp [hx])
  refine ⟨m1, ?_⟩
  rw [m2, j2]
  simp only [lsasB, List.flatMap_append, List.flatMap_cons, List.flatMap_nil, List.append_nil, List.append_assoc]
def kOf (i : List (BitVec 8)) : Int := rv (i, false) 1
def q1 (i : List (BitVec 8)) : RS := rs (i, false) 1
def q2 (i : List (BitVec 8)) : RS := rs (q1 i) 1
def q3 (i : List (BitVec 8)) : RS := rs (q2 i) 4
def q4 (i : List (BitVec 8)) : RS := rs (q3 i) 1
def q5 (i : List (BitVec 8)) : RS := rs (q4 i) 4
def q6 (i : List (BitVec 8)) : RS := if kOf i = 2 ∨ kOf i = 3 then rs (q5 i) 4 else q5 i
def epOf (i : List (BitVec 8)) : Int := if kOf i = 2 ∨ kOf i = 3 then rv (q5 i) 4 else 0
def q7 (i : List (BitVec 8)) : RS := if kOf i = 3 then rs (q6 i) 4 else rs (q6 i) 1
def teOf (i : List (BitVec 8)) : Int := if kOf i = 3 then rv (q6 i) 4 else 0
def nOf (i : List (BitVec 8)) : Int := if kOf i = 3 then 0 else rv (q6 i) 1
def endP (i : List (BitVec 8)) : St := loopP (kOf i) (q7 i) (nOf i).toNat
def mkP (k fr boot to tb ep te : Int) (hs xs : List LinkS) (ls : List Lsa) : Pkt := ⟨k, fr, boot, to, tb, ep, te, hs.isEmpty, hs, xs.isEmpty, xs, ls.isEmpty, ls⟩
def rawP (i : List (BitVec 8)) : Pkt := mkP (kOf i) (rv (q1 i) 1) (rv (q2 i) 4) (rv (q3 i) 1) (rv (q4 i) 4) (epOf i) (teOf i) (endP i).hs (endP i).xs (endP i).ls
def doneP (i : List (BitVec 8)) : Bool := !(endP i).p.2 && decide ((((endP i).p.1.length : Nat) : Int) = 0)
def inOK (i : List (BitVec 8)) : Bool := doneP i && pktOK (rawP i)
theorem rv_nn (p : RS) (k : Int) : 0 ≤ rv p k := (rnV_range _ _ k).1
theorem in_cons {i : List (BitVec 8)} (h : inOK i = true) : i = pktB (rawP i) := by
 simp only [inOK, doneP, Bool.and_eq_true, Bool.not_eq_true', decide_eq_true_eq] at h
 obtain ⟨⟨h1, h2⟩, h3⟩ := h
 have h2 : (endP i).p.1 = [] := List.eq_nil_of_length_eq_zero (by omega)
 have h4 := h3
 simp only [pktOK, Bool.and_eq_true] at h4
 obtain ⟨h6, h7⟩ : (q7 i).2 = false ∧ (q7 i).1 = linksB (endP i).hs ++ (itemsB (endP i).xs ++ lsasB (endP i).ls) ∧ True := by
  rcases pk_kind h4.2.2 with ⟨hk, h8, h9, h10⟩ | ⟨hk, h8, h9, h10⟩ | ⟨hk, h8, h9, h10⟩ | ⟨hk, h8, h9, h10⟩
  ·obtain ⟨i1, i2, i3, i4⟩ := loop1_cons (kind := kOf i) hk (p := q7 i) (nOf i).toNat
   obtain ⟨j1, j2⟩ := i1 h1
   refine ⟨j1, ?_, trivial⟩
   rw [j2, endP, i3, i4]
   rw [endP] at h2
   rw [h2]; rfl
  ·obtain ⟨i1, i2, i3, i4⟩ := loop2_cons (kind := kOf i) hk (p := q7 i) (nOf i).toNat
   obtain ⟨j1, j2⟩ := i1 h1
   refine ⟨j1, ?_, trivial⟩
   rw [j2, endP, i3, i4]
   rw [endP] at h2
   rw [h2]; rfl
  ·have e : nOf i = 0 := if_pos hk
   have e2 : endP i = ⟨[], [], [], q7 i⟩ := by rw [endP, e]; rfl
   rw [e2] at h1 h2 ⊢
   exact ⟨h1, h2, trivial⟩
  ·obtain ⟨i1, i2, i3, i4⟩ := loop4_cons (kind := kOf i) hk (p := q7 i) (nOf i).toNat
   have hls : ∀ x ∈ (endP i).ls, lsaOK x = true := (pk_len h3).2.2.2.2.1
   obtain ⟨j1, j2⟩ := i1 h1 hls
   refine ⟨j1, ?_, trivial⟩
   rw [j2, endP, i3, i4]
   rw [endP] at h2
   rw [h2, List.append_nil]; rfl
 have h7 := h7.1
 have hc : ¬ kOf i = 3 → nOf i = cntOf (rawP i) := fun hk3 => by
  have hn : 0 ≤ nOf i := by rw [nOf, if_neg hk3]; exact rv_nn _ _
  show nOf i = ((endP i).hs.length : Int) + (endP i).xs.length + (endP i).ls.length
  rcases pk_kind h4.2.2 with ⟨hk, _⟩ | ⟨hk, _⟩ | ⟨hk, _⟩ | ⟨hk, _⟩
  ·obtain ⟨_, i2, i3, i4⟩ := loop1_cons (kind := kOf i) hk (p := q7 i) (nOf i).toNat
   rw [endP, i2, i3, i4]; simp; omega
  ·obtain ⟨_, i2, i3, i4⟩ := loop2_cons (kind := kOf i) hk (p := q7 i) (nOf i).toNat
   rw [endP, i2, i3, i4]; simp; omega
  ·exact absurd hk hk3
  ·obtain ⟨_, i2, i3, i4⟩ := loop4_cons (kind := kOf i) hk (p := q7 i) (nOf i).toNat
   rw [endP, i2, i3, i4]; simp; omega
 obtain ⟨f6, e6⟩ : (q6 i).2 = false ∧ (q6 i).1 = teB (rawP i) ++ (cnB (rawP i) ++ (q7 i).1) := by
  by_cases hk : kOf i = 3
  ·have e7 : q7 i = rs (q6 i) 4 := if_pos hk
   rw [e7] at h6
   obtain ⟨a1, a2⟩ := rs_cons (k := 4) (by omega) h6
   refine ⟨a1, ?_⟩
   have t1 : teB (rawP i) = numR (rv (q6 i) 4) 4 := by
    rw [teB, if_pos (show (rawP i).kind = 3 from hk)]
    show numR (teOf i) 4 = _
    rw [teOf, if_pos hk]
   have t2 : cnB (rawP i) = [] := if_pos hk
   rw [t1, t2, e7, List.nil_append]; exact a2
  ·have e7 : q7 i = rs (q6 i) 1 := if_neg hk
   rw [e7] at h6
   obtain ⟨a1, a2⟩ := rs_cons (k := 1) (by omega) h6
   refine ⟨a1, ?_⟩
   have t1 : teB (rawP i) = [] := if_neg hk
   have t2 : cnB (rawP i) = numR (rv (q6 i) 1) 1 := by
    rw [cnB, if_neg (show ¬ (rawP i).kind = 3 from hk), ← hc hk, nOf, if_neg hk]
   rw [t1, t2, e7, List.nil_append]; exact a2
 obtain ⟨f5, e5⟩ : (q5 i).2 = false ∧ (q5 i).1 = epB (rawP i) ++ (q6 i).1 := by
  by_cases hk : kOf i = 2 ∨ kOf i = 3
  ·have e7 : q6 i = rs (q5 i) 4 := if_pos hk
   rw [e7] at f6
   obtain ⟨a1, a2⟩ := rs_cons (k := 4) (by omega) f6
   refine ⟨a1, ?_⟩
   have t1 : epB (rawP i) = numR (rv (q5 i) 4) 4 := by
    rw [epB, if_pos (show (rawP i).kind = 2 ∨ (rawP i).kind = 3 from hk)]
    show numR (epOf i) 4 = _
    rw [epOf, if_pos hk]
   rw [t1, e7]; exact a2
  ·have e7 : q6 i = q5 i := if_neg hk
   have t1 : epB (rawP i) = [] := if_neg hk
   rw [e7] at f6
   exact ⟨f6, by rw [t1, e7, List.nil_append]⟩
 obtain ⟨f4, e4⟩ := rs_cons (k := 4) (by omega) f5
 obtain ⟨f3, e3⟩ := rs_cons (k := 1) (by omega) f4
 obtain ⟨f2, e2⟩ := rs_cons (k := 4) (by omega) f3
 obtain ⟨f1, e1⟩ := rs_cons (k := 1) (by omega) f2
 obtain ⟨_, e0⟩ := rs_cons (p := (i, false)) (k := 1) (by omega) f1
 have e0 : i = numR (kOf i) 1 ++ (q1 i).1 := e0
 have e1 : (q1 i).1 = numR (rv (q1 i) 1) 1 ++ (q2 i).1 := e1
 have e2 : (q2 i).1 = numR (rv (q2 i) 4) 4 ++ (q3 i).1 := e2
 have e3 : (q3 i).1 = numR (rv (q3 i) 1) 1 ++ (q4 i).1 := e3
 have e4 : (q4 i).1 = numR (rv (q4 i) 4) 4 ++ (q5 i).1 := e4
 have hh : headB (rawP i) = numR (kOf i) 1 ++ (numR (rv (q1 i) 1) 1 ++ (numR (rv (q2 i) 4) 4 ++ (numR (rv (q3 i) 1) 1 ++ numR (rv (q4 i) 4) 4))) := rfl
 have hb : linksB (rawP i).hs ++ (itemsB (rawP i).xs ++ lsasB (rawP i).ls) = (q7 i).1 := h7.symm
 have goal : i = headB (rawP i) ++ (q5 i).1 := by
  rw [hh]; simp only [List.append_assoc]
  rw [← e4, ← e3, ← e2, ← e1]; exact e0
 rw [pktB, hb, topB, List.append_assoc, List.append_assoc, List.append_assoc, ← e6, ← e5]
 exact goal
theorem itemsB_drop {ls : List LinkS} {k : Nat} (h : k < ls.length) (r : List (BitVec 8)) : itemsB (ls.drop k) ++ r = numR ls[k].to 1 ++ (numR ls[k].co 8 ++ (itemsB (ls.drop (k + 1)) ++ r)) := by
 rw [List.drop_eq_getElem_cons h]
 simp only [itemsB, List.flatMap_cons, itemB, List.append_assoc]
theorem lsasB_drop {ls : List Lsa} {k : Nat} (h : k < ls.length) (r : List (BitVec 8)) : lsasB (ls.drop k) ++ r = lsaB ls[k] ++ (lsasB (ls.drop (k + 1)) ++ r) := by
 rw [List.drop_eq_getElem_cons h]
 simp only [lsasB, List.flatMap_cons, List.append_assoc]
def nrmL (x : Lsa) : Lsa := ⟨x.o, x.s, x.ls.isEmpty, x.ls⟩
def nrmLs (l : List Lsa) : List Lsa := l.map nrmL
theorem loop1_back {kind : Int} (hk : kind = 1) {hs : List LinkS} (h : ∀ x ∈ hs, (1 ≤ x.to ∧ x.to ≤ 64) ∧ (1 ≤ x.co ∧ x.co ≤ 1073741824)) (r : List (BitVec 8)) : ∀ k, k ≤ hs.length → loopP kind (linksB hs ++ r, false) k = ⟨hs.take k, [], [], (linksB (hs.drop k) ++ r, false)⟩
 | 0, _ => by simp [loopP]
 | k + 1, hk2 => by
  have hb := h _ (List.getElem_mem (show k < hs.length by omega))
  rw [loopP, loop1_back hk h r k (by omega), step_1 hk, linksB_drop (by omega)]
  obtain ⟨a1, a2⟩ := rs1 (n := (hs[k]'(by omega)).to) (by omega) (numR (hs[k]'(by omega)).co 4 ++ (linksB (hs.drop (k + 1)) ++ r))
  obtain ⟨b1, b2⟩ := rs4 (n := (hs[k]'(by omega)).co) (by omega) (linksB (hs.drop (k + 1)) ++ r)
  simp only [hearP, a1, a2, b1, b2]
  rw [List.take_succ_eq_append_getElem (show k < hs.length by omega)]
theorem loop2_back {kind : Int} (hk : kind = 2 ∨ kind = 5) {hs : List LinkS} (h : ∀ x ∈ hs, (1 ≤ x.to ∧ x.to ≤ 64) ∧ (1 ≤ x.co ∧ x.co ≤ 4611686018427387904)) (r : List (BitVec 8)) : ∀ k, k ≤ hs.length → loopP kind (itemsB hs ++ r, false) k = ⟨[], hs.take k, [], (itemsB (hs.drop k) ++ r, false)⟩
 | 0, _ => by simp [loopP]
 | k + 1, hk2 => by
  have hb := h _ (List.getElem_mem (show k < hs.length by omega))
  rw [loopP, loop2_back hk h r k (by omega), step_2 hk, itemsB_drop (by omega)]
  obtain ⟨a1, a2⟩ := rs1 (n := (hs[k]'(by omega)).to) (by omega) (numR (hs[k]'(by omega)).co 8 ++ (itemsB (hs.drop (k + 1)) ++ r))
  obtain ⟨b1, b2⟩ := rs8 (n := (hs[k]'(by omega)).co) (by omega) (itemsB (hs.drop (k + 1)) ++ r)
  simp only [itemP, a1, a2, b1, b2, wrap_seq hb.2]
  rw [List.take_succ_eq_append_getElem (show k < hs.length by omega)]
theorem loop4_back {kind : Int} (hk : kind = 4) {hs : List Lsa} (h : ∀ x ∈ hs, lsaOK x = true) (r : List (BitVec 8)) : ∀ k, k ≤ hs.length → loopP kind (lsasB hs ++ r, false) k = ⟨[], [], nrmLs (hs.take k), (lsasB (hs.drop k) ++ r, false)⟩
 | 0, _ => by simp [loopP, nrmLs]
 | k + 1, hk2 => by
  have hb := h _ (List.getElem_mem (show k < hs.length by omega))
  rw [loopP, loop4_back hk h r k (by omega), step_4 hk, lsasB_drop (by omega)]
  obtain ⟨e1, e2, e3, e4⟩ := rd_backs hb (lsasB (hs.drop (k + 1)) ++ r)
  have a1 : lV (lsaB (hs[k]'(by omega)) ++ (lsasB (hs.drop (k + 1)) ++ r), false) = nrmL (hs[k]'(by omega)) := e1
  have a2 : lR (lsaB (hs[k]'(by omega)) ++ (lsasB (hs.drop (k + 1)) ++ r), false) = (lsasB (hs.drop (k + 1)) ++ r, false) := Prod.ext e3 e4
  simp only [a1, a2]
  rw [List.take_succ_eq_append_getElem (show k < hs.length by omega), nrmLs, nrmLs, List.map_append]; rfl
def normP (p : Pkt) : Pkt := mkP p.kind p.fr p.boot p.to p.tb p.ep p.te p.hs p.xs (nrmLs p.ls)
theorem nrm_len (l : List Lsa) : (nrmLs l).length = l.length := List.length_map ..
theorem nrm_ok : ∀ (l : List Lsa) (last : Int), lsasOK last (nrmLs l) = lsasOK last l
 | [], _ => rfl
 | x :: r, last => by
  show ((lsaOK (nrmL x) && decide (last < (nrmL x).o)) && lsasOK (nrmL x).o (nrmLs r)) = _
  rw [nrm_ok r]; rfl
theorem norm_ok (p : Pkt) : pktOK (normP p) = pktOK p := by
 have h1 : lsasM (nrmLs p.ls) = lsasM p.ls := by rw [lsasM, lsasM, nrm_ok, nrm_len]
 have h2 : none0 (nrmLs p.ls) = none0 p.ls := by rw [none0, none0, nrm_len]
 have h3 : pkL (normP p) = pkL p := by
  unfold pkL
  show (if p.kind = 1 then heardOK p.hs && (none0 p.xs && none0 (nrmLs p.ls)) else if p.kind = 2 ∨ p.kind = 5 then none0 p.hs && (itemsOK p.xs && none0 (nrmLs p.ls)) else if p.kind = 3 then none0 p.hs && (none0 p.xs && none0 (nrmLs p.ls)) else if p.kind = 4 then none0 p.hs && (none0 p.xs && lsasM (nrmLs p.ls)) else false) = _
  rw [h1, h2]
 rw [pktOK, pktOK, h3]; rfl
theorem pk_back {p : Pkt} (h : pktOK p = true) : rawP (pktB p) = normP p ∧ inOK (pktB p) = true := by
 obtain ⟨c1, c2, c3, c4, c5, c6, c7⟩ := pk_bd h
 obtain ⟨d1, d2, d3, d4, d5, d6, d7⟩ := pk_len h
 have h4 := h
 simp only [pktOK, Bool.and_eq_true] at h4
 obtain ⟨body, hbody⟩ : ∃ body, body = linksB p.hs ++ (itemsB p.xs ++ lsasB p.ls) := ⟨_, rfl⟩
 obtain ⟨i, hi⟩ : ∃ i, i = pktB p := ⟨_, rfl⟩
 have hi2 : i = numR p.kind 1 ++ (numR p.fr 1 ++ (numR p.boot 4 ++ (numR p.to 1 ++ (numR p.tb 4 ++ (epB p ++ (teB p ++ (cnB p ++ body))))))) := by
  rw [hi, pktB, topB, headB, ← hbody]; simp only [List.append_assoc]
 rw [← hi]
 obtain ⟨v0, e0⟩ := rs1 (n := p.kind) (by omega) (numR p.fr 1 ++ (numR p.boot 4 ++ (numR p.to 1 ++ (numR p.tb 4 ++ (epB p ++ (teB p ++ (cnB p ++ body)))))))
 obtain ⟨v1, e1⟩ := rs1 (n := p.fr) (by omega) (numR p.boot 4 ++ (numR p.to 1 ++ (numR p.tb 4 ++ (epB p ++ (teB p ++ (cnB p ++ body))))))
 obtain ⟨v2, e2⟩ := rs4 (n := p.boot) (by omega) (numR p.to 1 ++ (numR p.tb 4 ++ (epB p ++ (teB p ++ (cnB p ++ body)))))
 obtain ⟨v3, e3⟩ := rs1 (n := p.to) (by omega) (numR p.tb 4 ++ (epB p ++ (teB p ++ (cnB p ++ body))))
 obtain ⟨v4, e4⟩ := rs4 (n := p.tb) (by omega) (epB p ++ (teB p ++ (cnB p ++ body)))
 have w0 : kOf i = p.kind := by rw [kOf, hi2]; exact v0
 have g1 : q1 i = (numR p.fr 1 ++ (numR p.boot 4 ++ (numR p.to 1 ++ (numR p.tb 4 ++ (epB p ++ (teB p ++ (cnB p ++ body)))))), false) := by rw [q1, hi2]; exact e0
 have g2 : q2 i = (numR p.boot 4 ++ (numR p.to 1 ++ (numR p.tb 4 ++ (epB p ++ (teB p ++ (cnB p ++ body))))), false) := by rw [q2, g1]; exact e1
 have g3 : q3 i = (numR p.to 1 ++ (numR p.tb 4 ++ (epB p ++ (teB p ++ (cnB p ++ body)))), false) := by rw [q3, g2]; exact e2
 have g4 : q4 i = (numR p.tb 4 ++ (epB p ++ (teB p ++ (cnB p ++ body))), false) := by rw [q4, g3]; exact e3
 have g5 : q5 i = (epB p ++ (teB p ++ (cnB p ++ body)), false) := by rw [q5, g4]; exact e4
 obtain ⟨w5, g6⟩ : epOf i = p.ep ∧ q6 i = (teB p ++ (cnB p ++ body), false) := by
  by_cases hk : p.kind = 2 ∨ p.kind = 3
  ·have t1 : epB p = numR p.ep 4 := if_pos hk
   obtain ⟨a1, a2⟩ := rs4 (n := p.ep) (by omega) (teB p ++ (cnB p ++ body))
   rw [epOf, q6, w0, if_pos hk, if_pos hk, g5, t1]
   exact ⟨a1, a2⟩
  ·have t1 : epB p = [] := if_neg hk
   rw [epOf, q6, w0, if_neg hk, if_neg hk, g5, t1]
   refine ⟨?_, rfl⟩
   have h6 := h4.2.1
   rw [pkE, if_neg (by omega), if_neg (by omega)] at h6
   simp only [Bool.and_eq_true, decide_eq_true_eq] at h6
   exact h6.1.symm
 obtain ⟨w6, g7, w7⟩ : teOf i = p.te ∧ q7 i = (body, false) ∧ nOf i = (if p.kind = 3 then 0 else cntOf p) := by
  by_cases hk : p.kind = 3
  ·have t1 : teB p = numR p.te 4 := if_pos hk
   have t2 : cnB p = [] := if_pos hk
   obtain ⟨a1, a2⟩ := rs4 (n := p.te) (by omega) body
   rw [teOf, q7, nOf, w0, if_pos hk, if_pos hk, if_pos hk, if_pos hk, g6, t1, t2]
   exact ⟨a1, a2, rfl⟩
  ·have t1 : teB p = [] := if_neg hk
   have t2 : cnB p = numR (cntOf p) 1 := if_neg hk
   obtain ⟨a1, a2⟩ := rs1 (n := cntOf p) (by omega) body
   rw [teOf, q7, nOf, w0, if_neg hk, if_neg hk, if_neg hk, if_neg hk, g6, t1, t2]
   refine ⟨?_, a2, a1⟩
   have h6 := h4.2.1
   rw [pkE] at h6
   by_cases hk2 : p.kind = 2
   ·rw [if_pos hk2] at h6
    simp only [Bool.and_eq_true, decide_eq_true_eq] at h6
    exact h6.2.symm
   ·rw [if_neg hk2, if_neg hk] at h6
    simp only [Bool.and_eq_true, decide_eq_true_eq] at h6
    exact h6.2.symm
 have he : endP i = ⟨p.hs, p.xs, nrmLs p.ls, ([], false)⟩ := by
  rw [endP, w0, g7, w7, hbody]
  rcases pk_kind h4.2.2 with ⟨hk, h8, h9, h10⟩ | ⟨hk, h8, h9, h10⟩ | ⟨hk, h8, h9, h10⟩ | ⟨hk, h8, h9, h10⟩
  ·have := loop1_back hk d6 [] p.hs.length (Nat.le_refl _)
   rw [List.take_length, List.drop_length] at this
   rw [if_neg (by omega), cntOf, h9, h10]
   simpa [itemsB, lsasB, linksB, nrmLs] using this
  ·have := loop2_back hk d7 [] p.xs.length (Nat.le_refl _)
   rw [List.take_length, List.drop_length] at this
   rw [if_neg (by omega), cntOf, h8, h10]
   simpa [itemsB, lsasB, linksB, nrmLs] using this
  ·rw [if_pos hk, h8, h9, h10]; rfl
  ·have := loop4_back hk d5 [] p.ls.length (Nat.le_refl _)
   rw [List.take_length, List.drop_length] at this
   rw [if_neg (by omega), cntOf, h8, h9]
   simpa [itemsB, lsasB, linksB, nrmLs] using this
 have hr : rawP i = normP p := by
  rw [rawP, he, w0, g1, g2, g3, g4, v1, v2, v3, v4, w5, w6]; rfl
 refine ⟨hr, ?_⟩
 rw [inOK, hr, norm_ok, h, doneP, he]; rfl
end Go.Vai.P
