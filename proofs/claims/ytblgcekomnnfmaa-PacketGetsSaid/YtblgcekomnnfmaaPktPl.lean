import Derived.Test.YtblgcekomnnfmaaRdPl
set_option linter.unusedSimpArgs false
set_option linter.unusedVariables false
namespace Go.Vai.P
open Go.Vai.O Go.Vai.L Go.Vai.G
structure Pkt where
 kind : Int
 fr : Int
 boot : Int
 to : Int
 tb : Int
 ep : Int
 te : Int
 hn : Bool
 hs : List LinkS
 xn : Bool
 xs : List LinkS
 ln : Bool
 ls : List Lsa
theorem cellsOf_lsa (x : Lsa) : cellsOf (lsaA x) = [.i .i64 x.o, .i .i64 x.s, .sl 2 x.nil (x.ls.map linkA)] := rfl
@[simp] theorem noPtr_lsa (x : Lsa) : noPtr (lsaA x) = true := by simp [lsaA, noPtr, noPtrL, noPtrL_links]
@[simp] theorem noPtrL_lsas (l : List Lsa) : noPtrL (l.map lsaA) = true := noPtrL_map noPtr_lsa _
def pktA (p : Pkt) : AV := .agg [.i .i64 p.kind, .i .i64 p.fr, .i .i64 p.boot, .i .i64 p.to, .i .i64 p.tb, .i .i64 p.ep, .i .i64 p.te, .sl 2 p.hn (p.hs.map linkA), .sl 2 p.xn (p.xs.map linkA), .sl 3 p.ln (p.ls.map lsaA)]
theorem cellsOf_pkt (p : Pkt) : cellsOf (pktA p) = [.i .i64 p.kind, .i .i64 p.fr, .i .i64 p.boot, .i .i64 p.to, .i .i64 p.tb, .i .i64 p.ep, .i .i64 p.te, .sl 2 p.hn (p.hs.map linkA), .sl 2 p.xn (p.xs.map linkA), .sl 3 p.ln (p.ls.map lsaA)] := rfl
@[simp] theorem noPtr_pkt (p : Pkt) : noPtr (pktA p) = true := by simp [pktA, noPtr, noPtrL, noPtrL_links]
def pkt0 : Pkt := ⟨0, 0, 0, 0, 0, 0, 0, true, [], true, [], true, []⟩
def pairOK (most last : Int) (x : LinkS) : Bool := decide (last < x.to) && (decide (x.to ≤ 64) && wi x.co 1 most)
def chain (most : Int) : Int → List LinkS → Bool
 | _, [] => true
 | last, x :: r => pairOK most last x && chain most x.to r
def lsasOK : Int → List Lsa → Bool
 | _, [] => true
 | last, x :: r => (lsaOK x && decide (last < x.o)) && lsasOK x.o r
instance : Inhabited Lsa := ⟨lsa0⟩
def lastL (ls : List Lsa) (k : Nat) : Int := if k = 0 then 0 else (ls.getD ((k : Int) - 1).toNat default).o
theorem chain_drop {most last : Int} {ls : List LinkS} {k : Nat} (h : k < ls.length) : chain most last (ls.drop k) = (pairOK most last ls[k] && chain most ls[k].to (ls.drop (k + 1))) := by
 rw [List.drop_eq_getElem_cons h]; rfl
theorem chain_end {most last : Int} {ls : List LinkS} : chain most last (ls.drop ls.length) = true := by simp [chain]
theorem lsas_drop {last : Int} {ls : List Lsa} {k : Nat} (h : k < ls.length) : lsasOK last (ls.drop k) = ((lsaOK ls[k] && decide (last < ls[k].o)) && lsasOK ls[k].o (ls.drop (k + 1))) := by
 rw [List.drop_eq_getElem_cons h]; rfl
theorem lsas_end {last : Int} {ls : List Lsa} : lsasOK last (ls.drop ls.length) = true := by simp [lsasOK]
theorem lastL_succ {ls : List Lsa} {k : Nat} (h : k < ls.length) : lastL ls (k + 1) = ls[k].o := by
 rw [lastL, if_neg (by omega), show (((k + 1 : Nat) : Int) - 1).toNat = k by omega, List.getD_eq_getElem?_getD, List.getElem?_eq_getElem h]; rfl
theorem pair_is {most last : Int} {x : LinkS} : pairOK most last x = true ↔ last < x.to ∧ x.to ≤ 64 ∧ 1 ≤ x.co ∧ x.co ≤ most := by
 simp [pairOK, wi]
theorem pair_no {most last : Int} {x : LinkS} (h : ¬ (last < x.to ∧ x.to ≤ 64 ∧ 1 ≤ x.co ∧ x.co ≤ most)) : pairOK most last x = false := by
 cases e : pairOK most last x with
 | false => rfl
 | true => exact absurd (pair_is.1 e) h
theorem chain_bd {most : Int} : ∀ {ls : List LinkS} {last : Int}, chain most last ls = true → last ≤ 64 → 0 ≤ last → (ls.length : Int) ≤ 64 - last ∧ ∀ x ∈ ls, (1 ≤ x.to ∧ x.to ≤ 64) ∧ (1 ≤ x.co ∧ x.co ≤ most)
 | [], last, _, h, _ => ⟨by simp; omega, fun x hx => by cases hx⟩
 | y :: r, last, h, h1, h2 => by
  simp only [chain, Bool.and_eq_true] at h
  have hp := pair_is.1 h.1
  obtain ⟨i1, i2⟩ := chain_bd h.2 hp.2.1 (by omega)
  refine ⟨by simp only [List.length_cons]; omega, fun x hx => ?_⟩
  rcases List.mem_cons.1 hx with rfl | hx
  ·omega
  ·exact i2 x hx
theorem lsas_ok : ∀ {ls : List Lsa} {last : Int}, lsasOK last ls = true → ∀ x ∈ ls, lsaOK x = true
 | y :: r, last, h, x, hx => by
  simp only [lsasOK, Bool.and_eq_true] at h
  rcases List.mem_cons.1 hx with rfl | hx
  ·exact h.1.1
  ·exact lsas_ok h.2 x hx
def pkH (p : Pkt) : Bool := wi p.fr 1 64 && (wi p.to 1 64 && (decide (p.fr ≠ p.to) && (wi p.boot 1 1073741824 && wi p.tb 0 1073741824)))
def pkE (p : Pkt) : Bool :=
 if p.kind = 2 then wi p.ep 1 1073741824 && decide (p.te = 0)
 else if p.kind = 3 then wi p.ep 1 1073741824 && wi p.te 1 1073741824
 else decide (p.ep = 0) && decide (p.te = 0)
def none0 {α : Type} (l : List α) : Bool := decide ((l.length : Int) = 0)
def heardOK (l : List LinkS) : Bool := chain 1073741824 0 l && decide ((l.length : Int) ≤ 16)
def itemsOK (l : List LinkS) : Bool := chain 4611686018427387904 0 l
def lsasM (l : List Lsa) : Bool := lsasOK 0 l && wi (l.length : Int) 1 8
def pkL (p : Pkt) : Bool :=
 if p.kind = 1 then heardOK p.hs && (none0 p.xs && none0 p.ls)
 else if p.kind = 2 ∨ p.kind = 5 then none0 p.hs && (itemsOK p.xs && none0 p.ls)
 else if p.kind = 3 then none0 p.hs && (none0 p.xs && none0 p.ls)
 else if p.kind = 4 then none0 p.hs && (none0 p.xs && lsasM p.ls)
 else false
def pktOK (p : Pkt) : Bool := pkH p && (pkE p && pkL p)
def pktEr (p : Pkt) : Int := if pktOK p then 0 else 1
theorem none_is {α : Type} {l : List α} : none0 l = true ↔ l = [] := by
 cases l <;> simp [none0]; omega
theorem pk_kind {p : Pkt} (h : pkL p = true) : (p.kind = 1 ∧ heardOK p.hs = true ∧ p.xs = [] ∧ p.ls = []) ∨ ((p.kind = 2 ∨ p.kind = 5) ∧ p.hs = [] ∧ itemsOK p.xs = true ∧ p.ls = []) ∨ (p.kind = 3 ∧ p.hs = [] ∧ p.xs = [] ∧ p.ls = []) ∨ (p.kind = 4 ∧ p.hs = [] ∧ p.xs = [] ∧ lsasM p.ls = true) := by
 unfold pkL at h
 split at h
 ·simp only [Bool.and_eq_true, none_is] at h; exact .inl ⟨by assumption, h.1, h.2.1, h.2.2⟩
 ·split at h
  ·simp only [Bool.and_eq_true, none_is] at h; exact .inr (.inl ⟨by assumption, h.1, h.2.1, h.2.2⟩)
  ·split at h
   ·simp only [Bool.and_eq_true, none_is] at h; exact .inr (.inr (.inl ⟨by assumption, h.1, h.2.1, h.2.2⟩))
   ·split at h
    ·simp only [Bool.and_eq_true, none_is] at h; exact .inr (.inr (.inr ⟨by assumption, h.1, h.2.1, h.2.2⟩))
    ·cases h
def itemB (x : LinkS) : List (BitVec 8) := numR x.to 1 ++ numR x.co 8
def itemsB (ls : List LinkS) : List (BitVec 8) := ls.flatMap itemB
def lsasB (ls : List Lsa) : List (BitVec 8) := ls.flatMap lsaB
theorem itemsB_take {ls : List LinkS} {k : Nat} (h : k < ls.length) : itemsB (ls.take (k + 1)) = itemsB (ls.take k) ++ itemB ls[k] := by
 rw [List.take_succ_eq_append_getElem h]; simp only [itemsB, List.flatMap_append, List.flatMap_cons, List.flatMap_nil, List.append_nil]
theorem lsasB_take {ls : List Lsa} {k : Nat} (h : k < ls.length) : lsasB (ls.take (k + 1)) = lsasB (ls.take k) ++ lsaB ls[k] := by
 rw [List.take_succ_eq_append_getElem h]; simp only [lsasB, List.flatMap_append, List.flatMap_cons, List.flatMap_nil, List.append_nil]
theorem itemsB_len : ∀ (ls : List LinkS), (itemsB ls).length = 9 * ls.length
 | [] => rfl
 | x :: r => by
  have := itemsB_len r
  simp only [itemsB, List.flatMap_cons, List.length_append, List.length_cons, itemB, numR_length] at this ⊢
  omega
theorem lsasB_len : ∀ {ls : List Lsa}, (∀ x ∈ ls, lsaOK x = true) → (lsasB ls).length ≤ 90 * ls.length
 | [], _ => Nat.le_refl _
 | x :: r, h => by
  have := lsasB_len (ls := r) fun y hy => h y (List.mem_cons_of_mem _ hy)
  have h1 := (lsa_bd (h x (List.mem_cons_self ..))).2.2.1
  have h2 : (lsaB x).length = 10 + 5 * x.ls.length := by simp only [lsaB, List.length_append, numR_length, linksB_len]; omega
  simp only [lsasB, List.flatMap_cons, List.length_append, List.length_cons] at this ⊢
  omega
def cntOf (p : Pkt) : Int := (p.hs.length : Int) + p.xs.length + p.ls.length
def headB (p : Pkt) : List (BitVec 8) := numR p.kind 1 ++ (numR p.fr 1 ++ (numR p.boot 4 ++ (numR p.to 1 ++ numR p.tb 4)))
def epB (p : Pkt) : List (BitVec 8) := if p.kind = 2 ∨ p.kind = 3 then numR p.ep 4 else []
def teB (p : Pkt) : List (BitVec 8) := if p.kind = 3 then numR p.te 4 else []
def cnB (p : Pkt) : List (BitVec 8) := if p.kind = 3 then [] else numR (cntOf p) 1
def topB (p : Pkt) : List (BitVec 8) := headB p ++ (epB p ++ (teB p ++ cnB p))
def pktB (p : Pkt) : List (BitVec 8) := topB p ++ (linksB p.hs ++ (itemsB p.xs ++ lsasB p.ls))
theorem topB_len (p : Pkt) : (topB p).length ≤ 20 := by
 unfold topB headB epB teB cnB
 simp only [List.length_append, numR_length]
 split <;> split <;> simp [numR_length]
theorem headB_len (p : Pkt) : (headB p).length = 11 := by simp [headB, numR_length]
theorem pk_bd {p : Pkt} (h : pktOK p = true) : (1 ≤ p.kind ∧ p.kind ≤ 5) ∧ (1 ≤ p.fr ∧ p.fr ≤ 64) ∧ (1 ≤ p.to ∧ p.to ≤ 64) ∧ (1 ≤ p.boot ∧ p.boot ≤ 1073741824) ∧ (0 ≤ p.tb ∧ p.tb ≤ 1073741824) ∧ (0 ≤ p.ep ∧ p.ep ≤ 1073741824) ∧ (0 ≤ p.te ∧ p.te ≤ 1073741824) := by
 simp only [pktOK, pkH, wi, Bool.and_eq_true, decide_eq_true_eq] at h
 obtain ⟨⟨h1, h2, h3, h4, h5⟩, h6, h7⟩ := h
 have hk : 1 ≤ p.kind ∧ p.kind ≤ 5 := by rcases pk_kind h7 with ⟨h, _⟩ | ⟨h, _⟩ | ⟨h, _⟩ | ⟨h, _⟩ <;> omega
 have h8 : (0 ≤ p.ep ∧ p.ep ≤ 1073741824) ∧ (0 ≤ p.te ∧ p.te ≤ 1073741824) := by
  unfold pkE at h6
  split at h6
  ·simp only [wi, Bool.and_eq_true, decide_eq_true_eq] at h6; omega
  ·split at h6
   ·simp only [wi, Bool.and_eq_true, decide_eq_true_eq] at h6; omega
   ·simp only [Bool.and_eq_true, decide_eq_true_eq] at h6; omega
 exact ⟨hk, by omega, by omega, by omega, by omega, h8.1, h8.2⟩
theorem pk_len {p : Pkt} (h : pktOK p = true) : p.hs.length ≤ 16 ∧ p.xs.length ≤ 64 ∧ p.ls.length ≤ 8 ∧ (0 ≤ cntOf p ∧ cntOf p ≤ 64) ∧ (∀ x ∈ p.ls, lsaOK x = true) ∧ (∀ x ∈ p.hs, (1 ≤ x.to ∧ x.to ≤ 64) ∧ (1 ≤ x.co ∧ x.co ≤ 1073741824)) ∧ (∀ x ∈ p.xs, (1 ≤ x.to ∧ x.to ≤ 64) ∧ (1 ≤ x.co ∧ x.co ≤ 4611686018427387904)) := by
 simp only [pktOK, Bool.and_eq_true] at h
 have hno : ∀ {α : Type} {q : α → Prop} (l : List α), l = [] → ∀ x ∈ l, q x := fun l e x hx => by rw [e] at hx; cases hx
 rcases pk_kind h.2.2 with ⟨_, h1, h2, h3⟩ | ⟨_, h1, h2, h3⟩ | ⟨_, h1, h2, h3⟩ | ⟨_, h1, h2, h3⟩
 ·simp only [heardOK, Bool.and_eq_true, decide_eq_true_eq] at h1
  have hb := chain_bd h1.1 (by omega) (by omega)
  refine ⟨by omega, by rw [h2]; simp, by rw [h3]; simp, by unfold cntOf; rw [h2, h3]; simp; omega, hno _ h3, hb.2, hno _ h2⟩
 ·have hb := chain_bd h2 (by omega) (by omega)
  refine ⟨by rw [h1]; simp, by omega, by rw [h3]; simp, by unfold cntOf; rw [h1, h3]; simp; omega, hno _ h3, hno _ h1, hb.2⟩
 ·refine ⟨by rw [h1]; simp, by rw [h2]; simp, by rw [h3]; simp, by unfold cntOf; rw [h1, h2, h3]; simp, hno _ h3, hno _ h1, hno _ h2⟩
 ·simp only [lsasM, wi, Bool.and_eq_true, decide_eq_true_eq] at h3
  refine ⟨by rw [h1]; simp, by rw [h2]; simp, by omega, by unfold cntOf; rw [h1, h2]; simp; omega, lsas_ok h3.1, hno _ h1, hno _ h2⟩
theorem pktB_len {p : Pkt} (h : pktOK p = true) : (pktB p).length ≤ 2000 ∧ 15 ≤ (pktB p).length + 4 := by
 obtain ⟨h1, h2, h3, _, h4, _, _⟩ := pk_len h
 have h5 := lsasB_len h4
 have h6 := topB_len p
 have h7 := headB_len p
 simp only [pktB, List.length_append, itemsB_len, linksB_len]
 have : 11 ≤ (topB p).length := by unfold topB; simp only [List.length_append]; omega
 omega
end Go.Vai.P
