import Derived.Test.YtencjgkeflibdaaGreatM6
import Derived.Test.YtencjgkeflibdaaGreatM4
import Derived.Shelf.SlMaps.Clone
import Derived.Deep.RegionHeld3
import Derived.Deep.DrawnRows
import Derived.StillTactics
import Derived.WalkSpells
import Derived.Laws.Pointers
import Derived.Test.YtencjgkeflibdaaGreatM5
namespace Go.Vai.WK
open Go.Proofs Go.Vai Go.Vai.DK Go.Vai.G Go.Vai.L Go.Vai.MP Go.Vai.O Go.Vai.RC Go.Vai.S7 Go.Vai.U Go.Vai.V Go.Vai.W8 Go.Vai.Z
set_option linter.unusedSimpArgs false
set_option linter.unusedVariables false
open Go.Vai.DK Go.Vai.U Go.Vai.V Go.Vai.S7 Go.Vai.RC Go.Vai.G Go.Vai.W8
structure ST where
 G : List (List AV)
 y : Dk
 w : Option (Nat × Wk)
def wAV : Option (Nat × Wk) → AV
 | none => .base (.pointer none)
 | some (w, _) => .gp w 0
theorem wAV_n : wAV none = .base (.pointer none) := rfl
theorem wAV_s (w : Nat) (x : Wk) : wAV (some (w, x)) = .gp w 0 := rfl
def stepT (s : ST) (a : Act8) : ST := match s.w with
 | none => s
 | some (w, x) =>
  if a.d = 0 then ⟨wrB s.G w 2 0 1 (comX x s.y (byS a.n a.c)).1 (comX x s.y (byS a.n a.c)).2.1, (comX x s.y (byS a.n a.c)).2.1, some (w, (comX x s.y (byS a.n a.c)).1)⟩
  else if a.d = 1 then ⟨wrB s.G w 2 0 1 (turX x s.y (byS a.n a.c)).1 (turX x s.y (byS a.n a.c)).2.1, (turX x s.y (byS a.n a.c)).2.1, some (w, (turX x s.y (byS a.n a.c)).1)⟩
  else if a.d = 2 then ⟨wrD s.G 2 0 1 (armD s.y (a.n.tmod 9)), armD s.y (a.n.tmod 9), some (w, x)⟩
  else if a.d = 3 then ⟨outG (wrD s.G 2 0 1 (crashD s.y a.ts)) 2 0 1 (crashD s.y a.ts), (openX (crashD s.y a.ts)).y, if (openX (crashD s.y a.ts)).e = 0 then some (s.G.length, (openX (crashD s.y a.ts)).x) else none⟩
  else s
def stS (s : ST) (l : List Act8) : Nat → ST
 | 0 => s
 | k + 1 => match l[k]? with
  | some a => stepT (stS s l k) a
  | none => stS s l k
section
variable {s : ST} {l : List Act8} {k : Nat} {a : Act8} {w : Nat} {x : Wk} {n : Int}
structure STok (n : Int) (s : ST) : Prop where
 d : HasD s.G 2 0 1 s.y
 t : ∃ p, TInv n s.y p
 b : ∀ w x, s.w = some (w, x) → HasB s.G w 2 0 1 x s.y ∧ WOK x n ∧ TInv n s.y x.gen
theorem mod9 (k : Int) : -9 < k.tmod 9 ∧ k.tmod 9 < 9 := by
 have h1 := Int.tmod_lt_of_pos k (show (0 : Int) < 9 by decide)
 have h2 : -9 < k.tmod 9 := by
  have := Int.tmod_lt_of_pos (-k) (show (0 : Int) < 9 by decide)
  rw [Int.neg_tmod] at this; omega
 exact ⟨h2, h1⟩
theorem byS_len (n : Int) (c : BitVec 8) : (byS n c).length ≤ 3000 := by
 have h := mod_bd n
 rw [byS]; split
 ·rw [List.length_set, List.length_replicate]; omega
 ·exact Nat.zero_le _
end
theorem resOf_0 {d : Tmp} : resOf (some d) [] = M.ret (.tup []) := rfl
attribute [go_sem] wAV_n wAV_s resOf_0
theorem wf_u8b {n : Int} (h : (Lit.int .u8 n).wf = true) : ∃ x : BitVec 8, n = (x.toNat : Int) := by
 have := wf_u8 h
 exact ⟨BitVec.ofInt 8 n, by rw [BitVec.toNat_ofInt]; simp; omega⟩
end Go.Vai.WK
namespace Go.Vai.WK
open Go.Proofs Go.Vai Go.Vai.DK Go.Vai.G Go.Vai.L Go.Vai.MP Go.Vai.O Go.Vai.RC Go.Vai.S7 Go.Vai.U Go.Vai.V Go.Vai.W8 Go.Vai.Z
set_option linter.unusedSimpArgs false
set_option linter.unusedVariables false
open Go.Vai.DK Go.Vai.U Go.Vai.V Go.Vai.S7 Go.Vai.RC Go.Vai.G Go.Vai.W8
def tk : Tear := ⟨1, true, []⟩
def tkL (k : Nat) : List Tear := List.replicate k tk
theorem tkL_next (k : Nat) : tkL (k + 1) = tkL k ++ [tk] := List.replicate_succ'
@[simp] theorem tkL_len (k : Nat) : (tkL k).length = k := List.length_replicate
def keptD (y : Dk) : Dk := crashD y (tkL (waitL y).length)
def okT (y : Dk) (l : List Tear) (i : Int) : Bool := !(pgGood (readD (crashD y l) i) && (!decide (readD (crashD y l) i = readD (crashD y []) i) && !decide (readD (crashD y l) i = readD (keptD y) i)))
def toldB (y : Dk) (l : List Tear) : Bool := (waitL y).all (okT y l)
theorem told_no {y : Dk} {l : List Tear} {k : Nat} (hk : k < (waitL y).length) (h : okT y l (waitL y)[k] = false) : toldB y l = false := by
 rw [toldB, List.all_eq_false]
 exact ⟨_, List.getElem_mem hk, by rw [h]; decide⟩
theorem told_yes {y : Dk} {l : List Tear} (h : ∀ j (hj : j < (waitL y).length), j < (waitL y).length → okT y l (waitL y)[j] = true) : toldB y l = true := by
 rw [toldB, List.all_eq_true]
 intro i hi
 obtain ⟨j, hj, rfl⟩ := List.mem_iff_getElem.1 hi
 exact h j hj hj
theorem kept_safe (y : Dk) (N : Nat) (hN : N = (waitL y).length) : ∀ (k j : Nat) (_ : k ≤ N) (hj : j < k) (hj2 : j < (waitL y).length), (crK y (tkL N) k).safe (waitL y)[j] = some ((y.waits (waitL y)[j]).getD [])
 | 0, j, _, hj, _ => absurd hj (Nat.not_lt_zero _)
 | k + 1, j, hk, hj, hj2 => by
  have h1 : k < (tkL N).length := by rw [tkL_len]; omega
  have h2 : k < (waitL y).length := by omega
  have h3 : (tkL N)[k].k = 1 := by simp [tkL, tk]
  rw [crK_one h1 h2 h3, (crK_eqs y (tkL N) k).2.1]
  show (if (waitL y)[j] = (waitL y)[k] then some ((y.waits (waitL y)[k]).getD []) else (crK y (tkL N) k).safe (waitL y)[j]) = _
  by_cases e : (waitL y)[j] = (waitL y)[k]
  ·rw [if_pos e, e]
  ·rw [if_neg e]
   refine kept_safe y N hN k j (by omega) ?_ hj2
   rcases Nat.lt_or_ge j k with q | q
   ·exact q
   ·exact absurd (by congr; omega) e
theorem kept_get {y : Dk} {i : Int} (hi : i ∈ waitL y) : readD (keptD y) i = (y.waits i).getD [] := by
 obtain ⟨j, hj, rfl⟩ := List.mem_iff_getElem.1 hi
 have h := kept_safe y _ rfl (waitL y).length j (Nat.le_refl _) hj hj
 show ((crK y (tkL (waitL y).length) (waitL y).length).safe (waitL y)[j]).getD _ = _
 rw [h]; rfl
theorem told_of {y : Dk} {l : List Tear} (h : toldB y l = true) : ToldP y l := by
 intro i hi hg
 have h2 := List.all_eq_true.1 h i hi
 rw [okT, hg, kept_get hi, read_nil] at h2
 by_cases e : readD (crashD y l) i = firmD y i
 ·exact .inl e
 ·rw [decide_eq_false e] at h2
  by_cases e2 : readD (crashD y l) i = (y.waits i).getD []
  ·exact .inr e2
  ·rw [decide_eq_false e2] at h2; cases h2
section
variable {G G' : List (List AV)} {d is iw d' is' iw' w : Nat} {x y z : Dk}
theorem wr_apart (h : HasD G d is iw x) (h1 : d ≠ d' ∧ d ≠ is' ∧ d ≠ iw') (h2 : is ≠ d' ∧ is ≠ is' ∧ is ≠ iw') (h3 : iw ≠ d' ∧ iw ≠ is' ∧ iw ≠ iw') : HasD (wrD G d' is' iw' z) d is iw x :=
 ⟨by rw [wr_other h1.1 h1.2.1 h1.2.2]; exact h.hd, by rw [wr_other h2.1 h2.2.1 h2.2.2]; exact h.hs, by rw [wr_other h3.1 h3.2.1 h3.2.2]; exact h.hw, h.ni⟩
def cloG (G : List (List AV)) (x : Dk) : List (List AV) := G ++ [[.mp (mapA x.safe)], [.mp (mapA x.waits)], [i64 x.n, .gm G.length, .gm (G.length + 1), i64 x.armed, .b x.dead]]
theorem clo_len (G : List (List AV)) (x : Dk) : (cloG G x).length = G.length + 3 := by simp [cloG]
theorem clo_has (G : List (List AV)) (x : Dk) : HasD (cloG G x) (G.length + 2) G.length (G.length + 1) x :=
 ⟨by rw [cloG, List.getElem?_append_right (by omega), show G.length + 2 - G.length = 2 by omega]; rfl, by rw [cloG, List.getElem?_append_right (by omega), Nat.sub_self]; rfl, by rw [cloG, List.getElem?_append_right (by omega), show G.length + 1 - G.length = 1 by omega]; rfl, by omega⟩
def toldG (G : List (List AV)) (y : Dk) (l : List Tear) : List (List AV) :=
 wrD (wrD (wrD (cloG (cloG (cloG G y) y) y) (G.length + 2) G.length (G.length + 1) (crashD y l)) (G.length + 5) (G.length + 3) (G.length + 4) (crashD y [])) (G.length + 8) (G.length + 6) (G.length + 7) (keptD y)
theorem told_pre {G : List (List AV)} {y : Dk} {l : List Tear} {i : Nat} (h : i < G.length) : (toldG G y l)[i]? = G[i]? := by
 rw [toldG, wr_other (by omega) (by omega) (by omega), wr_other (by omega) (by omega) (by omega), wr_other (by omega) (by omega) (by omega)]
 have h1 := clo_len G y; have h2 := clo_len (cloG G y) y
 rw [cloG, List.getElem?_append_left (by omega), cloG, List.getElem?_append_left (by omega), cloG, List.getElem?_append_left h]
theorem hasB_pre {x : Wk} (h : HasB G w d is iw x y) (hp : ∀ i, i < G.length → G'[i]? = G[i]?) : HasB G' w d is iw x y := by
 have k : ∀ {i : Nat} {c : List AV}, G[i]? = some c → G'[i]? = some c := fun {i c} e => (hp i (List.getElem?_eq_some_iff.1 e).1).trans e
 exact ⟨k h.hx, ⟨k h.hD.hd, k h.hD.hs, k h.hD.hw, h.hD.ni⟩⟩
theorem hasD_pre (h : HasD G d is iw y) (hp : ∀ i, i < G.length → G'[i]? = G[i]?) : HasD G' d is iw y := by
 have k : ∀ {i : Nat} {c : List AV}, G[i]? = some c → G'[i]? = some c := fun {i c} e => (hp i (List.getElem?_eq_some_iff.1 e).1).trans e
 exact ⟨k h.hd, k h.hs, k h.hw, h.ni⟩
theorem rd_in {i : Int} (h : offD z = false) (hn : z.n = y.n) (hi : 0 ≤ i ∧ i < y.n) : rdE z i = 0 ∧ rdB z i = readD z i ∧ (!decide (rdE z i = 0)) = false := by
 obtain ⟨e1, e2⟩ := rd_ok (i := i) h (by omega)
 exact ⟨e1, e2, by rw [e1]; rfl⟩
end
theorem ok_no {y : Dk} {l : List Tear} {i : Int} (h : (pgR (readD (crashD y l) i) = 0 ∧ (!decide (readD (crashD y l) i = readD (crashD y []) i)) = true) ∧ (!decide (readD (crashD y l) i = readD (keptD y) i)) = true) : okT y l i = false := by
 obtain ⟨⟨h1, h2⟩, h3⟩ := h
 have hg : pgGood (readD (crashD y l) i) = true := by
  cases e : pgGood (readD (crashD y l) i) with
  | true => rfl
  | false => rw [pgR, e] at h1; exact absurd h1 (by decide)
 rw [okT, hg, h2, h3]; rfl
theorem ok_yes {y : Dk} {l : List Tear} {i : Int} (h : (¬ pgR (readD (crashD y l) i) = 0 ∨ (!decide (readD (crashD y l) i = readD (crashD y []) i)) = false) ∨ (!decide (readD (crashD y l) i = readD (keptD y) i)) = false) : okT y l i = true := by
 rcases h with (h | h) | h
 ·have hg : pgGood (readD (crashD y l) i) = false := by
   cases e : pgGood (readD (crashD y l) i) with
   | false => rfl
   | true => rw [pgR, e] at h; exact absurd rfl h
  rw [okT, hg]; rfl
 ·rw [okT, h, Bool.false_and, Bool.and_false]; rfl
 ·rw [okT, h, Bool.and_false, Bool.and_false]; rfl
end Go.Vai.WK
namespace Go.Vai.WK
open Go.Proofs Go.Vai Go.Vai.DK Go.Vai.G Go.Vai.L Go.Vai.MP Go.Vai.O Go.Vai.RC Go.Vai.S7 Go.Vai.U Go.Vai.V Go.Vai.W8 Go.Vai.Z
set_option linter.unusedSimpArgs false
set_option linter.unusedVariables false
open Go.Vai.DK Go.Vai.U Go.Vai.V Go.Vai.S7 Go.Vai.RC Go.Vai.G Go.Vai.W8
structure KInv (N : Nat) (x : Wk) (y : Dk) (B : List (BitVec 8)) (R Q : PSl) : Prop where
 w : WInv x y B R
 q : Q.map Prod.snd = R.map Prod.snd
 n : y.n = 30
 g : x.gen ≤ (N : Int) + 1
 m : x.mark ≤ (N : Int) + 1
 ql : Q.length ≤ N
 qb : ∀ p ∈ Q, p.2.length ≤ 3000
 bl : B.length ≤ 3000
theorem KInv.up {N : Nat} {x : Wk} {y : Dk} {B : List (BitVec 8)} {R Q : PSl} (h : KInv N x y B R Q) : KInv (N + 1) x y B R Q :=
 ⟨h.w, h.q, h.n, by have := h.g; omega, by have := h.m; omega, by have := h.ql; omega, h.qb, h.bl⟩
structure Mid (N : Nat) (b : List (BitVec 8)) (x : Wk) (y : Dk) (B : List (BitVec 8)) (Q : PSl) (may turned : Bool) : Prop where
 f : Fine y
 n : y.n = 30
 bb : b.length ≤ 3000
 c : (offD y = false ∧ may = false ∧ turned = false ∧ x.mark ≤ (N : Int) + 1 ∧ ∃ R, KInv (N + 1) x y B R Q) ∨
  (offD y = true ∧ may = true ∧ turned = false ∧ ∃ x0 y0 R, KInv N x0 y0 B R Q ∧ splitOK (pgH x0) b = true ∧ parts (b.length : Int) ≤ x0.l - x0.next ∧ Died y0 (x0.f + x0.next) (comL x0 b (parts (b.length : Int)).toNat) (y, 7)) ∨
  (offD y = true ∧ may = true ∧ turned = true ∧ ∃ x0 y0 R, KInv N x0 y0 B R Q ∧ splitOK (secP (x0.gen + 1) x0.mark) b = true ∧ parts (b.length : Int) ≤ x0.s ∧ Died y0 ((x0.gen + 1) % 2 * x0.s) (secL (x0.gen + 1) x0.mark b (parts (b.length : Int)).toNat) (y, 7))
theorem mid_live {N : Nat} {x : Wk} {y : Dk} {B b : List (BitVec 8)} {R Q : PSl} (h : KInv N x y B R Q) (hb : b.length ≤ 3000) : Mid N b x y B Q false false :=
 ⟨h.w.f, h.n, hb, .inl ⟨h.w.off, rfl, rfl, h.m, _, h.up⟩⟩
theorem mid_arm {N : Nat} {x : Wk} {y : Dk} {B b : List (BitVec 8)} {R Q : PSl} (h : KInv N x y B R Q) (hb : b.length ≤ 3000) {k : Int} (hk : k ≤ 8) : Mid N b x (armD y k) B Q false false := by
 have hf : Fine (armD y k) := ⟨⟨h.w.f.w.s, h.w.f.w.w⟩, h.w.f.n1, h.w.f.n2, h.w.f.ks, h.w.f.kw, by show -1 ≤ (if -1 > k then -1 else k) ∧ (if -1 > k then -1 else k) ≤ 1000000; split <;> omega⟩
 have e : img (armD y k) = img y := img_ext rfl fun _ _ _ => rfl
 exact ⟨hf, h.n, hb, .inl ⟨h.w.off, rfl, rfl, h.m, R, ⟨⟨hf, h.w.off, h.w.nw, h.w.ok, h.w.br, by rw [e]; exact h.w.core, by rw [e]; exact h.w.mks⟩, h.q, h.n, by have := h.g; omega, by have := h.m; omega, by have := h.ql; omega, h.qb, h.bl⟩⟩⟩
theorem map_len {R : PSl} {l : List (List (BitVec 8))} (h : R.map Prod.snd = l) : R.length = l.length := by rw [← h, List.length_map]
theorem map_bd {R : PSl} {l : List (List (BitVec 8))} (h : R.map Prod.snd = l) (hl : ∀ b ∈ l, b.length ≤ 3000) : ∀ p ∈ R, p.2.length ≤ 3000 := fun p hp => hl _ (by rw [← h]; exact List.mem_map_of_mem hp)
theorem mid_com {N : Nat} {x : Wk} {y : Dk} {B b : List (BitVec 8)} {R Q : PSl} (h : KInv N x y B R Q) (hb : b.length ≤ 3000) :
  ((comX x y b).2.2 = 0 ∧ ∀ fl, Mid N b (comX x y b).1 (comX x y b).2.1 B (Q ++ [(fl, b)]) false false) ∨
  ((comX x y b).2.2 = 7 ∧ Mid N b (comX x y b).1 (comX x y b).2.1 B Q true false) ∨
  ((comX x y b).2.2 ≠ 0 ∧ (comX x y b).2.2 ≠ 7 ∧ Mid N b (comX x y b).1 (comX x y b).2.1 B Q false false) := by
 rcases com_cases h.w b with ⟨q1, q2, q3, q4, q5, q6, _⟩ | ⟨q1, q2, q3, q4⟩ | ⟨q1, q2, q3, q4, _⟩
 ·refine .inl ⟨q1, fun fl => ⟨q2.f, q6.trans h.n, hb, .inl ⟨q2.off, rfl, rfl, by rw [q4]; exact h.m, _, ⟨q2, by rw [List.map_append, List.map_append, h.q]; rfl, q6.trans h.n, by have := h.g; omega, by have := h.m; omega, by have := h.ql; simp; omega, fun p hp => ?_, h.bl⟩⟩⟩⟩
  rcases List.mem_append.1 hp with hp | hp
  ·exact h.qb p hp
  ·rw [List.mem_singleton.1 hp]; exact hb
 ·have hN : parts (b.length : Int) ≤ x.l - x.next := by
   have hE : ¬ splitE (pgH x) b ≠ 0 := by
    rcases split0E (p := pgH x) (b := b) with ⟨a, _, _⟩ | ⟨_, a⟩
    ·rw [a]; decide
    ·rw [q2] at a; cases a
   rcases Int.lt_or_le (x.l - x.next) (parts (b.length : Int)) with q | q
   ·rw [com_3 (by rw [h.w.br]; decide) hE q] at q1; exact absurd (show (4 : Int) = 7 from q1) (by decide)
   ·exact q
  have hd : (comX x y b).2.1.dead = true := q4.d
  exact .inr (.inl ⟨q1, q3, q4.n.trans h.n, hb, .inr (.inl ⟨by rw [off_fine q3]; exact hd, rfl, rfl, x, y, R, h, q2, hN, q4⟩)⟩)
 ·rw [q3, q4]
  exact .inr (.inr ⟨q1, q2, mid_live h hb⟩)
theorem mid_tur {N : Nat} {x : Wk} {y : Dk} {B b : List (BitVec 8)} {R Q : PSl} (h : KInv N x y B R Q) (hb : b.length ≤ 3000) :
  ((turX x y b).2.2 = 0 ∧ Mid N b (turX x y b).1 (turX x y b).2.1 b [] false false) ∨
  ((turX x y b).2.2 = 7 ∧ Mid N b (turX x y b).1 (turX x y b).2.1 B Q true true) ∨
  ((turX x y b).2.2 ≠ 0 ∧ (turX x y b).2.2 ≠ 7 ∧ Mid N b (turX x y b).1 (turX x y b).2.1 B Q false false) := by
 rcases tur_cases h.w b with ⟨q1, q2, q3, q4, q5, q6, _⟩ | ⟨q1, q2, q3, q4, q5⟩ | ⟨q1, q2, q3, q4, _⟩
 ·exact .inl ⟨q1, q2.f, q6.trans h.n, hb, .inl ⟨q2.off, rfl, rfl, by rw [q4]; exact h.m, _, ⟨q2, rfl, q6.trans h.n, by have := h.g; omega, by have := h.m; omega, Nat.zero_le _, fun p hp => (by cases hp), hb⟩⟩⟩
 ·have hd : (turX x y b).2.1.dead = true := q5.d
  exact .inr (.inl ⟨q1, q4, q5.n.trans h.n, hb, .inr (.inr ⟨by rw [off_fine q4]; exact hd, rfl, rfl, x, y, R, h, q2, q3, q5⟩)⟩)
 ·rw [q3, q4]
  exact .inr (.inr ⟨q1, q2, mid_live h hb⟩)
structure Back (N : Nat) (b : List (BitVec 8)) (z : Dk) (B : List (BitVec 8)) (Q : PSl) (may turned : Bool) : Prop where
 f : Fine z
 off : offD z = false
 n : ¬ (z.n < 6 ∨ z.n > 1024)
 m : ¬ markOf okS valS (secD z) + 1 > 2147483648
 bet : betOK (pgA z 0) (pgA z 1) = true
 made : (openX z).made = true
 y : (openX z).y = z
 k : KInv (N + 1) (openX z).x z (openX z).b (openX z).rs (openX z).rs
 c : ((openX z).b = B ∧ (openX z).rs.map Prod.snd = Q.map Prod.snd) ∨ (may = true ∧ turned = false ∧ (openX z).b = B ∧ (openX z).rs.map Prod.snd = Q.map Prod.snd ++ [b]) ∨ (may = true ∧ turned = true ∧ (openX z).b = b ∧ (openX z).rs = [])
theorem back_of {N : Nat} {b B B2 : List (BitVec 8)} {Q R2 : PSl} {may turned : Bool} {z : Dk} {g nx : Int} (hF : Fine z) (hoff : offD z = false) (hw : ∀ i, z.waits i = none) (hn : z.n = 30) (hC : Core z.n g nx (img z) B2 R2) (hg : g ≤ (N : Int) + 2) (hmk : markOf okS valS (img z) ≤ (N : Int) + 1) (hN : N ≤ 1000)
  (hB : B2.length ≤ 3000) (hl : R2.length ≤ N + 1) (hb : ∀ p ∈ R2, p.2.length ≤ 3000)
  (c : (B2 = B ∧ R2.map Prod.snd = Q.map Prod.snd) ∨ (may = true ∧ turned = false ∧ B2 = B ∧ R2.map Prod.snd = Q.map Prod.snd ++ [b]) ∨ (may = true ∧ turned = true ∧ B2 = b ∧ R2 = [])) : Back N b z B Q may turned := by
 have hm : ¬ markOf okS valS (img z) + 1 > 2147483648 := by omega
 obtain ⟨o1, o2⟩ := open_W hF hoff hw hC (by omega) hm
 have hsd := secD_img hoff
 rw [← hsd] at hm
 have hC2 : Cor0 z.n g nx (secD z) B2 R2 := by rw [hsd]; exact hC.toCor0
 obtain ⟨b1, _, _⟩ := bet_core hC2
 have e1 := congrArg Opn.x o1; have e2 := congrArg Opn.b o1; have e3 := congrArg Opn.rs o1; have e4 := congrArg Opn.made o1; have e5 := congrArg Opn.y o1
 simp only at e1 e2 e3 e4 e5
 refine ⟨hF, hoff, by omega, hm, b1, e4, e5, ?_, by rw [e2, e3]; exact c⟩
 rw [e1, e2, e3]
 refine ⟨o2, rfl, hn, by show g ≤ _; omega, ?_, hl, hb, hB⟩
 show markOf okS valS (secD z) + 1 ≤ _
 rw [hsd]; omega
theorem back_mid {N : Nat} {b B : List (BitVec 8)} {x : Wk} {y : Dk} {Q : PSl} {may turned : Bool} (h : Mid N b x y B Q may turned) (hN : N ≤ 1000) {t : List Tear} (ht : ToldP y t) : Back N b (crashD y t) B Q may turned := by
 have hF : Fine (crashD y t) := crash_fine h.f
 have hoff := crash_off t h.f
 have hn : (crashD y t).n = 30 := (crash_n y t).trans h.n
 have hw : ∀ i, (crashD y t).waits i = none := fun _ => rfl
 rcases h.c with ⟨_, q2, q3, hx, R, k⟩ | ⟨_, q2, q3, x0, y0, R, k, q4, q5, q6⟩ | ⟨_, q2, q3, x0, y0, R, k, q4, q5, q6⟩
 ·obtain ⟨c1, c2⟩ := crash_still k.w t
  have hg := k.g; have hm := k.m
  refine back_of (B2 := B) (R2 := R) (g := x.gen) (nx := x.next) hF hoff hw hn ?_ (by omega) ?_ hN k.bl (by rw [map_len k.q.symm, List.length_map]; exact k.ql) (map_bd k.q.symm fun b hb => ?_) (.inl ⟨rfl, k.q.symm⟩)
  ·rw [hn]; have := c1; rw [k.n] at this; exact this
  ·omega
  ·obtain ⟨p, hp, rfl⟩ := List.mem_map.1 hb; exact k.qb p hp
 ·obtain ⟨⟨nx, R', c0, c1⟩, c2⟩ := crash_com k.w q4 h.f q5 q6 ht
  have hg := k.g; have hm := k.m
  have hC : Core (crashD y t).n x0.gen nx (img (crashD y t)) B R' := by rw [hn]; rw [k.n] at c1; exact c1
  rcases c0 with rfl | rfl
  ·refine back_of (B2 := B) (R2 := R') hF hoff hw hn hC (by omega) (by omega) hN k.bl (by rw [map_len k.q.symm, List.length_map]; have := k.ql; omega) (map_bd k.q.symm fun b hb => ?_) (.inl ⟨rfl, k.q.symm⟩)
   obtain ⟨p, hp, rfl⟩ := List.mem_map.1 hb; exact k.qb p hp
  ·have e : (R ++ [(b.isEmpty, b)]).map Prod.snd = Q.map Prod.snd ++ [b] := by rw [List.map_append, k.q]; rfl
   refine back_of (B2 := B) hF hoff hw hn hC (by omega) (by omega) hN k.bl (by rw [map_len e]; simp; exact k.ql) (map_bd e fun b' hb => ?_) (.inr (.inl ⟨q2, q3, rfl, e⟩))
   rcases List.mem_append.1 hb with hb | hb
   ·obtain ⟨p, hp, rfl⟩ := List.mem_map.1 hb; exact k.qb p hp
   ·rw [List.mem_singleton.1 hb]; exact h.bb
 ·obtain ⟨c1, c2⟩ := crash_tur k.w q4 h.f q5 q6 ht
  have hg := k.g; have hm := k.m
  rcases c1 with ⟨nx, c1⟩ | c1
  ·have hC : Core (crashD y t).n x0.gen nx (img (crashD y t)) B R := by rw [hn]; rw [k.n] at c1; exact c1
   refine back_of (B2 := B) (R2 := R) hF hoff hw hn hC (by omega) (by omega) hN k.bl (by rw [map_len k.q.symm, List.length_map]; have := k.ql; omega) (map_bd k.q.symm fun b hb => ?_) (.inl ⟨rfl, k.q.symm⟩)
   obtain ⟨p, hp, rfl⟩ := List.mem_map.1 hb; exact k.qb p hp
  ·have hC : Core (crashD y t).n (x0.gen + 1) 0 (img (crashD y t)) b [] := by rw [hn]; rw [k.n] at c1; exact c1
   exact back_of (B2 := b) (R2 := []) hF hoff hw hn hC (by omega) (by omega) hN h.bb (Nat.zero_le _) (fun p hp => by cases hp) (.inr (.inr ⟨q2, q3, rfl, rfl⟩))
structure KS where
 G : List (List AV)
 w : Nat
 x : Wk
 y : Dk
 nB : Bool
 B : List (BitVec 8)
 nQ : Bool
 Q : PSl
 may : Bool
 turned : Bool
structure KOK (N : Nat) (z : KS) : Prop where
 b : HasB z.G z.w 2 0 1 z.x z.y
 k : ∃ R, KInv N z.x z.y z.B R z.Q
structure MOK (N : Nat) (b : List (BitVec 8)) (z : KS) : Prop where
 hb : HasB z.G z.w 2 0 1 z.x z.y
 m : Mid N b z.x z.y z.B z.Q z.may z.turned
theorem live_k {N : Nat} {b : List (BitVec 8)} {z : KS} (h : MOK N b z) (ho : offD z.y = false) : KOK (N + 1) z := by
 rcases h.m.c with ⟨_, _, _, _, R, k⟩ | ⟨q, _⟩ | ⟨q, _⟩
 ·exact ⟨h.hb, R, k⟩
 ·rw [ho] at q; cases q
 ·rw [ho] at q; cases q
theorem back_k {N : Nat} {b : List (BitVec 8)} {y : Dk} {z : Dk} {B B2 : List (BitVec 8)} {Q Q2 : PSl} {may turned : Bool} (h : Back N b z B Q may turned) (e1 : (openX z).b = B2) (e2 : (openX z).rs.map Prod.snd = Q2.map Prod.snd) : ∃ R, KInv (N + 1) (openX z).x z B2 R Q2 := by
 have k := h.k
 refine ⟨_, ⟨?_, e2.symm, k.n, k.g, k.m, by (rw [map_len e2.symm, List.length_map]; exact k.ql), map_bd e2.symm fun b hb => ?_, ?_⟩⟩
 ·rw [← e1]; exact k.w
 ·obtain ⟨p, hp, rfl⟩ := List.mem_map.1 hb; exact k.qb p hp
 ·rw [← e1]; exact k.bl
section
variable {N : Nat} {G : List (List AV)} {w : Nat} {x : Wk} {y : Dk} {B b : List (BitVec 8)} {R Q : PSl}
theorem mok_com (hB : HasB G w 2 0 1 x y) (h : KInv N x y B R Q) (hb : b.length ≤ 3000) (nB nQ : Bool) :
  ((comX x y b).2.2 = 0 → MOK N b ⟨wrB G w 2 0 1 (comX x y b).1 (comX x y b).2.1, w, (comX x y b).1, (comX x y b).2.1, nB, B, nQ, Q ++ [(false, b)], decide ((comX x y b).2.2 = 7), false⟩) ∧
  (¬ (comX x y b).2.2 = 0 → MOK N b ⟨wrB G w 2 0 1 (comX x y b).1 (comX x y b).2.1, w, (comX x y b).1, (comX x y b).2.1, nB, B, nQ, Q, decide ((comX x y b).2.2 = 7), false⟩) := by
 rcases mid_com h hb with ⟨q1, q2⟩ | ⟨q1, q2⟩ | ⟨q1, q3, q2⟩
 ·rw [q1]; exact ⟨fun _ => ⟨wb_has hB, q2 false⟩, fun e => absurd rfl e⟩
 ·rw [q1]; exact ⟨fun e => absurd e (by decide), fun _ => ⟨wb_has hB, q2⟩⟩
 ·rw [decide_eq_false q3]; exact ⟨fun e => absurd e q1, fun _ => ⟨wb_has hB, q2⟩⟩
theorem mok_tur (hB : HasB G w 2 0 1 x y) (h : KInv N x y B R Q) (hb : b.length ≤ 3000) (nB nQ : Bool) :
  ((turX x y b).2.2 = 0 → MOK N b ⟨wrB G w 2 0 1 (turX x y b).1 (turX x y b).2.1, w, (turX x y b).1, (turX x y b).2.1, nB, b, nQ, [], decide ((turX x y b).2.2 = 7), decide ((turX x y b).2.2 = 7)⟩) ∧
  (¬ (turX x y b).2.2 = 0 → MOK N b ⟨wrB G w 2 0 1 (turX x y b).1 (turX x y b).2.1, w, (turX x y b).1, (turX x y b).2.1, nB, B, nQ, Q, decide ((turX x y b).2.2 = 7), decide ((turX x y b).2.2 = 7)⟩) := by
 rcases mid_tur h hb with ⟨q1, q2⟩ | ⟨q1, q2⟩ | ⟨q1, q3, q2⟩
 ·rw [q1]; exact ⟨fun _ => ⟨wb_has hB, q2⟩, fun e => absurd rfl e⟩
 ·rw [q1]; exact ⟨fun e => absurd e (by decide), fun _ => ⟨wb_has hB, q2⟩⟩
 ·rw [decide_eq_false q3]; exact ⟨fun e => absurd e q1, fun _ => ⟨wb_has hB, q2⟩⟩
theorem mok_arm (hB : HasB G w 2 0 1 x y) (h : KInv N x y B R Q) (hb : b.length ≤ 3000) {k : Int} (hk : k ≤ 8) (nB nQ : Bool) : MOK N b ⟨wrD G 2 0 1 (armD y k), w, x, armD y k, nB, B, nQ, Q, false, false⟩ := ⟨hasB_D hB, mid_arm h hb hk⟩
theorem mok_still (hB : HasB G w 2 0 1 x y) (h : KInv N x y B R Q) (hb : b.length ≤ 3000) (nB nQ : Bool) : MOK N b ⟨G, w, x, y, nB, B, nQ, Q, false, false⟩ := ⟨hB, mid_live h hb⟩
end
end Go.Vai.WK
namespace Go.Vai.WK
open Go.Proofs Go.Vai Go.Vai.DK Go.Vai.G Go.Vai.L Go.Vai.MP Go.Vai.O Go.Vai.RC Go.Vai.S7 Go.Vai.U Go.Vai.V Go.Vai.Z
set_option linter.unusedSimpArgs false
set_option linter.unusedVariables false
set_option maxHeartbeats 4000000
set_option maxRecDepth 100000
open Go.Vai.DK Go.Vai.U Go.Vai.V Go.Vai.S7 Go.Vai.RC Go.Vai.G
theorem good_awake8  : Good Tryz.prog 8 [] [] [(.b true, false)] [] := by
  refine good_of_body4 99 Tryz.func8 rfl rfl rfl (by simp) (by simp) (by simp [noPtrL, noPtr]) (by rfl) ?_
  intro s m ha hr hv hG
  clear ha
  have hc : True := trivial
  have F := hG
  refine AW.seq ?_
  refine AW.region (cfg := cfg) ?_
  refine stp (fun _ h => s0 h) ?_
  refine aops_nil ?_
  refine AW.seq ?_
  refine AW.region (cfg := cfg) ?_
  refine stp (fun _ h => cg (w := (DK.good_NewG [] 20 (by decide) : Good _ _ _ [] [(.gp 2 0, false), (i64 0, false)] _)) (x := h)) ?_
  iterate 5 refine stp (fun _ h => s0 h) ?_
  refine aops_nil ?_
  refine AW.seq ?_
  refine AW.seq ?_
  obtain ⟨y0, hy0⟩ : ∃ y0, y0 = newD 20 := ⟨_, rfl⟩
  have hD1 : HasD (DK.newG [] 20) 2 0 1 y0 := by rw [hy0]; exact new_has [] 20
  obtain ⟨a1, a2, a3, a4, a5, a6, a7, a8, a9, a10⟩ := aw_1 hy0
  obtain ⟨l1, l2, _⟩ := aw_l a5 a6
  refine AW.region (cfg := cfg) ?_
  iterate 3 refine stp (fun _ h => s0 h) ?_
  iterate 2 refine mrg wa (fun hc _ h => s0 h) ?_
  refine stp (fun _ h => s0 h) ?_
  refine aops_nil ?_
  refine cnd (fun hb => ?ht1) (fun hb => ?hf1)
  case ht1 => (simp at hb; done)
  case hf1 =>
  have hbt21 := hb
  refine AW.skip ?_
  refine AW.seq ?_
  have hF1 : Fine y0 := by rw [hy0]; exact new_fine (n := 20) (by decide)
  refine AW.region (cfg := cfg) ?_
  refine stp (fun _ h => s0 h) ?_
  refine stp (fun _ h => cg (w := good_OpenW (DK.newG [] 20) 2 0 1 y0 hD1 hF1) (x := h)) ?_
  iterate 9 refine stp (fun _ h => s0 h) ?_
  refine aops_nil ?_
  refine AW.seq ?_
  refine AW.seq ?_
  have hB2 : HasB (outG (DK.newG [] 20) 2 0 1 y0) 3 2 0 1 (openX y0).x (openX y0).y := out_has hD1 a1
  have hx2 := hB2.hx
  have F := And.intro a2 F
  have F := And.intro a3 F
  have F := And.intro a4 F
  have F := And.intro a8 F
  have F := And.intro a9 F
  have F := And.intro l1 F
  have F := And.intro l2 F
  refine AW.region (cfg := cfg) ?_
  iterate 3 refine stp (fun _ h => s0 h) ?_
  iterate 2 refine mrg wa (fun hc _ h => s0 h) ?_
  iterate 2 refine stp (fun _ h => s0 h) ?_
  refine mrg wa (fun hc _ h => s0 h) ?_
  refine mrg wa (fun hc _ h => sd h) ?_
  refine mrg wa (fun hc _ h => s0 h) ?_
  iterate 2 refine stp (fun _ h => s0 h) ?_
  refine mrg wa (fun hc _ h => s0 h) ?_
  refine mrg wa (fun hc _ h => sd h) ?_
  refine mrg wa (fun hc _ h => s0 h) ?_
  iterate 2 refine stp (fun _ h => s0 h) ?_
  refine mrg wa (fun hc _ h => s0 h) ?_
  refine mrg wa (fun hc _ h => cgn (w := good_GenW (outG (DK.newG [] 20) 2 0 1 y0) 3 2 (openX y0).x hB2.hW) (x := h)) ?_
  refine mrg wa (fun hc _ h => s0 h) ?_
  iterate 2 refine stp (fun _ h => s0 h) ?_
  refine mrg wa (fun hc _ h => s0 h) ?_
  refine mrg wa (fun hc _ h => cgn (w := good_FreeW (outG (DK.newG [] 20) 2 0 1 y0) 3 2 (openX y0).x hB2.hW (by omega)) (x := h)) ?_
  refine mrg wa (fun hc _ h => s0 h) ?_
  iterate 2 refine stp (fun _ h => s0 h) ?_
  refine mrg wa (fun hc _ h => s0 h) ?_
  refine mrg wa (fun hc _ h => cgn (w := good_RoomW (outG (DK.newG [] 20) 2 0 1 y0) 3 2 (openX y0).x hB2.hW) (x := h)) ?_
  refine mrg wa (fun hc _ h => s0 h) ?_
  refine stp (fun _ h => s0 h) ?_
  refine aops_nil ?_
  refine cnd (fun hb => ?ht2) (fun hb => ?hf2)
  case ht2 => (simp at hb; done)
  case hf2 =>
  have hbt59 := hb
  refine AW.skip ?_
  refine AW.seq ?_
  obtain ⟨c1, c2, c3, c4, c5, c6, c7⟩ := com_one (c := 7#8) a5 (by omega) (by omega)
  refine AW.region (cfg := cfg) ?_
  refine stp (fun _ h => s0 h) ?_
  refine stp (fun _ h => sq h) ?_
  refine stp (fun _ h => cg (w := good_CommitW (outG (DK.newG [] 20) 2 0 1 y0) 3 2 0 1 (openX y0).x (openX y0).y hB2 a5.f a5.ok false [7#8] (by decide) (fun h => by cases h)) (x := h)) ?_
  refine stp (fun _ h => s0 h) ?_
  refine aops_nil ?_
  refine AW.seq ?_
  have hB3 : HasB (wrB (outG (DK.newG [] 20) 2 0 1 y0) 3 2 0 1 (comX (openX y0).x (openX y0).y [7#8]).1 (comX (openX y0).x (openX y0).y [7#8]).2.1) 3 2 0 1 (comX (openX y0).x (openX y0).y [7#8]).1 (comX (openX y0).x (openX y0).y [7#8]).2.1 := wb_has hB2
  have F := And.intro c1 F
  refine AW.region (cfg := cfg) ?_
  refine stp (fun _ h => s0 h) ?_
  refine stp (fun _ h => cg (w := (DK.good_CrashG (wrB (outG (DK.newG [] 20) 2 0 1 y0) 3 2 0 1 (comX (openX y0).x (openX y0).y [7#8]).1 (comX (openX y0).x (openX y0).y [7#8]).2.1) 2 0 1 (comX (openX y0).x (openX y0).y [7#8]).2.1 hB3.hD c2.f true [] (by decide) (fun t h => by cases h)).nil1 (s' := 0)) (x := h)) ?_
  refine aops_nil ?_
  refine AW.seq ?_
  have hB4 : HasB (wrD (wrB (outG (DK.newG [] 20) 2 0 1 y0) 3 2 0 1 (comX (openX y0).x (openX y0).y [7#8]).1 (comX (openX y0).x (openX y0).y [7#8]).2.1) 2 0 1 (crashD (comX (openX y0).x (openX y0).y [7#8]).2.1 [])) 3 2 0 1 (comX (openX y0).x (openX y0).y [7#8]).1 (crashD (comX (openX y0).x (openX y0).y [7#8]).2.1 []) := hasB_D hB3
  have hF4 : Fine (crashD (comX (openX y0).x (openX y0).y [7#8]).2.1 []) := crash_fine c2.f
  obtain ⟨o1, o2, o3, o4, o5, o6⟩ := aw_3 c2 (c6.trans a6) (by omega) (c4.trans a8) (c5.trans a10)
  refine AW.region (cfg := cfg) ?_
  refine stp (fun _ h => s0 h) ?_
  refine stp (fun _ h => cg (w := good_OpenW (wrD (wrB (outG (DK.newG [] 20) 2 0 1 y0) 3 2 0 1 (comX (openX y0).x (openX y0).y [7#8]).1 (comX (openX y0).x (openX y0).y [7#8]).2.1) 2 0 1 (crashD (comX (openX y0).x (openX y0).y [7#8]).2.1 [])) 2 0 1 (crashD (comX (openX y0).x (openX y0).y [7#8]).2.1 []) hB4.hD hF4) (x := h)) ?_
  iterate 9 refine stp (fun _ h => s0 h) ?_
  refine aops_nil ?_
  refine AW.seq ?_
  have hB5 := out_has hB4.hD o2
  have hx5 := hB5.hx
  have F := And.intro o1 F
  have F := And.intro o3 F
  have F := And.intro o4 F
  have F := And.intro o5 F
  refine AW.region (cfg := cfg) ?_
  iterate 3 refine stp (fun _ h => s0 h) ?_
  iterate 2 refine mrg wa (fun hc _ h => s0 h) ?_
  iterate 2 refine stp (fun _ h => s0 h) ?_
  iterate 2 refine mrg wa (fun hc _ h => s0 h) ?_
  iterate 2 refine stp (fun _ h => s0 h) ?_
  refine mrg wa (fun hc _ h => s0 h) ?_
  refine mrg wa (fun hc _ h => sd h) ?_
  refine mrg wa (fun hc _ h => s0 h) ?_
  iterate 2 refine stp (fun _ h => s0 h) ?_
  refine mrg wa (fun hc _ h => s0 h) ?_
  refine mrg wa (fun hc _ h => si h) ?_
  refine mrg wa (fun hc _ h => sl h) ?_
  refine mrg wa (fun hc _ h => sd h) ?_
  refine mrg wa (fun hc _ h => s0 h) ?_
  iterate 2 refine stp (fun _ h => s0 h) ?_
  refine mrg wa (fun hc _ h => s0 h) ?_
  refine mrg wa (fun hc _ h => cgn (w := good_FreeW (outG (wrD (wrB (outG (DK.newG [] 20) 2 0 1 y0) 3 2 0 1 (comX (openX y0).x (openX y0).y [7#8]).1 (comX (openX y0).x (openX y0).y [7#8]).2.1) 2 0 1 (crashD (comX (openX y0).x (openX y0).y [7#8]).2.1 [])) 2 0 1 (crashD (comX (openX y0).x (openX y0).y [7#8]).2.1 [])) ((wrD (wrB (outG (DK.newG [] 20) 2 0 1 y0) 3 2 0 1 (comX (openX y0).x (openX y0).y [7#8]).1 (comX (openX y0).x (openX y0).y [7#8]).2.1) 2 0 1 (crashD (comX (openX y0).x (openX y0).y [7#8]).2.1 []))).length 2 (openX (crashD (comX (openX y0).x (openX y0).y [7#8]).2.1 [])).x hB5.hW (by omega)) (x := h)) ?_
  refine mrg wa (fun hc _ h => s0 h) ?_
  iterate 2 refine stp (fun _ h => s0 h) ?_
  refine aops_nil ?_
  refine AW.ret ?_
  refine ⟨.inr rfl, ?_⟩
  apply Exists.intro
  refine leaves_tmp1 0 rfl ?_ (by rfl)
  simp (disch := first | omega | decide) only [go_sem, F, aIndex_map]
  all_goals rfl
end Go.Vai.WK
set_option linter.unusedSimpArgs false
set_option linter.unusedVariables false
set_option maxHeartbeats 4000000
set_option maxRecDepth 100000
namespace Go.Vai.MP
open Go.Proofs Go.RowKit Go.Maps Go.Shelf Go.Vai
def cloneA_ren : Go.Shelf.Ren := ⟨fun | 5 => 100 | 7 => 129 | n => n, fun | 23 => 36 | 25 => 3 | 3 => 22 | 4 => 4 | 20 => 20 | n => n, fun | n => n⟩
theorem cloneA : Go.Proofs.SlLaysW.n5 Tryz.prog cloneA_ren := {
  mixed := by kernel_rfl
  f5 := ⟨Tryz.f100.name, by decide, Tryz.func100.trans (congrArg some (by kernel_rfl))⟩
  f7 := Tryz.func129.trans (congrArg some (by kernel_rfl))
  t4 := Tryz.underlying4
  a4 := Tryz.isAgg4
  z4 := Tryz.sizeOf4
  v4 := Tryz.zeroValue4
  t20 := Tryz.underlying20
  a20 := Tryz.isAgg20
  z20 := Tryz.sizeOf20
  v20 := Tryz.zeroValue20
  t23 := Tryz.underlying36
  a23 := Tryz.isAgg36
  z23 := Tryz.sizeOf36
  v23 := Tryz.zeroValue36 }
theorem kp_a {w : World} {b : Nat} {x o : Go.Obj} (h : w.heap[b]? = some x) : (w.alloc o).heap[b]? = some x := (Go.RowKit.Below.heap_alloc w o b (Array.getElem?_eq_some_iff.1 h).1).trans h
theorem al_new {w : World} {o : Go.Obj} {n : Nat} (h : n = w.heap.size) : (w.alloc o).heap[n]? = some o := by subst h; exact (Go.MapKept.heap_alloc w o).1
theorem kp_c {w : World} {a : Addr} {v : Value} {o : Go.Obj} (h : w.cell? a = some v) : (w.alloc o).cell? a = some v := by
  have hl : a.block < w.heap.size := by
    cases e : w.heap[a.block]? with
    | none => simp [World.cell?, e] at h
    | some x => exact (Array.getElem?_eq_some_iff.1 e).1
  have e := Go.RowKit.Below.heap_alloc w o a.block hl
  simp only [World.cell?] at h ⊢
  rw [e]; exact h
/-- a disk's copy, at the machine: its maps are made in any order -/
theorem calls_Clone (bd bs bw : Nat) (n a : Int) (dd : Bool) (tyd : TypeId) (es ew : Array MapEntry) (ks kw : Nat) (w : World)
    (hd : w.heap[bd]? = some (.cells #[.int .i64 n, .map (some bs), .map (some bw), .int .i64 a, .bool dd] tyd)) (hs : w.heap[bs]? = some (.map es ks)) (hw : w.heap[bw]? = some (.map ew kw)) :
    Calls Tryz.prog 74 #[.pointer (some ⟨bd, 0, none⟩)] w fun e w' => ∃ m1 m2 t, e = .returned (.pointer (some ⟨w.heap.size, 0, none⟩)) ∧ w'.heap[w.heap.size]? = some (.cells #[.int .i64 n, .map (some m1), .map (some m2), .int .i64 a, .bool dd] t) ∧
      w'.heap[m1]? = some (.map es ks) ∧ w'.heap[m2]? = some (.map ew kw) ∧ m1 ≠ m2 ∧ w.heap.size < m1 ∧ w.heap.size < m2 ∧ Below w.heap.size w w' := by
  have c0 : w.cell? ⟨bd, 0, none⟩ = some (.int .i64 n) := by simp [World.cell?, hd]
  have c1 : w.cell? ⟨bd, 1, none⟩ = some (.map (some bs)) := by simp [World.cell?, hd]
  have c2 : w.cell? ⟨bd, 2, none⟩ = some (.map (some bw)) := by simp [World.cell?, hd]
  have c3 : w.cell? ⟨bd, 3, none⟩ = some (.int .i64 a) := by simp [World.cell?, hd]
  have c4 : w.cell? ⟨bd, 4, none⟩ = some (.bool dd) := by simp [World.cell?, hd]
  have l0 : bd < w.heap.size := (Array.getElem?_eq_some_iff.1 hd).1
  have l1 : bs < w.heap.size := (Array.getElem?_eq_some_iff.1 hs).1
  have l2 : bw < w.heap.size := (Array.getElem?_eq_some_iff.1 hw).1
  have n1 := World.new_ne w _ c1
  have n2 := World.new_ne w _ c2
  go_enter Tryz.func74, Tryz.ntmps74
  go_wp2
  go_region_held3 (fun w' => w'.cell? ⟨bd, 1, none⟩ = some (.map (some bs)) ∧ w'.cell? ⟨bd, 2, none⟩ = some (.map (some bw)) ∧ w'.heap[bs]? = some (.map es ks) ∧ w'.heap[bw]? = some (.map ew kw)) (first | exact ⟨kp_c c1, kp_c c2, kp_a hs, kp_a hw⟩ | exact ⟨kp_c (kp_c c1), kp_c (kp_c c2), kp_a (kp_a hs), kp_a (kp_a hw)⟩ | exact ⟨kp_c (kp_c (kp_c c1)), kp_c (kp_c (kp_c c2)), kp_a (kp_a (kp_a hs)), kp_a (kp_a (kp_a hw))⟩)
    (first
      | (go_at_call_of 100 (Value.map (some bs)); refine (AnyW.maps_Clone cloneA bs es ks _ ?_).mono ?_; (simp [*]); rintro e w' ⟨rfl, rfl⟩)
      | (go_at_call_of 100 (Value.map (some bw)); refine (AnyW.maps_Clone cloneA bw ew kw _ ?_).mono ?_; (simp [*]); rintro e w' ⟨rfl, rfl⟩))
  all_goals go_wp2
  all_goals go_ret
  exact ⟨w.heap.size + 1, w.heap.size + 2, 38, rfl, kp_a (kp_a (al_new rfl)), kp_a (al_new (by simp)), al_new (by simp), by omega, by omega, by omega, ((((Below.refl _ w).alloc (Nat.le_refl _) _).alloc (by simp) _).alloc (by simp; omega) _).drew⟩
theorem good_CloneG (G : List (List AV)) (d is iw : Nat) (x : DK.Dk) (hD : DK.HasD G d is iw x) :
    Good Tryz.prog 74 [(.gp d 0, false)] G [(.gp (G.length + 2) 0, false)] (G ++ [[.mp (DK.mapA x.safe)], [.mp (DK.mapA x.waits)], [i64 x.n, .gm G.length, .gm (G.length + 1), i64 x.armed, .b x.dead]]) := by
  refine ⟨⟨_, _, Tryz.func74, rfl, rfl⟩, fun gh w vs hg ha => ?_⟩
  obtain ⟨a1, a2⟩ := ha
  obtain ⟨v1, rfl⟩ : ∃ v1, vs = #[v1] := by
    match vs, a1 with
    | ⟨[v1]⟩, _ => exact ⟨v1, rfl⟩
  have r1 : R gh w (.gp d 0) v1 := by simpa [CompRel] using a2 0 _ v1 rfl rfl
  obtain ⟨bd, rfl, g1⟩ := gp_val r1
  obtain ⟨p1, c1⟩ := hg.glob d bd _ g1 hD.hd
  rcases c1 with ⟨cs, tyd, hb, hcn, hcs⟩ | ⟨f, e, _⟩
  case inr => cases e
  obtain ⟨u0, e0, _, r0⟩ := hcs 0 _ rfl
  obtain ⟨u1, e1, _, r1⟩ := hcs 1 _ rfl
  obtain ⟨u2, e2, _, r2⟩ := hcs 2 _ rfl
  obtain ⟨u3, e3, _, r3⟩ := hcs 3 _ rfl
  obtain ⟨u4, e4, _, r4⟩ := hcs 4 _ rfl
  obtain ⟨bs, rfl, g2⟩ := gm_val r1
  obtain ⟨bw, rfl, g3⟩ := gm_val r2
  obtain rfl : u0 = .int .i64 x.n := by cases r0; rfl
  obtain rfl : u3 = .int .i64 x.armed := by cases r3; rfl
  obtain rfl : u4 = .bool x.dead := by cases r4; rfl
  obtain rfl : cs = #[.int .i64 x.n, .map (some bs), .map (some bw), .int .i64 x.armed, .bool x.dead] := by
    obtain ⟨l⟩ := cs
    have hl : l.length = 5 := hcn
    match l, hl with
    | [y0, y1, y2, y3, y4], _ =>
      simp only [List.getElem?_toArray, List.getElem?_cons_zero, List.getElem?_cons_succ, Option.some.injEq] at e0 e1 e2 e3 e4
      subst e0 e1 e2 e3 e4; rfl
  obtain ⟨_, m1⟩ := g_map hg g2 hD.hs
  obtain ⟨_, m2⟩ := g_map hg g3 hD.hw
  obtain ⟨es, ks, hs, hO1, hH1⟩ := m1
  obtain ⟨ew, kw, hw, hO2, hH2⟩ := m2
  refine (calls_Clone bd bs bw x.n x.armed x.dead tyd es ew ks kw w hb hs hw).mono ?_
  rintro e w' ⟨m1, m2, t, rfl, h0, h1, h2, hne, l1, l2, hbw⟩
  have hl : gh.γ.length = G.length := hg.glen
  let gh' : Gh := { gh with ρ := fun b => if b = m1 then .glob G.length else if b = m2 then .glob (G.length + 1) else if b = w.heap.size then .glob (G.length + 2) else gh.ρ b, γ := gh.γ ++ [m1, m2, w.heap.size] }
  have hρ : ∀ c, c < w.heap.size → gh'.ρ c = gh.ρ c := fun c hc => by
    show (if c = m1 then _ else _) = _
    rw [if_neg (by omega), if_neg (by omega), if_neg (by omega)]
  have hρ1 : gh'.ρ m1 = .glob G.length := if_pos rfl
  have hρ2 : gh'.ρ m2 = .glob (G.length + 1) := by
    show (if m2 = m1 then _ else _) = _
    rw [if_neg (Ne.symm hne), if_pos rfl]
  have hρ3 : gh'.ρ w.heap.size = .glob (G.length + 2) := by
    show (if w.heap.size = m1 then _ else _) = _
    rw [if_neg (by omega), if_neg (by omega), if_pos rfl]
  have hγ1 : gh'.γ[G.length]? = some m1 := by
    show (gh.γ ++ _)[_]? = _
    rw [List.getElem?_append_right (by omega), hl, Nat.sub_self]; rfl
  have hγ2 : gh'.γ[G.length + 1]? = some m2 := by
    show (gh.γ ++ _)[_]? = _
    rw [List.getElem?_append_right (by omega), hl, show G.length + 1 - G.length = 1 by omega]; rfl
  have hγ3 : gh'.γ[G.length + 2]? = some w.heap.size := by
    show (gh.γ ++ _)[_]? = _
    rw [List.getElem?_append_right (by omega), hl, show G.length + 2 - G.length = 2 by omega]; rfl
  have hx : Ext gh w gh' w' := ⟨hbw.os, hbw.tape, hbw.output, hbw.size, fun c hc => by
      have h1 : gh.ρ c = .imm := hc
      have h2 := hg.alloc c (by rw [h1]; decide)
      exact ⟨(hρ c h2).trans h1, hbw.block c h2⟩, fun c hl hc => ⟨(hρ c hl).trans hc, hbw.block c hl⟩, fun id b h => by
      show (gh.γ ++ _)[_]? = _
      rw [List.getElem?_append_left (List.getElem?_eq_some_iff.1 h).1]; exact h⟩
  refine ⟨_, gh', rfl, hx, ⟨fun b hb' => ?_, fun n => trivial, by show (gh.γ ++ _).length = (G ++ _).length; simp [hl], fun id b cells k1 k2 => ?_⟩, .gp _ _ _ hγ3⟩
  · by_cases q1 : b = m1
    · rw [q1]; exact (Array.getElem?_eq_some_iff.1 h1).1
    by_cases q2 : b = m2
    · rw [q2]; exact (Array.getElem?_eq_some_iff.1 h2).1
    by_cases q3 : b = w.heap.size
    · rw [q3]; exact (Array.getElem?_eq_some_iff.1 h0).1
    have h4 : gh'.ρ b = gh.ρ b := by
      show (if b = m1 then _ else _) = _
      rw [if_neg q1, if_neg q2, if_neg q3]
    rw [h4] at hb'
    exact Nat.lt_of_lt_of_le (hg.alloc b hb') hbw.size
  · rcases Nat.lt_or_ge id G.length with q | q
    · have k1' : gh.γ[id]? = some b := by
        have : (gh.γ ++ [m1, m2, w.heap.size])[id]? = some b := k1
        rw [List.getElem?_append_left (by omega)] at this; exact this
      have k2' : G[id]? = some cells := by
        have : (G ++ _)[id]? = some cells := k2
        rw [List.getElem?_append_left q] at this; exact this
      obtain ⟨w1, w2⟩ := hg.glob id b cells k1' k2'
      have h3 := hg.alloc b (by rw [w1]; simp)
      exact ⟨(hρ b h3).trans w1, w2.mono (hbw.block b h3) fun _ _ h => h.mono hx⟩
    · have k2' : (G ++ _)[id]? = some cells := k2
      rw [List.getElem?_append_right q] at k2'
      have q3 : id - G.length < 3 := (List.getElem?_eq_some_iff.1 k2').1
      have q4 : id = G.length ∨ id = G.length + 1 ∨ id = G.length + 2 := by omega
      rcases q4 with rfl | rfl | rfl
      · obtain rfl : m1 = b := Option.some.inj (hγ1.symm.trans k1)
        rw [Nat.sub_self] at k2'
        obtain rfl : _ = cells := Option.some.inj k2'
        exact ⟨hρ1, .inr ⟨_, rfl, es, ks, h1, hO1, hH1.mono fun _ _ h => h.mono hx⟩⟩
      · obtain rfl : m2 = b := Option.some.inj (hγ2.symm.trans k1)
        rw [show G.length + 1 - G.length = 1 by omega] at k2'
        obtain rfl : _ = cells := Option.some.inj k2'
        exact ⟨hρ2, .inr ⟨_, rfl, ew, kw, h2, hO2, hH2.mono fun _ _ h => h.mono hx⟩⟩
      · obtain rfl : w.heap.size = b := Option.some.inj (hγ3.symm.trans k1)
        rw [show G.length + 2 - G.length = 2 by omega] at k2'
        obtain rfl : _ = cells := Option.some.inj k2'
        refine ⟨hρ3, .inl ⟨_, t, h0, rfl, fun j y hj => ?_⟩⟩
        match j, hj with
        | 0, hj => obtain rfl := Option.some.inj hj; exact ⟨_, rfl, rfl, .base _⟩
        | 1, hj => obtain rfl := Option.some.inj hj; exact ⟨_, rfl, rfl, .gm _ _ hγ1⟩
        | 2, hj => obtain rfl := Option.some.inj hj; exact ⟨_, rfl, rfl, .gm _ _ hγ2⟩
        | 3, hj => obtain rfl := Option.some.inj hj; exact ⟨_, rfl, rfl, .base _⟩
        | 4, hj => obtain rfl := Option.some.inj hj; exact ⟨_, rfl, rfl, .base _⟩
        | k + 5, hj => simp at hj
end Go.Vai.MP
namespace Go.Vai.WK
open Go.Proofs Go.Vai Go.Vai.DK Go.Vai.G Go.Vai.L Go.Vai.MP Go.Vai.O Go.Vai.RC Go.Vai.S7 Go.Vai.U Go.Vai.V Go.Vai.W8 Go.Vai.Z
set_option linter.unusedSimpArgs false
set_option linter.unusedVariables false
set_option maxHeartbeats 4000000
set_option maxRecDepth 100000
open Go.Vai.DK Go.Vai.U Go.Vai.V Go.Vai.S7 Go.Vai.RC Go.Vai.G Go.Vai.W8
attribute [simp] noPtr_ps noPtrL_ps noPtrL_tear noPtr_tear
theorem good_Told (G : List (List AV)) (d is iw : Nat) (y : Dk) (hD : HasD G d is iw y) (hF : Fine y) (ln : Bool) (l : List Tear) (hl : l.length ≤ 100000) (hlb : ∀ t ∈ l, t.b.length ≤ 1000000) : Good Tryz.prog 34 [(.gp d 0, false), (.sl 2 ln (l.map tearA), false)] G [(.b (toldB y l), false)] (toldG G y l) := by
  refine good_of_body2 109 Tryz.func34 rfl rfl rfl (by simp) ?_
  intro s m ha hr hv hG
  have f0 : s 0 = .v (.gp d 0) := ha 0 _ rfl
  have f1 : s 1 = .v (.sl 2 ln (l.map tearA)) := ha 1 _ rfl
  clear ha
  have hc : True := trivial
  have F := (And.intro f0 (And.intro f1 hG))
  obtain ⟨N, eN⟩ : ∃ N, N = G.length := ⟨_, rfl⟩
  obtain ⟨C1, hC1⟩ : ∃ C1, C1 = cloG G y := ⟨_, rfl⟩
  have hn1 : C1.length = N + 3 := by rw [hC1, clo_len, eN]
  obtain ⟨C2, hC2⟩ : ∃ C2, C2 = cloG C1 y := ⟨_, rfl⟩
  have hn2 : C2.length = N + 6 := by rw [hC2, clo_len, hn1]
  obtain ⟨C3, hC3⟩ : ∃ C3, C3 = cloG C2 y := ⟨_, rfl⟩
  have hn3 : C3.length = N + 9 := by rw [hC3, clo_len, hn2]
  have hp1 : ∀ i, i < G.length → C1[i]? = G[i]? := fun i h => by rw [hC1, cloG, List.getElem?_append_left h]
  have hp2 : ∀ i, i < C1.length → C2[i]? = C1[i]? := fun i h => by rw [hC2, cloG, List.getElem?_append_left h]
  have hp3 : ∀ i, i < C2.length → C3[i]? = C2[i]? := fun i h => by rw [hC3, cloG, List.getElem?_append_left h]
  have hDa : HasD C1 d is iw y := hasD_pre hD hp1
  have hDb : HasD C2 d is iw y := hasD_pre hDa hp2
  have hDc : HasD C3 d is iw y := hasD_pre hDb hp3
  have hc1 : Good Tryz.prog 74 [(.gp d 0, false)] G [(.gp (N + 2) 0, false)] C1 := by (have q := MP.good_CloneG G d is iw y hD; rw [hC1, eN]; exact q)
  have hc2 : Good Tryz.prog 74 [(.gp d 0, false)] C1 [(.gp (N + 5) 0, false)] C2 := by (have q := MP.good_CloneG C1 d is iw y hDa; rw [hn1] at q; rw [hC2, cloG, hn1]; exact q)
  have hc3 : Good Tryz.prog 74 [(.gp d 0, false)] C2 [(.gp (N + 8) 0, false)] C3 := by (have q := MP.good_CloneG C2 d is iw y hDb; rw [hn2] at q; rw [hC3, cloG, hn2]; exact q)
  have d1 : HasD C1 (N + 2) N (N + 1) y := by (have q := clo_has G y; rw [← hC1, ← eN] at q; exact q)
  have d2 : HasD C2 (N + 5) (N + 3) (N + 4) y := by (have q := clo_has C1 y; rw [← hC2, hn1] at q; exact q)
  have d3 : HasD C3 (N + 8) (N + 6) (N + 7) y := by (have q := clo_has C2 y; rw [← hC3, hn2] at q; exact q)
  have d1c : HasD C3 (N + 2) N (N + 1) y := hasD_pre (hasD_pre d1 hp2) hp3
  have d2c : HasD C3 (N + 5) (N + 3) (N + 4) y := hasD_pre d2 hp3
  obtain ⟨C4, hC4⟩ : ∃ C4, C4 = wrD C3 (N + 2) N (N + 1) (crashD y l) := ⟨_, rfl⟩
  obtain ⟨C5, hC5⟩ : ∃ C5, C5 = wrD C4 (N + 5) (N + 3) (N + 4) (crashD y []) := ⟨_, rfl⟩
  have e6 : toldG G y l = wrD C5 (N + 8) (N + 6) (N + 7) (keptD y) := by rw [hC5, hC4, hC3, hC2, hC1, eN]; rfl
  have d2d : HasD C4 (N + 5) (N + 3) (N + 4) y := by rw [hC4]; exact wr_apart d2c (by omega) (by omega) (by omega)
  have d3d : HasD C4 (N + 8) (N + 6) (N + 7) y := by rw [hC4]; exact wr_apart d3 (by omega) (by omega) (by omega)
  have d3e : HasD C5 (N + 8) (N + 6) (N + 7) y := by rw [hC5]; exact wr_apart d3d (by omega) (by omega) (by omega)
  have hT4 : HasD C4 (N + 2) N (N + 1) (crashD y l) := by rw [hC4]; exact wr_has d1c
  have hT5 : HasD C5 (N + 2) N (N + 1) (crashD y l) := by rw [hC5]; exact wr_apart hT4 (by omega) (by omega) (by omega)
  have hL5 : HasD C5 (N + 5) (N + 3) (N + 4) (crashD y []) := by rw [hC5]; exact wr_has d2d
  have hT : HasD (toldG G y l) (N + 2) N (N + 1) (crashD y l) := by rw [e6]; exact wr_apart hT5 (by omega) (by omega) (by omega)
  have hL : HasD (toldG G y l) (N + 5) (N + 3) (N + 4) (crashD y []) := by rw [e6]; exact wr_apart hL5 (by omega) (by omega) (by omega)
  have hK : HasD (toldG G y l) (N + 8) (N + 6) (N + 7) (keptD y) := by rw [e6]; exact wr_has d3e
  have hr1 : Good Tryz.prog 23 [(.gp (N + 2) 0, false), (.sl 2 ln (l.map tearA), false)] C3 [] C4 := by (have q := DK.good_CrashG C3 (N + 2) N (N + 1) y d1c hF ln l hl hlb; rw [hC4]; exact q)
  have hr2 : Good Tryz.prog 23 [(.gp (N + 5) 0, false), (.sl 0 true ([] : List AV), false)] C4 [] C5 := by (have q := DK.good_CrashG C4 (N + 5) (N + 3) (N + 4) y d2d hF true [] (by decide) (fun t h => by cases h); rw [hC5]; exact q.nil1 (s' := 0))
  have hwl := wait_len hF
  have hr3 : Good Tryz.prog 23 [(.gp (N + 8) 0, false), (.sl 2 false ((tkL (waitL y).length).map tearA), false)] C5 [] (toldG G y l) := by (have q := DK.good_CrashG C5 (N + 8) (N + 6) (N + 7) y d3e hF false (tkL (waitL y).length) (by rw [tkL_len]; omega) (fun t h => by (rw [List.eq_of_mem_replicate h]; decide)); rw [e6]; exact q)
  refine AW.seq ?_
  refine AW.region (cfg := cfg) ?_
  refine stp (fun _ h => s0 h) ?_
  refine aops_nil ?_
  refine AW.seq ?_
  refine AW.region (cfg := cfg) ?_
  refine stp (fun _ h => s0 h) ?_
  refine stp (fun _ h => cg (w := hc1) (x := h)) ?_
  refine stp (fun _ h => s0 h) ?_
  refine stp (fun _ h => cg (w := hc2) (x := h)) ?_
  refine stp (fun _ h => s0 h) ?_
  refine stp (fun _ h => cg (w := hc3) (x := h)) ?_
  iterate 3 refine stp (fun _ h => s0 h) ?_
  refine aops_nil ?_
  refine AW.seq ?_
  refine AW.region (cfg := cfg) ?_
  refine stp (fun _ h => s0 h) ?_
  refine stp (fun _ h => cg (w := MP.good_WaitsG C3 d is iw y hDc (small_w hF) (waitL y) (wait_sorted y) (wait_mem hF)) (x := h)) ?_
  refine stp (fun _ h => s0 h) ?_
  refine aops_nil ?_
  refine AW.seq ?_
  refine AW.region (cfg := cfg) ?_
  refine stp (fun _ h => sq h) ?_
  refine stp (fun _ h => st h) ?_
  refine aops_nil ?_
  refine AW.seq ?_
  refine AW.seq ?_
  refine AW.region (cfg := cfg) ?_
  refine stp (fun _ h => s0 h) ?_
  refine aops_nil ?_
  refine AW.block ?_
  refine AW.forN (fun k σ => ∃ s m, σ = ⟨109, s, m⟩ ∧ s 0 = .v (.gp d 0) ∧ s 1 = .v (.sl 2 ln (l.map tearA)) ∧ s 5 = .v (.gp (N + 2) 0) ∧ s 6 = .v (.gp (N + 5) 0) ∧ s 7 = .v (.gp (N + 8) 0) ∧ s 8 = .v (.sl 1 (waitL y).isEmpty ((waitL y).map i64)) ∧ s 9 = .own (.var 9) (m.objs (.var 9)).1 0 ((tkL k).length) ∧ (m.objs (.var 9)).2 = .arr false 2 ((tkL k).map tearA) ∧ s 10 = .v (i64 (k : Int)) ∧ (∀ i, (m.objs (.res i)).2 = .dead) ∧ m.G = C3) ((waitL y).length) ?_ ?_ ?_
  · refine ⟨_, _, rfl, ?_, ?_, ?_, ?_, ?_, ?_, ?_, ?_, ?_, (by intro i; simp [Mem.set, hr]), (by rfl)⟩ <;> try simp (disch := first | omega | decide) only [go_sem, F, aIndex_map]
    all_goals rfl
  · clear F f0 f1 hr hG
    rintro k σ hk ⟨s, m, rfl, f0, f1, f5, f6, f7, f8, f9, o9, f10, hr, hG⟩
    obtain ⟨g9, o9⟩ : ∃ g, m.objs (.var 9) = (g, .arr false 2 ((tkL k).map tearA)) := ⟨_, Prod.ext rfl o9⟩
    rw [o9] at f9
    have F := (And.intro f0 (And.intro f1 (And.intro f5 (And.intro f6 (And.intro f7 (And.intro f8 (And.intro f9 (And.intro f10 (And.intro o9 hG)))))))))
    refine AW.seq ?_
    refine AW.seq ?_
    refine AW.region (cfg := cfg) ?_
    iterate 2 refine stp (fun _ h => s0 h) ?_
    refine stp (fun _ h => sd h) ?_
    refine stp (fun _ h => s0 h) ?_
    refine aops_nil ?_
    refine cnd (fun hb => ?ht1) (fun hb => ?hf1)
    case hf1 => (simp at hb; omega)
    case ht1 =>
    have hbt32 := hb
    refine AW.skip ?_
    refine AW.seq ?_
    refine AW.block ?_
    refine AW.region (cfg := cfg) ?_
    refine stp (fun _ h => s0 h) ?_
    refine stp (fun _ h => su h) ?_
    refine stp (fun _ h => sq h) ?_
    refine stp (fun _ h => sp h) ?_
    refine stp (fun _ h => st h) ?_
    refine aops_nil ?_
    refine AW.region (cfg := cfg) ?_
    refine stp (fun _ h => s0 h) ?_
    refine stp (fun _ h => sd h) ?_
    refine stp (fun _ h => s0 h) ?_
    refine aops_nil ?_
    refine ⟨_, _, rfl, ?_, ?_, ?_, ?_, ?_, ?_, ?_, ?_, ?_, (by intro i; simp [Mem.set, hr]), (by exact hG)⟩ <;> try simp (disch := first | omega | decide) only [go_sem, F, aIndex_map]
    all_goals first | rfl | (rw [tkL_next, List.map_append]; rfl)
  · clear F f0 f1 hr hG
    rintro σ ⟨s, m, rfl, f0, f1, f5, f6, f7, f8, f9, o9, f10, hr, hG⟩
    obtain ⟨g9, o9⟩ : ∃ g, m.objs (.var 9) = (g, .arr false 2 ((tkL (waitL y).length).map tearA)) := ⟨_, Prod.ext rfl o9⟩
    rw [o9] at f9
    have F := (And.intro f0 (And.intro f1 (And.intro f5 (And.intro f6 (And.intro f7 (And.intro f8 (And.intro f9 (And.intro f10 (And.intro o9 hG)))))))))
    refine AW.seq ?_
    refine AW.seq ?_
    refine AW.region (cfg := cfg) ?_
    iterate 2 refine stp (fun _ h => s0 h) ?_
    refine stp (fun _ h => sd h) ?_
    refine stp (fun _ h => s0 h) ?_
    refine aops_nil ?_
    refine cnd (fun hb => ?ht2) (fun hb => ?hf2)
    case ht2 => (simp at hb; done)
    case hf2 =>
    have hbt32 := hb
    refine AW.exit ?_
    refine AW.seq ?_
    refine AW.region (cfg := cfg) ?_
    iterate 2 refine stp (fun _ h => s0 h) ?_
    refine stp (fun _ h => cg (w := hr1) (x := h)) ?_
    refine aops_nil ?_
    refine AW.seq ?_
    refine AW.region (cfg := cfg) ?_
    refine stp (fun _ h => s0 h) ?_
    refine stp (fun _ h => cg (w := hr2) (x := h)) ?_
    refine aops_nil ?_
    refine AW.seq ?_
    refine AW.frzVar 9 (by simp (disch := first | omega | decide) only [go_sem, F]; rfl) (by simp (disch := first | omega | decide) only [go_sem, F]; rfl) ?_
    have hsub : sub ((tkL (waitL y).length).map tearA) 0 (tkL (waitL y).length).length = (tkL (waitL y).length).map tearA := by simp [sub, List.take_of_length_le]
    have F := And.intro hsub F
    refine AW.region (cfg := cfg) ?_
    iterate 2 refine stp (fun _ h => s0 h) ?_
    refine stp (fun _ h => cg (w := hr3) (x := h)) ?_
    refine aops_nil ?_
    refine AW.seq ?_
    refine AW.seq ?_
    refine AW.region (cfg := cfg) ?_
    refine stp (fun _ h => s0 h) ?_
    refine aops_nil ?_
    refine AW.block ?_
    refine AW.forN (fun k σ => ∃ s m, σ = ⟨109, s, m⟩ ∧ s 5 = .v (.gp (N + 2) 0) ∧ s 6 = .v (.gp (N + 5) 0) ∧ s 7 = .v (.gp (N + 8) 0) ∧ s 8 = .v (.sl 1 (waitL y).isEmpty ((waitL y).map i64)) ∧ s 11 = .v (i64 (k : Int)) ∧ (∀ j (hj : j < (waitL y).length), j < k → okT y l (waitL y)[j] = true) ∧ (∀ i, (m.objs (.res i)).2 = .dead) ∧ m.G = (toldG G y l)) ((waitL y).length) ?_ ?_ ?_
    · refine ⟨_, _, rfl, ?_, ?_, ?_, ?_, ?_, ?_, (by intro i; simp [Mem.set, hr]), (by rfl)⟩ <;> try simp (disch := first | omega | decide) only [go_sem, F, aIndex_map]
      all_goals first | rfl | (intro j hj h; omega)
    · clear F f0 f1 f5 f6 f7 f8 f9 f10 o9 hr hG
      rintro k σ hk ⟨s, m, rfl, f5, f6, f7, f8, f11, mo0, hr, hG⟩
      have F := (And.intro f5 (And.intro f6 (And.intro f7 (And.intro f8 (And.intro f11 (And.intro hsub hG))))))
      refine AW.seq ?_
      refine AW.seq ?_
      refine AW.region (cfg := cfg) ?_
      iterate 2 refine stp (fun _ h => s0 h) ?_
      refine stp (fun _ h => sd h) ?_
      refine stp (fun _ h => s0 h) ?_
      refine aops_nil ?_
      refine cnd (fun hb => ?ht3) (fun hb => ?hf3)
      case hf3 => (simp at hb; omega)
      case ht3 =>
      have hbt50 := hb
      refine AW.skip ?_
      refine AW.seq ?_
      refine AW.block ?_
      refine AW.seq ?_
      have hkw : k < (waitL y).length := by omega
      have hwm : (waitL y)[k] ∈ waitL y := List.getElem_mem hkw
      have hin : 0 ≤ (waitL y)[k] ∧ (waitL y)[k] < y.n := hF.kw _ ((wait_mem hF _).1 hwm)
      obtain ⟨x1, x2, x3⟩ := rd_in (y := y) (i := (waitL y)[k]) (crash_off l hF) (crash_n y l) hin
      obtain ⟨x4, x5, x6⟩ := rd_in (y := y) (i := (waitL y)[k]) (crash_off [] hF) (crash_n y []) hin
      obtain ⟨x7, x8, x9⟩ := rd_in (y := y) (z := keptD y) (i := (waitL y)[k]) (crash_off (tkL (waitL y).length) hF) (crash_n y (tkL (waitL y).length)) hin
      have r1 := WK.read_len (crash_fine (l := l) hF).w (waitL y)[k]
      have r2 := WK.read_len (crash_fine (l := []) hF).w (waitL y)[k]
      have r3 : (readD (keptD y) (waitL y)[k]).length = 512 := WK.read_len (crash_fine (l := tkL (waitL y).length) hF).w (waitL y)[k]
      have F := And.intro x1 F
      have F := And.intro x2 F
      have F := And.intro x3 F
      have F := And.intro x4 F
      have F := And.intro x5 F
      have F := And.intro x6 F
      have F := And.intro x7 F
      have F := And.intro x8 F
      have F := And.intro x9 F
      refine AW.region (cfg := cfg) ?_
      iterate 3 refine stp (fun _ h => s0 h) ?_
      refine stp (fun _ h => si h) ?_
      refine stp (fun _ h => sl h) ?_
      refine stp (fun _ h => cg (w := DK.good_ReadG (toldG G y l) (N + 2) N (N + 1) (crashD y l) hT (crash_fine hF).w (waitL y)[k]) (x := h)) ?_
      iterate 5 refine stp (fun _ h => s0 h) ?_
      refine aops_nil ?_
      refine AW.seq ?_
      refine AW.region (cfg := cfg) ?_
      iterate 3 refine stp (fun _ h => s0 h) ?_
      refine stp (fun _ h => si h) ?_
      refine stp (fun _ h => sl h) ?_
      refine stp (fun _ h => cg (w := DK.good_ReadG (toldG G y l) (N + 5) (N + 3) (N + 4) (crashD y []) hL (crash_fine hF).w (waitL y)[k]) (x := h)) ?_
      iterate 5 refine stp (fun _ h => s0 h) ?_
      refine aops_nil ?_
      refine AW.seq ?_
      refine AW.region (cfg := cfg) ?_
      iterate 3 refine stp (fun _ h => s0 h) ?_
      refine stp (fun _ h => si h) ?_
      refine stp (fun _ h => sl h) ?_
      refine stp (fun _ h => cg (w := DK.good_ReadG (toldG G y l) (N + 8) (N + 6) (N + 7) (keptD y) hK (crash_fine hF).w (waitL y)[k]) (x := h)) ?_
      iterate 5 refine stp (fun _ h => s0 h) ?_
      refine aops_nil ?_
      refine AW.seq ?_
      refine AW.seq ?_
      refine AW.region (cfg := cfg) ?_
      iterate 3 refine stp (fun _ h => s0 h) ?_
      iterate 2 refine mrg wa (fun hc _ h => s0 h) ?_
      iterate 2 refine stp (fun _ h => s0 h) ?_
      iterate 2 refine mrg wa (fun hc _ h => s0 h) ?_
      refine stp (fun _ h => s0 h) ?_
      refine aops_nil ?_
      refine cnd (fun hb => ?ht4) (fun hb => ?hf4)
      case ht4 => simp at hb
      case hf4 =>
      have hbt89 := hb
      refine AW.skip ?_
      refine AW.seq ?_
      refine AW.region (cfg := cfg) ?_
      refine stp (fun _ h => s0 h) ?_
      refine stp (fun _ h => cr (w := good_GetP false (readD (crashD y l) (waitL y)[k]) (by omega) (fun h => by cases h)) (x := h)) ?_
      iterate 3 refine stp (fun _ h => s0 h) ?_
      refine stp (fun _ h => sd h) ?_
      refine stp0 (fun _ h => ss h) ?_
      refine stp (fun _ h => s0 h) ?_
      refine aops_nil ?_
      refine AW.seq ?_
      refine AW.region (cfg := cfg) ?_
      iterate 3 refine stp (fun _ h => s0 h) ?_
      iterate 2 refine mrg wa (fun hc _ h => s0 h) ?_
      refine mrg wa (fun hc _ h => cs (w := O.good_Same false false (readD (crashD y l) (waitL y)[k]) (readD (crashD y []) (waitL y)[k]) (by omega) (by omega)) (x := h)) ?_
      refine mrg wa (fun hc _ h => s0 h) ?_
      iterate 2 refine stp (fun _ h => s0 h) ?_
      iterate 2 refine mrg wa (fun hc _ h => s0 h) ?_
      refine mrg wa (fun hc _ h => cs (w := O.good_Same false false (readD (crashD y l) (waitL y)[k]) (readD (keptD y) (waitL y)[k]) (by omega) (by omega)) (x := h)) ?_
      refine mrg wa (fun hc _ h => s0 h) ?_
      refine stp (fun _ h => s0 h) ?_
      refine aops_nil ?_
      refine cnd (fun hb => ?ht5) (fun hb => ?hf5)
      case ht5 =>
        have hw108 := hb
        try simp only [bo1, bo2, bo3, bo4, bo5, bo6] at hb
        have hbt108 := hb
        refine AW.seq ?_
        refine AW.region (cfg := cfg) ?_
        refine stp (fun _ h => s0 h) ?_
        refine aops_nil ?_
        refine AW.ret ?_
        refine ⟨.inr rfl, ?_⟩
        refine leaves_tmp1 4 rfl ?_ (by rfl)
        simp (disch := first | omega | decide) only [go_sem, F, aIndex_map]
        all_goals (rw [told_no hkw (ok_no hbt108)]; done)
      case hf5 =>
        have hw108 := hb
        try simp only [bo1, bo2, bo3, bo4, bo5, bo6] at hb
        have hbt108 := hb
        refine AW.skip ?_
        refine AW.region (cfg := cfg) ?_
        refine stp (fun _ h => s0 h) ?_
        refine stp (fun _ h => sd h) ?_
        refine stp (fun _ h => s0 h) ?_
        refine aops_nil ?_
        refine ⟨_, _, rfl, ?_, ?_, ?_, ?_, ?_, ?_, (by intro i; simp [Mem.set, hr]), (by rfl)⟩ <;> try simp (disch := first | omega | decide) only [go_sem, F, aIndex_map]
        all_goals first | rfl | (intro j hj h; rcases Nat.lt_or_ge j k with e | e; exact mo0 j hj e; obtain rfl : j = k := (by omega); exact ok_yes hbt108)
    · clear F f0 f1 f5 f6 f7 f8 f9 f10 o9 hr hG
      rintro σ ⟨s, m, rfl, f5, f6, f7, f8, f11, mo0, hr, hG⟩
      have F := (And.intro f5 (And.intro f6 (And.intro f7 (And.intro f8 (And.intro f11 (And.intro hsub hG))))))
      refine AW.seq ?_
      refine AW.seq ?_
      refine AW.region (cfg := cfg) ?_
      iterate 2 refine stp (fun _ h => s0 h) ?_
      refine stp (fun _ h => sd h) ?_
      refine stp (fun _ h => s0 h) ?_
      refine aops_nil ?_
      refine cnd (fun hb => ?ht6) (fun hb => ?hf6)
      case ht6 => (simp at hb; done)
      case hf6 =>
      have hbt50 := hb
      refine AW.exit ?_
      refine AW.seq ?_
      refine AW.region (cfg := cfg) ?_
      refine stp (fun _ h => s0 h) ?_
      refine aops_nil ?_
      refine AW.ret ?_
      refine ⟨.inr rfl, ?_⟩
      refine leaves_tmp1 4 rfl ?_ (by exact hG)
      simp (disch := first | omega | decide) only [go_sem, F, aIndex_map]
      all_goals (rw [told_yes mo0]; done)
end Go.Vai.WK
namespace Go.Vai.WK
open Go.Proofs Go.Vai Go.Vai.DK Go.Vai.G Go.Vai.L Go.Vai.MP Go.Vai.O Go.Vai.RC Go.Vai.S7 Go.Vai.U Go.Vai.V Go.Vai.Z
set_option linter.unusedSimpArgs false
set_option linter.unusedVariables false
set_option maxHeartbeats 4000000
set_option maxRecDepth 100000
open Go.Vai.DK Go.Vai.U Go.Vai.V Go.Vai.S7 Go.Vai.RC Go.Vai.G
attribute [simp] noPtr_ps noPtrL_ps noPtr_page
def cfgO : Cfg := { cfg with glob := fun d => d == 41, move := fun t => t == 4 }
theorem glO6 : cfgO.glob 6 = false := rfl
theorem glO10 : cfgO.glob 10 = false := rfl
theorem glO41 : cfgO.glob 41 = true := rfl
attribute [go_sem] glO6 glO10 glO41
theorem leaves_o4 {P : Program} {C : Contract} {fn : Func} {sz : Nat} {nil : Bool} {xs ys : List AV} {a b e : AV} {G' : List (List AV)} {n : Nat} {s : Nat → LV} {m : Mem} {k : Nm} {g hi : Nat} (hr : fn.results = #[.tmp 2, .tmp 3, .tmp 4, .tmp 5]) (h2 : s 2 = .v a) (h3 : s 3 = .v b) (h4 : s 4 = .own k g 0 hi) (ho : m.objs k = (g, .arr nil sz xs)) (h5 : s 5 = .v e) (hk : k ≠ .res 2)
    (hy : sub xs 0 hi = ys) (hG : m.G = G') : Leaves P C fn [(a, false), (b, false), (.sl sz nil ys, true), (e, false)] G' ⟨n, s, m⟩ := by
  subst hy
  refine leaves_mwp ?_
  have e1 : (Nm.res 2 = k) = False := eq_false fun h => hk h.symm
  simp [leave, hr, giveL, srcOne, h2, h3, h4, h5, opn, giveOne, reify, hk, rehome, readL, readOne, Mwp, M.bind, hG, ho, Mem.set, e1]
theorem good_recordsO (nil : Bool) (l : List Page) (hl : l.length ≤ 1000000) (pl : ∀ x ∈ l, x.b.length ≤ 488) : Good Tryz.prog 42 [(.sl 7 nil (l.map pageA), false)] [] [(.sl 1 (recF l).1.isEmpty ((recF l).1.map pslice), true), (i64 ((recF l).2 : Int), false)] [] := by
  refine good_of_body5 28 Tryz.func42 rfl rfl rfl (by simp) (by simp) (by simp [noPtrL, noPtr]) (by simp [noPtrL, noPtr]) ?_
  intro s m ha hr hv hG
  have f0 : s 0 = .v (.sl 7 nil (l.map pageA)) := ha 0 _ rfl
  clear ha
  have hc : True := trivial
  have F := (And.intro f0 hG)
  obtain ⟨N, hN1, hN2, hN3, hN4⟩ := rec_end l
  refine AW.seq ?_
  refine AW.region (cfg := cfg2) ?_
  iterate 2 refine stp (fun _ h => s0 h) ?_
  refine aops_nil ?_
  refine AW.seq ?_
  refine AW.region (cfg := cfg2) ?_
  refine stp (fun _ h => s0 h) ?_
  refine aops_nil ?_
  refine AW.seq ?_
  refine AW.region (cfg := cfg2) ?_
  refine stp (fun _ h => s0 h) ?_
  refine aops_nil ?_
  refine AW.block ?_
  refine AW.forN (fun N σ => ∃ s m, σ = ⟨28, s, m⟩ ∧ s 0 = .v (.sl 7 nil (l.map pageA)) ∧ s 4 = .own (.var 4) (m.objs (.var 4)).1 0 ((recS l N).1.length) ∧ (m.objs (.var 4)).2 = .arr (recS l N).1.isEmpty 1 ((recS l N).1.map pslice) ∧ s 5 = .v (i64 ((recS l N).2 : Int)) ∧ ((recS l N).2 ≤ l.length) ∧ (∀ i, (m.objs (.res i)).2 = .dead) ∧ m.G = []) (N) ?_ ?_ ?_
  · refine ⟨_, _, rfl, ?_, ?_, ?_, ?_, ?_, (by intro i; simp [Mem.set, hr]), (by exact hG)⟩ <;> try simp (disch := first | omega | decide) only [go_sem, F, aIndex_map]
    all_goals first | rfl | (simp [recS]; done)
  · clear F f0 hr hG
    rintro N σ hN ⟨s, m, rfl, f0, f4, o4, f5, mo0, hr, hG⟩
    obtain ⟨g4, o4⟩ : ∃ g, m.objs (.var 4) = (g, .arr (recS l N).1.isEmpty 1 ((recS l N).1.map pslice)) := ⟨_, Prod.ext rfl o4⟩
    rw [o4] at f4
    have F := (And.intro f0 (And.intro f4 (And.intro f5 (And.intro o4 hG))))
    refine AW.block ?_
    refine AW.seq ?_
    refine AW.region (cfg := cfg2) ?_
    iterate 2 refine stp (fun _ h => s0 h) ?_
    refine stp (fun _ h => sd h) ?_
    refine stp (fun _ h => cr (w := good_Join nil (l.drop (recS l N).2) (by rw [List.length_drop]; omega) (fun x hx => by have := pl x (List.mem_of_mem_drop hx); omega)) (x := h)) ?_
    iterate 7 refine stp (fun _ h => s0 h) ?_
    refine aops_nil ?_
    refine AW.seq ?_
    refine AW.seq ?_
    refine AW.region (cfg := cfg2) ?_
    iterate 2 refine stp (fun _ h => s0 h) ?_
    refine aops_nil ?_
    refine cnd (fun hb => ?ht1) (fun hb => ?hf1)
    case ht1 => simp [hN1 N hN] at hb
    case hf1 =>
    have hbt18 := hb
    refine AW.skip ?_
    refine AW.seq ?_
    obtain ⟨jn1, jn2, jn3⟩ := join_n (hN1 N hN)
    rw [List.length_drop] at jn3
    have rn := rec_num l N
    refine AW.region (cfg := cfg2) ?_
    iterate 2 refine stp (fun _ h => s0 h) ?_
    refine stp (fun _ h => sq h) ?_
    refine stp (fun _ h => sp h) ?_
    refine stp (fun _ h => st h) ?_
    refine aops_nil ?_
    refine AW.region (cfg := cfg2) ?_
    iterate 2 refine stp (fun _ h => s0 h) ?_
    refine stp (fun _ h => sd h) ?_
    refine stp (fun _ h => s0 h) ?_
    refine aops_nil ?_
    refine ⟨_, _, rfl, ?_, ?_, ?_, ?_, ?_, (by intro i; simp [Mem.set, hr]), (by exact hG)⟩ <;> try simp (disch := first | omega | decide) only [go_sem, F, aIndex_map]
    all_goals first | exact rec_le _ _ | (rw [rec_yes (hN1 N hN)]; simp [pslice]; done) | (rw [rec_yes (hN1 N hN), jn1, Int.toNat_natCast, Int.natCast_add]; done)
  · clear F f0 hr hG
    rintro σ ⟨s, m, rfl, f0, f4, o4, f5, mo0, hr, hG⟩
    obtain ⟨g4, o4⟩ : ∃ g, m.objs (.var 4) = (g, .arr (recS l N).1.isEmpty 1 ((recS l N).1.map pslice)) := ⟨_, Prod.ext rfl o4⟩
    rw [o4] at f4
    have F := (And.intro f0 (And.intro f4 (And.intro f5 (And.intro o4 hG))))
    refine AW.block ?_
    refine AW.seq ?_
    refine AW.region (cfg := cfg2) ?_
    iterate 2 refine stp (fun _ h => s0 h) ?_
    refine stp (fun _ h => sd h) ?_
    refine stp (fun _ h => cr (w := good_Join nil (l.drop (recS l N).2) (by rw [List.length_drop]; omega) (fun x hx => by have := pl x (List.mem_of_mem_drop hx); omega)) (x := h)) ?_
    iterate 7 refine stp (fun _ h => s0 h) ?_
    refine aops_nil ?_
    refine AW.seq ?_
    refine AW.seq ?_
    refine AW.region (cfg := cfg2) ?_
    iterate 2 refine stp (fun _ h => s0 h) ?_
    refine aops_nil ?_
    refine cnd (fun hb => ?ht2) (fun hb => ?hf2)
    case hf2 => simp [hN2] at hb
    case ht2 =>
    have hbt18 := hb
    refine AW.seq ?_
    refine AW.region (cfg := cfg2) ?_
    iterate 2 refine stp (fun _ h => s0 h) ?_
    refine stp (fun _ h => sm h) ?_
    refine stp (fun _ h => s0 h) ?_
    refine aops_nil ?_
    refine AW.ret ?_
    refine ⟨.inr rfl, ?_⟩
    apply Exists.intro
    rw [hN3]
    refine leavesN (leaves_own2 2 3 rfl (by simp (disch := first | omega | decide) only [go_sem, F, aIndex_map] <;> rfl) (by simp (disch := first | omega | decide) only [go_sem, F, aIndex_map] <;> rfl) (by simp (disch := first | omega | decide) only [go_sem, F, aIndex_map] <;> rfl) (by decide) (by simp [sub, List.take_of_length_le]) (by rfl))
theorem good_OpenO (G : List (List AV)) (d is iw : Nat) (y : Dk) (hD : HasD G d is iw y) (hF : Fine y) (hn9 : ¬ (y.n < 6 ∨ y.n > 1024)) (ho : offD y = false) (hm : ¬ markOf okS valS (secD y) + 1 > 2147483648) (hbe : betOK (pgA y 0) (pgA y 1) = true) : Good Tryz.prog 9 [(.gp d 0, false)] G [(.gp G.length 0, false), (.sl 1 (openX y).b.isEmpty (bsl (openX y).b), false), (.sl 1 (openX y).rs.isEmpty ((openX y).rs.map pslice), true), (i64 0, false)] (outG G d is iw y) := by
  refine good_of_body2 91 Tryz.func9 rfl rfl rfl (by simp) ?_
  intro s m ha hr hv hG
  have f0 : s 0 = .v (.gp d 0) := ha 0 _ rfl
  clear ha
  have hc : True := trivial
  have F := (And.intro f0 hG)
  have hn1 := hF.n1
  have hn2 := hF.n2
  have hok := secD_ok hF.w
  have hn : 6 ≤ y.n ∧ y.n ≤ 1024 := by omega
  have pb := pl_bd hn
  have he0 : eOf y.n = 0 := if_neg hn9
  refine AW.seq ?_
  refine AW.region (cfg := cfgO) ?_
  iterate 4 refine stp (fun _ h => s0 h) ?_
  refine aops_nil ?_
  refine AW.seq ?_
  refine AW.region (cfg := cfgO) ?_
  refine stp (fun _ h => s0 h) ?_
  refine stp (fun _ h => cg (w := good_SizeD G d is iw y hD) (x := h)) ?_
  refine stp (fun _ h => cr (w := good_MakeP y.n (by omega)) (x := h)) ?_
  iterate 3 refine stp (fun _ h => s0 h) ?_
  refine stp (fun _ h => sd h) ?_
  refine stp0 (fun _ h => ss h) ?_
  refine stp (fun _ h => s0 h) ?_
  refine aops_nil ?_
  refine AW.seq ?_
  refine AW.seq ?_
  refine AW.region (cfg := cfgO) ?_
  iterate 3 refine stp (fun _ h => s0 h) ?_
  iterate 2 refine mrg wa (fun hc _ h => s0 h) ?_
  refine stp (fun _ h => s0 h) ?_
  refine aops_nil ?_
  refine cnd (fun hb => ?ht1) (fun hb => ?hf1)
  case ht1 => (rw [he0] at hb; simp at hb)
  case hf1 =>
  have hbt26 := hb
  refine AW.skip ?_
  refine AW.seq ?_
  refine AW.region (cfg := cfgO) ?_
  refine stp (fun _ h => s0 h) ?_
  refine stp (fun _ h => cg (w := good_sectorsB G d is iw y hD hF) (x := h)) ?_
  iterate 5 refine stp (fun _ h => s0 h) ?_
  refine aops_nil ?_
  refine AW.seq ?_
  refine AW.seq ?_
  refine AW.region (cfg := cfgO) ?_
  iterate 2 refine stp (fun _ h => s0 h) ?_
  refine aops_nil ?_
  refine cnd (fun hb => ?ht2) (fun hb => ?hf2)
  case ht2 => (rw [ho] at hb; simp at hb)
  case hf2 =>
  have hbt33 := hb
  refine AW.skip ?_
  refine AW.seq ?_
  have hlen : ((secD y).length : Int) = y.n := by (rw [secD_yes ho, WK.secR_len]; omega)
  have mn := mark_nn (secD y)
  have mu := mark_up (secD y)
  have hpl : ∀ x ∈ secD y, x.2.length ≤ 140737488355000 ∧ (x.1 = true → x.2 = []) := fun x hx => by (have := hok x hx; exact ⟨by omega, this.2⟩)
  refine AW.draw (cfg := cfgO) (by kernel_rfl) (by kernel_rfl) (by kernel_rfl) ?_
  refine dstp (fun _ h => s0 h) ?_
  refine dstp (fun _ h => sl h) ?_
  refine dstp (fun _ h => s0 h) ?_
  refine dstp (fun _ h => cs (w := good_Mark _ (secD y) (by omega) hpl) (x := h)) ?_
  refine dstp (fun _ h => sd h) ?_
  refine dstp (fun _ h => su h) ?_
  refine dstp (fun _ h => sbg h) ?_
  refine dstp (fun _ h => s0 h) ?_
  refine adraw_nil (by kernel_rfl) ?_
  refine AW.seq ?_
  refine AW.seq ?_
  have hB := opn_has hD
  have gx := hB.hx
  refine AW.region (cfg := cfgO) ?_
  refine stp (fun _ h => s0 h) ?_
  refine stp (fun _ h => sd h) ?_
  refine stp (fun _ h => sx h) ?_
  refine stp (fun _ h => sl h) ?_
  refine stp (fun _ h => s0 h) ?_
  refine aops_nil ?_
  refine cnd (fun hb => ?ht3) (fun hb => ?hf3)
  case ht3 => (exact absurd (of_decide_eq_true hb) hm)
  case hf3 =>
  have hbt46 := hb
  refine AW.skip ?_
  refine AW.seq ?_
  have hpp : ∀ g, ∀ x ∈ partR y.n (secD y) g, x.2.length ≤ 140737488355000 ∧ (x.1 = true → x.2 = []) := fun g x hx => hpl x (List.mem_of_mem_drop (List.mem_of_mem_take hx))
  have hpn : ∀ g, (partR y.n (secD y) g).length ≤ 1000000 := fun g => by (rw [partR, List.length_take]; omega)
  have hO := opn0_ok hn hm
  refine AW.draw (cfg := cfgO) (by kernel_rfl) (by kernel_rfl) (by kernel_rfl) ?_
  refine dstp (fun _ h => sl h) ?_
  refine dstp (fun _ h => s0 h) ?_
  refine dstp (fun _ h => cr (w := good_partW y.n hn _ (secD y) hlen 0 (by decide)) (x := h)) ?_
  refine dstp (fun _ h => sl h) ?_
  refine dstp (fun _ h => s0 h) ?_
  refine dstp (fun _ h => cr (w := good_partW y.n hn _ (secD y) hlen 1 (by decide)) (x := h)) ?_
  refine dstp (fun _ h => cr (w := good_Better _ (partR y.n (secD y) 0) (hpn 0) (hpp 0) _ (partR y.n (secD y) 1) (hpn 1) (hpp 1)) (x := h)) ?_
  iterate 3 refine dstp (fun _ h => s0 h) ?_
  refine dstp (fun _ h => sd h) ?_
  refine dstp0 (fun _ h => ss h) ?_
  refine dstp (fun _ h => s0 h) ?_
  refine adraw_nil (by kernel_rfl) ?_
  refine AW.seq ?_
  refine AW.seq ?_
  refine AW.region (cfg := cfgO) ?_
  iterate 2 refine stp (fun _ h => s0 h) ?_
  refine aops_nil ?_
  refine cnd (fun hb => ?ht4) (fun hb => ?hf4)
  case ht4 => (rw [show betOK (pagesOf okS valS (partR y.n (secD y) 0)) (pagesOf okS valS (partR y.n (secD y) 1)) = true from hbe] at hb; simp at hb)
  case hf4 =>
  have hbt58 := hb
  refine AW.skip ?_
  refine AW.seq ?_
  have htl : (tailR (opnG y) ((secD y).drop (ploN y.n).f.toNat)).length ≤ 1000000 := by (have := tailF_len (gen := opnG y) (q := ((secD y).drop (ploN y.n).f.toNat)) (i := 0); rw [List.length_drop] at this; exact Nat.le_trans this (by omega))
  refine AW.region (cfg := cfgO) ?_
  refine stp (fun _ h => sl h) ?_
  refine stp (fun _ h => s0 h) ?_
  refine stp (fun _ h => sx h) ?_
  refine stp (fun _ h => sl h) ?_
  refine stp (fun _ h => cr (w := good_tail y.n hn _ (secD y) hlen hpl (opnG y)) (x := h)) ?_
  refine stp (fun _ h => co2 (w := good_recordsO _ (tailR (opnG y) ((secD y).drop (ploN y.n).f.toNat)) htl tailR_bd) (x := h)) ?_
  iterate 3 refine stp (fun _ h => s0 h) ?_
  refine stp (fun _ h => st h) ?_
  refine stp (fun _ h => s0 h) ?_
  refine aops_nil ?_
  refine AW.seq ?_
  have gx2 : ((G ++ [[.gp d 0, i64 (ploN y.n).s, i64 (ploN y.n).f, i64 (ploN y.n).l, i64 0, i64 (markOf okS valS (secD y) + 1), i64 0, .b false]]).set G.length [.gp d 0, i64 (ploN y.n).s, i64 (ploN y.n).f, i64 (ploN y.n).l, i64 (opnG y), i64 (markOf okS valS (secD y) + 1), i64 0, .b false])[G.length]? = some [.gp d 0, i64 (ploN y.n).s, i64 (ploN y.n).f, i64 (ploN y.n).l, i64 (opnG y), i64 (markOf okS valS (secD y) + 1), i64 0, .b false] := List.getElem?_set_self hB.lt
  refine AW.region (cfg := cfgO) ?_
  iterate 2 refine stp (fun _ h => s0 h) ?_
  refine stp (fun _ h => sx h) ?_
  refine stp (fun _ h => sl h) ?_
  refine stp (fun _ h => s0 h) ?_
  refine stp (fun _ h => sd h) ?_
  refine stp (fun _ h => sx h) ?_
  refine stp0 (fun _ h => ss h) ?_
  refine stp (fun _ h => sd h) ?_
  refine stp (fun _ h => sx h) ?_
  refine stp0 (fun _ h => ss h) ?_
  refine aops_nil ?_
  refine AW.seq ?_
  refine AW.draw (cfg := cfgO) (by kernel_rfl) (by kernel_rfl) (by kernel_rfl) ?_
  refine dstp (fun _ h => s0 h) ?_
  refine dstp (fun _ h => sx h) ?_
  refine dstp (fun _ h => sl h) ?_
  iterate 3 refine dstp (fun _ h => s0 h) ?_
  refine dstp (fun _ h => sm h) ?_
  refine dstp (fun _ h => s0 h) ?_
  refine adraw_nil (by kernel_rfl) ?_
  refine AW.ret ?_
  refine ⟨.inr rfl, ?_⟩
  have eo := open_4 hn9 ho hm hbe; have e2 := congrArg Opn.b eo; have e3 := congrArg Opn.rs eo; have e4 := congrArg Opn.made eo; have e5 := congrArg Opn.x eo; have e6 := congrArg Opn.y eo; simp only at e2 e3 e4 e5 e6
  rw [e2, e3]
  refine leaves_o4 rfl (by simp (disch := first | omega | decide) only [go_sem, F, aIndex_map] <;> rfl) (by simp (disch := first | omega | decide) only [go_sem, F, aIndex_map] <;> rfl) (by simp (disch := first | omega | decide) only [go_sem, F, aIndex_map] <;> rfl) (by simp (disch := first | omega | decide) only [go_sem, F, aIndex_map] <;> rfl) (by simp (disch := first | omega | decide) only [go_sem, F, aIndex_map] <;> rfl) (by decide) (by (simp [sub, List.take_of_length_le]; rfl)) ?_
  refine Eq.trans ?_ (out_set hD e4 e5 e6).symm
  simp only [mset_G, set_app, List.set_set]
  rfl
end Go.Vai.WK
