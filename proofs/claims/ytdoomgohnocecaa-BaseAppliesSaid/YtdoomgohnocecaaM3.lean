import Derived.Test.YtdoomgohnocecaaM2
import Derived.Shelf.Spec.SlicesInsert
set_option linter.unusedSimpArgs false
set_option linter.unusedVariables false
namespace Go.Vai.BA
open Go.Vai.L Go.Vai.D Go.Vai.I Go.Vai.G Go.Vai.C
structure Sta where
 n1 : Bool
 db : List Lsa
 up : Int
 bo : Int
 n2 : Bool
 ep : List It
def sta0 : Sta := ⟨true, [], 0, 0, true, []⟩
def epV (x : It) : Bool := (decide (x.o ≤ 64) && decide (1 ≤ x.s)) && decide (x.s ≤ 1073741824)
def epOK (l : List It) : Bool := chn epV It.o 0 l
def nuOK (s : Sta) : Bool := ((decide (0 ≤ s.up) && decide (s.up ≤ 4611686018427387904)) && decide (0 ≤ s.bo)) && decide (s.bo ≤ 1073741824)
def staOK (s : Sta) : Bool := (nuOK s && dbOK s.db) && epOK s.ep
def staE (s : Sta) : Int := if staOK s then 0 else 1
theorem staE_0 {s : Sta} (h : ¬ staE s ≠ 0) : staOK s = true := by
 rw [staE] at h
 cases e : staOK s with
 | true => rfl
 | false => rw [e] at h; exact absurd (by decide : (1 : Int) ≠ 0) h
theorem staE_1 {s : Sta} (h : staE s ≠ 0) : staOK s = false ∧ staE s = 1 := by
 rw [staE] at h ⊢
 cases e : staOK s with
 | false => exact ⟨rfl, rfl⟩
 | true => rw [e] at h; exact absurd rfl h
theorem staE_dec (s : Sta) : decide (staE s = 0) = staOK s := by rw [staE]; cases staOK s <;> rfl
theorem sta_parts {s : Sta} (h : staOK s = true) : nuOK s = true ∧ dbOK s.db = true ∧ epOK s.ep = true := by
 simp only [staOK, Bool.and_eq_true] at h; exact ⟨h.1.1, h.1.2, h.2⟩
theorem sta_is {s : Sta} (h1 : nuOK s = true) (h2 : dbOK s.db = true) (h3 : epOK s.ep = true) : staOK s = true := by rw [staOK, h1, h2, h3]; rfl
theorem nu_no {s : Sta} (h : ((s.up < 0 ∨ s.up > 4611686018427387904) ∨ s.bo < 0) ∨ s.bo > 1073741824) : staE s = 1 := by
 have : nuOK s = false := by
  cases e : nuOK s with
  | false => rfl
  | true =>
   simp only [nuOK, Bool.and_eq_true, decide_eq_true_eq] at e
   omega
 rw [staE, staOK, this]; rfl
theorem nu_yes {s : Sta} (h : ((¬ s.up < 0 ∧ ¬ s.up > 4611686018427387904) ∧ ¬ s.bo < 0) ∧ ¬ s.bo > 1073741824) : nuOK s = true := by
 simp only [nuOK, Bool.and_eq_true, decide_eq_true_eq]; omega
theorem db_bad {s : Sta} (h : dbE s.db = 1) : staE s = 1 := by
 have : dbOK s.db = false := dbE_1 (by rw [h]; decide)
 rw [staE, staOK, this, Bool.and_false]; rfl
theorem db_zero {l : List Lsa} (h : dbE l = 0) : dbOK l = true := dbE_0 (by rw [h]; simp)
theorem epV_not {x : It} {last : Int} (h : ((x.o ≤ last ∨ x.o > 64) ∨ x.s < 1) ∨ x.s > 1073741824) : epV x = false ∨ x.o ≤ last := by
 by_cases h2 : x.o ≤ last
 ·exact .inr h2
 ·refine .inl ?_
  cases e : epV x with
  | false => rfl
  | true => simp only [epV, Bool.and_eq_true, decide_eq_true_eq] at e; omega
theorem ep_no {s : Sta} {last : Int} {k : Nat} (h : chn epV It.o 0 s.ep = chn epV It.o last (s.ep.drop k)) (hk : k < s.ep.length) (h2 : ((s.ep[k].o ≤ last ∨ s.ep[k].o > 64) ∨ s.ep[k].s < 1) ∨ s.ep[k].s > 1073741824) : staE s = 1 := by
 have : epOK s.ep = false := chn_no h hk (epV_not h2)
 rw [staE, staOK, this, Bool.and_false]; rfl
theorem epV_yes {x : It} {last : Int} (h : ((¬ x.o ≤ last ∧ ¬ x.o > 64) ∧ ¬ x.s < 1) ∧ ¬ x.s > 1073741824) : epV x = true ∧ last < x.o := by
 simp only [epV, Bool.and_eq_true, decide_eq_true_eq]; omega
theorem ep_go {l : List It} {last : Int} {k : Nat} (h : chn epV It.o 0 l = chn epV It.o last (l.drop k)) (hk : k < l.length) (h2 : ((¬ l[k].o ≤ last ∧ ¬ l[k].o > 64) ∧ ¬ l[k].s < 1) ∧ ¬ l[k].s > 1073741824) : chn epV It.o 0 l = chn epV It.o l[k].o (l.drop (k + 1)) :=
 chn_go h hk (epV_yes h2).1 (epV_yes h2).2
theorem ep_end {s : Sta} {last : Int} (hn : nuOK s = true) (hd : dbE s.db = 0) (h : chn epV It.o 0 s.ep = chn epV It.o last (s.ep.drop s.ep.length)) : staE s = 0 := by
 rw [staE, sta_is hn (db_zero hd) (h.trans chn_end)]; rfl
def lastE (l : List It) (k : Nat) : Int := if k = 0 then 0 else (l.getD ((k : Int) - 1).toNat default).o
theorem lastE_succ {l : List It} {k : Nat} (h : k < l.length) : lastE l (k + 1) = l[k].o := by
 rw [lastE, if_neg (by omega), show (((k + 1 : Nat) : Int) - 1).toNat = k by omega, getD_at h]
theorem re_no {s : Sta} {k : Nat} (h : chn epV It.o 0 s.ep = chn epV It.o (lastE s.ep k) (s.ep.drop k)) (hk : k < s.ep.length)
  (h2 : (((s.ep[k].o < 1 ∨ s.ep[k].o > 64) ∨ s.ep[k].s < 1) ∨ s.ep[k].s > 1073741824) ∨ ((k : Int) > 0 ∧ (s.ep.getD ((k : Int) - 1).toNat default).o ≥ s.ep[k].o)) (hp : ∀ j, j < k → 0 < (s.ep.getD j default).o) : staOK s = false := by
 have : epOK s.ep = false := by
  refine chn_no h hk ?_
  rcases h2 with h2 | ⟨h2, h3⟩
  ·by_cases h0 : s.ep[k].o < 1
   ·right
    rw [lastE]
    split
    ·omega
    ·have := hp ((k : Int) - 1).toNat (by omega); omega
   ·rcases epV_not (x := s.ep[k]) (last := s.ep[k].o - 1) (by omega) with h | h
    ·exact .inl h
    ·omega
  ·right; rw [lastE, if_neg (by omega)]; exact h3
 rw [staOK, this, Bool.and_false]
theorem re_go {l : List It} {k : Nat} (h : chn epV It.o 0 l = chn epV It.o (lastE l k) (l.drop k)) (hk : k < l.length)
  (h2 : (((¬ l[k].o < 1 ∧ ¬ l[k].o > 64) ∧ ¬ l[k].s < 1) ∧ ¬ l[k].s > 1073741824) ∧ (¬ (k : Int) > 0 ∨ ¬ (l.getD ((k : Int) - 1).toNat default).o ≥ l[k].o)) : chn epV It.o 0 l = chn epV It.o (lastE l (k + 1)) (l.drop (k + 1)) := by
 rw [lastE_succ hk]
 refine chn_go h hk (by simp only [epV, Bool.and_eq_true, decide_eq_true_eq]; omega) ?_
 rw [lastE]
 split
 ·omega
 ·rcases h2.2 with h3 | h3 <;> omega
theorem re_pos {l : List It} {k : Nat} (hk : k < l.length) (hp : ∀ j, j < k → 0 < (l.getD j default).o) (h : ¬ l[k].o < 1) : ∀ j, j < k + 1 → 0 < (l.getD j default).o := fun j hj => by
 by_cases e : j = k
 ·subst e; rw [getD_at hk]; omega
 ·exact hp j (by omega)
theorem re_end {s : Sta} (hd : dbOK s.db = true) (h : chn epV It.o 0 s.ep = chn epV It.o (lastE s.ep s.ep.length) (s.ep.drop s.ep.length)) : nuOK s = staOK s := by
 rw [staOK, hd, epOK, h, chn_end, Bool.and_true, Bool.and_true]
theorem st_dbno {s : Sta} (h : dbOK s.db = false) : staOK s = false := by rw [staOK, h, Bool.and_false]; rfl
theorem ep_srt {l : List It} (h : epOK l = true) : Srt It.o l := chn_srt h
theorem ep_len {l : List It} (h : epOK l = true) : l.length ≤ 64 := by
 have hs := ep_srt h
 have : ∀ (l : List It) (a : Int), chn epV It.o a l = true → 0 ≤ a → a ≤ 64 → (l.length : Int) ≤ 64 - a := by
  intro l
  induction l with
  | nil => intro a _ _ h; simp; omega
  | cons x l ih =>
   intro a h h0 h1
   simp only [chn, Bool.and_eq_true, decide_eq_true_eq] at h
   have hx : x.o ≤ 64 := by
    have := h.1.1
    simp only [epV, Bool.and_eq_true, decide_eq_true_eq] at this
    omega
   have := ih x.o h.2 (by omega) hx
   simp only [List.length_cons]; omega
 have := this l 0 h (by omega) (by omega)
 omega
def sameS (a b : Sta) : Bool := ((decide (a.up = b.up) && decide (a.bo = b.bo)) && eqAll lsaEq a.db b.db) && decide (a.ep = b.ep)
theorem sameS_refl (s : Sta) : sameS s s = true := by
 rw [sameS, eqAll_refl (fun x => by simp [lsaEq]) s.db]; simp
def doS (s : Sta) (c : Ch) : Option Sta :=
 if c.kind = 1 then (if sqL s.db c.l.o ≥ c.l.s then none else some { s with db := insP Lsa.o s.db c.l, n1 := false })
 else if c.kind = 2 then (if s.up ≥ c.n then none else some { s with up := c.n })
 else if c.kind = 3 then (if s.bo ≥ c.n then none else some { s with bo := c.n })
 else (if qK s.ep c.of ≥ c.n then none else some { s with ep := insP It.o s.ep ⟨c.of, c.n⟩, n2 := false })
def foldS : Sta → List Ch → Option Sta
 | s, [] => some s
 | s, c :: l => (doS s c).bind fun z => foldS z l
theorem foldS_append : ∀ (a b : List Ch) (s : Sta), foldS s (a ++ b) = (foldS s a).bind fun z => foldS z b
 | [], b, s => rfl
 | c :: a, b, s => by
  simp only [List.cons_append, foldS]
  cases doS s c with
  | none => rfl
  | some z => exact foldS_append a b z
theorem foldS_take {l : List Ch} {s z : Sta} {k : Nat} (hk : k < l.length) (h : foldS s (l.take k) = some z) : foldS s (l.take (k + 1)) = doS z l[k] := by
 rw [List.take_succ_eq_append_getElem hk, foldS_append, h]
 simp only [Option.bind_some, foldS]
 cases doS z l[k] <;> rfl
theorem foldS_none {l : List Ch} {s z : Sta} {k : Nat} (hk : k < l.length) (h : foldS s (l.take k) = some z) (h2 : doS z l[k] = none) : foldS s l = none := by
 rw [← List.take_append_drop (k + 1) l, foldS_append, foldS_take hk h, h2]; rfl
def applyR (s : Sta) (l : List Ch) : Sta × Int :=
 if staOK s && allCh l then (match foldS s l with | some z => (z, 0) | none => (sta0, 10)) else (sta0, 1)
theorem applyR_s {s : Sta} {l : List Ch} (h : staOK s = false) : applyR s l = (sta0, 1) := by rw [applyR, h]; rfl
theorem applyR_l {s : Sta} {l : List Ch} (h : allCh l = false) : applyR s l = (sta0, 1) := by rw [applyR, h, Bool.and_false]; rfl
theorem applyR_old {s : Sta} {l : List Ch} (h : staOK s = true) (h1 : allCh l = true) (h2 : foldS s l = none) : applyR s l = (sta0, 10) := by rw [applyR, h, h1, h2]; rfl
theorem applyR_ok {s z : Sta} {l : List Ch} (h : staOK s = true) (h1 : allCh l = true) (h2 : foldS s l = some z) : applyR s l = (z, 0) := by rw [applyR, h, h1, h2]; rfl
theorem epV_ch {c : Ch} (h : chOK c = true) (hk : c.kind = 4) : epV ⟨c.of, c.n⟩ = true ∧ 0 < c.of := by
 rcases ch_kind h with h | h | h | h
 ·omega
 ·omega
 ·omega
 ·refine ⟨?_, by omega⟩
  simp only [epV, Bool.and_eq_true, decide_eq_true_eq]; omega
theorem doS_ok {s z : Sta} {c : Ch} (hs : staOK s = true) (hc : chOK c = true) (h : doS s c = some z) : staOK z = true := by
 obtain ⟨h1, h2, h3⟩ := sta_parts hs
 have hk := ch_kind hc
 rw [doS] at h
 split at h
 ·split at h
  ·cases h
  ·simp only [Option.some.injEq] at h; subst h
   exact sta_is h1 (ins_db h2 (by rcases hk with h | h | h | h <;> first | exact h.2.1 | omega)) h3
 ·split at h
  ·split at h
   ·cases h
   ·simp only [Option.some.injEq] at h; subst h
    refine sta_is ?_ h2 h3
    simp only [nuOK, Bool.and_eq_true, decide_eq_true_eq] at h1 ⊢
    omega
  ·split at h
   ·split at h
    ·cases h
    ·simp only [Option.some.injEq] at h; subst h
     refine sta_is ?_ h2 h3
     simp only [nuOK, Bool.and_eq_true, decide_eq_true_eq] at h1 ⊢
     omega
   ·split at h
    ·cases h
    ·simp only [Option.some.injEq] at h; subst h
     have hv := epV_ch hc (by omega)
     exact sta_is h1 h2 (insP_chn h3 hv.1 hv.2)
end Go.Vai.BA
namespace Go.Vai.BA
open Go.Proofs Go.Vai Go.Vai.C Go.Vai.D Go.Vai.DB Go.Vai.G Go.Vai.I Go.Vai.L Go.Vai.N Go.Vai.O
set_option linter.unusedSimpArgs false
set_option linter.unusedVariables false
set_option maxHeartbeats 4000000
set_option maxRecDepth 100000
open Go.Vai.L Go.Vai.D Go.Vai.I Go.Vai.DB Go.Vai.C
def staA (a : Sta) : AV := .agg [.sl 3 a.n1 (a.db.map lsaA), i64 a.up, i64 a.bo, .sl 2 a.n2 (a.ep.map itA)]
theorem cellsOf_sta (a : Sta) : cellsOf (staA a) = [.sl 3 a.n1 (a.db.map lsaA), i64 a.up, i64 a.bo, .sl 2 a.n2 (a.ep.map itA)] := rfl
@[simp] theorem noPtr_sta (a : Sta) : noPtr (staA a) = true := by simp [staA, noPtr, noPtrL]
attribute [go_sem] cellsOf_sta
theorem good_CheckB (a : Sta) (ha1 : a.db.length ≤ 9223372036854775807) (ha2 : a.ep.length ≤ 9223372036854775807) (pa : ∀ x ∈ a.db, x.ls.length ≤ 9223372036854775807) : Good Try.prog 12 [(staA a, false)] [] [(i64 (staE a), false)] [] := by
  refine good_of_body2 74 Try.func12 rfl rfl rfl (by simp) ?_
  intro s m ha hr hv hG
  have f0 : s 0 = .v (.agg [.sl 3 a.n1 (a.db.map lsaA), i64 a.up, i64 a.bo, .sl 2 a.n2 (a.ep.map itA)]) := ha 0 _ rfl
  clear ha
  have hc : True := trivial
  have F := (And.intro f0 hG)
  refine AW.seq ?_
  refine AW.region (cfg := cfg) ?_
  refine stp (fun _ h => sb h) ?_
  refine stp (fun _ h => s0 h) ?_
  refine aops_nil ?_
  refine AW.seq ?_
  refine AW.seq ?_
  refine AW.region (cfg := cfg) ?_
  refine stp (fun _ h => sx h) ?_
  refine stp (fun _ h => sl h) ?_
  iterate 2 refine stp (fun _ h => s0 h) ?_
  refine mrg wa (fun hc _ h => sx h) ?_
  refine mrg wa (fun hc _ h => sl h) ?_
  refine mrg wa (fun hc _ h => s0 h) ?_
  iterate 2 refine stp (fun _ h => s0 h) ?_
  refine mrg wa (fun hc _ h => sx h) ?_
  refine mrg wa (fun hc _ h => sl h) ?_
  refine mrg wa (fun hc _ h => s0 h) ?_
  iterate 2 refine stp (fun _ h => s0 h) ?_
  refine mrg wa (fun hc _ h => sx h) ?_
  refine mrg wa (fun hc _ h => sl h) ?_
  refine mrg wa (fun hc _ h => s0 h) ?_
  refine stp (fun _ h => s0 h) ?_
  refine aops_nil ?_
  refine cnd (fun hb => ?ht1) (fun hb => ?hf1)
  case ht1 =>
    have hw25 := hb
    try simp only [bo1, bo2, bo3, bo4, bo5, bo6] at hb
    have hbt25 := hb
    refine AW.seq ?_
    refine AW.region (cfg := cfg) ?_
    refine stp (fun _ h => s0 h) ?_
    refine aops_nil ?_
    refine AW.ret ?_
    refine ⟨.inr rfl, ?_⟩
    refine leaves_tmp1 2 rfl ?_ (by exact hG)
    simp (disch := first | omega | decide) only [go_sem, F, aIndex_map]
    all_goals (rw [nu_no hbt25]; done)
  case hf1 =>
    have hw25 := hb
    try simp only [bo1, bo2, bo3, bo4, bo5, bo6] at hb
    have hbt25 := hb
    refine AW.skip ?_
    refine AW.seq ?_
    refine AW.region (cfg := cfg) ?_
    refine stp (fun _ h => s0 h) ?_
    refine aops_nil ?_
    refine AW.seq ?_
    refine AW.seq ?_
    refine AW.region (cfg := cfg) ?_
    refine stp (fun _ h => sx h) ?_
    refine stp (fun _ h => sl h) ?_
    refine stp (fun _ h => sd h) ?_
    refine stp (fun _ h => s0 h) ?_
    refine aops_nil ?_
    refine AW.block ?_
    refine AW.forN (fun k σ => ∃ s m last, σ = ⟨74, s, m⟩ ∧ s 1 = .lptr (.tmp 1 0) (m.objs (.tmp 1 0)).1 0 ∧ (m.objs (.tmp 1 0)).2 = .box [.v (.sl 3 a.n1 (a.db.map lsaA)), .v (i64 a.up), .v (i64 a.bo), .v (.sl 2 a.n2 (a.ep.map itA))] ∧ s 3 = .v (i64 last) ∧ s 27 = .v (.sl 3 a.n1 (a.db.map lsaA)) ∧ s 28 = .v (i64 (a.db.length : Int)) ∧ s 29 = .v (i64 (k : Int)) ∧ (chn lsaOK Lsa.o 0 a.db = chn lsaOK Lsa.o last (a.db.drop k)) ∧ (∀ i, (m.objs (.res i)).2 = .dead) ∧ m.G = []) (a.db.length) ?_ ?_ ?_
    · refine ⟨_, _, 0, rfl, ?_, ?_, ?_, ?_, ?_, ?_, ?_, (by intro i; simp [Mem.set, hr]), (by exact hG)⟩ <;> try simp (disch := first | omega | decide) only [go_sem, F, aIndex_map]
      all_goals rfl
    · clear F f0 hr hG
      rintro k σ hk ⟨s, m, last, rfl, f1, o1, f3, f27, f28, f29, mo0, hr, hG⟩
      obtain ⟨g1, o1⟩ : ∃ g, m.objs (.tmp 1 0) = (g, .box [.v (.sl 3 a.n1 (a.db.map lsaA)), .v (i64 a.up), .v (i64 a.bo), .v (.sl 2 a.n2 (a.ep.map itA))]) := ⟨_, Prod.ext rfl o1⟩
      rw [o1] at f1
      have F := (And.intro f1 (And.intro f3 (And.intro f27 (And.intro f28 (And.intro f29 (And.intro o1 hG))))))
      refine AW.seq ?_
      refine AW.region (cfg := cfg) ?_
      refine stp (fun _ h => s0 h) ?_
      refine aops_nil ?_
      refine AW.seq ?_
      refine cnd (fun hb => ?ht2) (fun hb => ?hf2)
      case hf2 => (simp at hb; omega)
      case ht2 =>
      have hbt30 := hb
      refine AW.skip ?_
      refine AW.seq ?_
      refine AW.block ?_
      refine AW.seq ?_
      refine AW.region (cfg := cfg) ?_
      refine stp (fun _ h => si h) ?_
      refine stp (fun _ h => sl h) ?_
      refine stp (fun _ h => sd h) ?_
      refine stp0 (fun _ h => ss h) ?_
      refine aops_nil ?_
      refine AW.seq ?_
      refine AW.seq ?_
      have hkl : k < a.db.length := by assumption
      have pk1 := pa a.db[k] (List.getElem_mem hkl)
      refine AW.region (cfg := cfg) ?_
      refine stp (fun _ h => sl h) ?_
      refine stp (fun _ h => cs (w := good_CheckX a.db[k] (by omega)) (x := h)) ?_
      iterate 2 refine stp (fun _ h => s0 h) ?_
      refine mrg wa (fun hc _ h => sx h) ?_
      refine mrg wa (fun hc _ h => sl h) ?_
      iterate 2 refine mrg wa (fun hc _ h => s0 h) ?_
      refine stp (fun _ h => s0 h) ?_
      refine aops_nil ?_
      refine cnd (fun hb => ?ht3) (fun hb => ?hf3)
      case ht3 =>
        have hw41 := hb
        try simp only [bo1, bo2, bo3, bo4, bo5, bo6] at hb
        have hbt41 := hb
        refine AW.seq ?_
        refine AW.region (cfg := cfg) ?_
        refine stp (fun _ h => s0 h) ?_
        refine aops_nil ?_
        refine AW.ret ?_
        refine ⟨.inr rfl, ?_⟩
        refine leaves_tmp1 2 rfl ?_ (by exact hG)
        simp (disch := first | omega | decide) only [go_sem, F, aIndex_map]
        all_goals (rw [db_bad (db_no mo0 hk hbt41)]; done)
      case hf3 =>
        have hw41 := hb
        try simp only [bo1, bo2, bo3, bo4, bo5, bo6] at hb
        have hbt41 := hb
        refine AW.skip ?_
        refine AW.region (cfg := cfg) ?_
        refine stp (fun _ h => sx h) ?_
        refine stp (fun _ h => sl h) ?_
        refine stp (fun _ h => s0 h) ?_
        refine aops_nil ?_
        refine AW.region (cfg := cfg) ?_
        refine stp (fun _ h => sd h) ?_
        refine stp (fun _ h => s0 h) ?_
        refine aops_nil ?_
        refine ⟨_, _, a.db[k].o, rfl, ?_, ?_, ?_, ?_, ?_, ?_, ?_, (by intro i; simp [Mem.set, hr]), (by exact hG)⟩ <;> try simp (disch := first | omega | decide) only [go_sem, F, aIndex_map]
        all_goals first | rfl | exact db_go mo0 hk hbt41
    · clear F f0 hr hG
      rintro σ ⟨s, m, last, rfl, f1, o1, f3, f27, f28, f29, mo0, hr, hG⟩
      obtain ⟨g1, o1⟩ : ∃ g, m.objs (.tmp 1 0) = (g, .box [.v (.sl 3 a.n1 (a.db.map lsaA)), .v (i64 a.up), .v (i64 a.bo), .v (.sl 2 a.n2 (a.ep.map itA))]) := ⟨_, Prod.ext rfl o1⟩
      rw [o1] at f1
      have F := (And.intro f1 (And.intro f3 (And.intro f27 (And.intro f28 (And.intro f29 (And.intro o1 hG))))))
      refine AW.seq ?_
      refine AW.region (cfg := cfg) ?_
      refine stp (fun _ h => s0 h) ?_
      refine aops_nil ?_
      refine AW.seq ?_
      refine cnd (fun hb => ?ht4) (fun hb => ?hf4)
      case ht4 => (simp at hb; done)
      case hf4 =>
      have hbt30 := hb
      refine AW.exit ?_
      refine AW.seq ?_
      refine AW.region (cfg := cfg) ?_
      refine stp (fun _ h => s0 h) ?_
      refine aops_nil ?_
      refine AW.seq ?_
      refine AW.seq ?_
      refine AW.region (cfg := cfg) ?_
      refine stp (fun _ h => sx h) ?_
      refine stp (fun _ h => sl h) ?_
      refine stp (fun _ h => sd h) ?_
      refine stp (fun _ h => s0 h) ?_
      refine aops_nil ?_
      refine AW.block ?_
      refine AW.forN (fun k σ => ∃ s m last, σ = ⟨74, s, m⟩ ∧ s 1 = .lptr (.tmp 1 0) (m.objs (.tmp 1 0)).1 0 ∧ (m.objs (.tmp 1 0)).2 = .box [.v (.sl 3 a.n1 (a.db.map lsaA)), .v (i64 a.up), .v (i64 a.bo), .v (.sl 2 a.n2 (a.ep.map itA))] ∧ s 3 = .v (i64 last) ∧ s 46 = .v (.sl 2 a.n2 (a.ep.map itA)) ∧ s 47 = .v (i64 (a.ep.length : Int)) ∧ s 48 = .v (i64 (k : Int)) ∧ (dbE a.db = 0) ∧ (chn epV It.o 0 a.ep = chn epV It.o last (a.ep.drop k)) ∧ (∀ i, (m.objs (.res i)).2 = .dead) ∧ m.G = []) (a.ep.length) ?_ ?_ ?_
      · refine ⟨_, _, 0, rfl, ?_, ?_, ?_, ?_, ?_, ?_, ?_, ?_, (by intro i; simp [Mem.set, hr]), (by exact hG)⟩ <;> try simp (disch := first | omega | decide) only [go_sem, F, aIndex_map]
        all_goals first | rfl | exact db_end mo0
      · clear F f1 f3 f27 f28 f29 o1 hr hG
        rintro k σ hk ⟨s, m, last, rfl, f1, o1, f3, f46, f47, f48, mo0, mo1, hr, hG⟩
        obtain ⟨g1, o1⟩ : ∃ g, m.objs (.tmp 1 0) = (g, .box [.v (.sl 3 a.n1 (a.db.map lsaA)), .v (i64 a.up), .v (i64 a.bo), .v (.sl 2 a.n2 (a.ep.map itA))]) := ⟨_, Prod.ext rfl o1⟩
        rw [o1] at f1
        have F := (And.intro f1 (And.intro f3 (And.intro f46 (And.intro f47 (And.intro f48 (And.intro o1 hG))))))
        refine AW.seq ?_
        refine AW.region (cfg := cfg) ?_
        refine stp (fun _ h => s0 h) ?_
        refine aops_nil ?_
        refine AW.seq ?_
        refine cnd (fun hb => ?ht5) (fun hb => ?hf5)
        case hf5 => (simp at hb; omega)
        case ht5 =>
        have hbt49 := hb
        refine AW.skip ?_
        refine AW.seq ?_
        refine AW.block ?_
        refine AW.seq ?_
        refine AW.region (cfg := cfg) ?_
        refine stp (fun _ h => si h) ?_
        refine stp (fun _ h => sl h) ?_
        refine stp (fun _ h => sd h) ?_
        refine stp0 (fun _ h => ss h) ?_
        refine aops_nil ?_
        refine AW.seq ?_
        refine AW.seq ?_
        refine AW.region (cfg := cfg) ?_
        refine stp (fun _ h => sx h) ?_
        refine stp (fun _ h => sl h) ?_
        iterate 3 refine stp (fun _ h => s0 h) ?_
        refine mrg wa (fun hc _ h => sx h) ?_
        refine mrg wa (fun hc _ h => sl h) ?_
        refine mrg wa (fun hc _ h => s0 h) ?_
        iterate 2 refine stp (fun _ h => s0 h) ?_
        refine mrg wa (fun hc _ h => sx h) ?_
        refine mrg wa (fun hc _ h => sl h) ?_
        refine mrg wa (fun hc _ h => s0 h) ?_
        iterate 2 refine stp (fun _ h => s0 h) ?_
        refine mrg wa (fun hc _ h => sx h) ?_
        refine mrg wa (fun hc _ h => sl h) ?_
        refine mrg wa (fun hc _ h => s0 h) ?_
        refine stp (fun _ h => s0 h) ?_
        refine aops_nil ?_
        refine cnd (fun hb => ?ht6) (fun hb => ?hf6)
        case ht6 =>
          have hw70 := hb
          try simp only [bo1, bo2, bo3, bo4, bo5, bo6] at hb
          have hbt70 := hb
          refine AW.seq ?_
          refine AW.region (cfg := cfg) ?_
          refine stp (fun _ h => s0 h) ?_
          refine aops_nil ?_
          refine AW.ret ?_
          refine ⟨.inr rfl, ?_⟩
          refine leaves_tmp1 2 rfl ?_ (by exact hG)
          simp (disch := first | omega | decide) only [go_sem, F, aIndex_map]
          all_goals (rw [ep_no mo1 hk hbt70]; done)
        case hf6 =>
          have hw70 := hb
          try simp only [bo1, bo2, bo3, bo4, bo5, bo6] at hb
          have hbt70 := hb
          refine AW.skip ?_
          refine AW.region (cfg := cfg) ?_
          refine stp (fun _ h => sx h) ?_
          refine stp (fun _ h => sl h) ?_
          refine stp (fun _ h => s0 h) ?_
          refine aops_nil ?_
          refine AW.region (cfg := cfg) ?_
          refine stp (fun _ h => sd h) ?_
          refine stp (fun _ h => s0 h) ?_
          refine aops_nil ?_
          refine ⟨_, _, a.ep[k].o, rfl, ?_, ?_, ?_, ?_, ?_, ?_, ?_, ?_, (by intro i; simp [Mem.set, hr]), (by exact hG)⟩ <;> try simp (disch := first | omega | decide) only [go_sem, F, aIndex_map]
          all_goals first | rfl | assumption | exact ep_go mo1 hk hbt70
      · clear F f1 f3 f27 f28 f29 o1 hr hG
        rintro σ ⟨s, m, last, rfl, f1, o1, f3, f46, f47, f48, mo0, mo1, hr, hG⟩
        obtain ⟨g1, o1⟩ : ∃ g, m.objs (.tmp 1 0) = (g, .box [.v (.sl 3 a.n1 (a.db.map lsaA)), .v (i64 a.up), .v (i64 a.bo), .v (.sl 2 a.n2 (a.ep.map itA))]) := ⟨_, Prod.ext rfl o1⟩
        rw [o1] at f1
        have F := (And.intro f1 (And.intro f3 (And.intro f46 (And.intro f47 (And.intro f48 (And.intro o1 hG))))))
        refine AW.seq ?_
        refine AW.region (cfg := cfg) ?_
        refine stp (fun _ h => s0 h) ?_
        refine aops_nil ?_
        refine AW.seq ?_
        refine cnd (fun hb => ?ht7) (fun hb => ?hf7)
        case ht7 => (simp at hb; done)
        case hf7 =>
        have hbt49 := hb
        refine AW.exit ?_
        refine AW.seq ?_
        refine AW.region (cfg := cfg) ?_
        refine stp (fun _ h => s0 h) ?_
        refine aops_nil ?_
        refine AW.ret ?_
        refine ⟨.inr rfl, ?_⟩
        refine leaves_tmp1 2 rfl ?_ (by exact hG)
        simp (disch := first | omega | decide) only [go_sem, F, aIndex_map]
        all_goals (rw [ep_end (nu_yes hbt25) mo0 mo1]; done)
theorem good_MayB (a : Sta) (ha1 : a.db.length ≤ 9223372036854775807) (ha2 : a.ep.length ≤ 9223372036854775807) (pa : ∀ x ∈ a.db, x.ls.length ≤ 9223372036854775807) : Good Try.prog 13 [(staA a, false)] [] [(.b (staOK a), false)] [] := by
  refine good_of_body2 104 Try.func13 rfl rfl rfl (by simp) ?_
  intro s m ha hr hv hG
  have f0 : s 0 = .v (.agg [.sl 3 a.n1 (a.db.map lsaA), i64 a.up, i64 a.bo, .sl 2 a.n2 (a.ep.map itA)]) := ha 0 _ rfl
  clear ha
  have hc : True := trivial
  have F := (And.intro f0 hG)
  refine AW.seq ?_
  refine AW.region (cfg := cfg) ?_
  refine stp (fun _ h => sb h) ?_
  refine stp (fun _ h => s0 h) ?_
  refine aops_nil ?_
  refine AW.seq ?_
  refine AW.seq ?_
  refine AW.region (cfg := cfg) ?_
  refine stp (fun _ h => s0 h) ?_
  refine aops_nil ?_
  refine AW.block ?_
  refine AW.forN (fun k σ => ∃ s m, σ = ⟨104, s, m⟩ ∧ s 1 = .lptr (.tmp 1 0) (m.objs (.tmp 1 0)).1 0 ∧ (m.objs (.tmp 1 0)).2 = .box [.v (.sl 3 a.n1 (a.db.map lsaA)), .v (i64 a.up), .v (i64 a.bo), .v (.sl 2 a.n2 (a.ep.map itA))] ∧ s 3 = .v (i64 (k : Int)) ∧ (chn lsaOK Lsa.o 0 a.db = chn lsaOK Lsa.o (lastD a.db k) (a.db.drop k)) ∧ (∀ i, (m.objs (.res i)).2 = .dead) ∧ m.G = []) (a.db.length) ?_ ?_ ?_
  · refine ⟨_, _, rfl, ?_, ?_, ?_, ?_, (by intro i; simp [Mem.set, hr]), (by exact hG)⟩ <;> try simp (disch := first | omega | decide) only [go_sem, F, aIndex_map]
    all_goals rfl
  · clear F f0 hr hG
    rintro k σ hk ⟨s, m, rfl, f1, o1, f3, mo0, hr, hG⟩
    obtain ⟨g1, o1⟩ : ∃ g, m.objs (.tmp 1 0) = (g, .box [.v (.sl 3 a.n1 (a.db.map lsaA)), .v (i64 a.up), .v (i64 a.bo), .v (.sl 2 a.n2 (a.ep.map itA))]) := ⟨_, Prod.ext rfl o1⟩
    rw [o1] at f1
    have F := (And.intro f1 (And.intro f3 (And.intro o1 hG)))
    refine AW.seq ?_
    refine AW.seq ?_
    refine AW.region (cfg := cfg) ?_
    refine stp (fun _ h => s0 h) ?_
    refine stp (fun _ h => sx h) ?_
    refine stp (fun _ h => sl h) ?_
    refine stp (fun _ h => sd h) ?_
    refine stp (fun _ h => s0 h) ?_
    refine aops_nil ?_
    refine cnd (fun hb => ?ht1) (fun hb => ?hf1)
    case hf1 => (simp at hb; omega)
    case ht1 =>
    have hbt10 := hb
    refine AW.skip ?_
    refine AW.seq ?_
    refine AW.block ?_
    refine AW.seq ?_
    have hkl : k < a.db.length := by assumption
    have pk1 := pa a.db[k] (List.getElem_mem hkl)
    refine AW.draw (cfg := cfg) (by kernel_rfl) (by kernel_rfl) (by kernel_rfl) ?_
    refine dstp (fun _ h => sx h) ?_
    refine dstp (fun _ h => sl h) ?_
    refine dstp (fun _ h => s0 h) ?_
    refine dstp (fun _ h => si h) ?_
    refine dstp (fun _ h => sl h) ?_
    refine dstp (fun _ h => cs (w := good_refMayX a.db[k] (by omega)) (x := h)) ?_
    iterate 2 refine dstp (fun _ h => s0 h) ?_
    iterate 3 refine dmrg wa (fun hc _ h => s0 h) ?_
    refine dmrg wa (fun hc _ h => sx h) ?_
    refine dmrg wa (fun hc _ h => sl h) ?_
    refine dmrg wa (fun hc _ h => s0 h) ?_
    refine dmrg wa (fun hc _ h => sd h) ?_
    refine dmrg wa (fun hc _ h => sg h) ?_
    refine dmrg wa (fun hc _ h => sx h) ?_
    refine dmrg wa (fun hc _ h => sl h) ?_
    refine dmrg wa (fun hc _ h => sx h) ?_
    refine dmrg wa (fun hc _ h => sl h) ?_
    refine dmrg wa (fun hc _ h => s0 h) ?_
    refine dmrg wa (fun hc _ h => sg h) ?_
    refine dmrg wa (fun hc _ h => sx h) ?_
    refine dmrg wa (fun hc _ h => sl h) ?_
    iterate 2 refine dmrg wa (fun hc _ h => s0 h) ?_
    refine dstp (fun _ h => s0 h) ?_
    refine adraw_nil (by kernel_rfl) ?_
    refine cnd (fun hb => ?ht2) (fun hb => ?hf2)
    case ht2 =>
      have hw39 := hb
      try simp only [bo1, bo2, bo3, bo4, bo5, bo6] at hb
      have hbt39 := hb
      refine AW.seq ?_
      refine AW.region (cfg := cfg) ?_
      refine stp (fun _ h => s0 h) ?_
      refine aops_nil ?_
      refine AW.ret ?_
      refine ⟨.inr rfl, ?_⟩
      refine leaves_tmp1 2 rfl ?_ (by exact hG)
      simp (disch := first | omega | decide) only [go_sem, F, aIndex_map]
      all_goals (simp only [getD_at hkl] at hbt39; rw [st_dbno (rd_no mo0 hk hbt39)]; done)
    case hf2 =>
      have hw39 := hb
      try simp only [bo1, bo2, bo3, bo4, bo5, bo6] at hb
      have hbt39 := hb
      refine AW.skip ?_
      refine AW.region (cfg := cfg) ?_
      refine stp (fun _ h => s0 h) ?_
      refine stp (fun _ h => sd h) ?_
      refine stp (fun _ h => s0 h) ?_
      refine aops_nil ?_
      refine ⟨_, _, rfl, ?_, ?_, ?_, ?_, (by intro i; simp [Mem.set, hr]), (by exact hG)⟩ <;> try simp (disch := first | omega | decide) only [go_sem, F, aIndex_map]
      all_goals first | rfl | (simp only [getD_at hkl] at hbt39; exact rd_go mo0 hk hbt39)
  · clear F f0 hr hG
    rintro σ ⟨s, m, rfl, f1, o1, f3, mo0, hr, hG⟩
    obtain ⟨g1, o1⟩ : ∃ g, m.objs (.tmp 1 0) = (g, .box [.v (.sl 3 a.n1 (a.db.map lsaA)), .v (i64 a.up), .v (i64 a.bo), .v (.sl 2 a.n2 (a.ep.map itA))]) := ⟨_, Prod.ext rfl o1⟩
    rw [o1] at f1
    have F := (And.intro f1 (And.intro f3 (And.intro o1 hG)))
    refine AW.seq ?_
    refine AW.seq ?_
    refine AW.region (cfg := cfg) ?_
    refine stp (fun _ h => s0 h) ?_
    refine stp (fun _ h => sx h) ?_
    refine stp (fun _ h => sl h) ?_
    refine stp (fun _ h => sd h) ?_
    refine stp (fun _ h => s0 h) ?_
    refine aops_nil ?_
    refine cnd (fun hb => ?ht3) (fun hb => ?hf3)
    case ht3 => (simp at hb; done)
    case hf3 =>
    have hbt10 := hb
    refine AW.exit ?_
    refine AW.seq ?_
    refine AW.seq ?_
    refine AW.region (cfg := cfg) ?_
    refine stp (fun _ h => s0 h) ?_
    refine aops_nil ?_
    refine AW.block ?_
    refine AW.forN (fun k σ => ∃ s m, σ = ⟨104, s, m⟩ ∧ s 1 = .lptr (.tmp 1 0) (m.objs (.tmp 1 0)).1 0 ∧ (m.objs (.tmp 1 0)).2 = .box [.v (.sl 3 a.n1 (a.db.map lsaA)), .v (i64 a.up), .v (i64 a.bo), .v (.sl 2 a.n2 (a.ep.map itA))] ∧ s 4 = .v (i64 (k : Int)) ∧ (dbOK a.db = true) ∧ (chn epV It.o 0 a.ep = chn epV It.o (lastE a.ep k) (a.ep.drop k)) ∧ (∀ j, j < k → 0 < (a.ep.getD j default).o) ∧ (∀ i, (m.objs (.res i)).2 = .dead) ∧ m.G = []) (a.ep.length) ?_ ?_ ?_
    · refine ⟨_, _, rfl, ?_, ?_, ?_, ?_, ?_, ?_, (by intro i; simp [Mem.set, hr]), (by exact hG)⟩ <;> try simp (disch := first | omega | decide) only [go_sem, F, aIndex_map]
      all_goals first | rfl | exact rd_end mo0 | (simp [lastE]; done)
    · clear F f1 f3 o1 hr hG
      rintro k σ hk ⟨s, m, rfl, f1, o1, f4, mo0, mo1, mo2, hr, hG⟩
      obtain ⟨g1, o1⟩ : ∃ g, m.objs (.tmp 1 0) = (g, .box [.v (.sl 3 a.n1 (a.db.map lsaA)), .v (i64 a.up), .v (i64 a.bo), .v (.sl 2 a.n2 (a.ep.map itA))]) := ⟨_, Prod.ext rfl o1⟩
      rw [o1] at f1
      have F := (And.intro f1 (And.intro f4 (And.intro o1 hG)))
      refine AW.seq ?_
      refine AW.seq ?_
      refine AW.region (cfg := cfg) ?_
      refine stp (fun _ h => s0 h) ?_
      refine stp (fun _ h => sx h) ?_
      refine stp (fun _ h => sl h) ?_
      refine stp (fun _ h => sd h) ?_
      refine stp (fun _ h => s0 h) ?_
      refine aops_nil ?_
      refine cnd (fun hb => ?ht4) (fun hb => ?hf4)
      case hf4 => (simp at hb; omega)
      case ht4 =>
      have hbt44 := hb
      refine AW.skip ?_
      refine AW.seq ?_
      refine AW.block ?_
      refine AW.seq ?_
      refine AW.region (cfg := cfg) ?_
      refine stp (fun _ h => sx h) ?_
      refine stp (fun _ h => sl h) ?_
      refine stp (fun _ h => s0 h) ?_
      refine stp (fun _ h => si h) ?_
      refine stp (fun _ h => sl h) ?_
      refine stp (fun _ h => sd h) ?_
      refine stp0 (fun _ h => ss h) ?_
      refine aops_nil ?_
      refine AW.seq ?_
      have hkl : k < a.ep.length := by assumption
      refine AW.draw (cfg := cfg) (by kernel_rfl) (by kernel_rfl) (by kernel_rfl) ?_
      refine dstp (fun _ h => sx h) ?_
      refine dstp (fun _ h => sl h) ?_
      iterate 2 refine dstp (fun _ h => s0 h) ?_
      refine dmrg wa (fun hc _ h => sx h) ?_
      refine dmrg wa (fun hc _ h => sl h) ?_
      refine dmrg wa (fun hc _ h => s0 h) ?_
      iterate 2 refine dstp (fun _ h => s0 h) ?_
      refine dmrg wa (fun hc _ h => sx h) ?_
      refine dmrg wa (fun hc _ h => sl h) ?_
      refine dmrg wa (fun hc _ h => s0 h) ?_
      iterate 2 refine dstp (fun _ h => s0 h) ?_
      refine dmrg wa (fun hc _ h => sx h) ?_
      refine dmrg wa (fun hc _ h => sl h) ?_
      refine dmrg wa (fun hc _ h => s0 h) ?_
      iterate 2 refine dstp (fun _ h => s0 h) ?_
      iterate 3 refine dmrg wa (fun hc _ h => s0 h) ?_
      refine dmrg wa (fun hc _ h => sx h) ?_
      refine dmrg wa (fun hc _ h => sl h) ?_
      refine dmrg wa (fun hc _ h => s0 h) ?_
      refine dmrg wa (fun hc _ h => sd h) ?_
      refine dmrg wa (fun hc _ h => sg h) ?_
      refine dmrg wa (fun hc _ h => sx h) ?_
      refine dmrg wa (fun hc _ h => sl h) ?_
      refine dmrg wa (fun hc _ h => sx h) ?_
      refine dmrg wa (fun hc _ h => sl h) ?_
      iterate 2 refine dmrg wa (fun hc _ h => s0 h) ?_
      refine dstp (fun _ h => s0 h) ?_
      refine adraw_nil (by kernel_rfl) ?_
      refine cnd (fun hb => ?ht5) (fun hb => ?hf5)
      case ht5 =>
        have hw85 := hb
        try simp only [bo1, bo2, bo3, bo4, bo5, bo6] at hb
        have hbt85 := hb
        refine AW.seq ?_
        refine AW.region (cfg := cfg) ?_
        refine stp (fun _ h => s0 h) ?_
        refine aops_nil ?_
        refine AW.ret ?_
        refine ⟨.inr rfl, ?_⟩
        refine leaves_tmp1 2 rfl ?_ (by exact hG)
        simp (disch := first | omega | decide) only [go_sem, F, aIndex_map]
        all_goals (rw [re_no mo1 hk hbt85 mo2]; done)
      case hf5 =>
        have hw85 := hb
        try simp only [bo1, bo2, bo3, bo4, bo5, bo6] at hb
        have hbt85 := hb
        refine AW.skip ?_
        refine AW.region (cfg := cfg) ?_
        refine stp (fun _ h => s0 h) ?_
        refine stp (fun _ h => sd h) ?_
        refine stp (fun _ h => s0 h) ?_
        refine aops_nil ?_
        refine ⟨_, _, rfl, ?_, ?_, ?_, ?_, ?_, ?_, (by intro i; simp [Mem.set, hr]), (by exact hG)⟩ <;> try simp (disch := first | omega | decide) only [go_sem, F, aIndex_map]
        all_goals first | rfl | assumption | exact re_go mo1 hk hbt85 | exact re_pos hk mo2 hbt85.1.1.1.1
    · clear F f1 f3 o1 hr hG
      rintro σ ⟨s, m, rfl, f1, o1, f4, mo0, mo1, mo2, hr, hG⟩
      obtain ⟨g1, o1⟩ : ∃ g, m.objs (.tmp 1 0) = (g, .box [.v (.sl 3 a.n1 (a.db.map lsaA)), .v (i64 a.up), .v (i64 a.bo), .v (.sl 2 a.n2 (a.ep.map itA))]) := ⟨_, Prod.ext rfl o1⟩
      rw [o1] at f1
      have F := (And.intro f1 (And.intro f4 (And.intro o1 hG)))
      refine AW.seq ?_
      refine AW.seq ?_
      refine AW.region (cfg := cfg) ?_
      refine stp (fun _ h => s0 h) ?_
      refine stp (fun _ h => sx h) ?_
      refine stp (fun _ h => sl h) ?_
      refine stp (fun _ h => sd h) ?_
      refine stp (fun _ h => s0 h) ?_
      refine aops_nil ?_
      refine cnd (fun hb => ?ht6) (fun hb => ?hf6)
      case ht6 => (simp at hb; done)
      case hf6 =>
      have hbt44 := hb
      refine AW.exit ?_
      refine AW.seq ?_
      refine AW.region (cfg := cfg) ?_
      refine stp (fun _ h => sx h) ?_
      refine stp (fun _ h => sl h) ?_
      iterate 2 refine stp (fun _ h => s0 h) ?_
      refine mrg wa (fun hc _ h => sx h) ?_
      refine mrg wa (fun hc _ h => sl h) ?_
      refine mrg wa (fun hc _ h => s0 h) ?_
      iterate 2 refine stp (fun _ h => s0 h) ?_
      refine mrg wa (fun hc _ h => sx h) ?_
      refine mrg wa (fun hc _ h => sl h) ?_
      refine mrg wa (fun hc _ h => s0 h) ?_
      iterate 2 refine stp (fun _ h => s0 h) ?_
      refine mrg wa (fun hc _ h => sx h) ?_
      refine mrg wa (fun hc _ h => sl h) ?_
      refine mrg wa (fun hc _ h => s0 h) ?_
      iterate 2 refine stp (fun _ h => s0 h) ?_
      refine aops_nil ?_
      refine AW.ret ?_
      refine ⟨.inr rfl, ?_⟩
      refine leaves_tmp1 2 rfl ?_ (by exact hG)
      simp (disch := first | omega | decide) only [go_sem, F, aIndex_map]
      all_goals (rw [← re_end mo0 mo1]; rfl)
end Go.Vai.BA
namespace Go.Vai.BA
open Go.Proofs Go.Vai Go.Vai.C Go.Vai.D Go.Vai.DB Go.Vai.G Go.Vai.I Go.Vai.L Go.Vai.N Go.Vai.O
set_option linter.unusedSimpArgs false
set_option linter.unusedVariables false
set_option maxHeartbeats 4000000
set_option maxRecDepth 100000
theorem itE_eq {x y : It} (h : (!(decide (x.o = y.o) && decide (x.s = y.s))) = false) : x = y := by
  obtain ⟨_, _⟩ := x
  obtain ⟨_, _⟩ := y
  simpa using h
theorem itE_ne {x y : It} (h : (!(decide (x.o = y.o) && decide (x.s = y.s))) = true) : x ≠ y := by
  rintro rfl
  simp at h
theorem sameS_no {a b : Sta} (h : ((¬ a.up = b.up ∨ ¬ a.bo = b.bo) ∨ (!eqAll lsaEq a.db b.db) = true) ∨ ¬ (a.ep.length : Int) = (b.ep.length : Int)) : sameS a b = false := by
  cases e : sameS a b with
  | false => rfl
  | true =>
    simp only [sameS, Bool.and_eq_true, decide_eq_true_eq] at e
    rcases h with ((h | h) | h) | h
    · exact absurd e.1.1.1 h
    · exact absurd e.1.1.2 h
    · rw [e.1.2] at h; cases h
    · exact absurd (by rw [e.2]) h
theorem sameS_ep {a b : Sta} (h : a.ep ≠ b.ep) : sameS a b = false := by rw [sameS, decide_eq_false h, Bool.and_false]
theorem sameS_yes {a b : Sta} (h : ((a.up = b.up ∧ a.bo = b.bo) ∧ (!eqAll lsaEq a.db b.db) = false) ∧ (a.ep.length : Int) = (b.ep.length : Int)) (h2 : a.ep.take a.ep.length = b.ep.take a.ep.length) : sameS a b = true := by
  rw [List.take_length, List.take_of_length_le (by omega)] at h2
  simp only [sameS, Bool.and_eq_true, decide_eq_true_eq]
  exact ⟨⟨⟨h.1.1.1, h.1.1.2⟩, by simpa using h.1.2⟩, h2⟩
theorem good_refSameB (a : Sta) (ha1 : a.db.length ≤ 1000000) (ha2 : a.ep.length ≤ 1000000) (pa : ∀ x ∈ a.db, fit x) (b : Sta) (hb1 : b.db.length ≤ 1000000) (hb2 : b.ep.length ≤ 1000000) (pb : ∀ x ∈ b.db, fit x) : Good Try.prog 14 [(staA a, false), (staA b, false)] [] [(.b (sameS a b), false)] [] := by
  refine good_of_body2 53 Try.func14 rfl rfl rfl (by simp) ?_
  intro s m ha hr hv hG
  have f0 : s 0 = .v (.agg [.sl 3 a.n1 (a.db.map lsaA), i64 a.up, i64 a.bo, .sl 2 a.n2 (a.ep.map itA)]) := ha 0 _ rfl
  have f1 : s 1 = .v (.agg [.sl 3 b.n1 (b.db.map lsaA), i64 b.up, i64 b.bo, .sl 2 b.n2 (b.ep.map itA)]) := ha 1 _ rfl
  clear ha
  have hc : True := trivial
  have F := (And.intro f0 (And.intro f1 hG))
  refine AW.seq ?_
  refine AW.region (cfg := cfg) ?_
  iterate 2 refine stp (fun _ h => sb h) ?_
  refine stp (fun _ h => s0 h) ?_
  refine aops_nil ?_
  refine AW.seq ?_
  refine AW.seq ?_
  refine AW.region (cfg := cfg) ?_
  refine stp (fun _ h => sx h) ?_
  refine stp (fun _ h => sl h) ?_
  refine stp (fun _ h => sx h) ?_
  refine stp (fun _ h => sl h) ?_
  iterate 2 refine stp (fun _ h => s0 h) ?_
  refine mrg wa (fun hc _ h => sx h) ?_
  refine mrg wa (fun hc _ h => sl h) ?_
  refine mrg wa (fun hc _ h => sx h) ?_
  refine mrg wa (fun hc _ h => sl h) ?_
  refine mrg wa (fun hc _ h => s0 h) ?_
  iterate 2 refine stp (fun _ h => s0 h) ?_
  refine mrg wa (fun hc _ h => sx h) ?_
  refine mrg wa (fun hc _ h => sl h) ?_
  refine mrg wa (fun hc _ h => sx h) ?_
  refine mrg wa (fun hc _ h => sl h) ?_
  refine mrg wa (fun hc _ h => cs (w := good_refAllDb a.n1 b.n1 a.db b.db (by omega) (by omega) pa pb) (x := h)) ?_
  refine mrg wa (fun hc _ h => s0 h) ?_
  iterate 2 refine stp (fun _ h => s0 h) ?_
  refine mrg wa (fun hc _ h => sx h) ?_
  refine mrg wa (fun hc _ h => sl h) ?_
  refine mrg wa (fun hc _ h => sd h) ?_
  refine mrg wa (fun hc _ h => sx h) ?_
  refine mrg wa (fun hc _ h => sl h) ?_
  refine mrg wa (fun hc _ h => sd h) ?_
  refine mrg wa (fun hc _ h => s0 h) ?_
  refine stp (fun _ h => s0 h) ?_
  refine aops_nil ?_
  refine cnd (fun hb => ?ht1) (fun hb => ?hf1)
  case ht1 =>
    have hw34 := hb
    try simp only [bo1, bo2, bo3, bo4, bo5, bo6] at hb
    have hbt34 := hb
    refine AW.seq ?_
    refine AW.region (cfg := cfg) ?_
    refine stp (fun _ h => s0 h) ?_
    refine aops_nil ?_
    refine AW.ret ?_
    refine ⟨.inr rfl, ?_⟩
    refine leaves_tmp1 4 rfl ?_ (by exact hG)
    simp (disch := first | omega | decide) only [go_sem, F, aIndex_map]
    all_goals (rw [sameS_no (by simpa using hbt34)]; done)
  case hf1 =>
    have hw34 := hb
    try simp only [bo1, bo2, bo3, bo4, bo5, bo6] at hb
    have hbt34 := hb
    refine AW.skip ?_
    refine AW.seq ?_
    refine AW.seq ?_
    refine AW.region (cfg := cfg) ?_
    refine stp (fun _ h => s0 h) ?_
    refine aops_nil ?_
    refine AW.block ?_
    refine AW.forN (fun k σ => ∃ s m, σ = ⟨53, s, m⟩ ∧ s 2 = .lptr (.tmp 2 0) (m.objs (.tmp 2 0)).1 0 ∧ (m.objs (.tmp 2 0)).2 = .box [.v (.sl 3 a.n1 (a.db.map lsaA)), .v (i64 a.up), .v (i64 a.bo), .v (.sl 2 a.n2 (a.ep.map itA))] ∧ s 3 = .lptr (.tmp 3 0) (m.objs (.tmp 3 0)).1 0 ∧ (m.objs (.tmp 3 0)).2 = .box [.v (.sl 3 b.n1 (b.db.map lsaA)), .v (i64 b.up), .v (i64 b.bo), .v (.sl 2 b.n2 (b.ep.map itA))] ∧ s 5 = .v (i64 (k : Int)) ∧ (((a.up = b.up ∧ a.bo = b.bo) ∧ (!eqAll lsaEq a.db b.db) = false) ∧ (a.ep.length : Int) = (b.ep.length : Int)) ∧ (a.ep.take k = b.ep.take k) ∧ (∀ i, (m.objs (.res i)).2 = .dead) ∧ m.G = []) (a.ep.length) ?_ ?_ ?_
    · refine ⟨_, _, rfl, ?_, ?_, ?_, ?_, ?_, ?_, ?_, (by intro i; simp [Mem.set, hr]), (by exact hG)⟩ <;> try simp (disch := first | omega | decide) only [go_sem, F, aIndex_map]
      all_goals first | rfl | (simpa using hbt34)
    · clear F f0 f1 hr hG
      rintro k σ hk ⟨s, m, rfl, f2, o2, f3, o3, f5, mo0, mo1, hr, hG⟩
      obtain ⟨g2, o2⟩ : ∃ g, m.objs (.tmp 2 0) = (g, .box [.v (.sl 3 a.n1 (a.db.map lsaA)), .v (i64 a.up), .v (i64 a.bo), .v (.sl 2 a.n2 (a.ep.map itA))]) := ⟨_, Prod.ext rfl o2⟩
      rw [o2] at f2
      obtain ⟨g3, o3⟩ : ∃ g, m.objs (.tmp 3 0) = (g, .box [.v (.sl 3 b.n1 (b.db.map lsaA)), .v (i64 b.up), .v (i64 b.bo), .v (.sl 2 b.n2 (b.ep.map itA))]) := ⟨_, Prod.ext rfl o3⟩
      rw [o3] at f3
      have F := (And.intro f2 (And.intro f3 (And.intro f5 (And.intro o2 (And.intro o3 hG)))))
      refine AW.seq ?_
      refine AW.seq ?_
      refine AW.region (cfg := cfg) ?_
      refine stp (fun _ h => s0 h) ?_
      refine stp (fun _ h => sx h) ?_
      refine stp (fun _ h => sl h) ?_
      refine stp (fun _ h => sd h) ?_
      refine stp (fun _ h => s0 h) ?_
      refine aops_nil ?_
      refine cnd (fun hb => ?ht2) (fun hb => ?hf2)
      case hf2 => (simp at hb; omega)
      case ht2 =>
      have hbt39 := hb
      refine AW.skip ?_
      refine AW.seq ?_
      refine AW.block ?_
      refine AW.seq ?_
      have hka : k < a.ep.length := by assumption
      have hkb : k < b.ep.length := by omega
      refine AW.draw (cfg := cfg) (by kernel_rfl) (by kernel_rfl) (by kernel_rfl) ?_
      refine dstp (fun _ h => sx h) ?_
      refine dstp (fun _ h => sl h) ?_
      refine dstp (fun _ h => s0 h) ?_
      refine dstp (fun _ h => si h) ?_
      refine dstp (fun _ h => sl h) ?_
      refine dstp (fun _ h => sx h) ?_
      refine dstp (fun _ h => sl h) ?_
      refine dstp (fun _ h => s0 h) ?_
      refine dstp (fun _ h => si h) ?_
      refine dstp (fun _ h => sl h) ?_
      refine dstp (fun _ h => s0 h) ?_
      refine adraw_nil (by kernel_rfl) ?_
      refine cnd (fun hb => ?ht3) (fun hb => ?hf3)
      case ht3 =>
        have hw52 := hb
        try simp only [bo1, bo2, bo3, bo4, bo5, bo6] at hb
        have hbt52 := hb
        refine AW.seq ?_
        refine AW.region (cfg := cfg) ?_
        refine stp (fun _ h => s0 h) ?_
        refine aops_nil ?_
        refine AW.ret ?_
        refine ⟨.inr rfl, ?_⟩
        refine leaves_tmp1 4 rfl ?_ (by exact hG)
        simp (disch := first | omega | decide) only [go_sem, F, aIndex_map]
        all_goals (rw [sameS_ep (fun e => itE_ne (by exact hb) (by simp [e]))]; done)
      case hf3 =>
        have hw52 := hb
        try simp only [bo1, bo2, bo3, bo4, bo5, bo6] at hb
        have hbt52 := hb
        refine AW.skip ?_
        refine AW.region (cfg := cfg) ?_
        refine stp (fun _ h => s0 h) ?_
        refine stp (fun _ h => sd h) ?_
        refine stp (fun _ h => s0 h) ?_
        refine aops_nil ?_
        refine ⟨_, _, rfl, ?_, ?_, ?_, ?_, ?_, ?_, ?_, (by intro i; simp [Mem.set, hr]), (by exact hG)⟩ <;> try simp (disch := first | omega | decide) only [go_sem, F, aIndex_map]
        all_goals first | rfl | assumption | exact take_eq hk (by omega) mo1 (itE_eq (by exact hb))
    · clear F f0 f1 hr hG
      rintro σ ⟨s, m, rfl, f2, o2, f3, o3, f5, mo0, mo1, hr, hG⟩
      obtain ⟨g2, o2⟩ : ∃ g, m.objs (.tmp 2 0) = (g, .box [.v (.sl 3 a.n1 (a.db.map lsaA)), .v (i64 a.up), .v (i64 a.bo), .v (.sl 2 a.n2 (a.ep.map itA))]) := ⟨_, Prod.ext rfl o2⟩
      rw [o2] at f2
      obtain ⟨g3, o3⟩ : ∃ g, m.objs (.tmp 3 0) = (g, .box [.v (.sl 3 b.n1 (b.db.map lsaA)), .v (i64 b.up), .v (i64 b.bo), .v (.sl 2 b.n2 (b.ep.map itA))]) := ⟨_, Prod.ext rfl o3⟩
      rw [o3] at f3
      have F := (And.intro f2 (And.intro f3 (And.intro f5 (And.intro o2 (And.intro o3 hG)))))
      refine AW.seq ?_
      refine AW.seq ?_
      refine AW.region (cfg := cfg) ?_
      refine stp (fun _ h => s0 h) ?_
      refine stp (fun _ h => sx h) ?_
      refine stp (fun _ h => sl h) ?_
      refine stp (fun _ h => sd h) ?_
      refine stp (fun _ h => s0 h) ?_
      refine aops_nil ?_
      refine cnd (fun hb => ?ht4) (fun hb => ?hf4)
      case ht4 => (simp at hb; done)
      case hf4 =>
      have hbt39 := hb
      refine AW.exit ?_
      refine AW.seq ?_
      refine AW.region (cfg := cfg) ?_
      refine stp (fun _ h => s0 h) ?_
      refine aops_nil ?_
      refine AW.ret ?_
      refine ⟨.inr rfl, ?_⟩
      refine leaves_tmp1 4 rfl ?_ (by exact hG)
      simp (disch := first | omega | decide) only [go_sem, F, aIndex_map]
      all_goals (rw [sameS_yes mo0 mo1]; done)
end Go.Vai.BA
namespace Go.Vai.BA
open Go.Proofs Go.Vai Go.Vai.C Go.Vai.D Go.Vai.DB Go.Vai.G Go.Vai.I Go.Vai.L Go.Vai.N Go.Vai.O
set_option linter.unusedSimpArgs false
set_option linter.unusedVariables false
set_option maxHeartbeats 4000000
set_option maxRecDepth 100000
theorem good_CloneIt (nil : Bool) (l : List It) (hl : l.length ≤ 8796093022208) (hz : nil = true → l = []) : Good Try.prog 48 [(.sl 2 nil (l.map itA), false)] [] [(.sl 2 nil (l.map itA), true)] [] := by
  refine good_of_body3 8 Try.func48 rfl rfl rfl (by simp) ?_
  intro s m ha hr hv hG
  have f0 : s 0 = .v (.sl 2 nil (l.map itA)) := ha 0 _ rfl
  clear ha
  have hc : True := trivial
  have F := (And.intro f0 hG)
  refine AW.seq ?_
  refine AW.region (cfg := cfg) ?_
  refine stp (fun _ h => s0 h) ?_
  refine aops_nil ?_
  refine AW.seq ?_
  refine AW.seq ?_
  refine AW.region (cfg := cfg) ?_
  iterate 2 refine stp (fun _ h => s0 h) ?_
  refine aops_nil ?_
  refine cnd (fun hb => ?ht1) (fun hb => ?hf1)
  case ht1 =>
    have hw4 := hb
    try simp only [bo1, bo2, bo3, bo4, bo5, bo6] at hb
    have hbt4 := hb
    refine AW.seq ?_
    refine AW.region (cfg := cfg) ?_
    refine stp (fun _ h => s0 h) ?_
    refine aops_nil ?_
    refine AW.ret ?_
    refine ⟨.inr rfl, ?_⟩
    (obtain rfl : nil = true := (by simpa using hb); obtain rfl := hz rfl; refine ⟨_, nilEq_nil (nilEq_refl _), leaves_own1 2 rfl (by simp (disch := first | omega | decide) only [go_sem, F, aIndex_map] <;> rfl) (by simp (disch := first | omega | decide) only [go_sem, F, aIndex_map] <;> rfl) (by decide) (by simp [sub, List.take_of_length_le]) (by exact hG)⟩)
  case hf1 =>
    have hw4 := hb
    try simp only [bo1, bo2, bo3, bo4, bo5, bo6] at hb
    have hbt4 := hb
    refine AW.skip ?_
    refine AW.seq ?_
    refine AW.region (cfg := cfg) ?_
    refine stp (fun _ h => sq h) ?_
    refine stp (fun _ h => s0 h) ?_
    refine stp (fun _ h => sp h) ?_
    refine stp (fun _ h => st h) ?_
    refine aops_nil ?_
    refine AW.ret ?_
    refine ⟨.inr rfl, ?_⟩
    (obtain rfl : nil = false := (by simpa using hb); refine leavesN (leaves_own1 2 rfl (by simp (disch := first | omega | decide) only [go_sem, F, aIndex_map] <;> rfl) (by simp (disch := first | omega | decide) only [go_sem, F, aIndex_map] <;> rfl) (by decide) (by simp [sub, List.take_of_length_le]) (by exact hG)))
end Go.Vai.BA
namespace Go.Vai.BA
open Go.Proofs Go.Vai Go.Vai.C Go.Vai.D Go.Vai.DB Go.Vai.G Go.Vai.I Go.Vai.L Go.Vai.N Go.Vai.O
set_option linter.unusedSimpArgs false
set_option linter.unusedVariables false
set_option maxHeartbeats 4000000
set_option maxRecDepth 100000
/-- The caller's state, written anew. -/
def wr (b g g0 g3 : Nat) (a : Sta) (m : Mem) : Mem := ((m.set (.cell b 0) (g0, .arr a.n1 3 (a.db.map lsaA))).set (.cell b 3) (g3, .arr a.n2 2 (a.ep.map itA))).set (.tmp b 0) (g, .box [.own (.cell b 0) g0 0 a.db.length, .v (i64 a.up), .v (i64 a.bo), .own (.cell b 3) g3 0 a.ep.length])
structure HasS (b g g0 g3 : Nat) (a : Sta) (m : Mem) : Prop where
  bx : m.objs (.tmp b 0) = (g, .box [.own (.cell b 0) g0 0 a.db.length, .v (i64 a.up), .v (i64 a.bo), .own (.cell b 3) g3 0 a.ep.length])
  r0 : m.objs (.cell b 0) = (g0, .arr a.n1 3 (a.db.map lsaA))
  r3 : m.objs (.cell b 3) = (g3, .arr a.n2 2 (a.ep.map itA))
theorem wr_G {b g g0 g3 : Nat} {a : Sta} {m : Mem} : (wr b g g0 g3 a m).G = m.G := rfl
theorem wr_has {b g g0 g3 : Nat} {a : Sta} {m : Mem} : HasS b g g0 g3 a (wr b g g0 g3 a m) := ⟨by simp [wr, mset_if], by simp [wr, mset_if], by simp [wr, mset_if]⟩
theorem up_wr {b g g0 g3 : Nat} {a : Sta} {m m1 m2 : Mem} (hu : UpMem m m1) (h : HasS (b + 1000) g g0 g3 a m2) (h4 : ∀ n : Nm, n ≠ .tmp b 0 → n ≠ .cell b 0 → n ≠ .cell b 3 → m2.objs n.up = m1.objs n.up) : ∀ n : Nm, m2.objs n.up = upO ((wr b g g0 g3 a m).objs n) := fun n => by
  simp only [wr, mset_if]
  split
  · rename_i e; subst e; exact h.bx
  · split
    · rename_i e; subst e; exact h.r3
    · split
      · rename_i e; subst e; exact h.r0
      · rw [h4 n (by assumption) (by assumption) (by assumption), hu.up]
theorem wr_other {b g g0 g3 : Nat} {a : Sta} {m : Mem} {n : Nm} (h1 : n ≠ .tmp b 0) (h2 : n ≠ .cell b 0) (h3 : n ≠ .cell b 3) : (wr b g g0 g3 a m).objs n = m.objs n := by
  simp only [wr, mset_if]
  rw [if_neg h1, if_neg h3, if_neg h2]
theorem good_cmpPutB (x : Lsa) (t : Int) : Good Try.prog 69 [(lsaA x, false), (i64 t, false)] [] [(i64 (cmpI (Lsa.o x) t), false)] [] := by
  refine good_of_body2 9 Try.func69 rfl rfl rfl (by simp) ?_
  intro s m ha hr hv hG
  have f0 : s 0 = .v (.agg [i64 x.o, i64 x.s, .sl 2 x.nil (x.ls.map linkA)]) := ha 0 _ rfl
  have f1 : s 1 = .v (i64 t) := ha 1 _ rfl
  clear ha
  have hc : True := trivial
  have F := (And.intro f0 (And.intro f1 hG))
  refine AW.seq ?_
  refine AW.region (cfg := cfg) ?_
  refine stp (fun _ h => sb h) ?_
  refine stp (fun _ h => s0 h) ?_
  refine aops_nil ?_
  refine AW.seq ?_
  refine AW.region (cfg := cfg) ?_
  refine stp (fun _ h => sx h) ?_
  refine stp (fun _ h => sl h) ?_
  refine stp (fun _ h => s0 h) ?_
  refine stp (fun _ h => cs (w := good_cmpInt (Lsa.o x) t) (x := h)) ?_
  refine stp (fun _ h => s0 h) ?_
  refine aops_nil ?_
  refine AW.ret ?_
  refine ⟨.inr rfl, ?_⟩
  refine leaves_tmp1 4 rfl ?_ (by exact hG)
  simp (disch := first | omega | decide) only [go_sem, F, aIndex_map]
  all_goals first | done | rfl | trace_state
theorem good_cmpEpB (x : It) (t : Int) : Good Try.prog 74 [(itA x, false), (i64 t, false)] [] [(i64 (cmpI (It.o x) t), false)] [] := by
  refine good_of_body2 9 Try.func74 rfl rfl rfl (by simp) ?_
  intro s m ha hr hv hG
  have f0 : s 0 = .v (.agg [i64 x.o, i64 x.s]) := ha 0 _ rfl
  have f1 : s 1 = .v (i64 t) := ha 1 _ rfl
  clear ha
  have hc : True := trivial
  have F := (And.intro f0 (And.intro f1 hG))
  refine AW.seq ?_
  refine AW.region (cfg := cfg) ?_
  refine stp (fun _ h => sb h) ?_
  refine stp (fun _ h => s0 h) ?_
  refine aops_nil ?_
  refine AW.seq ?_
  refine AW.region (cfg := cfg) ?_
  refine stp (fun _ h => sx h) ?_
  refine stp (fun _ h => sl h) ?_
  refine stp (fun _ h => s0 h) ?_
  refine stp (fun _ h => cs (w := good_cmpInt (It.o x) t) (x := h)) ?_
  refine stp (fun _ h => s0 h) ?_
  refine aops_nil ?_
  refine AW.ret ?_
  refine ⟨.inr rfl, ?_⟩
  refine leaves_tmp1 4 rfl ?_ (by exact hG)
  simp (disch := first | omega | decide) only [go_sem, F, aIndex_map]
  all_goals first | done | rfl | trace_state
theorem good_BSearchIt (nil : Bool) (l : List It) (t : Int) (f : FuncId) (hl : l.length ≤ 1000000) (hs : Rise It.o l) (hpu : cfg.pure f = true) (hsc : cfg.scalar f = true) (hxf : cfg.xfer f = false) (hp : ∀ x, Good Try.prog f [(itA x, false), (i64 t, false)] [] [(i64 (cmpI (It.o x) t), false)] []) : Good Try.prog 73 [(.sl 2 nil (l.map itA), false), (i64 t, false), (.clo f [], false)] [] [(i64 (posK It.o l t : Nat), false), (.b (isK It.o l t), false)] [] := by
  refine good_of_body2 49 Try.func73 rfl rfl rfl (by simp) ?_
  intro s m ha hr hv hG
  have f0 : s 0 = .v (.sl 2 nil (l.map itA)) := ha 0 _ rfl
  have f1 : s 1 = .v (i64 t) := ha 1 _ rfl
  have f2 : s 2 = .v (.clo f []) := ha 2 _ rfl
  clear ha
  have hc : True := trivial
  have F := (And.intro f0 (And.intro f1 (And.intro f2 hG)))
  obtain ⟨N, hlt, hge⟩ := bs_end It.o l t
  refine AW.seq ?_
  refine AW.region (cfg := cfg) ?_
  iterate 2 refine stp (fun _ h => s0 h) ?_
  refine aops_nil ?_
  refine AW.seq ?_
  refine AW.region (cfg := cfg) ?_
  refine stp (fun _ h => s0 h) ?_
  refine stp (fun _ h => sd h) ?_
  refine stp (fun _ h => s0 h) ?_
  refine aops_nil ?_
  refine AW.seq ?_
  refine AW.region (cfg := cfg) ?_
  iterate 3 refine stp (fun _ h => s0 h) ?_
  refine aops_nil ?_
  refine AW.seq ?_
  refine AW.block ?_
  refine AW.forN (fun k σ => ∃ s m, σ = ⟨49, s, m⟩ ∧ s 0 = .v (.sl 2 nil (l.map itA)) ∧ s 1 = .v (i64 t) ∧ s 2 = .v (.clo f []) ∧ s 8 = .v (i64 (l.length : Int)) ∧ s 9 = .v (i64 ((bsS It.o l t k).1 : Int)) ∧ s 10 = .v (i64 ((bsS It.o l t k).2 : Int)) ∧ (∀ i, (m.objs (.res i)).2 = .dead) ∧ m.G = []) (N) ?_ ?_ ?_
  · refine ⟨_, _, rfl, ?_, ?_, ?_, ?_, ?_, ?_, (by intro i; simp [Mem.set, hr]), (by exact hG)⟩ <;> try simp (disch := first | omega | decide) only [go_sem, F, aIndex_map]
    all_goals rfl
  · clear F f0 f1 f2 hr hG
    rintro k σ hk ⟨s, m, rfl, f0, f1, f2, f8, f9, f10, hr, hG⟩
    have F := (And.intro f0 (And.intro f1 (And.intro f2 (And.intro f8 (And.intro f9 (And.intro f10 hG))))))
    refine AW.seq ?_
    refine AW.seq ?_
    refine AW.region (cfg := cfg) ?_
    iterate 3 refine stp (fun _ h => s0 h) ?_
    refine aops_nil ?_
    refine cnd (fun hb => ?ht1) (fun hb => ?hf1)
    case hf1 => (have hb1 := of_decide_eq_false hb; have hlt2 := hlt _ hk; omega)
    case ht1 =>
    have hbt17 := hb
    refine AW.skip ?_
    refine AW.block ?_
    refine AW.seq ?_
    have hbl := bs_le It.o l t k
    have hlt2 := hlt k hk
    have hmid : IntKind.i64.wrap ((((bsS It.o l t k).1 : Int) + ((bsS It.o l t k).2 : Int)) / 2 ^ Int.toNat 1) = ((bsM (bsS It.o l t k) : Nat) : Int) := bs_mid (by omega)
    have F := And.intro hmid F
    refine AW.region (cfg := cfg) ?_
    iterate 2 refine stp (fun _ h => s0 h) ?_
    iterate 4 refine stp (fun _ h => sd h) ?_
    refine stp (fun _ h => s0 h) ?_
    refine aops_nil ?_
    refine AW.seq ?_
    have hbl := bs_le It.o l t k
    have hlt2 := hlt k hk
    have hmd : bsM (bsS It.o l t k) < l.length := by simp only [bsM]; omega
    refine AW.region (cfg := cfg) ?_
    iterate 3 refine stp (fun _ h => s0 h) ?_
    refine stp (fun _ h => si h) ?_
    refine stp (fun _ h => sl h) ?_
    refine stp (fun _ h => s0 h) ?_
    apply aops_step (by decide) rfl
    · intro K hK
      simp (disch := first | omega | decide) only [go_sem, F, aIndex_map, act_callv, List.map]
      apply mwp_call_sc hpu hxf hsc
      · intro Q hQ
        simp (disch := first | omega | decide) only [go_sem, F, aIndex_map, peekL, reifyL_nil, reifyL_cons, reify_v]
        exact hQ
      · exact hp _
      · simp [noPtrL, noPtr, itA]
      · rfl
      · exact hK _
    refine stp (fun _ h => s0 h) ?_
    refine aops_nil ?_
    refine cnd (fun hb => ?ht2) (fun hb => ?hf2)
    case ht2 =>
      have hw31 := hb
      try simp only [bo1, bo2, bo3, bo4, bo5, bo6] at hb
      have hbt31 := hb
      refine AW.region (cfg := cfg) ?_
      refine stp (fun _ h => s0 h) ?_
      refine stp (fun _ h => sd h) ?_
      refine stp (fun _ h => s0 h) ?_
      refine aops_nil ?_
      refine ⟨_, _, rfl, ?_, ?_, ?_, ?_, ?_, ?_, (by intro i; simp [Mem.set, hr]), (by exact hG)⟩ <;> try simp (disch := first | omega | decide) only [go_sem, F, aIndex_map]
      all_goals first | (rw [bs_yes hlt2 (bs_at1 hmd hb)]; done) | (rw [bs_yes hlt2 (bs_at1 hmd hb)]; rfl)
    case hf2 =>
      have hw31 := hb
      try simp only [bo1, bo2, bo3, bo4, bo5, bo6] at hb
      have hbt31 := hb
      refine AW.region (cfg := cfg) ?_
      iterate 2 refine stp (fun _ h => s0 h) ?_
      refine aops_nil ?_
      refine ⟨_, _, rfl, ?_, ?_, ?_, ?_, ?_, ?_, (by intro i; simp [Mem.set, hr]), (by exact hG)⟩ <;> try simp (disch := first | omega | decide) only [go_sem, F, aIndex_map]
      all_goals first | (rw [bs_no hlt2 (bs_at2 hmd hb)]; done) | (rw [bs_no hlt2 (bs_at2 hmd hb)]; rfl)
  · clear F f0 f1 f2 hr hG
    rintro σ ⟨s, m, rfl, f0, f1, f2, f8, f9, f10, hr, hG⟩
    have F := (And.intro f0 (And.intro f1 (And.intro f2 (And.intro f8 (And.intro f9 (And.intro f10 hG))))))
    refine AW.seq ?_
    refine AW.seq ?_
    refine AW.region (cfg := cfg) ?_
    iterate 3 refine stp (fun _ h => s0 h) ?_
    refine aops_nil ?_
    refine cnd (fun hb => ?ht3) (fun hb => ?hf3)
    case ht3 => (simp at hb; omega)
    case hf3 =>
    have hbt17 := hb
    refine AW.exit ?_
    refine AW.seq ?_
    rw [bs_pos hs hge] at f9
    have F := (And.intro f0 (And.intro f1 (And.intro f2 (And.intro f8 (And.intro f9 (And.intro f10 hG))))))
    by_cases hsp : ((posK It.o l t : Nat) : Int) < (l.length : Int)
    · have hd := decide_eq_true hsp
      have hpl : posK It.o l t < l.length := by omega
      have F := And.intro hd F
      refine AW.region (cfg := cfg) ?_
      iterate 8 refine stp (fun _ h => s0 h) ?_
      refine stp (fun _ h => si h) ?_
      refine stp (fun _ h => sl h) ?_
      refine stp (fun _ h => s0 h) ?_
      apply aops_step (by decide) rfl
      · intro K hK
        simp (disch := first | omega | decide) only [go_sem, F, aIndex_map, act_callv, List.map]
        apply mwp_call_sc hpu hxf hsc
        · intro Q hQ
          simp (disch := first | omega | decide) only [go_sem, F, aIndex_map, peekL, reifyL_nil, reifyL_cons, reify_v]
          exact hQ
        · exact hp _
        · simp [noPtrL, noPtr, itA]
        · rfl
        · exact hK _
      iterate 4 refine stp (fun _ h => s0 h) ?_
      refine aops_nil ?_
      refine AW.ret ?_
      refine ⟨.inr rfl, ?_⟩
      refine leaves_mwp2 (rs := [.tmp 6, .tmp 7]) rfl ?_
      simp (config := {failIfUnchanged := false}) [giveL, srcOne, rehome, freezeN, sub, upd, opn, aLoad, loadL, giveOne, reify, reifyL, readL, readOne, Mwp, M.bind, Mem.set, setAt, cellsL, hG, f0, f1, f2, f8, f9, f10, hd]
      all_goals (rw [isK_in2 hs hpl]; done)
    · have hd := decide_eq_false hsp
      have hpl : ¬ posK It.o l t < l.length := by omega
      have F := And.intro hd F
      refine AW.region (cfg := cfg) ?_
      iterate 5 refine stp (fun _ h => s0 h) ?_
      iterate 8 refine skp ?_
      iterate 3 refine stp (fun _ h => s0 h) ?_
      refine aops_nil ?_
      refine AW.ret ?_
      refine ⟨.inr rfl, ?_⟩
      refine leaves_mwp2 (rs := [.tmp 6, .tmp 7]) rfl ?_
      simp (config := {failIfUnchanged := false}) [giveL, srcOne, rehome, freezeN, sub, upd, opn, aLoad, loadL, giveOne, reify, reifyL, readL, readOne, Mwp, M.bind, Mem.set, setAt, cellsL, hG, f0, f1, f2, f8, f9, f10, hd]
      all_goals (rw [isK_out hs hpl]; done)
end Go.Vai.BA
namespace Go.Vai.BA
open Go.Proofs Go.Vai Go.Vai.C Go.Vai.D Go.Vai.DB Go.Vai.G Go.Vai.I Go.Vai.L Go.Vai.N Go.Vai.O
set_option linter.unusedSimpArgs false
set_option linter.unusedVariables false
set_option maxHeartbeats 4000000
set_option maxRecDepth 100000
theorem InsIt_shift (inf : TypeInfo) (hi0 : Try.prog.info? 61 = some inf) (hsz : inf.size = 2) (b n c i vc : Nat) (ad : Addr) (cs : Array Value) (tb : TypeId) (ca0 : Array Value) (ta : TypeId) (fa : Nat × Nat) (vs : List Value) (w : World) (hi : i < n) (hroom : n + 1 ≤ c) (hc63 : c ≤ 9223372036854775807)
    (hb : w.heap[b]? = some (.cells cs tb (0, 0))) (hcs : c * 2 ≤ cs.size) (hne : ad.block ≠ b) (ha : w.heap[ad.block]? = some (.cells ca0 ta fa)) (hka : ca0.size ≠ 0)
    (hvl : vs.length = 2) (hvs : ∀ j v, vs[j]? = some v → w.cell? (ad.add j) = some v) (h1c : ∀ v ∈ cs.toList.take (n * 2), v.oneCell' = true) (h1v : ∀ v ∈ vs, v.oneCell' = true) :
    Calls Try.prog 75 #[.slice (some ⟨b, 0, none⟩) n c, .int .i64 i, .slice (some ad) 1 vc] w fun e w' =>
      e = .returned (.slice (some ⟨b, 0, none⟩) (n + 1) c) ∧ w' = (w.drew.setRow b (spl cs ((i + 1) * 2) ((cs.toList.take (n * 2)).drop (i * 2)))).setRow b (spl (spl cs ((i + 1) * 2) ((cs.toList.take (n * 2)).drop (i * 2))) (i * 2) vs) := by
  have tS := un23
  have uS' := run_underlying (P := Try.prog) un23
  have t3 : Try.prog.underlying 3 = some (.int .i64) := by kernel_rfl
  have u3' := run_underlying (P := Try.prog) t3
  have zE : ∀ w, (Go.sizeOf 61).run Try.prog w = .ok 2 w := fun w => by rw [run_sizeOf hi0, hsz]
  have hz2 : ¬ ((i : Int) = (n : Int)) := by omega
  have hov : ∀ lb cb, (callFunc 79 #[.slice (some ad) 1 vc, .slice (some ⟨b, (i + 1) * 2, none⟩) lb cb]).run Try.prog w = .ok (.value (.bool false)) w := fun lb cb => by
    rw [run_callFunc_extern Try.func79 (by kernel_rfl) (by kernel_rfl) (by kernel_rfl) (e := Extern.SlicesOverlaps.overlaps #[23, 23] #[4]) (by kernel_rfl),
      run_overlaps_own tS hi0 hne ha hb (by omega) hka]
    rfl
  obtain ⟨mv, hmv⟩ : ∃ mv, mv = (cs.toList.take (n * 2)).drop (i * 2) := ⟨_, rfl⟩
  rw [← hmv]
  have hml : mv.length = (n - i) * inf.size := by rw [hmv, hsz]; simp; omega
  have hcp1 : ∀ ty dc sc, (Builtin.copy_ #[23, 23] ty #[.slice (some ⟨b, (i + 1) * 2, none⟩) (n - i) dc, .slice (some ⟨b, i * 2, none⟩) (n + 1 - i) sc]).run Try.prog w.drew = .ok (goInt (n - i : Nat)) (w.drew.setRow b (spl cs ((i + 1) * 2) mv)) := fun ty dc sc =>
    run_copy_k w.drew 23 23 ty 61 inf mv tS hi0 (n - i) (by simp only [Nat.min_def]; split <;> omega) hml
      (fun j v hj => by
        rw [add_off]
        show w.cell? _ = _
        simp only [World.cell?, hb]
        rw [hmv, List.getElem?_drop, List.getElem?_take] at hj
        split at hj
        · simpa using hj
        · cases hj) hb (by rw [hml, hsz]; omega) (fun v hv => h1c v (by rw [hmv] at hv; exact List.mem_of_mem_drop hv))
  obtain ⟨cs1, hcs1⟩ : ∃ cs1, cs1 = spl cs ((i + 1) * 2) mv := ⟨_, rfl⟩
  rw [← hcs1] at hcp1 ⊢
  have hb1 : (w.drew.setRow b cs1).heap[b]? = some (.cells cs1 tb (0, 0)) := setRow_heap w.drew b cs cs1 tb (0, 0) hb
  have hs1 : cs1.size = cs.size := by rw [hcs1]; exact spl_size (by rw [hml, hsz]; omega)
  have hcp2 : ∀ ty dc, (Builtin.copy_ #[23, 23] ty #[.slice (some ⟨b, i * 2, none⟩) (n + 1 - i) dc, .slice (some ad) 1 vc]).run Try.prog (w.drew.setRow b cs1) = .ok (goInt (1 : Nat)) ((w.drew.setRow b cs1).setRow b (spl cs1 (i * 2) vs)) := fun ty dc =>
    run_copy_k _ 23 23 ty 61 inf vs tS hi0 1 (by simp only [Nat.min_def]; split <;> omega) (by rw [hvl, hsz])
      (fun j v hj => by
        have e : (ad.add j).block ≠ b := by rw [add_block]; exact hne
        rw [cell_setRow_other _ _ _ _ e]
        exact hvs j v hj) hb1 (by rw [hvl, hs1]; omega) h1v
  have hw1 : IntKind.i64.wrap ((i : Int) + 1) = (i : Int) + 1 := by rw [IntKind.wrap_i64]; omega
  have hw2 : (0 : Int) ≤ (i : Int) + 1 := by omega
  have hw3 : (i : Int) + 1 ≤ (n : Int) + 1 := by omega
  have hw4 : (i : Int) ≤ (n : Int) + 1 := by omega
  have htn : ((i : Int) + 1).toNat = i + 1 := by omega
  have hin : i ≤ n := by omega
  have hb4 : ¬ (c = i) := by omega
  have hb2 : ¬ (c = i + 1) := by omega
  have hb5 : n + 1 - (i + 1) = n - i := by omega
  have mixed : Try.prog.follows .mixedOrders = true := by kernel_rfl
  clear hcs1 hmv hs1 hml
  go_enter Try.func75, Try.ntmps75
  go_wp2_with (simp only [hov])
  go_region_law_o (refine step_copy_runI rfl _ _ 23 23 rfl _ _ (by simp [Act.eval, Act.put]) (by simp [Act.eval, Act.put]) (hcp1 _ _ _) ?_)
  go_wp2_with (at_builtin; refine wpList_copy_runI _ rfl _ _ 23 23 rfl _ _ rfl rfl (hcp2 _ _) ?_)
  go_ret
  exact ⟨rfl, rfl⟩
theorem InsIt_end0 (inf : TypeInfo) (hi0 : Try.prog.info? 61 = some inf) (hsz : inf.size = 2) (vc : Nat) (ad : Addr) (w w2 : World) (v2 : Value)
    (hrun : ∀ ty, (Builtin.append_ #[23, 23] ty #[.slice none 0 0, .slice (some ad) 1 vc]).run Try.prog w = .ok v2 w2) :
    Calls Try.prog 75 #[.slice none 0 0, .int .i64 (0 : Nat), .slice (some ad) 1 vc] w fun e w' => e = .returned v2 ∧ w' = w2 := by
  have tS := un23
  have uS' := run_underlying (P := Try.prog) un23
  have t3 : Try.prog.underlying 3 = some (.int .i64) := by kernel_rfl
  have u3' := run_underlying (P := Try.prog) t3
  have zE : ∀ w, (Go.sizeOf 61).run Try.prog w = .ok 2 w := fun w => by rw [run_sizeOf hi0, hsz]
  go_enter Try.func75, Try.ntmps75
  go_wp2_with (at_builtin; refine Lib.wpList_append_run _ rfl _ _ _ _ rfl _ _ rfl rfl _ _ (hrun _) ?_)
  go_ret
  exact ⟨rfl, rfl⟩
theorem InsIt_end1 (inf : TypeInfo) (hi0 : Try.prog.info? 61 = some inf) (hsz : inf.size = 2) (b n c vc : Nat) (ad : Addr) (w w2 : World) (v2 : Value) (hnc : n ≤ c) (hc63 : c ≤ 9223372036854775807)
    (hrun : ∀ ty, (Builtin.append_ #[23, 23] ty #[.slice (some ⟨b, 0, none⟩) n c, .slice (some ad) 1 vc]).run Try.prog w = .ok v2 w2) :
    Calls Try.prog 75 #[.slice (some ⟨b, 0, none⟩) n c, .int .i64 n, .slice (some ad) 1 vc] w fun e w' => e = .returned v2 ∧ w' = w2 := by
  have tS := un23
  have uS' := run_underlying (P := Try.prog) un23
  have t3 : Try.prog.underlying 3 = some (.int .i64) := by kernel_rfl
  have u3' := run_underlying (P := Try.prog) t3
  have zE : ∀ w, (Go.sizeOf 61).run Try.prog w = .ok 2 w := fun w => by rw [run_sizeOf hi0, hsz]
  go_enter Try.func75, Try.ntmps75
  go_wp2_with (at_builtin; refine Lib.wpList_append_run _ rfl _ _ _ _ rfl _ _ rfl rfl _ _ (hrun _) ?_)
  all_goals (go_ret; exact ⟨rfl, rfl⟩)
theorem InsIt_grow (inf : TypeInfo) (hi0 : Try.prog.info? 61 = some inf) (hsz : inf.size = 2) (b n c i vc G : Nat) (ad : Addr) (cs ROW : Array Value) (tb : TypeId) (vs : List Value) (w : World) (hi : i < n) (hnc : n ≤ c) (hroom : c < n + 1) (hc63 : c ≤ 9223372036854775807) (hG : n + 1 ≤ G) (hG63 : G ≤ 9223372036854775807)
    (hb : w.heap[b]? = some (.cells cs tb (0, 0))) (hcs : n * 2 ≤ cs.size) (hav : ad.block ≠ w.heap.size)
    (hvl : vs.length = 2) (hvs : ∀ j v, vs[j]? = some v → w.cell? (ad.add j) = some v) (h1c : ∀ v ∈ cs.toList.take (n * 2), v.oneCell' = true) (h1v : ∀ v ∈ vs, v.oneCell' = true)
    (hrun : ∀ ty, (Builtin.append_ #[23, 3] ty #[.slice (some ⟨b, 0, none⟩) i c, .int .i64 ((n : Int) + 1 - (i : Int))]).run Try.prog w = .ok (.slice (some ⟨w.heap.size, 0, none⟩) (n + 1) G) (w.drew.alloc (.cells ROW 61))) (hrow : (n + 1) * 2 ≤ ROW.size) :
    Calls Try.prog 75 #[.slice (some ⟨b, 0, none⟩) n c, .int .i64 i, .slice (some ad) 1 vc] w fun e w' =>
      e = .returned (.slice (some ⟨w.heap.size, 0, none⟩) (n + 1) G) ∧
      w' = (((w.drew.alloc (.cells ROW 61)).setRow w.heap.size (spl ROW (i * 2) vs)).drew).setRow w.heap.size (spl (spl ROW (i * 2) vs) ((i + 1) * 2) ((cs.toList.take (n * 2)).drop (i * 2))) := by
  have tS := un23
  have uS' := run_underlying (P := Try.prog) un23
  have t3 : Try.prog.underlying 3 = some (.int .i64) := by kernel_rfl
  have u3' := run_underlying (P := Try.prog) t3
  have zE : ∀ w, (Go.sizeOf 61).run Try.prog w = .ok 2 w := fun w => by rw [run_sizeOf hi0, hsz]
  have hz2 : ¬ ((i : Int) = (n : Int)) := by omega
  have hz3 : (c : Int) < (n : Int) + 1 := by omega
  obtain ⟨mv, hmv⟩ : ∃ mv, mv = (cs.toList.take (n * 2)).drop (i * 2) := ⟨_, rfl⟩
  rw [← hmv]
  have hml : mv.length = (n - i) * inf.size := by rw [hmv, hsz]; simp; omega
  have hbw : b < w.heap.size := (Array.getElem?_eq_some_iff.1 hb).1
  have hbN : b ≠ w.heap.size := by omega
  obtain ⟨N, hN⟩ : ∃ N, N = w.heap.size := ⟨_, rfl⟩
  obtain ⟨W1, hW1⟩ : ∃ W1, W1 = w.drew.alloc (.cells ROW 61) := ⟨_, rfl⟩
  have hbA : W1.heap[N]? = some (.cells ROW 61 (0, 0)) := by rw [hW1, hN]; exact alloc_new w.drew _
  have hbB : W1.heap[b]? = some (.cells cs tb (0, 0)) := by rw [hW1, alloc_same w.drew _ b hbw (by show b ≠ w.heap.size; omega)]; exact hb
  rw [← hW1, ← hN] at hrun ⊢
  rw [← hN] at hav hbN
  have hcpA : ∀ ty dc, (Builtin.copy_ #[23, 23] ty #[.slice (some ⟨N, i * 2, none⟩) (n + 1 - i) dc, .slice (some ad) 1 vc]).run Try.prog W1 = .ok (goInt (1 : Nat)) (W1.setRow N (spl ROW (i * 2) vs)) := fun ty dc =>
    run_copy_k _ 23 23 ty 61 inf vs tS hi0 1 (by simp only [Nat.min_def]; split <;> omega) (by rw [hvl, hsz])
      (fun j v hj => by
        have h := hvs j v hj
        have hlt : (ad.add j).block < w.drew.heap.size := by
          simp only [World.cell?] at h
          split at h
          · exact (Array.getElem?_eq_some_iff.1 (by assumption)).1
          · cases h
        rw [hW1]
        exact (cell_same (w := w) (w' := w.drew.alloc (.cells ROW 61)) (alloc_same w.drew _ _ hlt (by omega))).trans h) hbA (by omega) h1v
  obtain ⟨R2, hR2⟩ : ∃ R2, R2 = spl ROW (i * 2) vs := ⟨_, rfl⟩
  rw [← hR2] at hcpA ⊢
  have hs2 : R2.size = ROW.size := by rw [hR2]; exact spl_size (by omega)
  have hbC : (W1.setRow N R2).drew.heap[N]? = some (.cells R2 61 (0, 0)) := setRow_heap W1 N ROW R2 61 (0, 0) hbA
  have hbD : (W1.setRow N R2).drew.heap[b]? = some (.cells cs tb (0, 0)) := (setRow_other W1 N b R2 hbN).trans hbB
  have hcpB : ∀ ty dc sc, (Builtin.copy_ #[23, 23] ty #[.slice (some ⟨N, (i + 1) * 2, none⟩) (n - i) dc, .slice (some ⟨b, i * 2, none⟩) (n - i) sc]).run Try.prog (W1.setRow N R2).drew = .ok (goInt (n - i : Nat)) ((W1.setRow N R2).drew.setRow N (spl R2 ((i + 1) * 2) mv)) := fun ty dc sc =>
    run_copy_k _ 23 23 ty 61 inf mv tS hi0 (n - i) (by simp only [Nat.min_def]; split <;> omega) hml
      (fun j v hj => by
        rw [add_off]
        simp only [World.cell?, hbD]
        rw [hmv, List.getElem?_drop, List.getElem?_take] at hj
        split at hj
        · simpa using hj
        · cases hj) hbC (by rw [hml, hsz]; omega) (fun v hv => h1c v (by rw [hmv] at hv; exact List.mem_of_mem_drop hv))
  have hw1 : IntKind.i64.wrap ((i : Int) + 1) = (i : Int) + 1 := by rw [IntKind.wrap_i64]; omega
  have hw5 : IntKind.i64.wrap ((n : Int) + 1) = (n : Int) + 1 := by rw [IntKind.wrap_i64]; omega
  have hw6 : IntKind.i64.wrap ((n : Int) + 1 - (i : Int)) = (n : Int) + 1 - (i : Int) := by rw [IntKind.wrap_i64]; omega
  have hw2 : (0 : Int) ≤ (i : Int) + 1 := by omega
  have hw3 : (i : Int) + 1 ≤ (n : Int) + 1 := by omega
  have hw4 : (i : Int) ≤ (n : Int) + 1 := by omega
  have htn : ((i : Int) + 1).toNat = i + 1 := by omega
  have hin : i ≤ n := by omega
  have hic : (i : Int) ≤ (c : Int) := by omega
  have hb4 : ¬ (c = i) := by omega
  have hGi : ¬ (G = i) := by omega
  have hGim : ¬ (G = i + 1) := by omega
  have hb5 : n + 1 - (i + 1) = n - i := by omega
  have mixed : Try.prog.follows .mixedOrders = true := by kernel_rfl
  clear hR2 hmv hs2 hml hN hW1 hbA hbB hbC hbD hrow hcs
  go_enter Try.func75, Try.ntmps75
  go_wp2_with (first
    | (at_builtin; refine Lib.wpList_append_run _ rfl _ _ _ _ rfl _ _ rfl rfl _ _ (hrun _) ?_)
    | (at_builtin; refine wpList_copy_runI _ rfl _ _ 23 23 rfl _ _ rfl rfl (hcpA _ _) ?_)
    | (at_builtin; refine wpList_copy_runI _ rfl _ _ 23 23 rfl _ _ rfl rfl (hcpB _ _ _) ?_))
  go_region_law_o (refine step_copy_runI rfl _ _ 23 23 rfl _ _ (by simp [Act.eval, Act.put]) (by simp [Act.eval, Act.put]) (hcpB _ _ _) ?_)
  go_wp2
  go_ret
  exact ⟨rfl, rfl⟩
theorem runs_InsIt : InsRuns Try.prog 75 23 3 61 2 := by
  have ti := tiOf_ok ti61
  obtain ⟨inf, z', dd, k1, k2, k3, k0, k4, k10, k5, k6, k7, k8, k9⟩ := ti.info
  have hsz : inf.size = 2 := k5.symm
  exact ⟨fun b n c i vc ad cs tb ca0 ta fa vs w h1 h2 h3 h4 h5 h6 h7 h8 h9 h10 h11 h12 => InsIt_shift inf k1 hsz b n c i vc ad cs tb ca0 ta fa vs w h1 h2 h3 h4 h5 h6 h7 h8 h9 h10 h11 h12,
    fun vc ad w w2 v2 h => InsIt_end0 inf k1 hsz vc ad w w2 v2 h, fun b n c vc ad w w2 v2 h1 h2 h => InsIt_end1 inf k1 hsz b n c vc ad w w2 v2 h1 h2 h,
    fun b n c i vc G ad cs ROW tb vs w h1 h2 h3 h4 h5 h6 h7 h8 h9 h10 h11 h12 h13 h14 h15 => InsIt_grow inf k1 hsz b n c i vc G ad cs ROW tb vs w h1 h2 h3 h4 h5 h6 h7 h8 h9 h10 h11 h12 h13 h14 h15⟩
theorem good_InsIt (nil : Bool) (l : List It) (y : It) (i : Nat) (hi : i ≤ l.length) (hl : l.length ≤ 1000000) :
    Good Try.prog 75 [(.sl 2 nil (l.map itA), true), (i64 i, false), (.sl 2 false [itA y], false)] [] [(.sl 2 false ((l.take i ++ [y] ++ l.drop i).map itA), true)] [] := by
  have h := good_insert (tiOf_ok ti61) un23 (by kernel_rfl) ⟨_, _, Try.func75, rfl, rfl⟩ runs_InsIt nil (l.map itA) (itA y) i (by simpa using hi) (by rw [List.length_map]; simp only [roomB]; omega)
  simpa only [List.map_append, List.map_take, List.map_drop, List.map_cons, List.map_nil] using h
end Go.Vai.BA
set_option linter.unusedSimpArgs false
set_option linter.unusedVariables false
namespace Go.Vai.BA
open Go.Vai.L Go.Vai.D Go.Vai.I Go.Vai.G Go.Vai.C
def putB (a : Sta) (x : Lsa) : Bool × Sta × Nat :=
 if sqL a.db x.o ≥ x.s then (false, a, 0) else (true, { a with db := insP Lsa.o a.db x, n1 := false }, if isK Lsa.o a.db x.o then 0 else 2)
def epB (a : Sta) (e : It) : Bool × Sta × Nat :=
 if qK a.ep e.o ≥ e.s then (false, a, 0) else (true, { a with ep := insP It.o a.ep e, n2 := false }, if isK It.o a.ep e.o then 0 else 2)
def upS (a : Sta) (n : Int) : Sta := if n ≤ a.up then a else { a with up := n }
def boS (a : Sta) (n : Int) : Sta := if n ≤ a.bo then a else { a with bo := n }
theorem isK_gk {l : List Lsa} {t : Int} (h : isK Lsa.o l t = false) : gK Lsa.o l t = none := by
 rw [isK_gK] at h; simpa using h
theorem isK_ge {l : List It} {t : Int} (h : isK It.o l t = false) : gK It.o l t = none := by
 rw [isK_gK] at h; simpa using h
theorem putB_new {a : Sta} {x : Lsa} (h : 1 ≤ x.s) (h3 : isK Lsa.o a.db x.o = false) : putB a x = (true, { a with db := insP Lsa.o a.db x, n1 := false }, 2) := by
 rw [putB, sqL_none (isK_gk h3), if_neg (by omega), h3]; rfl
theorem putB_set {a : Sta} {x : Lsa} (hs : Srt Lsa.o a.db) (h3 : isK Lsa.o a.db x.o = true) (h4 : newer x (a.db[posK Lsa.o a.db x.o]'(pos_lt hs h3)) = true) : putB a x = (true, { a with db := insP Lsa.o a.db x, n1 := false }, 0) := by
 have hp := pos_at hs h3
 simp only [newer, Bool.and_eq_true, decide_eq_true_eq] at h4
 rw [putB, sqL_some hp.2, if_neg (by omega), h3]; rfl
theorem putB_old {a : Sta} {x : Lsa} (hs : Srt Lsa.o a.db) (h3 : isK Lsa.o a.db x.o = true) (h4 : newer x (a.db[posK Lsa.o a.db x.o]'(pos_lt hs h3)) = false) : putB a x = (false, a, 0) := by
 have hp := pos_at hs h3
 have h1 : x.o = (a.db[posK Lsa.o a.db x.o]'(pos_lt hs h3)).o := hp.1.symm
 simp only [newer, Bool.and_eq_false_iff, decide_eq_false_iff_not] at h4
 rcases h4 with h4 | h4
 ·exact absurd h1 h4
 ·rw [putB, sqL_some hp.2, if_pos (by omega)]
theorem epB_new {a : Sta} {x : It} (h : 1 ≤ x.s) (h3 : isK It.o a.ep x.o = false) : epB a x = (true, { a with ep := insP It.o a.ep x, n2 := false }, 2) := by
 rw [epB, qK_none (isK_ge h3), if_neg (by omega), h3]; rfl
theorem epB_set {a : Sta} {x : It} (hs : Srt It.o a.ep) (h3 : isK It.o a.ep x.o = true) (h4 : x.s > (a.ep[posK It.o a.ep x.o]'(pos_lt hs h3)).s) : epB a x = (true, { a with ep := insP It.o a.ep x, n2 := false }, 0) := by
 have hp := pos_at hs h3
 have hq : qK a.ep x.o = (a.ep[posK It.o a.ep x.o]'(pos_lt hs h3)).s := by rw [qK, hp.2]; rfl
 rw [epB, hq, if_neg (by omega), h3]; rfl
theorem epB_old {a : Sta} {x : It} (hs : Srt It.o a.ep) (h3 : isK It.o a.ep x.o = true) (h4 : ¬ x.s > (a.ep[posK It.o a.ep x.o]'(pos_lt hs h3)).s) : epB a x = (false, a, 0) := by
 have hp := pos_at hs h3
 have hq : qK a.ep x.o = (a.ep[posK It.o a.ep x.o]'(pos_lt hs h3)).s := by rw [qK, hp.2]; rfl
 rw [epB, hq, if_pos (by omega)]
def doB (a : Sta) (c : Ch) : Bool × Sta × Nat × Nat :=
 if c.kind = 1 then ((putB a c.l).1, (putB a c.l).2.1, (putB a c.l).2.2, 0)
 else if c.kind = 2 then (!decide (c.n ≤ a.up), upS a c.n, 0, 0)
 else if c.kind = 3 then (!decide (c.n ≤ a.bo), boS a c.n, 0, 0)
 else ((epB a ⟨c.of, c.n⟩).1, (epB a ⟨c.of, c.n⟩).2.1, 0, (epB a ⟨c.of, c.n⟩).2.2)
theorem doB_1 {a : Sta} {c : Ch} (h : c.kind = 1) : doB a c = ((putB a c.l).1, (putB a c.l).2.1, (putB a c.l).2.2, 0) := by rw [doB, if_pos h]
theorem doB_2 {a : Sta} {c : Ch} (h : c.kind = 2) : doB a c = (!decide (c.n ≤ a.up), upS a c.n, 0, 0) := by rw [doB, if_neg (by omega), if_pos h]
theorem doB_3 {a : Sta} {c : Ch} (h : c.kind = 3) : doB a c = (!decide (c.n ≤ a.bo), boS a c.n, 0, 0) := by rw [doB, if_neg (by omega), if_neg (by omega), if_pos h]
theorem doB_4 {a : Sta} {c : Ch} (h1 : ¬ c.kind = 1) (h2 : ¬ c.kind = 2) (h3 : ¬ c.kind = 3) : doB a c = ((epB a ⟨c.of, c.n⟩).1, (epB a ⟨c.of, c.n⟩).2.1, 0, (epB a ⟨c.of, c.n⟩).2.2) := by rw [doB, if_neg h1, if_neg h2, if_neg h3]
theorem doB_some {a : Sta} {c : Ch} (h : (doB a c).1 = true) : doS a c = some (doB a c).2.1 := by
 by_cases h1 : c.kind = 1
 ·rw [doB_1 h1] at h ⊢
  simp only [putB] at h ⊢
  rw [doS, if_pos h1]
  split at h
  ·cases h
  ·rename_i h2; rw [if_neg h2, if_neg h2]
 ·by_cases h2 : c.kind = 2
  ·rw [doB_2 h2] at h ⊢
   have h : ¬ c.n ≤ a.up := by simpa using h
   rw [doS, if_neg h1, if_pos h2, if_neg (by omega), upS, if_neg h]
  ·by_cases h3 : c.kind = 3
   ·rw [doB_3 h3] at h ⊢
    have h : ¬ c.n ≤ a.bo := by simpa using h
    rw [doS, if_neg h1, if_neg h2, if_pos h3, if_neg (by omega), boS, if_neg h]
   ·rw [doB_4 h1 h2 h3] at h ⊢
    simp only [epB] at h ⊢
    rw [doS, if_neg h1, if_neg h2, if_neg h3]
    split at h
    ·cases h
    ·rename_i h2; rw [if_neg h2, if_neg h2]
theorem doB_none {a : Sta} {c : Ch} (h : (doB a c).1 = false) : doS a c = none := by
 by_cases h1 : c.kind = 1
 ·rw [doB_1 h1] at h
  simp only [putB] at h
  rw [doS, if_pos h1]
  split at h
  ·rename_i h2; rw [if_pos h2]
  ·cases h
 ·by_cases h2 : c.kind = 2
  ·rw [doB_2 h2] at h
   have h : c.n ≤ a.up := by simpa using h
   rw [doS, if_neg h1, if_pos h2, if_pos h]
  ·by_cases h3 : c.kind = 3
   ·rw [doB_3 h3] at h
    have h : c.n ≤ a.bo := by simpa using h
    rw [doS, if_neg h1, if_neg h2, if_pos h3, if_pos h]
   ·rw [doB_4 h1 h2 h3] at h
    simp only [epB] at h
    rw [doS, if_neg h1, if_neg h2, if_neg h3]
    split at h
    ·rename_i h2; rw [if_pos h2]
    ·cases h
abbrev fitL (x : Lsa) : Prop := x.ls.length ≤ 1000000 ∧ (x.nil = true → x.ls = [])
theorem doB_fit {a : Sta} {c : Ch} (pa : ∀ x ∈ a.db, fitL x) (pc : fitL c.l) : ∀ x ∈ (doB a c).2.1.db, fitL x := by
 by_cases h1 : c.kind = 1
 ·rw [doB_1 h1, putB]
  split
  ·exact pa
  ·intro x hx
   rcases insP_mem hx with rfl | h
   ·exact pc
   ·exact pa x h
 ·by_cases h2 : c.kind = 2
  ·rw [doB_2 h2, upS]; split <;> exact pa
  ·by_cases h3 : c.kind = 3
   ·rw [doB_3 h3, boS]; split <;> exact pa
   ·rw [doB_4 h1 h2 h3, epB]; split <;> exact pa
theorem doB_n1 {a : Sta} {c : Ch} (h : a.n1 = true → a.db = []) : (doB a c).2.1.n1 = true → (doB a c).2.1.db = [] := by
 by_cases h1 : c.kind = 1
 ·rw [doB_1 h1, putB]
  split
  ·exact h
  ·intro e; cases e
 ·by_cases h2 : c.kind = 2
  ·rw [doB_2 h2, upS]; split <;> exact h
  ·by_cases h3 : c.kind = 3
   ·rw [doB_3 h3, boS]; split <;> exact h
   ·rw [doB_4 h1 h2 h3, epB]; split <;> exact h
theorem doB_n2 {a : Sta} {c : Ch} (h : a.n2 = true → a.ep = []) : (doB a c).2.1.n2 = true → (doB a c).2.1.ep = [] := by
 by_cases h1 : c.kind = 1
 ·rw [doB_1 h1, putB]; split <;> exact h
 ·by_cases h2 : c.kind = 2
  ·rw [doB_2 h2, upS]; split <;> exact h
  ·by_cases h3 : c.kind = 3
   ·rw [doB_3 h3, boS]; split <;> exact h
   ·rw [doB_4 h1 h2 h3, epB]
    split
    ·exact h
    ·intro e; cases e
theorem allCh_no {l : List Ch} (h : (l.any fun c => !chOK c) = true) : allCh l = false := by
 rw [List.any_eq_true] at h
 obtain ⟨c, hc, h⟩ := h
 rw [allCh, List.all_eq_false]
 exact ⟨c, hc, by simpa using h⟩
theorem allCh_yes {l : List Ch} (h : (l.any fun c => !chOK c) = false) : allCh l = true := by
 rw [List.any_eq_false] at h
 rw [allCh, List.all_eq_true]
 intro c hc
 simpa using h c hc
theorem allCh_at {l : List Ch} (h : allCh l = true) {k : Nat} (hk : k < l.length) : chOK l[k] = true := List.all_eq_true.1 h _ (List.getElem_mem hk)
theorem applyR_bad {a : Sta} {l : List Ch} (h : staE a ≠ 0 ∨ (l.any fun c => !chOK c) = true) : applyR a l = (sta0, 1) := by
 rcases h with h | h
 ·exact applyR_s (staE_1 h).1
 ·exact applyR_l (allCh_no h)
theorem sta_lens {a : Sta} (h : staOK a = true) : a.db.length ≤ 64 ∧ a.ep.length ≤ 64 := ⟨db_len (sta_parts h).2.1, ep_len (sta_parts h).2.2⟩
end Go.Vai.BA
namespace Go.Vai.BA
open Go.Proofs Go.Vai Go.Vai.C Go.Vai.D Go.Vai.DB Go.Vai.G Go.Vai.I Go.Vai.L Go.Vai.N Go.Vai.O
set_option linter.unusedSimpArgs false
set_option linter.unusedVariables false
set_option maxHeartbeats 4000000
set_option maxRecDepth 100000
theorem hg_put (m : Mem) (hG0 : m.G = []) (g g0 g3 : Nat) (a : Sta) (hs : HasS 1006 g g0 g3 a m) (ok : staOK a = true) (pa : ∀ x ∈ a.db, fit x) (z1 : a.n1 = true → a.db = []) (z2 : a.n2 = true → a.ep = []) (x : Lsa) (px : fit x) (hxs : 1 ≤ x.s) : HGood Try.prog 55 [.lptr (.tmp 1006 0) g 0, .agg [.v (i64 x.o), .v (i64 x.s), .v (.sl 2 x.nil (x.ls.map linkA))]] m (.v (.b (putB a x).1)) (wr 1006 g (g0 + (putB a x).2.2) g3 (putB a x).2.1 m) := by
  refine hgood_of_body 50 0 Try.func55 rfl rfl rfl (by simp) ?_
  intro s m1 ha hu
  have f0 : s 0 = .lptr (.tmp 2006 0) g 0 := ha 0 _ rfl
  have f1 : s 1 = .agg [.v (i64 x.o), .v (i64 x.s), .v (.sl 2 x.nil (x.ls.map linkA))] := ha 1 _ rfl
  have oB : m1.objs (.tmp 2006 0) = (g, .box [.own (.cell 2006 0) g0 0 a.db.length, .v (i64 a.up), .v (i64 a.bo), .own (.cell 2006 3) g3 0 a.ep.length]) := (hu.up (.tmp 1006 0)).trans (by rw [hs.bx]; rfl)
  have oC : m1.objs (.cell 2006 0) = (g0, .arr a.n1 3 (a.db.map lsaA)) := (hu.up (.cell 1006 0)).trans (by rw [hs.r0]; rfl)
  have oD : m1.objs (.cell 2006 3) = (g3, .arr a.n2 2 (a.ep.map itA)) := (hu.up (.cell 1006 3)).trans (by rw [hs.r3]; rfl)
  have hr : m1.objs (.res 0) = (0, .dead) := hu.own _ rfl
  have hG : m1.G = [] := hu.G.trans hG0
  clear ha
  have hc : True := trivial
  have F := (And.intro f0 (And.intro f1 (And.intro oB (And.intro oC (And.intro oD hG)))))
  have h0 := (sta_parts ok).2.1
  have hsr := db_srt h0
  have hle := db_len h0
  refine AW.seq ?_
  refine AW.region (cfg := cfg) ?_
  refine stp (fun _ h => sb h) ?_
  refine stp (fun _ h => s0 h) ?_
  refine aops_nil ?_
  refine AW.seq ?_
  refine AW.draw (cfg := cfg) (by kernel_rfl) (by kernel_rfl) (by kernel_rfl) ?_
  refine dstp (fun _ h => s0 h) ?_
  refine dstp (fun _ h => sy h) ?_
  refine dstp (fun _ h => sx h) ?_
  refine dstp (fun _ h => sl h) ?_
  refine dstp (fun _ h => sx h) ?_
  refine dstp (fun _ h => sl h) ?_
  refine dstp (fun _ h => ct (w := good_BSearchLsa a.n1 a.db x.o 69 (by omega) (rise_iff.2 hsr) rfl rfl rfl (fun y => good_cmpPutB y x.o)) (x := h)) ?_
  iterate 5 refine dstp (fun _ h => s0 h) ?_
  refine adraw_nil (by kernel_rfl) ?_
  refine AW.seq ?_
  refine AW.block ?_
  refine AW.seq ?_
  refine AW.region (cfg := cfg) ?_
  iterate 3 refine stp (fun _ h => s0 h) ?_
  refine aops_nil ?_
  refine cnd (fun hb => ?ht1) (fun hb => ?hf1)
  case ht1 =>
    have hw17 := hb
    try simp only [bo1, bo2, bo3, bo4, bo5, bo6] at hb
    have hbt17 := hb
    have h3 : isK Lsa.o a.db x.o = false := by simpa using hbt17
    have hq := pos_le Lsa.o a.db x.o
    refine AW.draw (cfg := cfg) (by kernel_rfl) (by kernel_rfl) (by kernel_rfl) ?_
    iterate 2 refine dstp (fun _ h => s0 h) ?_
    refine dstp (fun _ h => sy h) ?_
    refine dstp (fun _ h => sx h) ?_
    refine dstp (fun _ h => sl h) ?_
    refine dstp (fun _ h => s0 h) ?_
    refine dstp (fun _ h => sl h) ?_
    refine dstp (fun _ h => cr (w := good_CopyX x px) (x := h)) ?_
    refine dstp (fun _ h => sq h) ?_
    refine dstp (fun _ h => cx1 (w := good_InsLsa a.n1 a.db x (posK Lsa.o a.db x.o) hq (by omega)) (x := h)) ?_
    refine dstp (fun _ h => sy h) ?_
    refine dstp (fun _ h => sx h) ?_
    refine dstp0 (fun _ h => ss h) ?_
    refine adraw_nil (by kernel_rfl) ?_
    refine AW.seq ?_
    refine AW.region (cfg := cfg) ?_
    refine stp (fun _ h => s0 h) ?_
    refine aops_nil ?_
    refine AW.ret ?_
    refine ⟨.inr rfl, ?_⟩
    (rw [putB_new hxs h3, ← ins_new hsr h3])
    refine hleaves_tmp1 4 rfl ?_ (by simp only [mset_G, hG, hG0, wr_G]) (up_wr hu ⟨?_, ?_, ?_⟩ (fun n h1 h2 h3 => by cases n <;> simp_all [mset_if, Nm.up]))
    all_goals (try simp (disch := first | omega | decide) only [go_sem, F, aIndex_map])
    all_goals first | done | rfl | (simp; done) | trace_state
  case hf1 =>
    have hw17 := hb
    try simp only [bo1, bo2, bo3, bo4, bo5, bo6] at hb
    have hbt17 := hb
    refine AW.seq ?_
    have h3 : isK Lsa.o a.db x.o = true := by simpa using hbt17
    have hp := pos_lt hsr h3
    have e1 : a.n1 = false := by (cases e : a.n1; rfl; rw [z1 e] at hp; cases hp)
    have pk := pa a.db[posK Lsa.o a.db x.o] (List.getElem_mem hp)
    have hz0 : 0 + posK Lsa.o a.db x.o = posK Lsa.o a.db x.o := Nat.zero_add _
    have F := And.intro e1 F
    have F := And.intro hz0 F
    refine AW.draw (cfg := cfg) (by kernel_rfl) (by kernel_rfl) (by kernel_rfl) ?_
    refine dstp (fun _ h => sl h) ?_
    refine dstp (fun _ h => s0 h) ?_
    refine dstp (fun _ h => sy h) ?_
    refine dstp (fun _ h => sx h) ?_
    refine dstp (fun _ h => sl h) ?_
    refine dstp (fun _ h => s0 h) ?_
    refine dstp (fun _ h => si h) ?_
    refine dstp (fun _ h => sel h) ?_
    refine dstp (fun _ h => cs (w := L.good_Newer x (by have := px.1; omega) a.db[posK Lsa.o a.db x.o] (by have := pk.1; omega)) (x := h)) ?_
    refine dstp (fun _ h => s0 h) ?_
    refine adraw_nil (by kernel_rfl) ?_
    refine cnd (fun hb => ?ht2) (fun hb => ?hf2)
    case ht2 =>
      have hw32 := hb
      try simp only [bo1, bo2, bo3, bo4, bo5, bo6] at hb
      have hbt32 := hb
      refine AW.draw (cfg := cfg) (by kernel_rfl) (by kernel_rfl) (by kernel_rfl) ?_
      refine dstp (fun _ h => s0 h) ?_
      refine dstp (fun _ h => sy h) ?_
      refine dstp (fun _ h => sx h) ?_
      refine dstp (fun _ h => sl h) ?_
      refine dstp (fun _ h => s0 h) ?_
      refine dstp (fun _ h => sl h) ?_
      refine dstp (fun _ h => cr (w := good_CopyX x px) (x := h)) ?_
      refine dstp (fun _ h => si h) ?_
      refine dstp0 (fun _ h => se2 (w := lsaA_eq x) (x := h)) ?_
      refine adraw_nil (by kernel_rfl) ?_
      refine AW.seq ?_
      refine AW.region (cfg := cfg) ?_
      refine stp (fun _ h => s0 h) ?_
      refine aops_nil ?_
      refine AW.ret ?_
      refine ⟨.inr rfl, ?_⟩
      (rw [putB_set hsr h3 hbt32, ← ins_old hsr h3])
      refine hleaves_tmp1 4 rfl ?_ (by simp only [mset_G, hG, hG0, wr_G]) (up_wr hu ⟨?_, ?_, ?_⟩ (fun n h1 h2 h3 => by cases n <;> simp_all [mset_if, Nm.up]))
      all_goals (try simp (disch := first | omega | decide) only [go_sem, F, aIndex_map])
      all_goals first | rfl | (simp; done)
    case hf2 =>
      have hw32 := hb
      try simp only [bo1, bo2, bo3, bo4, bo5, bo6] at hb
      have hbt32 := hb
      refine AW.seq ?_
      refine AW.region (cfg := cfg) ?_
      refine stp (fun _ h => s0 h) ?_
      refine aops_nil ?_
      refine AW.ret ?_
      refine ⟨.inr rfl, ?_⟩
      (rw [putB_old hsr h3 hbt32])
      refine hleaves_tmp1 4 rfl ?_ (by simp only [mset_G, hG, hG0, wr_G]) (up_wr hu ⟨?_, ?_, ?_⟩ (fun n h1 h2 h3 => by cases n <;> simp_all [mset_if, Nm.up]))
      all_goals (try simp (disch := first | omega | decide) only [go_sem, F, aIndex_map])
      all_goals rfl
theorem hg_epoch (m : Mem) (hG0 : m.G = []) (g g0 g3 : Nat) (a : Sta) (hs : HasS 1006 g g0 g3 a m) (ok : staOK a = true) (pa : ∀ x ∈ a.db, fit x) (z1 : a.n1 = true → a.db = []) (z2 : a.n2 = true → a.ep = []) (x : It) (hxs : 1 ≤ x.s) : HGood Try.prog 57 [.lptr (.tmp 1006 0) g 0, .agg [.v (i64 x.o), .v (i64 x.s)]] m (.v (.b (epB a x).1)) (wr 1006 g g0 (g3 + (epB a x).2.2) (epB a x).2.1 m) := by
  refine hgood_of_body 50 0 Try.func57 rfl rfl rfl (by simp) ?_
  intro s m1 ha hu
  have f0 : s 0 = .lptr (.tmp 2006 0) g 0 := ha 0 _ rfl
  have f1 : s 1 = .agg [.v (i64 x.o), .v (i64 x.s)] := ha 1 _ rfl
  have oB : m1.objs (.tmp 2006 0) = (g, .box [.own (.cell 2006 0) g0 0 a.db.length, .v (i64 a.up), .v (i64 a.bo), .own (.cell 2006 3) g3 0 a.ep.length]) := (hu.up (.tmp 1006 0)).trans (by rw [hs.bx]; rfl)
  have oC : m1.objs (.cell 2006 0) = (g0, .arr a.n1 3 (a.db.map lsaA)) := (hu.up (.cell 1006 0)).trans (by rw [hs.r0]; rfl)
  have oD : m1.objs (.cell 2006 3) = (g3, .arr a.n2 2 (a.ep.map itA)) := (hu.up (.cell 1006 3)).trans (by rw [hs.r3]; rfl)
  have hr : m1.objs (.res 0) = (0, .dead) := hu.own _ rfl
  have hG : m1.G = [] := hu.G.trans hG0
  clear ha
  have hc : True := trivial
  have F := (And.intro f0 (And.intro f1 (And.intro oB (And.intro oC (And.intro oD hG)))))
  have h0 := (sta_parts ok).2.2
  have hsr := ep_srt h0
  have hle := ep_len h0
  refine AW.seq ?_
  refine AW.region (cfg := cfg) ?_
  refine stp (fun _ h => sb h) ?_
  refine stp (fun _ h => s0 h) ?_
  refine aops_nil ?_
  refine AW.seq ?_
  refine AW.draw (cfg := cfg) (by kernel_rfl) (by kernel_rfl) (by kernel_rfl) ?_
  refine dstp (fun _ h => s0 h) ?_
  refine dstp (fun _ h => sy h) ?_
  refine dstp (fun _ h => sx h) ?_
  refine dstp (fun _ h => sl h) ?_
  refine dstp (fun _ h => sx h) ?_
  refine dstp (fun _ h => sl h) ?_
  refine dstp (fun _ h => ct (w := good_BSearchIt a.n2 a.ep x.o 74 (by omega) (rise_iff.2 hsr) rfl rfl rfl (fun y => good_cmpEpB y x.o)) (x := h)) ?_
  iterate 5 refine dstp (fun _ h => s0 h) ?_
  refine adraw_nil (by kernel_rfl) ?_
  refine AW.seq ?_
  refine AW.block ?_
  refine AW.seq ?_
  refine AW.region (cfg := cfg) ?_
  iterate 3 refine stp (fun _ h => s0 h) ?_
  refine aops_nil ?_
  refine cnd (fun hb => ?ht1) (fun hb => ?hf1)
  case ht1 =>
    have hw17 := hb
    try simp only [bo1, bo2, bo3, bo4, bo5, bo6] at hb
    have hbt17 := hb
    have h3 : isK It.o a.ep x.o = false := by simpa using hbt17
    have hq := pos_le It.o a.ep x.o
    refine AW.draw (cfg := cfg) (by kernel_rfl) (by kernel_rfl) (by kernel_rfl) ?_
    iterate 2 refine dstp (fun _ h => s0 h) ?_
    refine dstp (fun _ h => sy h) ?_
    refine dstp (fun _ h => sx h) ?_
    refine dstp (fun _ h => sl h) ?_
    refine dstp (fun _ h => s0 h) ?_
    refine dstp (fun _ h => sl h) ?_
    refine dstp (fun _ h => sq h) ?_
    refine dstp (fun _ h => cx1 (w := good_InsIt a.n2 a.ep x (posK It.o a.ep x.o) hq (by omega)) (x := h)) ?_
    refine dstp (fun _ h => sy h) ?_
    refine dstp (fun _ h => sx h) ?_
    refine dstp0 (fun _ h => ss h) ?_
    refine adraw_nil (by kernel_rfl) ?_
    refine AW.seq ?_
    refine AW.region (cfg := cfg) ?_
    refine stp (fun _ h => s0 h) ?_
    refine aops_nil ?_
    refine AW.ret ?_
    refine ⟨.inr rfl, ?_⟩
    (rw [epB_new hxs h3, ← ins_new hsr h3])
    refine hleaves_tmp1 4 rfl ?_ (by simp only [mset_G, hG, hG0, wr_G]) (up_wr hu ⟨?_, ?_, ?_⟩ (fun n h1 h2 h3 => by cases n <;> simp_all [mset_if, Nm.up]))
    all_goals (try simp (disch := first | omega | decide) only [go_sem, F, aIndex_map])
    all_goals first | done | rfl | (simp; done) | trace_state
  case hf1 =>
    have hw17 := hb
    try simp only [bo1, bo2, bo3, bo4, bo5, bo6] at hb
    have hbt17 := hb
    refine AW.seq ?_
    have h3 : isK It.o a.ep x.o = true := by simpa using hbt17
    have hp := pos_lt hsr h3
    have e1 : a.n2 = false := by (cases e : a.n2; rfl; rw [z2 e] at hp; cases hp)
    have hz0 : 0 + posK It.o a.ep x.o = posK It.o a.ep x.o := Nat.zero_add _
    have F := And.intro e1 F
    have F := And.intro hz0 F
    refine AW.draw (cfg := cfg) (by kernel_rfl) (by kernel_rfl) (by kernel_rfl) ?_
    refine dstp (fun _ h => sx h) ?_
    refine dstp (fun _ h => sl h) ?_
    refine dstp (fun _ h => s0 h) ?_
    refine dstp (fun _ h => sy h) ?_
    refine dstp (fun _ h => sx h) ?_
    refine dstp (fun _ h => sl h) ?_
    refine dstp (fun _ h => s0 h) ?_
    refine dstp (fun _ h => si h) ?_
    refine dstp (fun _ h => sxe h) ?_
    refine dstp (fun _ h => sle h) ?_
    iterate 2 refine dstp (fun _ h => s0 h) ?_
    refine adraw_nil (by kernel_rfl) ?_
    refine cnd (fun hb => ?ht2) (fun hb => ?hf2)
    case ht2 =>
      have hw31 := hb
      try simp only [bo1, bo2, bo3, bo4, bo5, bo6] at hb
      have hbt31 := hb
      refine AW.draw (cfg := cfg) (by kernel_rfl) (by kernel_rfl) (by kernel_rfl) ?_
      refine dstp (fun _ h => s0 h) ?_
      refine dstp (fun _ h => sy h) ?_
      refine dstp (fun _ h => sx h) ?_
      refine dstp (fun _ h => sl h) ?_
      refine dstp (fun _ h => s0 h) ?_
      refine dstp (fun _ h => sl h) ?_
      refine dstp (fun _ h => si h) ?_
      refine dstp0 (fun _ h => se2 (w := itA_eq x) (x := h)) ?_
      refine adraw_nil (by kernel_rfl) ?_
      refine AW.seq ?_
      refine AW.region (cfg := cfg) ?_
      refine stp (fun _ h => s0 h) ?_
      refine aops_nil ?_
      refine AW.ret ?_
      refine ⟨.inr rfl, ?_⟩
      (rw [epB_set hsr h3 hbt31, ← ins_old hsr h3])
      refine hleaves_tmp1 4 rfl ?_ (by simp only [mset_G, hG, hG0, wr_G]) (up_wr hu ⟨?_, ?_, ?_⟩ (fun n h1 h2 h3 => by cases n <;> simp_all [mset_if, Nm.up]))
      all_goals (try simp (disch := first | omega | decide) only [go_sem, F, aIndex_map])
      all_goals first | rfl | (simp; done)
    case hf2 =>
      have hw31 := hb
      try simp only [bo1, bo2, bo3, bo4, bo5, bo6] at hb
      have hbt31 := hb
      refine AW.seq ?_
      refine AW.region (cfg := cfg) ?_
      refine stp (fun _ h => s0 h) ?_
      refine aops_nil ?_
      refine AW.ret ?_
      refine ⟨.inr rfl, ?_⟩
      (rw [epB_old hsr h3 hbt31])
      refine hleaves_tmp1 4 rfl ?_ (by simp only [mset_G, hG, hG0, wr_G]) (up_wr hu ⟨?_, ?_, ?_⟩ (fun n h1 h2 h3 => by cases n <;> simp_all [mset_if, Nm.up]))
      all_goals (try simp (disch := first | omega | decide) only [go_sem, F, aIndex_map])
      all_goals rfl
theorem hg_raiseUp (m : Mem) (hG0 : m.G = []) (g g0 g3 : Nat) (a : Sta) (hs : HasS 1006 g g0 g3 a m) (n : Int) : HGood Try.prog 56 [.lptr (.tmp 1006 0) g 1, .v (i64 n)] m (.v (.b (!decide (n ≤ a.up)))) (wr 1006 g g0 g3 (upS a n) m) := by
  refine hgood_of_body 13 0 Try.func56 rfl rfl rfl (by simp) ?_
  intro s m1 ha hu
  have f0 : s 0 = .lptr (.tmp 2006 0) g 1 := ha 0 _ rfl
  have f1 : s 1 = .v (i64 n) := ha 1 _ rfl
  have oB : m1.objs (.tmp 2006 0) = (g, .box [.own (.cell 2006 0) g0 0 a.db.length, .v (i64 a.up), .v (i64 a.bo), .own (.cell 2006 3) g3 0 a.ep.length]) := (hu.up (.tmp 1006 0)).trans (by rw [hs.bx]; rfl)
  have oC : m1.objs (.cell 2006 0) = (g0, .arr a.n1 3 (a.db.map lsaA)) := (hu.up (.cell 1006 0)).trans (by rw [hs.r0]; rfl)
  have oD : m1.objs (.cell 2006 3) = (g3, .arr a.n2 2 (a.ep.map itA)) := (hu.up (.cell 1006 3)).trans (by rw [hs.r3]; rfl)
  have hr : m1.objs (.res 0) = (0, .dead) := hu.own _ rfl
  have hG : m1.G = [] := hu.G.trans hG0
  clear ha
  have hc : True := trivial
  have F := (And.intro f0 (And.intro f1 (And.intro oB (And.intro oC (And.intro oD hG)))))
  refine AW.seq ?_
  refine AW.region (cfg := cfg) ?_
  refine stp (fun _ h => s0 h) ?_
  refine aops_nil ?_
  refine AW.seq ?_
  refine AW.seq ?_
  refine AW.region (cfg := cfg) ?_
  iterate 2 refine stp (fun _ h => s0 h) ?_
  refine stp (fun _ h => sy h) ?_
  refine stp (fun _ h => sl h) ?_
  refine stp (fun _ h => s0 h) ?_
  refine aops_nil ?_
  refine cnd (fun hb => ?ht1) (fun hb => ?hf1)
  case ht1 =>
    have hw9 := hb
    try simp only [bo1, bo2, bo3, bo4, bo5, bo6] at hb
    have hbt9 := hb
    refine AW.seq ?_
    refine AW.region (cfg := cfg) ?_
    refine stp (fun _ h => s0 h) ?_
    refine aops_nil ?_
    refine AW.ret ?_
    refine ⟨.inr rfl, ?_⟩
    (rw [upS, if_pos hbt9, decide_eq_true hbt9])
    refine hleaves_tmp1 4 rfl ?_ (by simp only [mset_G, hG, hG0, wr_G]) (up_wr hu ⟨?_, ?_, ?_⟩ (fun n h1 h2 h3 => by cases n <;> simp_all [mset_if, Nm.up]))
    all_goals (try simp (disch := first | omega | decide) only [go_sem, F, aIndex_map])
    all_goals rfl
  case hf1 =>
    have hw9 := hb
    try simp only [bo1, bo2, bo3, bo4, bo5, bo6] at hb
    have hbt9 := hb
    refine AW.skip ?_
    refine AW.seq ?_
    refine AW.region (cfg := cfg) ?_
    iterate 2 refine stp (fun _ h => s0 h) ?_
    refine stp (fun _ h => sy h) ?_
    refine stp0 (fun _ h => ss h) ?_
    refine aops_nil ?_
    refine AW.seq ?_
    refine AW.region (cfg := cfg) ?_
    refine stp (fun _ h => s0 h) ?_
    refine aops_nil ?_
    refine AW.ret ?_
    refine ⟨.inr rfl, ?_⟩
    (rw [upS, if_neg hbt9, decide_eq_false hbt9])
    refine hleaves_tmp1 4 rfl ?_ (by simp only [mset_G, hG, hG0, wr_G]) (up_wr hu ⟨?_, ?_, ?_⟩ (fun n h1 h2 h3 => by cases n <;> simp_all [mset_if, Nm.up]))
    all_goals (try simp (disch := first | omega | decide) only [go_sem, F, aIndex_map])
    all_goals rfl
theorem hg_raiseBo (m : Mem) (hG0 : m.G = []) (g g0 g3 : Nat) (a : Sta) (hs : HasS 1006 g g0 g3 a m) (n : Int) : HGood Try.prog 56 [.lptr (.tmp 1006 0) g 2, .v (i64 n)] m (.v (.b (!decide (n ≤ a.bo)))) (wr 1006 g g0 g3 (boS a n) m) := by
  refine hgood_of_body 13 0 Try.func56 rfl rfl rfl (by simp) ?_
  intro s m1 ha hu
  have f0 : s 0 = .lptr (.tmp 2006 0) g 2 := ha 0 _ rfl
  have f1 : s 1 = .v (i64 n) := ha 1 _ rfl
  have oB : m1.objs (.tmp 2006 0) = (g, .box [.own (.cell 2006 0) g0 0 a.db.length, .v (i64 a.up), .v (i64 a.bo), .own (.cell 2006 3) g3 0 a.ep.length]) := (hu.up (.tmp 1006 0)).trans (by rw [hs.bx]; rfl)
  have oC : m1.objs (.cell 2006 0) = (g0, .arr a.n1 3 (a.db.map lsaA)) := (hu.up (.cell 1006 0)).trans (by rw [hs.r0]; rfl)
  have oD : m1.objs (.cell 2006 3) = (g3, .arr a.n2 2 (a.ep.map itA)) := (hu.up (.cell 1006 3)).trans (by rw [hs.r3]; rfl)
  have hr : m1.objs (.res 0) = (0, .dead) := hu.own _ rfl
  have hG : m1.G = [] := hu.G.trans hG0
  clear ha
  have hc : True := trivial
  have F := (And.intro f0 (And.intro f1 (And.intro oB (And.intro oC (And.intro oD hG)))))
  refine AW.seq ?_
  refine AW.region (cfg := cfg) ?_
  refine stp (fun _ h => s0 h) ?_
  refine aops_nil ?_
  refine AW.seq ?_
  refine AW.seq ?_
  refine AW.region (cfg := cfg) ?_
  iterate 2 refine stp (fun _ h => s0 h) ?_
  refine stp (fun _ h => sy h) ?_
  refine stp (fun _ h => sl h) ?_
  refine stp (fun _ h => s0 h) ?_
  refine aops_nil ?_
  refine cnd (fun hb => ?ht1) (fun hb => ?hf1)
  case ht1 =>
    have hw9 := hb
    try simp only [bo1, bo2, bo3, bo4, bo5, bo6] at hb
    have hbt9 := hb
    refine AW.seq ?_
    refine AW.region (cfg := cfg) ?_
    refine stp (fun _ h => s0 h) ?_
    refine aops_nil ?_
    refine AW.ret ?_
    refine ⟨.inr rfl, ?_⟩
    (rw [boS, if_pos hbt9, decide_eq_true hbt9])
    refine hleaves_tmp1 4 rfl ?_ (by simp only [mset_G, hG, hG0, wr_G]) (up_wr hu ⟨?_, ?_, ?_⟩ (fun n h1 h2 h3 => by cases n <;> simp_all [mset_if, Nm.up]))
    all_goals (try simp (disch := first | omega | decide) only [go_sem, F, aIndex_map])
    all_goals rfl
  case hf1 =>
    have hw9 := hb
    try simp only [bo1, bo2, bo3, bo4, bo5, bo6] at hb
    have hbt9 := hb
    refine AW.skip ?_
    refine AW.seq ?_
    refine AW.region (cfg := cfg) ?_
    iterate 2 refine stp (fun _ h => s0 h) ?_
    refine stp (fun _ h => sy h) ?_
    refine stp0 (fun _ h => ss h) ?_
    refine aops_nil ?_
    refine AW.seq ?_
    refine AW.region (cfg := cfg) ?_
    refine stp (fun _ h => s0 h) ?_
    refine aops_nil ?_
    refine AW.ret ?_
    refine ⟨.inr rfl, ?_⟩
    (rw [boS, if_neg hbt9, decide_eq_false hbt9])
    refine hleaves_tmp1 4 rfl ?_ (by simp only [mset_G, hG, hG0, wr_G]) (up_wr hu ⟨?_, ?_, ?_⟩ (fun n h1 h2 h3 => by cases n <;> simp_all [mset_if, Nm.up]))
    all_goals (try simp (disch := first | omega | decide) only [go_sem, F, aIndex_map])
    all_goals rfl
end Go.Vai.BA
namespace Go.Vai.BA
open Go.Proofs Go.Vai Go.Vai.C Go.Vai.D Go.Vai.DB Go.Vai.G Go.Vai.I Go.Vai.L Go.Vai.N Go.Vai.O
set_option linter.unusedSimpArgs false
set_option linter.unusedVariables false
set_option maxHeartbeats 4000000
set_option maxRecDepth 100000
theorem ch1_s {c : Ch} (h : chOK c = true) (hk : c.kind = 1) : 1 ≤ c.l.s := by
  rcases ch_kind h with h | h | h | h
  · have := lsa_bd h.2.1; omega
  · omega
  · omega
  · omega
theorem ch4_n {c : Ch} (h : chOK c = true) (h1 : ¬ c.kind = 1) (h2 : ¬ c.kind = 2) (h3 : ¬ c.kind = 3) : 1 ≤ c.n := by
  rcases ch_kind h with h | h | h | h
  · omega
  · omega
  · omega
  · omega
theorem hg_do (m : Mem) (hG0 : m.G = []) (g g0 g3 : Nat) (a : Sta) (hs : HasS 6 g g0 g3 a m) (ok : staOK a = true) (pa : ∀ x ∈ a.db, fit x) (z1 : a.n1 = true → a.db = []) (z2 : a.n2 = true → a.ep = []) (c : Ch) (pc : fit c.l) (okc : chOK c = true) : HGood Try.prog 27 [.lptr (.tmp 6 0) g 0, .agg [.v (i64 c.kind), .v (i64 c.l.o), .v (i64 c.l.s), .v (.sl 2 c.l.nil (c.l.ls.map linkA)), .v (i64 c.n), .v (i64 c.of)]] m (.v (.b (doB a c).1)) (wr 6 g (g0 + (doB a c).2.2.1) (g3 + (doB a c).2.2.2) (doB a c).2.1 m) := by
  refine hgood_of_body 36 0 Try.func27 rfl rfl rfl (by simp) ?_
  intro s m1 ha hu
  have f0 : s 0 = .lptr (.tmp 1006 0) g 0 := ha 0 _ rfl
  have f1 : s 1 = .agg [.v (i64 c.kind), .v (i64 c.l.o), .v (i64 c.l.s), .v (.sl 2 c.l.nil (c.l.ls.map linkA)), .v (i64 c.n), .v (i64 c.of)] := ha 1 _ rfl
  have oB : m1.objs (.tmp 1006 0) = (g, .box [.own (.cell 1006 0) g0 0 a.db.length, .v (i64 a.up), .v (i64 a.bo), .own (.cell 1006 3) g3 0 a.ep.length]) := (hu.up (.tmp 6 0)).trans (by rw [hs.bx]; rfl)
  have oC : m1.objs (.cell 1006 0) = (g0, .arr a.n1 3 (a.db.map lsaA)) := (hu.up (.cell 6 0)).trans (by rw [hs.r0]; rfl)
  have oD : m1.objs (.cell 1006 3) = (g3, .arr a.n2 2 (a.ep.map itA)) := (hu.up (.cell 6 3)).trans (by rw [hs.r3]; rfl)
  have hr : m1.objs (.res 0) = (0, .dead) := hu.own _ rfl
  have hG : m1.G = [] := hu.G.trans hG0
  clear ha
  have hc : True := trivial
  have F := (And.intro f0 (And.intro f1 (And.intro oB (And.intro oC (And.intro oD hG)))))
  refine AW.seq ?_
  refine AW.region (cfg := cfg) ?_
  refine stp (fun _ h => sb h) ?_
  refine stp (fun _ h => s0 h) ?_
  refine aops_nil ?_
  refine AW.seq ?_
  refine AW.seq ?_
  refine AW.region (cfg := cfg) ?_
  refine stp (fun _ h => sx h) ?_
  refine stp (fun _ h => sl h) ?_
  refine aops_nil ?_
  refine AW.block ?_
  refine AW.seq ?_
  refine AW.region (cfg := cfg) ?_
  iterate 2 refine stp (fun _ h => s0 h) ?_
  refine aops_nil ?_
  refine cnd (fun hb => ?ht1) (fun hb => ?hf1)
  case ht1 =>
    have hw7 := hb
    try simp only [bo1, bo2, bo3, bo4, bo5, bo6] at hb
    have hbt7 := hb
    refine AW.seq ?_
    refine AW.region (cfg := cfg) ?_
    refine stp (fun _ h => s0 h) ?_
    refine stp (fun _ h => sx h) ?_
    refine stp (fun _ h => sl h) ?_
    refine hst (hg_put _ (by simp only [mset_G, hG]) g g0 g3 a ⟨(by simp (disch := first | omega | decide) only [go_sem, F]), (by simp (disch := first | omega | decide) only [go_sem, F]), (by simp (disch := first | omega | decide) only [go_sem, F])⟩ ok pa z1 z2 c.l pc (ch1_s okc hbt7)) (by (simp (disch := first | omega | decide) only [go_sem, F, aIndex_map, List.map]; done)) ?_
    refine stp (fun _ h => s0 h) ?_
    refine aops_nil ?_
    refine AW.ret ?_
    refine ⟨.inr rfl, ?_⟩
    (rw [doB_1 hbt7])
    refine hleaves_tmp1 4 rfl ?_ (by simp only [mset_G, hG, hG0, wr_G]) (up_wr hu wr_has (fun n h1 h2 h3 => (wr_other (fun e => h1 (Nm.up_inj e)) (fun e => h2 (Nm.up_inj e)) (fun e => h3 (Nm.up_inj e))).trans (by cases n <;> simp [mset_if, Nm.up])))
    all_goals (try simp (disch := first | omega | decide) only [go_sem, F, aIndex_map])
    all_goals first | done | rfl | (simp; done) | trace_state
  case hf1 =>
    have hw7 := hb
    try simp only [bo1, bo2, bo3, bo4, bo5, bo6] at hb
    have hbt7 := hb
    refine AW.seq ?_
    refine AW.region (cfg := cfg) ?_
    iterate 2 refine stp (fun _ h => s0 h) ?_
    refine aops_nil ?_
    refine cnd (fun hb => ?ht2) (fun hb => ?hf2)
    case ht2 =>
      have hw13 := hb
      try simp only [bo1, bo2, bo3, bo4, bo5, bo6] at hb
      have hbt13 := hb
      refine AW.seq ?_
      refine AW.draw (cfg := cfg) (by kernel_rfl) (by kernel_rfl) (by kernel_rfl) ?_
      refine dstp (fun _ h => s0 h) ?_
      refine dstp (fun _ h => sy h) ?_
      iterate 2 refine dstp (fun _ h => sx h) ?_
      refine dstp (fun _ h => sl h) ?_
      refine dhst (hg_raiseUp _ (by simp only [mset_G, hG]) g g0 g3 a ⟨(by simp (disch := first | omega | decide) only [go_sem, F]), (by simp (disch := first | omega | decide) only [go_sem, F]), (by simp (disch := first | omega | decide) only [go_sem, F])⟩ c.n) (by (simp (disch := first | omega | decide) only [go_sem, F, aIndex_map, List.map]; done)) ?_
      refine dstp (fun _ h => s0 h) ?_
      refine adraw_nil (by kernel_rfl) ?_
      refine AW.ret ?_
      refine ⟨.inr rfl, ?_⟩
      (rw [doB_2 hbt13])
      refine hleaves_tmp1 4 rfl ?_ (by simp only [mset_G, hG, hG0, wr_G]) (up_wr hu wr_has (fun n h1 h2 h3 => (wr_other (fun e => h1 (Nm.up_inj e)) (fun e => h2 (Nm.up_inj e)) (fun e => h3 (Nm.up_inj e))).trans (by cases n <;> simp [mset_if, Nm.up])))
      all_goals (try simp (disch := first | omega | decide) only [go_sem, F, aIndex_map])
      all_goals first | done | rfl | (simp; done) | trace_state
    case hf2 =>
      have hw13 := hb
      try simp only [bo1, bo2, bo3, bo4, bo5, bo6] at hb
      have hbt13 := hb
      refine AW.seq ?_
      refine AW.region (cfg := cfg) ?_
      iterate 2 refine stp (fun _ h => s0 h) ?_
      refine aops_nil ?_
      refine cnd (fun hb => ?ht3) (fun hb => ?hf3)
      case ht3 =>
        have hw21 := hb
        try simp only [bo1, bo2, bo3, bo4, bo5, bo6] at hb
        have hbt21 := hb
        refine AW.seq ?_
        refine AW.draw (cfg := cfg) (by kernel_rfl) (by kernel_rfl) (by kernel_rfl) ?_
        refine dstp (fun _ h => s0 h) ?_
        refine dstp (fun _ h => sy h) ?_
        iterate 2 refine dstp (fun _ h => sx h) ?_
        refine dstp (fun _ h => sl h) ?_
        refine dhst (hg_raiseBo _ (by simp only [mset_G, hG]) g g0 g3 a ⟨(by simp (disch := first | omega | decide) only [go_sem, F]), (by simp (disch := first | omega | decide) only [go_sem, F]), (by simp (disch := first | omega | decide) only [go_sem, F])⟩ c.n) (by (simp (disch := first | omega | decide) only [go_sem, F, aIndex_map, List.map]; done)) ?_
        refine dstp (fun _ h => s0 h) ?_
        refine adraw_nil (by kernel_rfl) ?_
        refine AW.ret ?_
        refine ⟨.inr rfl, ?_⟩
        (rw [doB_3 hbt21])
        refine hleaves_tmp1 4 rfl ?_ (by simp only [mset_G, hG, hG0, wr_G]) (up_wr hu wr_has (fun n h1 h2 h3 => (wr_other (fun e => h1 (Nm.up_inj e)) (fun e => h2 (Nm.up_inj e)) (fun e => h3 (Nm.up_inj e))).trans (by cases n <;> simp [mset_if, Nm.up])))
        all_goals (try simp (disch := first | omega | decide) only [go_sem, F, aIndex_map])
        all_goals first | done | rfl | (simp; done) | trace_state
      case hf3 =>
        have hw21 := hb
        try simp only [bo1, bo2, bo3, bo4, bo5, bo6] at hb
        have hbt21 := hb
        refine AW.skip ?_
        refine AW.seq ?_
        refine AW.region (cfg := cfg) ?_
        refine stp (fun _ h => s0 h) ?_
        refine stp (fun _ h => sx h) ?_
        refine stp (fun _ h => sl h) ?_
        refine stp (fun _ h => sx h) ?_
        refine stp (fun _ h => sl h) ?_
        refine stp (fun _ h => su h) ?_
        refine hst (hg_epoch _ (by simp only [mset_G, hG]) g g0 g3 a ⟨(by simp (disch := first | omega | decide) only [go_sem, F]), (by simp (disch := first | omega | decide) only [go_sem, F]), (by simp (disch := first | omega | decide) only [go_sem, F])⟩ ok pa z1 z2 ⟨c.of, c.n⟩ (ch4_n okc hbt7 hbt13 hbt21)) (by (simp (disch := first | omega | decide) only [go_sem, F, aIndex_map, List.map]; done)) ?_
        refine stp (fun _ h => s0 h) ?_
        refine aops_nil ?_
        refine AW.ret ?_
        refine ⟨.inr rfl, ?_⟩
        (rw [doB_4 hbt7 hbt13 hbt21])
        refine hleaves_tmp1 4 rfl ?_ (by simp only [mset_G, hG, hG0, wr_G]) (up_wr hu wr_has (fun n h1 h2 h3 => (wr_other (fun e => h1 (Nm.up_inj e)) (fun e => h2 (Nm.up_inj e)) (fun e => h3 (Nm.up_inj e))).trans (by cases n <;> simp [mset_if, Nm.up])))
        all_goals (try simp (disch := first | omega | decide) only [go_sem, F, aIndex_map])
        all_goals first | done | rfl | (simp; done) | trace_state
end Go.Vai.BA
