import Derived.Test.YtencjgkeflibdaaGreatwTy
import Derived.Test.YtencjgkeflibdaaGreatVaiD
namespace Go.Vai
open Go.Proofs Go.Vai
set_option linter.unusedSimpArgs false
set_option linter.unusedVariables false
def impF : List FuncId := [7, 9, 10, 11, 13, 14, 15, 16, 17, 18, 22, 23, 26, 32, 33, 34, 36, 37, 44, 47, 52, 53, 55, 57, 59, 73, 74, 100, 103, 104, 105, 106, 108, 132, 150, 151, 152, 154, 163, 164, 165, 166, 167, 170]
def nsF : List FuncId := [7, 9, 12, 21, 26, 27, 28, 29, 30, 31, 35, 37, 39, 40, 42, 43, 45, 46, 50, 54, 57, 58, 59, 60, 61, 63, 64, 67, 68, 69, 70, 71, 72, 73, 74, 75, 76, 78, 81, 84, 85, 86, 88, 91, 92, 93, 94, 95, 96, 97, 98, 100, 101, 103, 105, 110, 112, 117, 118, 120, 125, 128, 129, 132, 134]
def xfF : List FuncId := []
def cfg : Cfg := { pure := fun f => !(impF.contains f), xfer := fun f => xfF.contains f, scalar := fun f => !(nsF.contains f) && !(impF.contains f) }
def cfgG : Cfg := { cfg with glob := fun _ => true }
def cfgP : Cfg := { cfg with pure := fun _ => true }
def cfg1 : Cfg := { cfg with move := fun t => t == 1 }
def cfg2 : Cfg := { cfg with move := fun t => t == 2 }
def cfg3 : Cfg := { cfg with move := fun t => t == 3 }
def cfg4 : Cfg := { cfg with move := fun t => t == 4 }
def cfg5 : Cfg := { cfg with move := fun t => t == 5 }
def cfg6 : Cfg := { cfg with move := fun t => t == 6 }
def cfgN : Cfg := cfg6
theorem gl0 {d : Tmp} : cfg.glob d = false := rfl
theorem glG {d : Tmp} : cfgG.glob d = true := rfl
theorem glP {d : Tmp} : cfgP.glob d = false := rfl
theorem gl1 {d : Tmp} : cfg1.glob d = false := rfl
theorem gl2 {d : Tmp} : cfg2.glob d = false := rfl
theorem gl3 {d : Tmp} : cfg3.glob d = false := rfl
theorem gl4 {d : Tmp} : cfg4.glob d = false := rfl
theorem gl5 {d : Tmp} : cfg5.glob d = false := rfl
theorem gl6 {d : Tmp} : cfg6.glob d = false := rfl
attribute [go_sem] gl0 glG glP gl1 gl2 gl3 gl4 gl5 gl6
end Go.Vai
namespace Go.Vai.V
open Go.Proofs Go.Vai
set_option linter.unusedSimpArgs false
set_option linter.unusedVariables false
set_option maxHeartbeats 4000000
set_option maxRecDepth 100000
def pS (n : Int) : Int := if n < 6 ∨ n > 1024 then 0 else min (n / 4) 16
def pF (n : Int) : Int := if n < 6 ∨ n > 1024 then 0 else 2 * min (n / 4) 16
def pL (n : Int) : Int := if n < 6 ∨ n > 1024 then 0 else n - 2 * min (n / 4) 16
def eOf (n : Int) : Int := if n < 6 ∨ n > 1024 then 1 else 0
structure Plo where
  s : Int
  f : Int
  l : Int
def ploA (p : Plo) : AV := .agg [i64 p.s, i64 p.f, i64 p.l]
theorem cellsOf_plo (p : Plo) : cellsOf (ploA p) = [i64 p.s, i64 p.f, i64 p.l] := rfl
@[simp] theorem noPtr_plo (p : Plo) : noPtr (ploA p) = true := rfl
def ploN (n : Int) : Plo := ⟨pS n, pF n, pL n⟩
theorem pl_no {n : Int} (h : n < 6 ∨ n > 1024) : pS n = 0 ∧ pF n = 0 ∧ pL n = 0 ∧ eOf n = 1 := by simp [eOf, pS, pF, pL, h]
theorem pl_is {n : Int} (h : ¬ n < 6 ∧ ¬ n > 1024) : pS n = min (n / 4) 16 ∧ pF n = 2 * min (n / 4) 16 ∧ pL n = n - 2 * min (n / 4) 16 ∧ eOf n = 0 := by
  have : ¬ (n < 6 ∨ n > 1024) := by omega
  simp [eOf, pS, pF, pL, this]
theorem plo_no {n : Int} (h : n < 6 ∨ n > 1024) : .agg [i64 0, i64 0, i64 0] = ploA (ploN n) ∧ 1 = eOf n := by
  obtain ⟨e1, e2, e3, e4⟩ := pl_no h
  rw [ploA, ploN, e1, e2, e3, e4]; exact ⟨rfl, rfl⟩
theorem plo_is {n : Int} (h : ¬ n < 6 ∧ ¬ n > 1024) : .agg [i64 (if 16 < n / 4 then 16 else n / 4), i64 (2 * if 16 < n / 4 then 16 else n / 4), i64 (n - 2 * if 16 < n / 4 then 16 else n / 4)] = ploA (ploN n) ∧ 0 = eOf n := by
  obtain ⟨e1, e2, e3, e4⟩ := pl_is h
  have : min (n / 4) 16 = if 16 < n / 4 then 16 else n / 4 := by split <;> omega
  rw [ploA, ploN, e1, e2, e3, e4, this]; exact ⟨rfl, rfl⟩
theorem pl_bd {n : Int} (h : 6 ≤ n ∧ n ≤ 1024) : 1 ≤ (ploN n).s ∧ (ploN n).s ≤ 16 ∧ (ploN n).f = 2 * (ploN n).s ∧ (ploN n).l = n - 2 * (ploN n).s ∧ 1 ≤ (ploN n).l ∧ 2 * (ploN n).s + 2 ≤ n := by
  obtain ⟨e1, e2, e3, e4⟩ := pl_is (n := n) (by omega)
  show 1 ≤ pS n ∧ pS n ≤ 16 ∧ pF n = 2 * pS n ∧ pL n = n - 2 * pS n ∧ 1 ≤ pL n ∧ 2 * pS n + 2 ≤ n
  rw [e1, e2, e3]; omega
def mayP (p : Plo) : Bool := if ((p.l < 0 ∨ p.l > 1024) ∨ p.f < 0) ∨ p.f > 1024 then false else decide (eOf (p.f + p.l) = 0) && (pS (p.f + p.l) == p.s && (pF (p.f + p.l) == p.f && pL (p.f + p.l) == p.l))
theorem may_yes {n : Int} (h : 6 ≤ n ∧ n ≤ 1024) : mayP (ploN n) = true := by
  have b := pl_bd h
  have e : (ploN n).f + (ploN n).l = n := by omega
  rw [mayP, if_neg (by omega), e]
  have : eOf n = 0 := (pl_is (n := n) (by omega)).2.2.2
  simp [this, ploN]
attribute [go_sem] cellsOf_plo
theorem good_MakeP (n : Int) (hn : -9223372036854775808 ≤ n ∧ n ≤ 9223372036854775807) : Good Tryz.prog 35 [(i64 n, false)] [] [(ploA (ploN n), false), (i64 (eOf n), false)] [] := by
  refine good_of_body2 23 Tryz.func35 rfl rfl rfl (by simp) ?_
  intro s m ha hr hv hG
  have f0 : s 0 = .v (i64 n) := ha 0 _ rfl
  clear ha
  have hc : True := trivial
  have F := (And.intro f0 hG)
  refine AW.seq ?_
  refine AW.region (cfg := cfg) ?_
  refine stp (fun _ h => sd h) ?_
  refine stp (fun _ h => s0 h) ?_
  refine aops_nil ?_
  refine AW.seq ?_
  refine AW.seq ?_
  refine AW.region (cfg := cfg) ?_
  iterate 3 refine stp (fun _ h => s0 h) ?_
  iterate 2 refine mrg wa (fun hc _ h => s0 h) ?_
  refine stp (fun _ h => s0 h) ?_
  refine aops_nil ?_
  refine cnd (fun hb => ?ht1) (fun hb => ?hf1)
  case ht1 =>
    have hw10 := hb
    try simp only [bo1, bo2, bo3, bo4, bo5, bo6] at hb
    have hbt10 := hb
    refine AW.seq ?_
    refine AW.region (cfg := cfg) ?_
    refine stp (fun _ h => su h) ?_
    refine stp0 (fun _ h => ss h) ?_
    refine stp (fun _ h => s0 h) ?_
    refine aops_nil ?_
    refine AW.ret ?_
    refine ⟨.inr rfl, ?_⟩
    refine leaves_mwp2 (rs := [.cell 2 40, .tmp 3]) rfl ?_
    simp (config := {failIfUnchanged := false}) [giveL, srcOne, rehome, freezeN, sub, ti40, upd, opn, aLoad, loadL, giveOne, reify, reifyL, readL, readOne, Mwp, M.bind, Mem.set, setAt, cellsL, hG, f0]
    all_goals exact plo_no hbt10
  case hf1 =>
    have hw10 := hb
    try simp only [bo1, bo2, bo3, bo4, bo5, bo6] at hb
    have hbt10 := hb
    refine AW.skip ?_
    refine AW.seq ?_
    refine AW.region (cfg := cfg) ?_
    refine stp (fun _ h => s0 h) ?_
    iterate 2 refine stp (fun _ h => sd h) ?_
    refine stp (fun _ h => s0 h) ?_
    refine aops_nil ?_
    refine AW.seq ?_
    refine AW.region (cfg := cfg) ?_
    iterate 2 refine stp (fun _ h => s0 h) ?_
    refine stp (fun _ h => sd h) ?_
    iterate 2 refine stp (fun _ h => s0 h) ?_
    iterate 2 refine stp (fun _ h => sd h) ?_
    refine stp (fun _ h => su h) ?_
    refine stp0 (fun _ h => ss h) ?_
    refine stp (fun _ h => s0 h) ?_
    refine aops_nil ?_
    refine AW.ret ?_
    refine ⟨.inr rfl, ?_⟩
    refine leaves_mwp2 (rs := [.cell 2 40, .tmp 3]) rfl ?_
    simp (config := {failIfUnchanged := false}) [giveL, srcOne, rehome, freezeN, sub, ti40, upd, opn, aLoad, loadL, giveOne, reify, reifyL, readL, readOne, Mwp, M.bind, Mem.set, setAt, cellsL, hG, f0]
    all_goals exact plo_is hbt10
theorem good_mayPl (p : Plo) : Good Tryz.prog 87 [(ploA p, false)] [] [(.b (mayP p), false)] [] := by
  refine good_of_body2 39 Tryz.func87 rfl rfl rfl (by simp) ?_
  intro s m ha hr hv hG
  have f0 : s 0 = .v (.agg [i64 p.s, i64 p.f, i64 p.l]) := ha 0 _ rfl
  clear ha
  have hc : True := trivial
  have F := (And.intro f0 hG)
  refine AW.seq ?_
  refine AW.region (cfg := cfg) ?_
  refine stp (fun _ h => sb h) ?_
  refine stp (fun _ h => s0 h) ?_
  refine aops_nil ?_
  refine AW.seq ?_
  refine AW.seq ?_
  refine AW.region (cfg := cfg) ?_
  refine stp (fun _ h => sx h) ?_
  refine stp (fun _ h => sl h) ?_
  iterate 2 refine stp (fun _ h => s0 h) ?_
  refine mrg wa (fun hc _ h => sx h) ?_
  refine mrg wa (fun hc _ h => sl h) ?_
  refine mrg wa (fun hc _ h => s0 h) ?_
  iterate 2 refine stp (fun _ h => s0 h) ?_
  refine mrg wa (fun hc _ h => sx h) ?_
  refine mrg wa (fun hc _ h => sl h) ?_
  refine mrg wa (fun hc _ h => s0 h) ?_
  iterate 2 refine stp (fun _ h => s0 h) ?_
  refine mrg wa (fun hc _ h => sx h) ?_
  refine mrg wa (fun hc _ h => sl h) ?_
  refine mrg wa (fun hc _ h => s0 h) ?_
  refine stp (fun _ h => s0 h) ?_
  refine aops_nil ?_
  refine cnd (fun hb => ?ht1) (fun hb => ?hf1)
  case ht1 =>
    have hw22 := hb
    try simp only [bo1, bo2, bo3, bo4, bo5, bo6] at hb
    have hbt22 := hb
    refine AW.seq ?_
    refine AW.region (cfg := cfg) ?_
    refine stp (fun _ h => s0 h) ?_
    refine aops_nil ?_
    refine AW.ret ?_
    refine ⟨.inr rfl, ?_⟩
    refine leaves_tmp1 2 rfl ?_ (by exact hG)
    simp (disch := first | omega | decide) only [go_sem, F, aIndex_map]
    all_goals (rw [mayP, if_pos hbt22]; done)
  case hf1 =>
    have hw22 := hb
    try simp only [bo1, bo2, bo3, bo4, bo5, bo6] at hb
    have hbt22 := hb
    refine AW.skip ?_
    refine AW.seq ?_
    refine AW.region (cfg := cfg) ?_
    refine stp (fun _ h => sx h) ?_
    refine stp (fun _ h => sl h) ?_
    refine stp (fun _ h => sx h) ?_
    refine stp (fun _ h => sl h) ?_
    refine stp (fun _ h => sd h) ?_
    refine stp (fun _ h => cr (w := good_MakeP (p.f + p.l) (by omega)) (x := h)) ?_
    iterate 3 refine stp (fun _ h => s0 h) ?_
    refine stp (fun _ h => sd h) ?_
    refine stp0 (fun _ h => ss h) ?_
    refine stp (fun _ h => s0 h) ?_
    refine aops_nil ?_
    refine AW.seq ?_
    refine AW.region (cfg := cfg) ?_
    iterate 3 refine stp (fun _ h => s0 h) ?_
    iterate 2 refine mrg wa (fun hc _ h => sl h) ?_
    refine mrg wa (fun hc _ h => s0 h) ?_
    iterate 2 refine stp (fun _ h => s0 h) ?_
    refine aops_nil ?_
    refine AW.ret ?_
    refine ⟨.inr rfl, ?_⟩
    refine leaves_tmp1 2 rfl ?_ (by exact hG)
    simp (disch := first | omega | decide) only [go_sem, F, aIndex_map]
    all_goals (rw [mayP, if_neg (by omega)]; rfl)
attribute [go_sem] Int.zero_mul Int.one_mul Int.zero_add
theorem good_SlotP0 (n : Int) (hn : 6 ≤ n ∧ n ≤ 1024) (gen : Int) (hg : 0 ≤ gen) (hq : gen % 2 = 0) : Good Tryz.prog 51 [(ploA (ploN n), false), (i64 gen, false)] [] [(i64 (0), false), (i64 ((ploN n).s), false)] [] := by
  refine good_of_body2 23 Tryz.func51 rfl rfl rfl (by simp) ?_
  intro s m ha hr hv hG
  have f0 : s 0 = .v (.agg [i64 (ploN n).s, i64 (ploN n).f, i64 (ploN n).l]) := ha 0 _ rfl
  have f1 : s 1 = .v (i64 gen) := ha 1 _ rfl
  clear ha
  have hc : True := trivial
  have F := (And.intro f0 (And.intro f1 hG))
  have pb := pl_bd hn
  refine AW.seq ?_
  refine AW.region (cfg := cfg) ?_
  refine stp (fun _ h => sb h) ?_
  iterate 2 refine stp (fun _ h => s0 h) ?_
  refine aops_nil ?_
  refine AW.seq ?_
  refine AW.seq ?_
  have e0 := may_yes hn
  have q9 := hq
  have F := And.intro e0 F
  have F := And.intro q9 F
  refine AW.region (cfg := cfg) ?_
  refine stp (fun _ h => sl h) ?_
  refine stp (fun _ h => cs (w := good_mayPl (ploN n)) (x := h)) ?_
  iterate 2 refine stp (fun _ h => s0 h) ?_
  iterate 2 refine mrg wa (fun hc _ h => s0 h) ?_
  refine stp (fun _ h => s0 h) ?_
  refine aops_nil ?_
  refine cnd (fun hb => ?ht1) (fun hb => ?hf1)
  case ht1 => simp [e0] at hb; omega
  case hf1 =>
  have hbt12 := hb
  refine AW.skip ?_
  refine AW.seq ?_
  refine AW.region (cfg := cfg) ?_
  refine stp (fun _ h => s0 h) ?_
  refine stp (fun _ h => sd h) ?_
  refine stp (fun _ h => sx h) ?_
  refine stp (fun _ h => sl h) ?_
  refine stp (fun _ h => sd h) ?_
  refine stp (fun _ h => s0 h) ?_
  refine aops_nil ?_
  refine AW.seq ?_
  refine AW.draw (cfg := cfg) (by kernel_rfl) (by kernel_rfl) (by kernel_rfl) ?_
  iterate 2 refine dstp (fun _ h => s0 h) ?_
  refine dstp (fun _ h => sx h) ?_
  refine dstp (fun _ h => sl h) ?_
  refine dstp (fun _ h => sd h) ?_
  iterate 2 refine dstp (fun _ h => s0 h) ?_
  refine adraw_nil (by kernel_rfl) ?_
  refine AW.ret ?_
  refine ⟨.inr rfl, ?_⟩
  refine leaves_mwp2 (rs := [.tmp 4, .tmp 5]) rfl ?_
  simp (config := {failIfUnchanged := false}) [giveL, srcOne, rehome, freezeN, sub, upd, opn, aLoad, loadL, giveOne, reify, reifyL, readL, readOne, Mwp, M.bind, Mem.set, setAt, cellsL, hG, f0, f1, e0, q9]
  all_goals first | done | trace_state
theorem good_SlotP1 (n : Int) (hn : 6 ≤ n ∧ n ≤ 1024) (gen : Int) (hg : 0 ≤ gen) (hq : gen % 2 = 1) : Good Tryz.prog 51 [(ploA (ploN n), false), (i64 gen, false)] [] [(i64 ((ploN n).s), false), (i64 ((ploN n).s + (ploN n).s), false)] [] := by
  refine good_of_body2 23 Tryz.func51 rfl rfl rfl (by simp) ?_
  intro s m ha hr hv hG
  have f0 : s 0 = .v (.agg [i64 (ploN n).s, i64 (ploN n).f, i64 (ploN n).l]) := ha 0 _ rfl
  have f1 : s 1 = .v (i64 gen) := ha 1 _ rfl
  clear ha
  have hc : True := trivial
  have F := (And.intro f0 (And.intro f1 hG))
  have pb := pl_bd hn
  refine AW.seq ?_
  refine AW.region (cfg := cfg) ?_
  refine stp (fun _ h => sb h) ?_
  iterate 2 refine stp (fun _ h => s0 h) ?_
  refine aops_nil ?_
  refine AW.seq ?_
  refine AW.seq ?_
  have e0 := may_yes hn
  have q9 := hq
  have F := And.intro e0 F
  have F := And.intro q9 F
  refine AW.region (cfg := cfg) ?_
  refine stp (fun _ h => sl h) ?_
  refine stp (fun _ h => cs (w := good_mayPl (ploN n)) (x := h)) ?_
  iterate 2 refine stp (fun _ h => s0 h) ?_
  iterate 2 refine mrg wa (fun hc _ h => s0 h) ?_
  refine stp (fun _ h => s0 h) ?_
  refine aops_nil ?_
  refine cnd (fun hb => ?ht1) (fun hb => ?hf1)
  case ht1 => simp [e0] at hb; omega
  case hf1 =>
  have hbt12 := hb
  refine AW.skip ?_
  refine AW.seq ?_
  refine AW.region (cfg := cfg) ?_
  refine stp (fun _ h => s0 h) ?_
  refine stp (fun _ h => sd h) ?_
  refine stp (fun _ h => sx h) ?_
  refine stp (fun _ h => sl h) ?_
  refine stp (fun _ h => sd h) ?_
  refine stp (fun _ h => s0 h) ?_
  refine aops_nil ?_
  refine AW.seq ?_
  refine AW.draw (cfg := cfg) (by kernel_rfl) (by kernel_rfl) (by kernel_rfl) ?_
  iterate 2 refine dstp (fun _ h => s0 h) ?_
  refine dstp (fun _ h => sx h) ?_
  refine dstp (fun _ h => sl h) ?_
  refine dstp (fun _ h => sd h) ?_
  iterate 2 refine dstp (fun _ h => s0 h) ?_
  refine adraw_nil (by kernel_rfl) ?_
  refine AW.ret ?_
  refine ⟨.inr rfl, ?_⟩
  refine leaves_mwp2 (rs := [.tmp 4, .tmp 5]) rfl ?_
  simp (config := {failIfUnchanged := false}) [giveL, srcOne, rehome, freezeN, sub, upd, opn, aLoad, loadL, giveOne, reify, reifyL, readL, readOne, Mwp, M.bind, Mem.set, setAt, cellsL, hG, f0, f1, e0, q9]
  all_goals first | done | trace_state
theorem good_SlotP (n : Int) (hn : 6 ≤ n ∧ n ≤ 1024) (gen : Int) (hg : 0 ≤ gen) : Good Tryz.prog 51 [(ploA (ploN n), false), (i64 gen, false)] [] [(i64 (gen % 2 * (ploN n).s), false), (i64 (gen % 2 * (ploN n).s + (ploN n).s), false)] [] := by
  have h : gen % 2 = 0 ∨ gen % 2 = 1 := by omega
  rcases h with h | h
  · have := good_SlotP0 n hn gen hg h
    rw [h, Int.zero_mul, Int.zero_add]; exact this
  · have := good_SlotP1 n hn gen hg h
    rw [h, Int.one_mul]; exact this
theorem good_AtP (n : Int) (hn : 6 ≤ n ∧ n ≤ 1024) (i : Int) (hi : 0 ≤ i ∧ i < (ploN n).l) : Good Tryz.prog 48 [(ploA (ploN n), false), (i64 i, false)] [] [(i64 ((ploN n).f + i), false)] [] := by
  refine good_of_body2 22 Tryz.func48 rfl rfl rfl (by simp) ?_
  intro s m ha hr hv hG
  have f0 : s 0 = .v (.agg [i64 (ploN n).s, i64 (ploN n).f, i64 (ploN n).l]) := ha 0 _ rfl
  have f1 : s 1 = .v (i64 i) := ha 1 _ rfl
  clear ha
  have hc : True := trivial
  have F := (And.intro f0 (And.intro f1 hG))
  have pb := pl_bd hn
  refine AW.seq ?_
  refine AW.region (cfg := cfg) ?_
  refine stp (fun _ h => sb h) ?_
  refine stp (fun _ h => s0 h) ?_
  refine aops_nil ?_
  refine AW.seq ?_
  refine AW.seq ?_
  have e0 := may_yes hn
  have F := And.intro e0 F
  refine AW.region (cfg := cfg) ?_
  refine stp (fun _ h => sl h) ?_
  refine stp (fun _ h => cs (w := good_mayPl (ploN n)) (x := h)) ?_
  iterate 2 refine stp (fun _ h => s0 h) ?_
  iterate 2 refine mrg wa (fun hc _ h => s0 h) ?_
  iterate 2 refine stp (fun _ h => s0 h) ?_
  refine mrg wa (fun hc _ h => s0 h) ?_
  refine mrg wa (fun hc _ h => sx h) ?_
  refine mrg wa (fun hc _ h => sl h) ?_
  refine mrg wa (fun hc _ h => s0 h) ?_
  refine stp (fun _ h => s0 h) ?_
  refine aops_nil ?_
  refine cnd (fun hb => ?ht1) (fun hb => ?hf1)
  case ht1 => simp [e0] at hb; omega
  case hf1 =>
  have hbt17 := hb
  refine AW.skip ?_
  refine AW.seq ?_
  refine AW.region (cfg := cfg) ?_
  refine stp (fun _ h => sx h) ?_
  refine stp (fun _ h => sl h) ?_
  refine stp (fun _ h => s0 h) ?_
  refine stp (fun _ h => sd h) ?_
  refine stp (fun _ h => s0 h) ?_
  refine aops_nil ?_
  refine AW.ret ?_
  refine ⟨.inr rfl, ?_⟩
  refine leaves_tmp1 4 rfl ?_ (by exact hG)
  simp (disch := first | omega | decide) only [go_sem, F, aIndex_map]
  all_goals first | done | trace_state
end Go.Vai.V
set_option linter.unusedSimpArgs false
set_option linter.unusedVariables false
namespace Go.Vai.U
def half (r : BitVec 32) : BitVec 32 := (r >>> 1) ^^^ (3988292384#32 * (r &&& 1#32))
def turns : Nat → BitVec 32 → BitVec 32
 | 0, r => r
 | k + 1, r => half (turns k r)
def moreS (r : BitVec 32) (l : List (BitVec 8)) : BitVec 32 := l.foldl (fun r c => turns 8 (r ^^^ c.setWidth 32)) r
def rstep (c : BitVec 8) (k : Nat) (r : BitVec 32) : BitVec 32 := if (c.setWidth 32 >>> k) % 2#32 ≠ r % 2#32 then (r / 2#32) ^^^ 3988292384#32 else r / 2#32
def rbyte (c : BitVec 8) : Nat → BitVec 32 → BitVec 32
 | 0, r => r
 | k + 1, r => rstep c k (rbyte c k r)
def refS (l : List (BitVec 8)) : BitVec 32 := 4294967295#32 - l.foldl (fun r c => rbyte c 8 r) 4294967295#32
def ofS (ps : List (Bool × List (BitVec 8))) : BitVec 32 := ~~~ ((ps.map (·.2)).foldl moreS 4294967295#32)
theorem low2 (x : BitVec 32) : x % 2#32 = x &&& 1#32 := by
 apply BitVec.eq_of_toNat_eq; simp [Nat.and_one_is_mod]
theorem div2 (x : BitVec 32) : x / 2#32 = x >>> 1 := by
 apply BitVec.eq_of_toNat_eq; simp [Nat.shiftRight_eq_div_pow]
theorem lowc (x : BitVec 32) : x &&& 1#32 = 0#32 ∨ x &&& 1#32 = 1#32 := by
 have h : (x &&& 1#32).toNat = x.toNat % 2 := by simp [Nat.and_one_is_mod]
 rcases Nat.mod_two_eq_zero_or_one x.toNat with h1 | h1
 ·left; apply BitVec.eq_of_toNat_eq; rw [h, h1]; rfl
 ·right; apply BitVec.eq_of_toNat_eq; rw [h, h1]; rfl
theorem half_xor (y d : BitVec 32) : half (y ^^^ d) = (if d % 2#32 ≠ y % 2#32 then (y / 2#32) ^^^ 3988292384#32 else y / 2#32) ^^^ (d >>> 1) := by
 have hx : (y ^^^ d) &&& 1#32 = (y &&& 1#32) ^^^ (d &&& 1#32) := by
  apply BitVec.eq_of_getLsbD_eq; intro i hi; simp only [BitVec.getLsbD_and, BitVec.getLsbD_xor]; cases y.getLsbD i <;> cases d.getLsbD i <;> simp
 simp only [half, low2, div2, hx, BitVec.ushiftRight_xor_distrib]
 rcases lowc y with h | h <;> rcases lowc d with h' | h' <;> rw [h, h'] <;> simp
 ·rw [BitVec.xor_assoc, BitVec.xor_comm (d >>> 1), ← BitVec.xor_assoc]
 ·rw [BitVec.xor_assoc, BitVec.xor_comm (d >>> 1), ← BitVec.xor_assoc]
theorem turns_xor (c : BitVec 8) (r : BitVec 32) : ∀ k, turns k (r ^^^ c.setWidth 32) = rbyte c k r ^^^ (c.setWidth 32 >>> k)
 | 0 => by simp [turns, rbyte]
 | k + 1 => by
  simp only [turns, rbyte, rstep]
  rw [turns_xor c r k, half_xor, BitVec.shiftRight_add]
theorem sh8 (c : BitVec 8) : c.setWidth 32 >>> 8 = 0#32 := by
 apply BitVec.eq_of_toNat_eq
 have h := c.isLt
 rw [BitVec.toNat_ushiftRight, BitVec.toNat_setWidth, Nat.shiftRight_eq_div_pow, Nat.mod_eq_of_lt (by omega)]
 exact Nat.div_eq_of_lt h
theorem byte_gen (c : BitVec 8) (r : BitVec 32) (k : Nat) (h : c.setWidth 32 >>> k = 0#32) : turns k (r ^^^ c.setWidth 32) = rbyte c k r := by
 rw [turns_xor, h, BitVec.xor_zero]
theorem byte_same (c : BitVec 8) (r : BitVec 32) : turns 8 (r ^^^ c.setWidth 32) = rbyte c 8 r := byte_gen c r 8 (sh8 c)
theorem ones_sub (x : BitVec 32) : 4294967295#32 - x = ~~~ x := by
 have : 4294967295#32 = BitVec.allOnes 32 := by decide
 rw [this]
 exact BitVec.allOnes_sub_eq_not x
theorem more_same (l : List (BitVec 8)) (r : BitVec 32) : moreS r l = l.foldl (fun r c => rbyte c 8 r) r := by
 unfold moreS
 congr 1
 funext r c
 exact byte_same c r
theorem ref_of (n : Bool) (l : List (BitVec 8)) : refS l = ofS [(n, l)] := by
 simp only [refS, ofS, ones_sub, List.map, List.foldl, more_same]
theorem half_lin (x y : BitVec 32) : half (x ^^^ y) = half x ^^^ half y := by
 have hx : (x ^^^ y) &&& 1#32 = (x &&& 1#32) ^^^ (y &&& 1#32) := by
  apply BitVec.eq_of_getLsbD_eq; intro i hi; simp only [BitVec.getLsbD_and, BitVec.getLsbD_xor]; cases x.getLsbD i <;> cases y.getLsbD i <;> simp
 have hm : 3988292384#32 * ((x &&& 1#32) ^^^ (y &&& 1#32)) = (3988292384#32 * (x &&& 1#32)) ^^^ (3988292384#32 * (y &&& 1#32)) := by
  rcases lowc x with h | h <;> rcases lowc y with h' | h' <;> rw [h, h'] <;> decide
 simp only [half, hx, hm, BitVec.ushiftRight_xor_distrib]
 ac_rfl
theorem turns_lin (x y : BitVec 32) : ∀ k, turns k (x ^^^ y) = turns k x ^^^ turns k y
 | 0 => rfl
 | k + 1 => by simp only [turns, turns_lin x y k, half_lin]
def x3 (a b c : List (BitVec 8)) (i : Nat) : BitVec 8 := a.getD i 0#8 ^^^ b.getD i 0#8 ^^^ c.getD i 0#8
def xor3 (a b c : List (BitVec 8)) (k : Nat) : List (BitVec 8) := (List.range k).map (x3 a b c)
theorem xor3_succ (a b c : List (BitVec 8)) (k : Nat) : xor3 a b c (k + 1) = xor3 a b c k ++ [x3 a b c k] := by simp [xor3, List.range_succ]
theorem setw_xor (x y : BitVec 8) : (x ^^^ y).setWidth 32 = x.setWidth 32 ^^^ y.setWidth 32 := by
 apply BitVec.eq_of_getLsbD_eq; intro i hi; simp [BitVec.getLsbD_setWidth, BitVec.getLsbD_xor]
theorem moreS_snoc (r : BitVec 32) (l : List (BitVec 8)) (x : BitVec 8) : moreS r (l ++ [x]) = turns 8 (moreS r l ^^^ x.setWidth 32) := by simp [moreS, List.foldl_append]
theorem more3 (r : BitVec 32) (a b c : List (BitVec 8)) : ∀ k, k ≤ a.length → k ≤ b.length → k ≤ c.length → moreS r (xor3 a b c k) = moreS r (a.take k) ^^^ moreS r (b.take k) ^^^ moreS r (c.take k)
 | 0, _, _, _ => by simp [xor3, moreS]
 | k + 1, ha, hb, hc => by
  rw [xor3_succ, moreS_snoc, more3 r a b c k (by omega) (by omega) (by omega)]
  rw [List.take_succ_eq_append_getElem (by omega), List.take_succ_eq_append_getElem (by omega), List.take_succ_eq_append_getElem (by omega), moreS_snoc, moreS_snoc, moreS_snoc]
  simp only [x3, setw_xor, List.getD_eq_getElem?_getD, List.getElem?_eq_getElem (show k < a.length by omega), List.getElem?_eq_getElem (show k < b.length by omega), List.getElem?_eq_getElem (show k < c.length by omega), Option.getD_some, ← turns_lin]
  congr 1
  ac_rfl
theorem not3 (x y z : BitVec 32) : ~~~ (x ^^^ y ^^^ z) = ~~~ x ^^^ ~~~ y ^^^ ~~~ z := by
 apply BitVec.eq_of_getLsbD_eq; intro i hi; simp only [BitVec.getLsbD_not, BitVec.getLsbD_xor, hi]; cases x.getLsbD i <;> cases y.getLsbD i <;> cases z.getLsbD i <;> simp
theorem three (n p q s : Bool) (a b c : List (BitVec 8)) (hb : b.length = a.length) (hc : c.length = a.length) : ofS [(n, a)] ^^^ ofS [(p, b)] ^^^ ofS [(q, c)] = ofS [(s, xor3 a b c a.length)] := by
 simp only [ofS, List.map, List.foldl]
 rw [more3 _ a b c a.length (Nat.le_refl _) (by omega) (by omega), not3, List.take_length, ← hb, List.take_length, hb, ← hc, List.take_length]
end Go.Vai.U
namespace Go.Vai.U
open Go.Proofs Go.Vai
set_option linter.unusedSimpArgs false
set_option linter.unusedVariables false
set_option maxHeartbeats 4000000
set_option maxRecDepth 100000
theorem moreS_succ {r : BitVec 32} {l : List (BitVec 8)} {k : Nat} (h : k < l.length) : moreS r (l.take (k + 1)) = turns 8 (moreS r (l.take k) ^^^ (l[k]).setWidth 32) := by
  unfold moreS
  rw [List.take_succ_eq_append_getElem h, List.foldl_append]; rfl
def pslice (p : Bool × List (BitVec 8)) : AV := .sl 1 p.1 (bsl p.2)
def ofP (k : Nat) (ps : List (Bool × List (BitVec 8))) : BitVec 32 := ((ps.take k).map (·.2)).foldl moreS 4294967295#32
theorem ofP_succ {ps : List (Bool × List (BitVec 8))} {k : Nat} (h : k < ps.length) : ofP (k + 1) ps = moreS (ofP k ps) (ps[k]).2 := by
  unfold ofP
  rw [List.take_succ_eq_append_getElem h, List.map_append, List.foldl_append]; rfl
theorem ofP_all (ps : List (Bool × List (BitVec 8))) : ~~~ ofP ps.length ps = ofS ps := by simp [ofP, ofS]
theorem cellsOf_ps (p : Bool × List (BitVec 8)) : cellsOf (pslice p) = [.sl 1 p.1 (bsl p.2)] := rfl
theorem noPtr_ps (p : Bool × List (BitVec 8)) : noPtr (pslice p) = true := noPtrL_bsl p.2
theorem noPtrL_ps (ps : List (Bool × List (BitVec 8))) : noPtrL (ps.map pslice) = true := noPtrL_map noPtr_ps ps
attribute [go_sem] cellsOf_ps
def refP (k : Nat) (l : List (BitVec 8)) : BitVec 32 := (l.take k).foldl (fun r c => rbyte c 8 r) 4294967295#32
theorem good_more (r : BitVec 32) (nil : Bool) (l : List (BitVec 8)) (hl : l.length ≤ 9223372036854775807) : Good Tryz.prog 135 [(u32 r, false), (.sl 1 nil (bsl l), false)] [] [(u32 (moreS r l), false)] [] := by
  refine good_of_body2 31 Tryz.func135 rfl rfl rfl (by simp) ?_
  intro s m ha hr hv hG
  have f0 : s 0 = .v (u32 r) := ha 0 _ rfl
  have f1 : s 1 = .v (.sl 1 nil (bsl l)) := ha 1 _ rfl
  clear ha
  have hc : True := trivial
  have F := (And.intro f0 (And.intro f1 hG))
  refine AW.seq ?_
  refine AW.region (cfg := cfg) ?_
  refine stp (fun _ h => s0 h) ?_
  refine aops_nil ?_
  refine AW.seq ?_
  refine AW.seq ?_
  refine AW.region (cfg := cfg) ?_
  refine stp (fun _ h => s0 h) ?_
  refine stp (fun _ h => sd h) ?_
  refine stp (fun _ h => s0 h) ?_
  refine aops_nil ?_
  refine AW.block ?_
  refine AW.forN (fun k σ => ∃ s m, σ = ⟨31, s, m⟩ ∧ s 0 = .v (u32 (moreS r (l.take k))) ∧ s 8 = .v (.sl 1 nil (bsl l)) ∧ s 9 = .v (i64 l.length) ∧ s 10 = .v (i64 k) ∧ m.G = []) (l.length) ?_ ?_ ?_
  · refine ⟨_, _, rfl, ?_, ?_, ?_, ?_, (by exact hG)⟩ <;> try simp (disch := first | omega | decide) only [go_sem, F, aIndex_map]
    · simp [moreS]
    all_goals rfl
  · clear F f0 f1 hG
    rintro k σ hk ⟨s, m, rfl, f0, f8, f9, f10, hG⟩
    have F := (And.intro f0 (And.intro f8 (And.intro f9 (And.intro f10 hG))))
    refine AW.seq ?_
    refine AW.region (cfg := cfg) ?_
    refine stp (fun _ h => s0 h) ?_
    refine aops_nil ?_
    refine AW.seq ?_
    refine cnd (fun hb => ?ht1) (fun hb => ?hf1)
    case hf1 => (simp at hb; omega)
    case ht1 =>
    have hbt11 := hb
    refine AW.skip ?_
    refine AW.seq ?_
    refine AW.block ?_
    refine AW.seq ?_
    refine AW.region (cfg := cfg) ?_
    refine stp (fun _ h => si h) ?_
    refine stp (fun _ h => sl h) ?_
    refine stp (fun _ h => s0 h) ?_
    refine aops_nil ?_
    refine AW.seq ?_
    refine AW.region (cfg := cfg) ?_
    iterate 2 refine stp (fun _ h => s0 h) ?_
    iterate 2 refine stp (fun _ h => sd h) ?_
    refine stp (fun _ h => s0 h) ?_
    refine aops_nil ?_
    refine AW.seq ?_
    refine AW.region (cfg := cfg) ?_
    refine stp (fun _ h => s0 h) ?_
    refine aops_nil ?_
    refine AW.block ?_
    refine AW.forN (fun j σ => ∃ s m, σ = ⟨31, s, m⟩ ∧ s 0 = .v (u32 (turns j (moreS r (l.take k) ^^^ (l[k]).setWidth 32))) ∧ s 8 = .v (.sl 1 nil (bsl l)) ∧ s 9 = .v (i64 l.length) ∧ s 10 = .v (i64 k) ∧ s 18 = .v (i64 j) ∧ m.G = []) (8) ?_ ?_ ?_
    · refine ⟨_, _, rfl, ?_, ?_, ?_, ?_, ?_, (by exact hG)⟩ <;> try simp (disch := first | omega | decide) only [go_sem, F, aIndex_map]
      all_goals rfl
    · clear F f0 f8 f9 f10 hG
      rintro j σ hj ⟨s, m, rfl, f0, f8, f9, f10, f18, hG⟩
      have F := (And.intro f0 (And.intro f8 (And.intro f9 (And.intro f10 (And.intro f18 hG)))))
      refine AW.seq ?_
      refine AW.region (cfg := cfg) ?_
      refine stp (fun _ h => s0 h) ?_
      refine aops_nil ?_
      refine AW.seq ?_
      refine cnd (fun hb => ?ht2) (fun hb => ?hf2)
      case hf2 => (simp at hb; omega)
      case ht2 =>
      have hbt19 := hb
      refine AW.skip ?_
      refine AW.seq ?_
      refine AW.block ?_
      refine AW.seq ?_
      refine AW.region (cfg := cfg) ?_
      refine stp (fun _ h => s0 h) ?_
      refine stp (fun _ h => sd h) ?_
      refine stp (fun _ h => s0 h) ?_
      refine aops_nil ?_
      refine AW.seq ?_
      refine AW.region (cfg := cfg) ?_
      refine stp (fun _ h => s0 h) ?_
      refine stp (fun _ h => sd h) ?_
      refine stp (fun _ h => s0 h) ?_
      refine aops_nil ?_
      refine AW.region (cfg := cfg) ?_
      iterate 2 refine stp (fun _ h => s0 h) ?_
      iterate 2 refine stp (fun _ h => sd h) ?_
      refine stp (fun _ h => s0 h) ?_
      refine aops_nil ?_
      refine AW.region (cfg := cfg) ?_
      refine stp (fun _ h => sd h) ?_
      refine stp (fun _ h => s0 h) ?_
      refine aops_nil ?_
      refine ⟨_, _, rfl, ?_, ?_, ?_, ?_, ?_, (by exact hG)⟩ <;> try simp (disch := first | omega | decide) only [go_sem, F, aIndex_map]
      all_goals rfl
    · clear F f0 f8 f9 f10 hG
      rintro σ ⟨s, m, rfl, f0, f8, f9, f10, f18, hG⟩
      have F := (And.intro f0 (And.intro f8 (And.intro f9 (And.intro f10 (And.intro f18 hG)))))
      refine AW.seq ?_
      refine AW.region (cfg := cfg) ?_
      refine stp (fun _ h => s0 h) ?_
      refine aops_nil ?_
      refine AW.seq ?_
      refine cnd (fun hb => ?ht3) (fun hb => ?hf3)
      case ht3 => (simp at hb; done)
      case hf3 =>
      have hbt19 := hb
      refine AW.exit ?_
      refine AW.region (cfg := cfg) ?_
      refine stp (fun _ h => sd h) ?_
      refine stp (fun _ h => s0 h) ?_
      refine aops_nil ?_
      refine ⟨_, _, rfl, ?_, ?_, ?_, ?_, (by exact hG)⟩ <;> try simp (disch := first | omega | decide) only [go_sem, F, aIndex_map]
      · rw [moreS_succ hk]
      all_goals rfl
  · clear F f0 f1 hG
    rintro σ ⟨s, m, rfl, f0, f8, f9, f10, hG⟩
    have F := (And.intro f0 (And.intro f8 (And.intro f9 (And.intro f10 hG))))
    refine AW.seq ?_
    refine AW.region (cfg := cfg) ?_
    refine stp (fun _ h => s0 h) ?_
    refine aops_nil ?_
    refine AW.seq ?_
    refine cnd (fun hb => ?ht4) (fun hb => ?hf4)
    case ht4 => (simp at hb; done)
    case hf4 =>
    have hbt11 := hb
    refine AW.exit ?_
    refine AW.seq ?_
    refine AW.region (cfg := cfg) ?_
    iterate 2 refine stp (fun _ h => s0 h) ?_
    refine aops_nil ?_
    refine AW.ret ?_
    refine ⟨.inr rfl, ?_⟩
    refine leaves_tmp1 4 rfl ?_ hG
    simp (disch := first | omega | decide) only [go_sem, F, aIndex_map]
    simp
theorem good_Of (nil : Bool) (ps : List (Bool × List (BitVec 8))) (hl : ps.length ≤ 9223372036854775807) (hp : ∀ p ∈ ps, p.2.length ≤ 9223372036854775807) : Good Tryz.prog 119 [(.sl 1 nil (ps.map pslice), false)] [] [(u32 (ofS ps), false)] [] := by
  refine good_of_body2 18 Tryz.func119 rfl rfl rfl (by simp) ?_
  intro s m ha hr hv hG
  have f0 : s 0 = .v (.sl 1 nil (ps.map pslice)) := ha 0 _ rfl
  clear ha
  have hc : True := trivial
  have F := (And.intro f0 hG)
  refine AW.seq ?_
  refine AW.region (cfg := cfg) ?_
  refine stp (fun _ h => s0 h) ?_
  refine aops_nil ?_
  refine AW.seq ?_
  refine AW.region (cfg := cfg) ?_
  refine stp (fun _ h => s0 h) ?_
  refine aops_nil ?_
  refine AW.seq ?_
  refine AW.seq ?_
  refine AW.region (cfg := cfg) ?_
  refine stp (fun _ h => s0 h) ?_
  refine stp (fun _ h => sd h) ?_
  refine stp (fun _ h => s0 h) ?_
  refine aops_nil ?_
  refine AW.block ?_
  refine AW.forN (fun k σ => ∃ s m, σ = ⟨18, s, m⟩ ∧ s 3 = .v (u32 (ofP k ps)) ∧ s 6 = .v (.sl 1 nil (ps.map pslice)) ∧ s 7 = .v (i64 ps.length) ∧ s 8 = .v (i64 k) ∧ m.G = []) (ps.length) ?_ ?_ ?_
  · refine ⟨_, _, rfl, ?_, ?_, ?_, ?_, (by exact hG)⟩ <;> try simp (disch := first | omega | decide) only [go_sem, F, aIndex_map]
    all_goals rfl
  · clear F f0 hG
    rintro k σ hk ⟨s, m, rfl, f3, f6, f7, f8, hG⟩
    have F := (And.intro f3 (And.intro f6 (And.intro f7 (And.intro f8 hG))))
    refine AW.seq ?_
    refine AW.region (cfg := cfg) ?_
    refine stp (fun _ h => s0 h) ?_
    refine aops_nil ?_
    refine AW.seq ?_
    refine cnd (fun hb => ?ht1) (fun hb => ?hf1)
    case hf1 => (simp at hb; omega)
    case ht1 =>
    have hbt9 := hb
    refine AW.skip ?_
    refine AW.seq ?_
    refine AW.block ?_
    refine AW.seq ?_
    refine AW.region (cfg := cfg) ?_
    refine stp (fun _ h => si h) ?_
    refine stp (fun _ h => sl h) ?_
    refine stp (fun _ h => s0 h) ?_
    refine aops_nil ?_
    refine AW.region (cfg := cfg) ?_
    iterate 2 refine stp (fun _ h => s0 h) ?_
    refine stp (fun _ h => cs (w := good_more _ _ _ (hp _ (List.getElem_mem _))) (x := h)) ?_
    refine stp (fun _ h => s0 h) ?_
    refine aops_nil ?_
    refine AW.region (cfg := cfg) ?_
    refine stp (fun _ h => sd h) ?_
    refine stp (fun _ h => s0 h) ?_
    refine aops_nil ?_
    refine ⟨_, _, rfl, ?_, ?_, ?_, ?_, (by exact hG)⟩ <;> try simp (disch := first | omega | decide) only [go_sem, F, aIndex_map]
    · rw [ofP_succ hk]
    all_goals rfl
  · clear F f0 hG
    rintro σ ⟨s, m, rfl, f3, f6, f7, f8, hG⟩
    have F := (And.intro f3 (And.intro f6 (And.intro f7 (And.intro f8 hG))))
    refine AW.seq ?_
    refine AW.region (cfg := cfg) ?_
    refine stp (fun _ h => s0 h) ?_
    refine aops_nil ?_
    refine AW.seq ?_
    refine cnd (fun hb => ?ht2) (fun hb => ?hf2)
    case ht2 => (simp at hb; done)
    case hf2 =>
    have hbt9 := hb
    refine AW.exit ?_
    refine AW.seq ?_
    refine AW.region (cfg := cfg) ?_
    iterate 3 refine stp (fun _ h => s0 h) ?_
    refine aops_nil ?_
    refine AW.ret ?_
    refine ⟨.inr rfl, ?_⟩
    refine leaves_tmp1 2 rfl ?_ hG
    simp (disch := first | omega | decide) only [go_sem, F, aIndex_map]
    rw [ofP_all]
end Go.Vai.U
namespace Go.Vai.WK
open Go.Proofs Go.Vai Go.Vai.U Go.Vai.V
set_option linter.unusedSimpArgs false
set_option linter.unusedVariables false
set_option maxHeartbeats 4000000
set_option maxRecDepth 100000
open Go.Vai.U Go.Vai.V
theorem par_bd {n gen : Int} (hn : 6 ≤ n ∧ n ≤ 1024) : 0 ≤ gen % 2 * (ploN n).s ∧ gen % 2 * (ploN n).s + (ploN n).s ≤ n := by
  have pb := pl_bd hn
  have h : gen % 2 = 0 ∨ gen % 2 = 1 := by omega
  rcases h with h | h <;> rw [h] <;> omega
def partR (n : Int) (l : List (Bool × List (BitVec 8))) (gen : Int) : List (Bool × List (BitVec 8)) := (l.drop (gen % 2 * (ploN n).s).toNat).take (ploN n).s.toNat
theorem par_eq {n gen : Int} (hn : 6 ≤ n ∧ n ≤ 1024) (l : List (Bool × List (BitVec 8))) : List.drop (gen % 2 * (ploN n).s).toNat (List.take (gen % 2 * (ploN n).s + (ploN n).s).toNat (List.map pslice l)) = (partR n l gen).map pslice := by
  have pb := pl_bd hn
  have pd := par_bd (gen := gen) hn
  rw [List.drop_take, partR, List.map_take, List.map_drop, show (gen % 2 * (ploN n).s + (ploN n).s).toNat - (gen % 2 * (ploN n).s).toNat = (ploN n).s.toNat by omega]
attribute [simp] noPtr_ps noPtrL_ps
theorem good_partW (n : Int) (hn : 6 ≤ n ∧ n ≤ 1024) (nil : Bool) (l : List (Bool × List (BitVec 8))) (hl : (l.length : Int) = n) (gen : Int) (hg : 0 ≤ gen) : Good Tryz.prog 40 [(ploA (ploN n), false), (.sl 1 nil (l.map pslice), false), (i64 gen, false)] [] [(.sl 1 nil ((partR n l gen).map pslice), false)] [] := by
  refine good_of_body2 19 Tryz.func40 rfl rfl rfl (by simp) ?_
  intro s m ha hr hv hG
  have f0 : s 0 = .v (.agg [i64 (ploN n).s, i64 (ploN n).f, i64 (ploN n).l]) := ha 0 _ rfl
  have f1 : s 1 = .v (.sl 1 nil (l.map pslice)) := ha 1 _ rfl
  have f2 : s 2 = .v (i64 gen) := ha 2 _ rfl
  clear ha
  have hc : True := trivial
  have F := (And.intro f0 (And.intro f1 (And.intro f2 hG)))
  have pb := pl_bd hn
  have pd := par_bd (gen := gen) hn
  refine AW.seq ?_
  refine AW.region (cfg := cfg) ?_
  refine stp (fun _ h => sb h) ?_
  refine stp (fun _ h => s0 h) ?_
  refine aops_nil ?_
  refine AW.seq ?_
  refine AW.region (cfg := cfg) ?_
  refine stp (fun _ h => sl h) ?_
  refine stp (fun _ h => s0 h) ?_
  refine stp (fun _ h => ct (w := good_SlotP n hn gen hg) (x := h)) ?_
  iterate 5 refine stp (fun _ h => s0 h) ?_
  refine aops_nil ?_
  refine AW.seq ?_
  refine AW.region (cfg := cfg) ?_
  iterate 3 refine stp (fun _ h => s0 h) ?_
  refine stp (fun _ h => sd h) ?_
  refine stp (fun _ h => s0 h) ?_
  refine aops_nil ?_
  refine AW.ret ?_
  refine ⟨.inr rfl, ?_⟩
  refine leaves_mwp2 (rs := [.tmp 6]) rfl ?_
  simp (config := {failIfUnchanged := false}) [giveL, srcOne, rehome, freezeN, sub, upd, opn, aLoad, loadL, giveOne, reify, reifyL, readL, readOne, Mwp, M.bind, Mem.set, setAt, cellsL, hG, f0, f1, f2]
  all_goals exact par_eq hn l
end Go.Vai.WK
set_option linter.unusedSimpArgs false
set_option linter.unusedVariables false
namespace Go.Vai.O
def mayW (w : Int) : Bool := decide (w ≥ 1) && decide (w ≤ 8)
def byteAt (n : Int) (i : Nat) : BitVec 8 := BitVec.ofInt 8 (n / 2 ^ (8 * i))
def numB (w : Nat) (n : Int) (k : Nat) : List (BitVec 8) := (List.range k).map fun j => byteAt n (w - 1 - j)
def numS (w n : Int) : List (BitVec 8) := if mayW w then numB w.toNat n w.toNat else []
theorem numB_length (w : Nat) (n : Int) (k : Nat) : (numB w n k).length = k := by simp [numB]
theorem numB_succ (w : Nat) (n : Int) (k : Nat) : numB w n (k + 1) = numB w n k ++ [byteAt n (w - 1 - k)] := by simp [numB, List.range_succ]
def numR (n : Int) : Nat → List (BitVec 8)
 | 0 => []
 | k + 1 => byteAt n k :: numR n k
theorem numR_length (n : Int) : ∀ k, (numR n k).length = k
 | 0 => rfl
 | k + 1 => by simp [numR, numR_length n k]
theorem numR_get (n : Int) : ∀ (k j : Nat), j < k → (numR n k)[j]? = some (byteAt n (k - 1 - j))
 | 0, j, h => by omega
 | k + 1, 0, h => by simp [numR]
 | k + 1, j + 1, h => by
  simp only [numR, List.getElem?_cons_succ]
  rw [numR_get n k j (by omega), show k + 1 - 1 - (j + 1) = k - 1 - j by omega]
theorem numB_numR (n : Int) (k : Nat) : numB k n k = numR n k := by
 apply List.ext_getElem?
 intro j
 by_cases h : j < k
 ·rw [numR_get n k j h, numB, List.getElem?_map, List.getElem?_range h]; rfl
 ·rw [List.getElem?_eq_none (by rw [numB_length]; omega), List.getElem?_eq_none (by rw [numR_length]; omega)]
def numV (b : List (BitVec 8)) : Int := b.foldl (fun a c => a * 256 + (c.toNat : Int)) 0
theorem numV_snoc (b : List (BitVec 8)) (c : BitVec 8) : numV (b ++ [c]) = numV b * 256 + (c.toNat : Int) := by simp [numV, List.foldl_append]
theorem numV_range : ∀ (k : Nat) (b : List (BitVec 8)), b.length = k → 0 ≤ numV b ∧ numV b < 256 ^ k
 | 0, b, h => by rw [List.eq_nil_of_length_eq_zero h]; simp [numV]
 | k + 1, b, h => by
  have e : b = b.take k ++ [b[k]] := by rw [← List.take_succ_eq_append_getElem (by omega), List.take_of_length_le (by omega)]
  have hl : (b.take k).length = k := by simp; omega
  obtain ⟨h1, h2⟩ := numV_range k (b.take k) hl
  rw [e, numV_snoc]
  have := (b[k]).isLt
  rw [Int.pow_succ]
  omega
def tkF (nil : Bool) (l : List (BitVec 8)) (w : Bool) (n : Int) : Bool := if w then true else if n > (l.length : Int) then true else nil
def tkV (l : List (BitVec 8)) (w : Bool) (n : Int) : List (BitVec 8) := if w then [] else if n > (l.length : Int) then [] else l.take n.toNat
def tkL (l : List (BitVec 8)) (w : Bool) (n : Int) : List (BitVec 8) := if w then l else if n > (l.length : Int) then l else l.drop n.toNat
def tkW (l : List (BitVec 8)) (w : Bool) (n : Int) : Bool := if w then true else decide (n > (l.length : Int))
def rnV (l : List (BitVec 8)) (w : Bool) (k : Int) : Int := if mayW k then numV (tkV l w k) else 0
def rnL (l : List (BitVec 8)) (w : Bool) (k : Int) : List (BitVec 8) := if mayW k then tkL l w k else l
def rnW (l : List (BitVec 8)) (w : Bool) (k : Int) : Bool := if mayW k then tkW l w k else true
theorem tkV_length (l : List (BitVec 8)) (w : Bool) (n : Int) : (tkV l w n).length ≤ n.toNat := by
 unfold tkV; split
 ·simp
 ·split <;> simp <;> omega
theorem pow256 {a b : Nat} (h : a ≤ b) : (256 : Int) ^ a ≤ 256 ^ b := by
 have := Nat.pow_le_pow_right (n := 256) (by omega) h
 rw [show (256 : Int) = ((256 : Nat) : Int) from rfl, ← Int.natCast_pow, ← Int.natCast_pow]
 exact Int.ofNat_le.2 this
theorem rnV_range2 (l : List (BitVec 8)) (w : Bool) : 0 ≤ rnV l w 2 ∧ rnV l w 2 < 65536 := by
 obtain ⟨h1, h2⟩ := numV_range _ (tkV l w 2) rfl
 have h4 : rnV l w 2 = numV (tkV l w 2) := if_pos (by decide)
 rw [h4]
 refine ⟨h1, Int.lt_of_lt_of_le h2 ?_⟩
 have := tkV_length l w 2
 have h3 : (256 : Int) ^ (tkV l w 2).length ≤ 256 ^ 2 := pow256 (by omega)
 exact Int.le_trans h3 (by decide)
theorem numV_lt {b : List (BitVec 8)} (h : b.length ≤ 7) : 0 ≤ numV b ∧ numV b < 72057594037927936 := by
 obtain ⟨h1, h2⟩ := numV_range _ b rfl
 exact ⟨h1, Int.lt_of_lt_of_le h2 (Int.le_trans (pow256 h) (by decide))⟩
theorem numV_take {b : List (BitVec 8)} {j : Nat} (h : j < b.length) : numV (b.take (j + 1)) = numV (b.take j) * 256 + ((b[j]).toNat : Int) := by
 rw [List.take_succ_eq_append_getElem h, numV_snoc]
theorem rnL_len (l : List (BitVec 8)) (w : Bool) (k : Int) : (rnL l w k).length ≤ l.length := by
 unfold rnL tkL; split
 ·split
  ·omega
  ·split <;> simp
 ·omega
theorem rnL_nil {l : List (BitVec 8)} (h : l = []) (w : Bool) (k : Int) : rnL l w k = [] := by
 have := rnL_len l w k
 rw [h] at this
 exact List.eq_nil_of_length_eq_zero (by simpa [h] using this)
theorem tkF_nil {nil : Bool} {l : List (BitVec 8)} (hz : nil = true → l = []) (w : Bool) (n : Int) : tkF nil l w n = true → tkV l w n = [] := by
 unfold tkF tkV
 intro h
 split
 ·rfl
 ·rename_i hw
  rw [if_neg hw] at h
  split
  ·rfl
  ·rename_i hn
   rw [if_neg hn] at h
   rw [hz h]; simp
def txW (l : List (BitVec 8)) (w : Bool) : Bool := if w then true else tkW (rnL l false 2) (rnW l false 2) (rnV l false 2)
def txL (l : List (BitVec 8)) (w : Bool) : List (BitVec 8) := if txW l w then l else tkL (rnL l false 2) (rnW l false 2) (rnV l false 2)
def txV (l : List (BitVec 8)) (w : Bool) : List (BitVec 8) := if txW l w then [] else tkV (rnL l false 2) (rnW l false 2) (rnV l false 2)
def txF (nil : Bool) (l : List (BitVec 8)) (w : Bool) : Bool := if txW l w then true else nil
def rBad (l : List (BitVec 8)) (at_ : Nat) (w : Bool) (k : Int) : Bool := ((w || decide (k < 1)) || decide (k > 8)) || decide (k > (l.length : Int) - (at_ : Int))
def rV (l : List (BitVec 8)) (at_ : Nat) (w : Bool) (k : Int) : Int := if rBad l at_ w k then 0 else numV ((l.drop at_).take k.toNat)
def rA (l : List (BitVec 8)) (at_ : Nat) (w : Bool) (k : Int) : Nat := if rBad l at_ w k then at_ else at_ + k.toNat
theorem rV_range (l : List (BitVec 8)) (at_ : Nat) (w : Bool) (k : Int) : 0 ≤ rV l at_ w k ∧ rV l at_ w k < 18446744073709551616 := by
 unfold rV
 split
 ·omega
 ·rename_i h
  simp [rBad] at h
  obtain ⟨h1, h2⟩ := numV_range _ ((l.drop at_).take k.toNat) rfl
  refine ⟨h1, Int.lt_of_lt_of_le h2 (Int.le_trans (pow256 (b := 8) ?_) (by decide))⟩
  simp; omega
theorem rV_range2 (l : List (BitVec 8)) (at_ : Nat) (w : Bool) : 0 ≤ rV l at_ w 2 ∧ rV l at_ w 2 < 65536 := by
 unfold rV
 split
 ·omega
 ·obtain ⟨h1, h2⟩ := numV_range _ ((l.drop at_).take (2 : Int).toNat) rfl
  refine ⟨h1, Int.lt_of_lt_of_le h2 (Int.le_trans (pow256 (b := 2) ?_) (by decide))⟩
  simp; omega
theorem rA_le {l : List (BitVec 8)} {at_ : Nat} (h : at_ ≤ l.length) (w : Bool) (k : Int) : rA l at_ w k ≤ l.length := by
 unfold rA
 split
 ·exact h
 ·rename_i hb
  simp [rBad] at hb
  omega
def sBad (l : List (BitVec 8)) (at_ : Nat) (w : Bool) : Bool := rBad l at_ w 2 || decide (rV l at_ w 2 > (l.length : Int) - (rA l at_ w 2 : Int))
def sA (l : List (BitVec 8)) (at_ : Nat) (w : Bool) : Nat := if sBad l at_ w then at_ else rA l at_ w 2 + (rV l at_ w 2).toNat
def sV (l : List (BitVec 8)) (at_ : Nat) (w : Bool) : List (BitVec 8) := if sBad l at_ w then [] else (l.drop (rA l at_ w 2)).take (rV l at_ w 2).toNat
theorem drop_len {l : List (BitVec 8)} {a : Nat} (h : a ≤ l.length) : ((l.drop a).length : Int) = (l.length : Int) - (a : Int) := by simp; omega
theorem num_ok {l : List (BitVec 8)} {a : Nat} (h : a ≤ l.length) (w : Bool) (k : Int) : rnV (l.drop a) w k = rV l a w k ∧ rnL (l.drop a) w k = l.drop (rA l a w k) ∧ rnW (l.drop a) w k = rBad l a w k := by
 have hd := drop_len h
 by_cases hk : k < 1 ∨ k > 8
 ·have hm : mayW k = false := by simp [mayW]; omega
  have hb : rBad l a w k = true := by simp [rBad]; omega
  simp [rnV, rnL, rnW, hm, rV, rA, hb]
 ·have hm : mayW k = true := by simp [mayW]; omega
  cases w with
  | true =>
   have hb : rBad l a true k = true := by simp [rBad]
   simp [rnV, rnL, rnW, hm, rV, rA, hb, tkV, tkL, tkW, numV]
  | false =>
   by_cases hl : k > (l.length : Int) - (a : Int)
   ·have hb : rBad l a false k = true := by simp [rBad]; omega
    have hl2 : k > ((l.drop a).length : Int) := by omega
    simp only [rnV, rnL, rnW, hm, rV, rA, hb, tkV, tkL, tkW, if_true, if_pos hl2, Bool.false_eq_true, if_false]
    simp [numV]; omega
   ·have hb : rBad l a false k = false := by simp [rBad]; omega
    have hl2 : ¬ k > ((l.drop a).length : Int) := by omega
    simp only [rnV, rnL, rnW, hm, rV, rA, hb, tkV, tkL, tkW, if_true, if_neg hl2, Bool.false_eq_true, if_false]
    refine ⟨?_, ?_, ?_⟩ <;> first | rfl | trivial | (rw [List.drop_drop]; done) | exact decide_eq_false hl2 | exact hl2
theorem text_ok {l : List (BitVec 8)} {a : Nat} (h : a ≤ l.length) (w : Bool) : txV (l.drop a) w = sV l a w ∧ txL (l.drop a) w = l.drop (sA l a w) ∧ txW (l.drop a) w = sBad l a w := by
 cases w with
 | true =>
  have hb : sBad l a true = true := by simp [sBad, rBad]
  simp [txV, txL, txW, sV, sA, hb]
 | false =>
  obtain ⟨e1, e2, e3⟩ := num_ok h false 2
  have hr := rA_le h false 2
  have hv := rV_range2 l a false
  have hd := drop_len hr
  have hw : txW (l.drop a) false = sBad l a false := by
   simp only [txW, e1, e2, e3, tkW, sBad, Bool.false_eq_true, if_false]
   cases rBad l a false 2 with
   | true => rfl
   | false => simp only [Bool.false_eq_true, if_false, Bool.false_or]; rw [hd]
  refine ⟨?_, ?_, hw⟩
  ·simp only [txV, hw, sV, e1, e2, e3]
   cases hs : sBad l a false with
   | true => rfl
   | false =>
    simp [sBad] at hs
    simp only [Bool.false_eq_true, if_false, tkV, hs.1]
    rw [if_neg (by omega)]
  ·simp only [txL, hw, sA, e1, e2, e3]
   cases hs : sBad l a false with
   | true => rfl
   | false =>
    simp [sBad] at hs
    simp only [Bool.false_eq_true, if_false, tkL, hs.1]
    rw [if_neg (by omega), List.drop_drop]
end Go.Vai.O
namespace Go.Vai.O
open Go.Proofs Go.Vai
set_option linter.unusedSimpArgs false
set_option linter.unusedVariables false
set_option maxHeartbeats 4000000
set_option maxRecDepth 100000
attribute [simp] numB_length numR_length
theorem good_Clone (nil : Bool) (l : List (BitVec 8)) (hl : l.length ≤ 140737488355328) (hz : nil = true → l = []) : Good Tryz.prog 54 [(.sl 1 nil (bsl l), false)] [] [(.sl 1 nil (bsl l), true)] [] := by
  refine good_of_body3 8 Tryz.func54 rfl rfl rfl (by simp) ?_
  intro s m ha hr hv hG
  have f0 : s 0 = .v (.sl 1 nil (bsl l)) := ha 0 _ rfl
  clear ha
  have hc : True := trivial
  have F := (And.intro f0 hG)
  refine AW.seq ?_
  refine AW.region (cfg := cfg) ?_
  refine stp (fun _ h => s0 h) ?_
  refine aops_nil ?_
  refine AW.seq ?_
  refine AW.seq ?_
  refine AW.region (cfg := cfg) ?_
  iterate 2 refine stp (fun _ h => s0 h) ?_
  refine aops_nil ?_
  refine cnd (fun hb => ?ht1) (fun hb => ?hf1)
  case ht1 =>
    have hw4 := hb
    try simp only [bo1, bo2, bo3, bo4, bo5, bo6] at hb
    have hbt4 := hb
    refine AW.seq ?_
    refine AW.region (cfg := cfg) ?_
    refine stp (fun _ h => s0 h) ?_
    refine aops_nil ?_
    refine AW.ret ?_
    refine ⟨.inr rfl, ?_⟩
    (obtain rfl : nil = true := (by simpa using hb); obtain rfl := hz rfl; refine ⟨_, nilEq_nil (nilEq_refl _), leaves_own1 2 rfl (by simp (disch := first | omega | decide) only [go_sem, F, aIndex_map] <;> rfl) (by simp (disch := first | omega | decide) only [go_sem, F, aIndex_map] <;> rfl) (by decide) (by simp [sub, List.take_of_length_le]) (by exact hG)⟩)
  case hf1 =>
    have hw4 := hb
    try simp only [bo1, bo2, bo3, bo4, bo5, bo6] at hb
    have hbt4 := hb
    refine AW.skip ?_
    refine AW.seq ?_
    refine AW.region (cfg := cfg) ?_
    refine stp (fun _ h => sq h) ?_
    refine stp (fun _ h => s0 h) ?_
    refine stp (fun _ h => sp h) ?_
    refine stp (fun _ h => st h) ?_
    refine aops_nil ?_
    refine AW.ret ?_
    refine ⟨.inr rfl, ?_⟩
    (obtain rfl : nil = false := (by simpa using hb); refine leavesN (leaves_own1 2 rfl (by simp (disch := first | omega | decide) only [go_sem, F, aIndex_map] <;> rfl) (by simp (disch := first | omega | decide) only [go_sem, F, aIndex_map] <;> rfl) (by decide) (by simp [sub, List.take_of_length_le]) (by exact hG)))
theorem good_mayO (w : Int) : Good Tryz.prog 116 [(i64 w, false)] [] [(.b (mayW w), false)] [] := by
  refine good_of_body2 9 Tryz.func116 rfl rfl rfl (by simp) ?_
  intro s m ha hr hv hG
  have f0 : s 0 = .v (i64 w) := ha 0 _ rfl
  clear ha
  have hc : True := trivial
  have F := (And.intro f0 hG)
  refine AW.seq ?_
  refine AW.region (cfg := cfg) ?_
  refine stp (fun _ h => s0 h) ?_
  refine aops_nil ?_
  refine AW.seq ?_
  refine AW.region (cfg := cfg) ?_
  iterate 3 refine stp (fun _ h => s0 h) ?_
  iterate 2 refine mrg wa (fun hc _ h => s0 h) ?_
  iterate 2 refine stp (fun _ h => s0 h) ?_
  refine aops_nil ?_
  refine AW.ret ?_
  refine ⟨.inr rfl, ?_⟩
  refine leaves_mwp2 (rs := [.tmp 2]) rfl ?_
  simp (config := {failIfUnchanged := false}) [giveL, srcOne, rehome, freezeN, sub, upd, opn, aLoad, loadL, giveOne, reify, reifyL, readL, readOne, Mwp, M.bind, Mem.set, setAt, cellsL, hG, f0, mayW]
  all_goals first | done | omega | (simp_all; done) | (simp_all; omega) | grind
theorem good_Same (na nb : Bool) (a b : List (BitVec 8)) (ha : a.length ≤ 9223372036854775807) (hb : b.length ≤ 9223372036854775807) : Good Tryz.prog 24 [(.sl 1 na (bsl a), false), (.sl 1 nb (bsl b), false)] [] [(.b (decide (a = b)), false)] [] := by
  refine good_of_body2 26 Tryz.func24 rfl rfl rfl (by simp) ?_
  intro s m ha hr hv hG
  have f0 : s 0 = .v (.sl 1 na (bsl a)) := ha 0 _ rfl
  have f1 : s 1 = .v (.sl 1 nb (bsl b)) := ha 1 _ rfl
  clear ha
  have hc : True := trivial
  have F := (And.intro f0 (And.intro f1 hG))
  refine AW.seq ?_
  refine AW.region (cfg := cfg) ?_
  refine stp (fun _ h => s0 h) ?_
  refine aops_nil ?_
  refine AW.seq ?_
  refine AW.seq ?_
  refine AW.region (cfg := cfg) ?_
  refine stp (fun _ h => s0 h) ?_
  refine stp (fun _ h => sd h) ?_
  refine stp (fun _ h => s0 h) ?_
  refine stp (fun _ h => sd h) ?_
  refine stp (fun _ h => s0 h) ?_
  refine aops_nil ?_
  refine cnd (fun hb => ?ht1) (fun hb => ?hf1)
  case ht1 =>
    have hw10 := hb
    try simp only [bo1, bo2, bo3, bo4, bo5, bo6] at hb
    have hbt10 := hb
    refine AW.seq ?_
    refine AW.region (cfg := cfg) ?_
    refine stp (fun _ h => s0 h) ?_
    refine aops_nil ?_
    refine AW.ret ?_
    refine ⟨.inr rfl, ?_⟩
    refine leaves_tmp1 4 rfl ?_ (by exact hG)
    simp (disch := first | omega | decide) only [go_sem, F, aIndex_map]
    all_goals (rw [decide_eq_false (fun e => by subst e; simp at hb)]; done)
  case hf1 =>
    have hw10 := hb
    try simp only [bo1, bo2, bo3, bo4, bo5, bo6] at hb
    have hbt10 := hb
    refine AW.skip ?_
    refine AW.seq ?_
    refine AW.seq ?_
    refine AW.region (cfg := cfg) ?_
    refine stp (fun _ h => s0 h) ?_
    refine aops_nil ?_
    refine AW.block ?_
    refine AW.forN (fun k σ => ∃ s m, σ = ⟨26, s, m⟩ ∧ s 0 = .v (.sl 1 na (bsl a)) ∧ s 1 = .v (.sl 1 nb (bsl b)) ∧ s 5 = .v (i64 (k : Int)) ∧ (a.length = b.length) ∧ (a.take k = b.take k) ∧ m.G = []) (a.length) ?_ ?_ ?_
    · refine ⟨_, _, rfl, ?_, ?_, ?_, ?_, ?_, (by exact hG)⟩ <;> try simp (disch := first | omega | decide) only [go_sem, F, aIndex_map]
      all_goals first | rfl | omega
    · clear F f0 f1 hG
      rintro k σ hk ⟨s, m, rfl, f0, f1, f5, mo0, mo1, hG⟩
      have F := (And.intro f0 (And.intro f1 (And.intro f5 hG)))
      refine AW.seq ?_
      refine AW.seq ?_
      refine AW.region (cfg := cfg) ?_
      iterate 2 refine stp (fun _ h => s0 h) ?_
      refine stp (fun _ h => sd h) ?_
      refine stp (fun _ h => s0 h) ?_
      refine aops_nil ?_
      refine cnd (fun hb => ?ht2) (fun hb => ?hf2)
      case hf2 => (simp at hb; omega)
      case ht2 =>
      have hbt14 := hb
      refine AW.skip ?_
      refine AW.seq ?_
      refine AW.block ?_
      refine AW.seq ?_
      refine AW.draw (cfg := cfg) (by kernel_rfl) (by kernel_rfl) (by kernel_rfl) ?_
      iterate 2 refine dstp (fun _ h => s0 h) ?_
      refine dstp (fun _ h => si h) ?_
      refine dstp (fun _ h => sl h) ?_
      iterate 2 refine dstp (fun _ h => s0 h) ?_
      refine dstp (fun _ h => si h) ?_
      refine dstp (fun _ h => sl h) ?_
      refine dstp (fun _ h => s0 h) ?_
      refine adraw_nil (by kernel_rfl) ?_
      refine cnd (fun hb => ?ht3) (fun hb => ?hf3)
      case ht3 =>
        have hw25 := hb
        try simp only [bo1, bo2, bo3, bo4, bo5, bo6] at hb
        have hbt25 := hb
        refine AW.seq ?_
        refine AW.region (cfg := cfg) ?_
        refine stp (fun _ h => s0 h) ?_
        refine aops_nil ?_
        refine AW.ret ?_
        refine ⟨.inr rfl, ?_⟩
        refine leaves_tmp1 4 rfl ?_ (by exact hG)
        simp (disch := first | omega | decide) only [go_sem, F, aIndex_map]
        all_goals (rw [decide_eq_false (fun e => by subst e; simp at hb)]; done)
      case hf3 =>
        have hw25 := hb
        try simp only [bo1, bo2, bo3, bo4, bo5, bo6] at hb
        have hbt25 := hb
        refine AW.skip ?_
        refine AW.region (cfg := cfg) ?_
        refine stp (fun _ h => s0 h) ?_
        refine stp (fun _ h => sd h) ?_
        refine stp (fun _ h => s0 h) ?_
        refine aops_nil ?_
        refine ⟨_, _, rfl, ?_, ?_, ?_, ?_, ?_, (by exact hG)⟩ <;> try simp (disch := first | omega | decide) only [go_sem, F, aIndex_map]
        all_goals first | rfl | assumption | skip
        all_goals (rw [List.take_succ_eq_append_getElem (by omega), List.take_succ_eq_append_getElem (by omega), mo1]; congr 2; apply BitVec.eq_of_toNat_eq; simp at hb; omega)
    · clear F f0 f1 hG
      rintro σ ⟨s, m, rfl, f0, f1, f5, mo0, mo1, hG⟩
      have F := (And.intro f0 (And.intro f1 (And.intro f5 hG)))
      refine AW.seq ?_
      refine AW.seq ?_
      refine AW.region (cfg := cfg) ?_
      iterate 2 refine stp (fun _ h => s0 h) ?_
      refine stp (fun _ h => sd h) ?_
      refine stp (fun _ h => s0 h) ?_
      refine aops_nil ?_
      refine cnd (fun hb => ?ht4) (fun hb => ?hf4)
      case ht4 => (simp at hb; done)
      case hf4 =>
      have hbt14 := hb
      refine AW.exit ?_
      refine AW.seq ?_
      refine AW.region (cfg := cfg) ?_
      refine stp (fun _ h => s0 h) ?_
      refine aops_nil ?_
      refine AW.ret ?_
      refine ⟨.inr rfl, ?_⟩
      refine leaves_tmp1 4 rfl ?_ (by exact hG)
      simp (disch := first | omega | decide) only [go_sem, F, aIndex_map]
      all_goals (rw [decide_eq_true (by rw [List.take_length, mo0, List.take_length] at mo1; exact mo1)]; done)
theorem mayW_range {w : Int} (h : mayW w = true) : 1 ≤ w ∧ w ≤ 8 := by simpa [mayW] using h
theorem byte_div {n : Int} {w k : Nat} (h : k < w) : BitVec.ofInt 8 (n / 2 ^ (8 * ((w : Int) - 1 - (k : Int))).toNat) = byteAt n (w - 1 - k) := by
  unfold byteAt
  rw [show (8 * ((w : Int) - 1 - (k : Int))).toNat = 8 * (w - 1 - k) by omega]
theorem byte_wrap (x : Int) : IntKind.u8.wrap x = ((BitVec.ofInt 8 x).toNat : Int) := wrapu8 x
theorem numS_no {w n : Int} (h : mayW w = false) : numS w n = [] := by simp [numS, h]
theorem numS_is {w n : Int} (h : mayW w = true) : numS w n = numB w.toNat n w.toNat := by simp [numS, h]
attribute [go_sem] byte_wrap
theorem good_Num (nil : Bool) (l : List (BitVec 8)) (hl : l.length ≤ 140737488355320) (hz : nil = true → l = []) (w n : Int) (hn : 0 ≤ n ∧ n < 18446744073709551616) : Good Tryz.prog 84 [(.sl 1 nil (bsl l), false), (i64 w, false), (.i .u64 n, false)] [] [(.sl 1 (nil && !mayW w) (bsl (l ++ numS w n)), true)] [] := by
  refine good_of_body3 30 Tryz.func84 rfl rfl rfl (by simp) ?_
  intro s m ha hr hv hG
  have f0 : s 0 = .v (.sl 1 nil (bsl l)) := ha 0 _ rfl
  have f1 : s 1 = .v (i64 w) := ha 1 _ rfl
  have f2 : s 2 = .v (.i .u64 n) := ha 2 _ rfl
  clear ha
  have hc : True := trivial
  have F := (And.intro f0 (And.intro f1 (And.intro f2 hG)))
  refine AW.seq ?_
  refine AW.region (cfg := cfgN) ?_
  refine stp (fun _ h => s0 h) ?_
  refine aops_nil ?_
  refine AW.seq ?_
  refine AW.region (cfg := cfgN) ?_
  refine stp (fun _ h => s0 h) ?_
  refine stp (fun _ h => co1 (w := good_Clone _ _ (by omega) hz) (x := h)) ?_
  refine stp (fun _ h => st h) ?_
  refine aops_nil ?_
  refine AW.seq ?_
  refine AW.seq ?_
  refine AW.region (cfg := cfgN) ?_
  refine stp (fun _ h => s0 h) ?_
  refine stp (fun _ h => cs (w := good_mayO _) (x := h)) ?_
  refine stp (fun _ h => s0 h) ?_
  refine aops_nil ?_
  refine cnd (fun hb => ?ht1) (fun hb => ?hf1)
  case ht1 =>
    have hw13 := hb
    try simp only [bo1, bo2, bo3, bo4, bo5, bo6] at hb
    have hbt13 := hb
    refine AW.seq ?_
    refine AW.region (cfg := cfgN) ?_
    refine stp (fun _ h => s0 h) ?_
    refine stp (fun _ h => sm h) ?_
    refine aops_nil ?_
    refine AW.ret ?_
    refine ⟨.inr rfl, ?_⟩
    (have hw : mayW w = false := (by simpa using hb); have e0 : (nil && !mayW w) = nil := (by simp [hw]); rw [e0, numS_no hw, List.append_nil]; refine leavesN (leaves_own1 6 rfl (by simp (disch := first | omega | decide) only [go_sem, F, aIndex_map] <;> rfl) (by simp (disch := first | omega | decide) only [go_sem, F, aIndex_map] <;> rfl) (by decide) (by simp [sub, List.take_of_length_le]) (by exact hG)))
  case hf1 =>
    have hw13 := hb
    try simp only [bo1, bo2, bo3, bo4, bo5, bo6] at hb
    have hbt13 := hb
    refine AW.skip ?_
    refine AW.seq ?_
    refine AW.seq ?_
    have hw : mayW w = true := by simpa using hbt13
    have hw2 := mayW_range hw
    have e0 : (nil && !mayW w) = false := by simp [hw]
    obtain ⟨W, rfl⟩ := Int.eq_ofNat_of_zero_le (show 0 ≤ w by omega)
    refine AW.region (cfg := cfgN) ?_
    refine stp (fun _ h => s0 h) ?_
    refine stp (fun _ h => sd h) ?_
    refine stp (fun _ h => s0 h) ?_
    refine aops_nil ?_
    refine AW.block ?_
    refine AW.forN (fun k σ => ∃ s m, σ = ⟨30, s, m⟩ ∧ s 2 = .v (.i .u64 n) ∧ s 7 = .own (.var 7) (m.objs (.var 7)).1 0 (l.length + k) ∧ (m.objs (.var 7)).2 = .arr (nil && decide (k = 0)) 1 (bsl (l ++ numB W n k)) ∧ s 8 = .v (i64 ((W : Int) - 1 - (k : Int))) ∧ (mayW (W : Int) = true) ∧ (∀ i, (m.objs (.res i)).2 = .dead) ∧ m.G = []) (W) ?_ ?_ ?_
    · refine ⟨_, _, rfl, ?_, ?_, ?_, ?_, ?_, (by intro i; simp [Mem.set, hr]), (by exact hG)⟩ <;> try simp (disch := first | omega | decide) only [go_sem, F, aIndex_map]
      all_goals first | rfl | assumption | (simp [numB]; done)
    · clear F f0 f1 f2 hr hG
      rintro k σ hk ⟨s, m, rfl, f2, f7, o7, f8, mo0, hr, hG⟩
      obtain ⟨g7, o7⟩ : ∃ g, m.objs (.var 7) = (g, .arr (nil && decide (k = 0)) 1 (bsl (l ++ numB W n k))) := ⟨_, Prod.ext rfl o7⟩
      rw [o7] at f7
      have F := (And.intro f2 (And.intro f7 (And.intro f8 (And.intro o7 hG))))
      refine AW.seq ?_
      refine AW.seq ?_
      refine AW.region (cfg := cfgN) ?_
      iterate 2 refine stp (fun _ h => s0 h) ?_
      refine aops_nil ?_
      refine cnd (fun hb => ?ht2) (fun hb => ?hf2)
      case hf2 => (simp at hb; omega)
      case ht2 =>
      have hbt18 := hb
      refine AW.skip ?_
      refine AW.seq ?_
      refine AW.block ?_
      refine AW.region (cfg := cfgN) ?_
      iterate 3 refine stp (fun _ h => s0 h) ?_
      iterate 3 refine stp (fun _ h => sd h) ?_
      refine stp (fun _ h => sq h) ?_
      refine stp (fun _ h => sp h) ?_
      refine stp (fun _ h => st h) ?_
      refine aops_nil ?_
      refine AW.region (cfg := cfgN) ?_
      refine stp (fun _ h => s0 h) ?_
      refine stp (fun _ h => sd h) ?_
      refine stp (fun _ h => s0 h) ?_
      refine aops_nil ?_
      refine ⟨_, _, rfl, ?_, ?_, ?_, ?_, ?_, (by intro i; simp [Mem.set, hr]), (by exact hG)⟩ <;> try simp (disch := first | omega | decide) only [go_sem, F, aIndex_map]
      all_goals first | rfl | assumption | (simp [numB_length]; omega) | (rw [numB_succ]; simp [sub, byte_div hk]; done)
    · clear F f0 f1 f2 hr hG
      rintro σ ⟨s, m, rfl, f2, f7, o7, f8, mo0, hr, hG⟩
      obtain ⟨g7, o7⟩ : ∃ g, m.objs (.var 7) = (g, .arr (nil && decide (W = 0)) 1 (bsl (l ++ numB W n W))) := ⟨_, Prod.ext rfl o7⟩
      rw [o7] at f7
      have F := (And.intro f2 (And.intro f7 (And.intro f8 (And.intro o7 hG))))
      refine AW.seq ?_
      refine AW.seq ?_
      refine AW.region (cfg := cfgN) ?_
      iterate 2 refine stp (fun _ h => s0 h) ?_
      refine aops_nil ?_
      refine cnd (fun hb => ?ht3) (fun hb => ?hf3)
      case ht3 => (simp at hb; omega)
      case hf3 =>
      have hbt18 := hb
      refine AW.exit ?_
      refine AW.seq ?_
      refine AW.region (cfg := cfgN) ?_
      refine stp (fun _ h => s0 h) ?_
      refine stp (fun _ h => sm h) ?_
      refine aops_nil ?_
      refine AW.ret ?_
      refine ⟨.inr rfl, ?_⟩
      (rw [show (nil && !mayW (W : Int)) = (nil && decide (W = 0)) by (have := mayW_range mo0; simp [mo0]; omega), numS_is mo0, Int.toNat_natCast]; refine leavesN (leaves_own1 6 rfl (by simp (disch := first | omega | decide) only [go_sem, F, aIndex_map] <;> rfl) (by simp (disch := first | omega | decide) only [go_sem, F, aIndex_map] <;> rfl) (by decide) (sub_full (by simp [numB_length])) (by exact hG)))
theorem byte_rem (x : Int) : BitVec.ofInt 8 (x % 256) = BitVec.ofInt 8 x := by
  apply BitVec.eq_of_toNat_eq
  simp [BitVec.toNat_ofInt]
attribute [go_sem] byte_rem
theorem nm2 (nil : Bool) : (nil && !mayW 2) = false := by cases nil <;> decide
def txO (t : List (BitVec 8)) : Bool := decide (t.length ≤ 65535)
def txR (l t : List (BitVec 8)) : List (BitVec 8) := if txO t then l ++ numS 2 (t.length : Int) ++ t else l
theorem numS2 (n : Int) : numS 2 n = numR n 2 := by rw [numS_is (by decide)]; exact numB_numR n 2
@[simp] theorem numS2_length (n : Int) : (numS 2 n).length = 2 := by rw [numS2]; rfl
attribute [go_sem] nm2
theorem good_Text (nil : Bool) (l : List (BitVec 8)) (nt : Bool) (t : List (BitVec 8)) (hl : l.length ≤ 140737488355000) (hz : nil = true → l = []) (ht : l.length + t.length ≤ 140737488355000) : Good Tryz.prog 85 [(.sl 1 nil (bsl l), false), (.sl 1 nt (bsl t), false)] [] [(.sl 1 (nil && !txO t) (bsl (txR l t)), true), (.b (txO t), false)] [] := by
  refine good_of_body3 18 Tryz.func85 rfl rfl rfl (by simp) ?_
  intro s m ha hr hv hG
  have f0 : s 0 = .v (.sl 1 nil (bsl l)) := ha 0 _ rfl
  have f1 : s 1 = .v (.sl 1 nt (bsl t)) := ha 1 _ rfl
  clear ha
  have hc : True := trivial
  have F := (And.intro f0 (And.intro f1 hG))
  refine AW.seq ?_
  refine AW.region (cfg := cfg) ?_
  iterate 2 refine stp (fun _ h => s0 h) ?_
  refine aops_nil ?_
  refine AW.seq ?_
  refine AW.seq ?_
  refine AW.region (cfg := cfg) ?_
  refine stp (fun _ h => s0 h) ?_
  refine stp (fun _ h => sd h) ?_
  refine stp (fun _ h => s0 h) ?_
  refine aops_nil ?_
  refine cnd (fun hb => ?ht1) (fun hb => ?hf1)
  case ht1 =>
    have hw8 := hb
    try simp only [bo1, bo2, bo3, bo4, bo5, bo6] at hb
    have hbt8 := hb
    refine AW.seq ?_
    refine AW.region (cfg := cfg) ?_
    refine stp (fun _ h => s0 h) ?_
    refine stp (fun _ h => co1 (w := good_Clone _ _ (by omega) hz) (x := h)) ?_
    refine stp (fun _ h => st h) ?_
    refine stp (fun _ h => s0 h) ?_
    refine aops_nil ?_
    refine AW.ret ?_
    refine ⟨.inr rfl, ?_⟩
    (have h0 : txO t = false := (by simp [txO]; omega); rw [txR, h0, Bool.not_false, Bool.and_true]; refine leavesN (leaves_own2 4 5 rfl (by simp (disch := first | omega | decide) only [go_sem, F, aIndex_map] <;> rfl) (by simp (disch := first | omega | decide) only [go_sem, F, aIndex_map] <;> rfl) (by simp (disch := first | omega | decide) only [go_sem, F, aIndex_map] <;> rfl) (by decide) (by simp [sub, List.take_of_length_le]) (by exact hG)))
  case hf1 =>
    have hw8 := hb
    try simp only [bo1, bo2, bo3, bo4, bo5, bo6] at hb
    have hbt8 := hb
    refine AW.skip ?_
    refine AW.seq ?_
    refine AW.region (cfg := cfg) ?_
    iterate 2 refine stp (fun _ h => s0 h) ?_
    iterate 2 refine stp (fun _ h => sd h) ?_
    refine stp (fun _ h => co1 (w := good_Num _ _ (by omega) hz _ _ (by omega)) (x := h)) ?_
    refine stp (fun _ h => s0 h) ?_
    refine stp (fun _ h => sp h) ?_
    refine stp (fun _ h => st h) ?_
    refine stp (fun _ h => s0 h) ?_
    refine aops_nil ?_
    refine AW.ret ?_
    refine ⟨.inr rfl, ?_⟩
    (have h0 : txO t = true := (by simp [txO]; omega); rw [txR, h0, Bool.not_true, Bool.and_false]; refine leavesN (leaves_own2 4 5 rfl (by simp (disch := first | omega | decide) only [go_sem, F, aIndex_map] <;> rfl) (by simp (disch := first | omega | decide) only [go_sem, F, aIndex_map] <;> rfl) (by simp (disch := first | omega | decide) only [go_sem, F, aIndex_map] <;> rfl) (by decide) (by simp [sub, numS2_length, List.take_of_length_le, Nat.add_assoc]) (by exact hG)))
theorem good_Read (nil : Bool) (l : List (BitVec 8)) (hl : l.length ≤ 140737488355328) (hz : nil = true → l = []) : Good Tryz.prog 103 [(.sl 1 nil (bsl l), false)] [] [(.gp 0 0, false)] [[.sl 1 (nil) (bsl (l)), .b (false)]] := by
  refine good_of_body2 7 Tryz.func103 rfl rfl rfl (by simp) ?_
  intro s m ha hr hv hG
  have f0 : s 0 = .v (.sl 1 nil (bsl l)) := ha 0 _ rfl
  clear ha
  have hc : True := trivial
  have F := (And.intro f0 hG)
  refine AW.seq ?_
  refine AW.region (cfg := cfgG) ?_
  refine stp (fun _ h => s0 h) ?_
  refine aops_nil ?_
  refine AW.seq ?_
  refine AW.region (cfg := cfgG) ?_
  refine stp (fun _ h => s0 h) ?_
  refine stp (fun _ h => co1 (w := good_Clone _ _ (by omega) hz) (x := h)) ?_
  refine stp (fun _ h => su h) ?_
  refine stp (fun _ h => sbg h) ?_
  refine stp (fun _ h => s0 h) ?_
  refine aops_nil ?_
  refine AW.ret ?_
  refine ⟨.inr rfl, ?_⟩
  refine leaves_tmp1 2 rfl ?_ (by simp [sub, List.take_of_length_le, Mem.set, hG])
  simp (disch := first | omega | decide) only [go_sem, F, aIndex_map]
  all_goals simp [hG, Mem.set]
theorem good_Left (nil : Bool) (l : List (BitVec 8)) (w : Bool) (hl : l.length ≤ 140737488355000) (hz : nil = true → l = []) : Good Tryz.prog 108 [(.gp 0 0, false)] [[.sl 1 (nil) (bsl (l)), .b (w)]] [(i64 (l.length : Int), false)] [[.sl 1 (nil) (bsl (l)), .b (w)]] := by
  refine good_of_body2 10 Tryz.func108 rfl rfl rfl (by simp) ?_
  intro s m ha hr hv hG
  have f0 : s 0 = .v (.gp 0 0) := ha 0 _ rfl
  clear ha
  have hc : True := trivial
  have F := (And.intro f0 hG)
  refine AW.seq ?_
  refine AW.region (cfg := cfg) ?_
  refine stp (fun _ h => s0 h) ?_
  refine aops_nil ?_
  refine AW.seq ?_
  refine AW.seq ?_
  refine AW.region (cfg := cfg) ?_
  iterate 2 refine stp (fun _ h => s0 h) ?_
  refine aops_nil ?_
  refine cnd (fun hb => ?ht1) (fun hb => ?hf1)
  case ht1 =>
    have hw4 := hb
    try simp only [bo1, bo2, bo3, bo4, bo5, bo6] at hb
    have hbt4 := hb
    refine AW.seq ?_
    refine AW.region (cfg := cfg) ?_
    refine stp (fun _ h => s0 h) ?_
    refine aops_nil ?_
    refine AW.ret ?_
    refine ⟨.inr rfl, ?_⟩
    refine leaves_tmp1 2 rfl ?_ (by exact hG)
    simp (disch := first | omega | decide) only [go_sem, F, aIndex_map]
    all_goals (simp at hb; done)
  case hf1 =>
    have hw4 := hb
    try simp only [bo1, bo2, bo3, bo4, bo5, bo6] at hb
    have hbt4 := hb
    refine AW.skip ?_
    refine AW.seq ?_
    refine AW.region (cfg := cfg) ?_
    refine stp (fun _ h => s0 h) ?_
    refine stp (fun _ h => sd h) ?_
    refine stp (fun _ h => sx h) ?_
    refine stp (fun _ h => sl h) ?_
    refine stp (fun _ h => sd h) ?_
    refine stp (fun _ h => s0 h) ?_
    refine aops_nil ?_
    refine AW.ret ?_
    refine ⟨.inr rfl, ?_⟩
    refine leaves_tmp1 2 rfl ?_ (by exact hG)
    simp (disch := first | omega | decide) only [go_sem, F, aIndex_map]
    all_goals first | done | rfl | (simp at hb; done)
theorem good_Wrong (nil : Bool) (l : List (BitVec 8)) (w : Bool) (hl : l.length ≤ 140737488355000) (hz : nil = true → l = []) : Good Tryz.prog 106 [(.gp 0 0, false)] [[.sl 1 (nil) (bsl (l)), .b (w)]] [(.b w, false)] [[.sl 1 (nil) (bsl (l)), .b (w)]] := by
  refine good_of_body2 11 Tryz.func106 rfl rfl rfl (by simp) ?_
  intro s m ha hr hv hG
  have f0 : s 0 = .v (.gp 0 0) := ha 0 _ rfl
  clear ha
  have hc : True := trivial
  have F := (And.intro f0 hG)
  refine AW.seq ?_
  refine AW.region (cfg := cfg) ?_
  refine stp (fun _ h => s0 h) ?_
  refine aops_nil ?_
  refine AW.seq ?_
  refine AW.region (cfg := cfg) ?_
  iterate 3 refine stp (fun _ h => s0 h) ?_
  refine mrg wa (fun hc _ h => s0 h) ?_
  refine mrg wa (fun hc _ h => sd h) ?_
  refine mrg wa (fun hc _ h => sx h) ?_
  refine mrg wa (fun hc _ h => sl h) ?_
  iterate 2 refine stp (fun _ h => s0 h) ?_
  refine aops_nil ?_
  refine AW.ret ?_
  refine ⟨.inr rfl, ?_⟩
  refine leaves_tmp1 2 rfl ?_ (by exact hG)
  simp (disch := first | omega | decide) only [go_sem, F, aIndex_map]
  all_goals rfl
theorem tk_w (nil : Bool) (l : List (BitVec 8)) (n : Int) : tkF nil l true n = true ∧ tkV l true n = [] ∧ tkL l true n = l ∧ tkW l true n = true := ⟨rfl, rfl, rfl, rfl⟩
theorem tk_far {nil : Bool} {l : List (BitVec 8)} {n : Int} (h : n > (l.length : Int)) : tkF nil l false n = true ∧ tkV l false n = [] ∧ tkL l false n = l ∧ tkW l false n = true := by
  simp [tkF, tkV, tkL, tkW, h]
theorem tk_ok {nil : Bool} {l : List (BitVec 8)} {n : Int} (h : ¬ n > (l.length : Int)) : tkF nil l false n = nil ∧ tkV l false n = l.take n.toNat ∧ tkL l false n = l.drop n.toNat ∧ tkW l false n = false := by
  simp [tkF, tkV, tkL, tkW, h]
attribute [go_sem] Bool.false_or
theorem good_take (nil : Bool) (l : List (BitVec 8)) (w : Bool) (hl : l.length ≤ 140737488355000) (hz : nil = true → l = []) (n : Int) (hn : 0 ≤ n ∧ n ≤ 9223372036854775807) : Good Tryz.prog 132 [(.gp 0 0, false), (i64 n, false)] [[.sl 1 (nil) (bsl (l)), .b (w)]] [(.sl 1 (tkF nil l w n) (bsl (tkV l w n)), false)] [[.sl 1 (nil) (bsl (tkL l w n)), .b (tkW l w n)]] := by
  refine good_of_body3 41 Tryz.func132 rfl rfl rfl (by simp) ?_
  intro s m ha hr hv hG
  have f0 : s 0 = .v (.gp 0 0) := ha 0 _ rfl
  have f1 : s 1 = .v (i64 n) := ha 1 _ rfl
  clear ha
  have hc : True := trivial
  have F := (And.intro f0 (And.intro f1 hG))
  refine AW.seq ?_
  refine AW.region (cfg := cfg) ?_
  refine stp (fun _ h => s0 h) ?_
  refine aops_nil ?_
  refine AW.seq ?_
  refine AW.seq ?_
  refine AW.region (cfg := cfg) ?_
  iterate 4 refine stp (fun _ h => s0 h) ?_
  refine stp (fun _ h => sd h) ?_
  refine stp (fun _ h => sx h) ?_
  refine stp (fun _ h => sl h) ?_
  refine stp (fun _ h => s0 h) ?_
  refine aops_nil ?_
  refine cnd (fun hb => ?ht1) (fun hb => ?hf1)
  case ht1 =>
    have hw13 := hb
    try simp only [bo1, bo2, bo3, bo4, bo5, bo6] at hb
    have hbt13 := hb
    refine AW.seq ?_
    refine AW.region (cfg := cfg) ?_
    refine stp (fun _ h => s0 h) ?_
    refine aops_nil ?_
    refine AW.ret ?_
    refine ⟨.inr rfl, ?_⟩
    cases w
    all_goals first | (exfalso; simp at hbt13; done) | skip
    all_goals (obtain ⟨e1, e2, e3, e4⟩ := tk_w nil l n; rw [e1, e2, e3, e4]; refine ⟨_, nilEq_nil (nilEq_refl _), leaves_frz1 4 rfl (by simp (disch := first | omega | decide) only [go_sem, F, aIndex_map] <;> rfl) (by simp (disch := first | omega | decide) only [go_sem, F, aIndex_map] <;> rfl) rfl (by exact hG)⟩)
  case hf1 =>
    have hw13 := hb
    try simp only [bo1, bo2, bo3, bo4, bo5, bo6] at hb
    have hbt13 := hb
    refine AW.skip ?_
    refine AW.seq ?_
    refine AW.seq ?_
    refine AW.region (cfg := cfg) ?_
    iterate 2 refine stp (fun _ h => s0 h) ?_
    refine stp (fun _ h => sd h) ?_
    refine stp (fun _ h => sx h) ?_
    refine stp (fun _ h => sl h) ?_
    refine stp (fun _ h => sd h) ?_
    refine stp (fun _ h => s0 h) ?_
    refine aops_nil ?_
    refine cnd (fun hb => ?ht2) (fun hb => ?hf2)
    case ht2 =>
      have hw20 := hb
      try simp only [bo1, bo2, bo3, bo4, bo5, bo6] at hb
      have hbt20 := hb
      refine AW.seq ?_
      refine AW.region (cfg := cfg) ?_
      refine stp (fun _ h => s0 h) ?_
      refine stp (fun _ h => sd h) ?_
      refine stp (fun _ h => sx h) ?_
      refine stp0 (fun _ h => ss h) ?_
      refine aops_nil ?_
      refine AW.seq ?_
      refine AW.region (cfg := cfg) ?_
      refine stp (fun _ h => s0 h) ?_
      refine aops_nil ?_
      refine AW.ret ?_
      refine ⟨.inr rfl, ?_⟩
      cases w
      all_goals first | (exfalso; simp at hbt13; done) | skip
      all_goals (have z : n > (l.length : Int) := hbt20; obtain ⟨e1, e2, e3, e4⟩ := tk_far (nil := nil) z; rw [e1, e2, e3, e4]; refine ⟨_, nilEq_nil (nilEq_refl _), leaves_frz1 4 rfl (by simp (disch := first | omega | decide) only [go_sem, F, aIndex_map] <;> rfl) (by simp (disch := first | omega | decide) only [go_sem, F, aIndex_map] <;> rfl) rfl (by rfl)⟩)
    case hf2 =>
      have hw20 := hb
      try simp only [bo1, bo2, bo3, bo4, bo5, bo6] at hb
      have hbt20 := hb
      refine AW.skip ?_
      refine AW.seq ?_
      refine AW.region (cfg := cfg) ?_
      refine stp (fun _ h => s0 h) ?_
      refine stp (fun _ h => sd h) ?_
      refine stp (fun _ h => sx h) ?_
      refine stp (fun _ h => sl h) ?_
      iterate 2 refine stp (fun _ h => s0 h) ?_
      refine stp (fun _ h => sd h) ?_
      refine stp (fun _ h => s0 h) ?_
      refine aops_nil ?_
      refine AW.seq ?_
      refine AW.region (cfg := cfg) ?_
      iterate 2 refine stp (fun _ h => s0 h) ?_
      refine stp (fun _ h => sd h) ?_
      refine stp (fun _ h => sx h) ?_
      refine stp (fun _ h => sl h) ?_
      refine stp (fun _ h => s0 h) ?_
      iterate 2 refine stp (fun _ h => sd h) ?_
      refine stp (fun _ h => sx h) ?_
      refine stp0 (fun _ h => ss h) ?_
      refine aops_nil ?_
      refine AW.seq ?_
      refine AW.region (cfg := cfg) ?_
      iterate 2 refine stp (fun _ h => s0 h) ?_
      refine aops_nil ?_
      refine AW.ret ?_
      refine ⟨.inr rfl, ?_⟩
      cases w
      all_goals first | (exfalso; simp at hbt13; done) | skip
      all_goals (have z : ¬ n > (l.length : Int) := hbt20; obtain ⟨e1, e2, e3, e4⟩ := tk_ok (nil := nil) z; rw [e1, e2, e3, e4]; refine leavesN (leaves_tmp1 4 rfl (by simp (disch := first | omega | decide) only [go_sem, F, aIndex_map] <;> rfl) (by rfl)))
theorem rn_no {nil : Bool} {l : List (BitVec 8)} {w : Bool} {k : Int} (h : mayW k = false) : rnV l w k = 0 ∧ rnL l w k = l ∧ rnW l w k = true := by simp [rnV, rnL, rnW, h]
theorem rn_is {l : List (BitVec 8)} {w : Bool} {k : Int} (h : mayW k = true) : rnV l w k = numV (tkV l w k) ∧ rnL l w k = tkL l w k ∧ rnW l w k = tkW l w k := by simp [rnV, rnL, rnW, h]
attribute [go_sem] List.take_length
theorem good_NumR (nil : Bool) (l : List (BitVec 8)) (w : Bool) (hl : l.length ≤ 140737488355000) (hz : nil = true → l = []) (k : Int) : Good Tryz.prog 104 [(.gp 0 0, false), (i64 k, false)] [[.sl 1 (nil) (bsl (l)), .b (w)]] [(.i .u64 (rnV l w k), false)] [[.sl 1 (nil) (bsl (rnL l w k)), .b (rnW l w k)]] := by
  refine good_of_body3 31 Tryz.func104 rfl rfl rfl (by simp) ?_
  intro s m ha hr hv hG
  have f0 : s 0 = .v (.gp 0 0) := ha 0 _ rfl
  have f1 : s 1 = .v (i64 k) := ha 1 _ rfl
  clear ha
  have hc : True := trivial
  have F := (And.intro f0 (And.intro f1 hG))
  refine AW.seq ?_
  refine AW.region (cfg := cfg) ?_
  refine stp (fun _ h => s0 h) ?_
  refine aops_nil ?_
  refine AW.seq ?_
  refine AW.seq ?_
  refine AW.region (cfg := cfg) ?_
  refine stp (fun _ h => s0 h) ?_
  refine stp (fun _ h => cs (w := good_mayO _) (x := h)) ?_
  refine stp (fun _ h => s0 h) ?_
  refine aops_nil ?_
  refine cnd (fun hb => ?ht1) (fun hb => ?hf1)
  case ht1 =>
    have hw10 := hb
    try simp only [bo1, bo2, bo3, bo4, bo5, bo6] at hb
    have hbt10 := hb
    refine AW.seq ?_
    refine AW.seq ?_
    refine AW.region (cfg := cfg) ?_
    iterate 2 refine stp (fun _ h => s0 h) ?_
    refine aops_nil ?_
    refine cnd (fun hb => ?ht2) (fun hb => ?hf2)
    case hf2 => simp at hb
    case ht2 =>
    have hbt12 := hb
    refine AW.region (cfg := cfg) ?_
    refine stp (fun _ h => s0 h) ?_
    refine stp (fun _ h => sd h) ?_
    refine stp (fun _ h => sx h) ?_
    refine stp0 (fun _ h => ss h) ?_
    refine aops_nil ?_
    refine AW.seq ?_
    refine AW.region (cfg := cfg) ?_
    refine stp (fun _ h => s0 h) ?_
    refine aops_nil ?_
    refine AW.ret ?_
    refine ⟨.inr rfl, ?_⟩
    all_goals (have hw : mayW k = false := (by simpa using hbt10); obtain ⟨e1, e2, e3⟩ := rn_no (nil := nil) (l := l) (w := w) hw; rw [e1, e2, e3]; refine leavesN (leaves_tmp1 4 rfl (by simp (disch := first | omega | decide) only [go_sem, F, aIndex_map] <;> rfl) (by rfl)))
  case hf1 =>
    have hw10 := hb
    try simp only [bo1, bo2, bo3, bo4, bo5, bo6] at hb
    have hbt10 := hb
    refine AW.skip ?_
    refine AW.seq ?_
    refine AW.region (cfg := cfg) ?_
    refine stp (fun _ h => s0 h) ?_
    refine aops_nil ?_
    refine AW.seq ?_
    refine AW.seq ?_
    have hw : mayW k = true := by simpa using hbt10
    have hw2 := mayW_range hw
    have hkl := tkV_length l w k
    refine AW.region (cfg := cfg) ?_
    iterate 2 refine stp (fun _ h => s0 h) ?_
    refine stp (fun _ h => cg (w := good_take nil l w (by omega) hz _ (by omega)) (x := h)) ?_
    refine stp (fun _ h => sd h) ?_
    refine stp (fun _ h => s0 h) ?_
    refine aops_nil ?_
    refine AW.block ?_
    refine AW.forN (fun j σ => ∃ s m, σ = ⟨31, s, m⟩ ∧ s 5 = .v (.i .u64 (numV ((tkV l w k).take j))) ∧ s 18 = .v (.sl 1 (tkF nil l w k) (bsl (tkV l w k))) ∧ s 19 = .v (i64 ((tkV l w k).length : Int)) ∧ s 20 = .v (i64 (j : Int)) ∧ m.G = [[.sl 1 (nil) (bsl (tkL l w k)), .b (tkW l w k)]]) ((tkV l w k).length) ?_ ?_ ?_
    · refine ⟨_, _, rfl, ?_, ?_, ?_, ?_, (by rfl)⟩ <;> try simp (disch := first | omega | decide) only [go_sem, F, aIndex_map]
      all_goals rfl
    · clear F f0 f1 hG
      rintro j σ hj ⟨s, m, rfl, f5, f18, f19, f20, hG⟩
      have F := (And.intro f5 (And.intro f18 (And.intro f19 (And.intro f20 hG))))
      refine AW.seq ?_
      refine AW.region (cfg := cfg) ?_
      refine stp (fun _ h => s0 h) ?_
      refine aops_nil ?_
      refine AW.seq ?_
      refine cnd (fun hb => ?ht3) (fun hb => ?hf3)
      case hf3 => (simp at hb; omega)
      case ht3 =>
      have hbt21 := hb
      refine AW.skip ?_
      refine AW.seq ?_
      refine AW.block ?_
      refine AW.seq ?_
      refine AW.region (cfg := cfg) ?_
      refine stp (fun _ h => si h) ?_
      refine stp (fun _ h => sl h) ?_
      refine stp (fun _ h => s0 h) ?_
      refine aops_nil ?_
      have hv := numV_lt (b := (tkV l w k).take j) (by simp; omega)
      refine AW.region (cfg := cfg) ?_
      refine stp (fun _ h => s0 h) ?_
      refine stp (fun _ h => sd h) ?_
      refine stp (fun _ h => s0 h) ?_
      iterate 2 refine stp (fun _ h => sd h) ?_
      refine stp (fun _ h => s0 h) ?_
      refine aops_nil ?_
      refine AW.region (cfg := cfg) ?_
      refine stp (fun _ h => sd h) ?_
      refine stp (fun _ h => s0 h) ?_
      refine aops_nil ?_
      refine ⟨_, _, rfl, ?_, ?_, ?_, ?_, (by exact hG)⟩ <;> try simp (disch := first | omega | decide) only [go_sem, F, aIndex_map]
      all_goals first | rfl | (rw [numV_take hj]; done)
    · clear F f0 f1 hG
      rintro σ ⟨s, m, rfl, f5, f18, f19, f20, hG⟩
      have F := (And.intro f5 (And.intro f18 (And.intro f19 (And.intro f20 hG))))
      refine AW.seq ?_
      refine AW.region (cfg := cfg) ?_
      refine stp (fun _ h => s0 h) ?_
      refine aops_nil ?_
      refine AW.seq ?_
      refine cnd (fun hb => ?ht4) (fun hb => ?hf4)
      case ht4 => (simp at hb; done)
      case hf4 =>
      have hbt21 := hb
      refine AW.exit ?_
      refine AW.seq ?_
      refine AW.region (cfg := cfg) ?_
      iterate 2 refine stp (fun _ h => s0 h) ?_
      refine aops_nil ?_
      refine AW.ret ?_
      refine ⟨.inr rfl, ?_⟩
      all_goals (obtain ⟨e1, e2, e3⟩ := rn_is (l := l) (w := w) hw; rw [e1, e2, e3]; refine leavesN (leaves_tmp1 4 rfl (by simp (disch := first | omega | decide) only [go_sem, F, aIndex_map] <;> rfl) (by exact hG)))
theorem tx_w {nil : Bool} (l : List (BitVec 8)) : txF nil l true = true ∧ txV l true = [] ∧ txL l true = l ∧ txW l true = true := by simp [txF, txV, txL, txW]
theorem tx_bad {nil : Bool} {l : List (BitVec 8)} (h : tkW (rnL l false 2) (rnW l false 2) (rnV l false 2) = true) : txF nil l false = true ∧ txV l false = [] ∧ txL l false = l ∧ txW l false = true := by simp [txF, txV, txL, txW, h]
theorem tx_ok {nil : Bool} {l : List (BitVec 8)} (h : tkW (rnL l false 2) (rnW l false 2) (rnV l false 2) = false) : txF nil l false = tkF nil (rnL l false 2) (rnW l false 2) (rnV l false 2) ∧ txV l false = tkV (rnL l false 2) (rnW l false 2) (rnV l false 2) ∧ txL l false = tkL (rnL l false 2) (rnW l false 2) (rnV l false 2) ∧ txW l false = tkW (rnL l false 2) (rnW l false 2) (rnV l false 2) := by
  refine ⟨?_, by simp [txV, txW, h], by simp [txL, txW, h], by simp [txW]⟩
  cases hr : rnW l false 2 with
  | true => simp [tkW, hr] at h
  | false =>
    simp [tkW, hr] at h
    have : ¬ rnV l false 2 > ((rnL l false 2).length : Int) := by omega
    simp [txF, txW, tkW, tkF, hr, this]
theorem good_TextR (nil : Bool) (l : List (BitVec 8)) (w : Bool) (hl : l.length ≤ 140737488355000) (hz : nil = true → l = []) : Good Tryz.prog 105 [(.gp 0 0, false)] [[.sl 1 (nil) (bsl (l)), .b (w)]] [(.sl 1 (txF nil l w) (bsl (txV l w)), false)] [[.sl 1 (nil) (bsl (txL l w)), .b (txW l w)]] := by
  refine good_of_body3 32 Tryz.func105 rfl rfl rfl (by simp) ?_
  intro s m ha hr hv hG
  have f0 : s 0 = .v (.gp 0 0) := ha 0 _ rfl
  clear ha
  have hc : True := trivial
  have F := (And.intro f0 hG)
  refine AW.seq ?_
  refine AW.region (cfg := cfg) ?_
  refine stp (fun _ h => s0 h) ?_
  refine aops_nil ?_
  refine AW.seq ?_
  refine AW.seq ?_
  refine AW.region (cfg := cfg) ?_
  iterate 4 refine stp (fun _ h => s0 h) ?_
  refine stp (fun _ h => sd h) ?_
  refine stp (fun _ h => sx h) ?_
  refine stp (fun _ h => sl h) ?_
  refine stp (fun _ h => s0 h) ?_
  refine aops_nil ?_
  refine cnd (fun hb => ?ht1) (fun hb => ?hf1)
  case ht1 =>
    have hw12 := hb
    try simp only [bo1, bo2, bo3, bo4, bo5, bo6] at hb
    have hbt12 := hb
    refine AW.seq ?_
    refine AW.region (cfg := cfg) ?_
    refine stp (fun _ h => s0 h) ?_
    refine aops_nil ?_
    refine AW.ret ?_
    refine ⟨.inr rfl, ?_⟩
    all_goals skip
    all_goals (obtain rfl : w = true := (by simpa using hbt12); obtain ⟨e1, e2, e3, e4⟩ := tx_w (nil := nil) l; rw [e1, e2, e3, e4]; refine ⟨_, nilEq_nil (nilEq_refl _), leaves_frz1 2 rfl (by simp (disch := first | omega | decide) only [go_sem, F, aIndex_map] <;> rfl) (by simp (disch := first | omega | decide) only [go_sem, F, aIndex_map] <;> rfl) rfl (by exact hG)⟩)
  case hf1 =>
    have hw12 := hb
    try simp only [bo1, bo2, bo3, bo4, bo5, bo6] at hb
    have hbt12 := hb
    refine AW.skip ?_
    refine AW.seq ?_
    refine AW.region (cfg := cfg) ?_
    refine stp (fun _ h => s0 h) ?_
    refine stp (fun _ h => sd h) ?_
    refine stp (fun _ h => sx h) ?_
    refine stp (fun _ h => sl h) ?_
    refine stp (fun _ h => s0 h) ?_
    refine aops_nil ?_
    refine AW.seq ?_
    obtain rfl : w = false := by simpa using hbt12
    have v2 := rnV_range2 l false
    have ll := rnL_len l false 2
    have lz : nil = true → rnL l false 2 = [] := fun h => rnL_nil (hz h) _ _
    refine AW.region (cfg := cfg) ?_
    iterate 2 refine stp (fun _ h => s0 h) ?_
    refine stp (fun _ h => cg (w := good_NumR nil l false (by omega) hz 2) (x := h)) ?_
    refine stp (fun _ h => sd h) ?_
    refine stp (fun _ h => cg (w := good_take nil (rnL l false 2) (rnW l false 2) (by omega) lz _ (by omega)) (x := h)) ?_
    refine stp (fun _ h => s0 h) ?_
    refine aops_nil ?_
    refine AW.seq ?_
    refine AW.seq ?_
    refine AW.region (cfg := cfg) ?_
    refine stp (fun _ h => s0 h) ?_
    refine stp (fun _ h => sd h) ?_
    refine stp (fun _ h => sx h) ?_
    refine stp (fun _ h => sl h) ?_
    refine aops_nil ?_
    refine cnd (fun hb => ?ht2) (fun hb => ?hf2)
    case ht2 =>
      have hw25 := hb
      try simp only [bo1, bo2, bo3, bo4, bo5, bo6] at hb
      have hbt25 := hb
      refine AW.seq ?_
      refine AW.region (cfg := cfg) ?_
      iterate 2 refine stp (fun _ h => s0 h) ?_
      refine stp (fun _ h => sd h) ?_
      refine stp (fun _ h => sx h) ?_
      refine stp0 (fun _ h => ss h) ?_
      refine aops_nil ?_
      refine AW.seq ?_
      refine AW.region (cfg := cfg) ?_
      refine stp (fun _ h => s0 h) ?_
      refine aops_nil ?_
      refine AW.ret ?_
      refine ⟨.inr rfl, ?_⟩
      all_goals skip
      all_goals (have z : tkW (rnL l false 2) (rnW l false 2) (rnV l false 2) = true := hbt25; obtain ⟨e1, e2, e3, e4⟩ := tx_bad (nil := nil) z; rw [e1, e2, e3, e4]; try rw [z] at *; refine ⟨_, nilEq_nil (nilEq_refl _), leaves_frz1 2 rfl (by simp (disch := first | omega | decide) only [go_sem, F, aIndex_map] <;> rfl) (by simp (disch := first | omega | decide) only [go_sem, F, aIndex_map] <;> rfl) rfl (by rfl)⟩)
    case hf2 =>
      have hw25 := hb
      try simp only [bo1, bo2, bo3, bo4, bo5, bo6] at hb
      have hbt25 := hb
      refine AW.skip ?_
      refine AW.seq ?_
      refine AW.region (cfg := cfg) ?_
      refine stp (fun _ h => s0 h) ?_
      refine stp (fun _ h => co1 (w := good_Clone _ _ (by have := tkV_length (rnL l false 2) (rnW l false 2) (rnV l false 2); omega) (tkF_nil lz _ _)) (x := h)) ?_
      refine stp (fun _ h => st h) ?_
      refine aops_nil ?_
      refine AW.ret ?_
      refine ⟨.inr rfl, ?_⟩
      all_goals skip
      all_goals (have z : tkW (rnL l false 2) (rnW l false 2) (rnV l false 2) = false := hbt25; obtain ⟨e1, e2, e3, e4⟩ := tx_ok (nil := nil) z; rw [e1, e2, e3, e4]; refine leavesN (leaves_frz1 2 rfl (by simp (disch := first | omega | decide) only [go_sem, F, aIndex_map] <;> rfl) (by simp (disch := first | omega | decide) only [go_sem, F, aIndex_map] <;> rfl) (sub_full (by simp)) (by rfl)))
theorem txO_ok {t : List (BitVec 8)} (h : t.length ≤ 65535) : txO t = true := by simp [txO]; omega
theorem txR_ok {l t : List (BitVec 8)} (h : t.length ≤ 65535) : txR l t = l ++ (numR (t.length : Int) 2 ++ t) := by rw [txR, txO_ok h, if_pos rfl, numS2, List.append_assoc]
def nilS (l : List (BitVec 8)) (at_ : Nat) (w : Bool) : Bool := sBad l at_ w
end Go.Vai.O
namespace Go.Vai.Z
open Go.Proofs Go.Vai Go.Vai.O Go.Vai.U
set_option linter.unusedSimpArgs false
set_option linter.unusedVariables false
set_option maxHeartbeats 4000000
set_option maxRecDepth 100000
open Go.Vai.U (ofS refS pslice ref_of)
def ckB (x : BitVec 32) : List (BitVec 8) := [(x >>> 24).setWidth 8, (x >>> 16).setWidth 8, (x >>> 8).setWidth 8, x.setWidth 8]
def ckR (x : BitVec 32) : List (BitVec 8) := [(x / 16777216#32).setWidth 8, (x / 65536#32 % 256#32).setWidth 8, (x / 256#32 % 256#32).setWidth 8, (x % 256#32).setWidth 8]
@[simp] theorem ckB_len (x : BitVec 32) : (ckB x).length = 4 := rfl
@[simp] theorem ckR_len (x : BitVec 32) : (ckR x).length = 4 := rfl
def sealS (l : List (BitVec 8)) : List (BitVec 8) := l ++ ckB (refS l)
@[simp] theorem sealS_len (l : List (BitVec 8)) : (sealS l).length = l.length + 4 := by simp [sealS, ckB_len]
theorem cellsOf_psl (p : Bool × List (BitVec 8)) : cellsOf (pslice p) = [.sl 1 p.1 (bsl p.2)] := rfl
attribute [go_sem] Int.reduceToNat
theorem good_bytes (x : BitVec 32) : Good Tryz.prog 118 [(u32 x, false)] [] [(.sl 1 false (bsl (ckB x)), false)] [] := by
  refine good_of_body2 15 Tryz.func118 rfl rfl rfl (by simp) ?_
  intro s m ha hr hv hG
  have f0 : s 0 = .v (u32 x) := ha 0 _ rfl
  clear ha
  have hc : True := trivial
  have F := (And.intro f0 hG)
  refine AW.seq ?_
  refine AW.region (cfg := cfg) ?_
  refine stp (fun _ h => s0 h) ?_
  refine aops_nil ?_
  refine AW.seq ?_
  refine AW.region (cfg := cfg) ?_
  refine stp (fun _ h => s0 h) ?_
  iterate 2 refine stp (fun _ h => sd h) ?_
  refine stp (fun _ h => s0 h) ?_
  iterate 2 refine stp (fun _ h => sd h) ?_
  refine stp (fun _ h => s0 h) ?_
  iterate 2 refine stp (fun _ h => sd h) ?_
  refine stp (fun _ h => s0 h) ?_
  refine stp (fun _ h => sd h) ?_
  refine stp (fun _ h => sq h) ?_
  refine stp (fun _ h => st h) ?_
  refine aops_nil ?_
  refine AW.ret ?_
  refine ⟨.inr rfl, ?_⟩
  refine leaves_frz1 2 rfl (by simp (disch := first | omega | decide) only [go_sem, F, aIndex_map] <;> rfl) (by simp (disch := first | omega | decide) only [go_sem, F, aIndex_map] <;> rfl) (by simp [sub, ckB] <;> omega) (by exact hG)
theorem good_Equal (na nb : Bool) (a b : List (BitVec 8)) (ha : a.length ≤ 9223372036854775807) (hb : b.length ≤ 9223372036854775807) : Good Tryz.prog 130 [(.sl 1 na (bsl a), false), (.sl 1 nb (bsl b), false)] [] [(.b (decide (a = b)), false)] [] := by
  refine good_of_body2 26 Tryz.func130 rfl rfl rfl (by simp) ?_
  intro s m ha hr hv hG
  have f0 : s 0 = .v (.sl 1 na (bsl a)) := ha 0 _ rfl
  have f1 : s 1 = .v (.sl 1 nb (bsl b)) := ha 1 _ rfl
  clear ha
  have hc : True := trivial
  have F := (And.intro f0 (And.intro f1 hG))
  refine AW.seq ?_
  refine AW.region (cfg := cfg) ?_
  refine stp (fun _ h => s0 h) ?_
  refine aops_nil ?_
  refine AW.seq ?_
  refine AW.seq ?_
  refine AW.region (cfg := cfg) ?_
  refine stp (fun _ h => s0 h) ?_
  refine stp (fun _ h => sd h) ?_
  refine stp (fun _ h => s0 h) ?_
  refine stp (fun _ h => sd h) ?_
  refine stp (fun _ h => s0 h) ?_
  refine aops_nil ?_
  refine cnd (fun hb => ?ht1) (fun hb => ?hf1)
  case ht1 =>
    have hw10 := hb
    try simp only [bo1, bo2, bo3, bo4, bo5, bo6] at hb
    have hbt10 := hb
    refine AW.seq ?_
    refine AW.region (cfg := cfg) ?_
    refine stp (fun _ h => s0 h) ?_
    refine aops_nil ?_
    refine AW.ret ?_
    refine ⟨.inr rfl, ?_⟩
    refine leaves_tmp1 4 rfl ?_ (by exact hG)
    simp (disch := first | omega | decide) only [go_sem, F, aIndex_map]
    all_goals (rw [decide_eq_false (fun e => by subst e; simp at hb)]; done)
  case hf1 =>
    have hw10 := hb
    try simp only [bo1, bo2, bo3, bo4, bo5, bo6] at hb
    have hbt10 := hb
    refine AW.skip ?_
    refine AW.seq ?_
    refine AW.seq ?_
    refine AW.region (cfg := cfg) ?_
    refine stp (fun _ h => s0 h) ?_
    refine stp (fun _ h => sd h) ?_
    refine stp (fun _ h => s0 h) ?_
    refine aops_nil ?_
    refine AW.block ?_
    refine AW.forN (fun k σ => ∃ s m, σ = ⟨26, s, m⟩ ∧ s 0 = .v (.sl 1 na (bsl a)) ∧ s 1 = .v (.sl 1 nb (bsl b)) ∧ s 12 = .v (i64 (a.length : Int)) ∧ s 13 = .v (i64 (k : Int)) ∧ (a.length = b.length) ∧ (a.take k = b.take k) ∧ m.G = []) (a.length) ?_ ?_ ?_
    · refine ⟨_, _, rfl, ?_, ?_, ?_, ?_, ?_, ?_, (by exact hG)⟩ <;> try simp (disch := first | omega | decide) only [go_sem, F, aIndex_map]
      all_goals first | rfl | omega
    · clear F f0 f1 hG
      rintro k σ hk ⟨s, m, rfl, f0, f1, f12, f13, mo0, mo1, hG⟩
      have F := (And.intro f0 (And.intro f1 (And.intro f12 (And.intro f13 hG))))
      refine AW.seq ?_
      refine AW.region (cfg := cfg) ?_
      refine stp (fun _ h => s0 h) ?_
      refine aops_nil ?_
      refine AW.seq ?_
      refine cnd (fun hb => ?ht2) (fun hb => ?hf2)
      case hf2 => (simp at hb; omega)
      case ht2 =>
      have hbt14 := hb
      refine AW.skip ?_
      refine AW.seq ?_
      refine AW.block ?_
      refine AW.seq ?_
      refine AW.region (cfg := cfg) ?_
      iterate 2 refine stp (fun _ h => s0 h) ?_
      refine aops_nil ?_
      refine AW.seq ?_
      refine AW.draw (cfg := cfg) (by kernel_rfl) (by kernel_rfl) (by kernel_rfl) ?_
      iterate 2 refine dstp (fun _ h => s0 h) ?_
      refine dstp (fun _ h => si h) ?_
      refine dstp (fun _ h => sl h) ?_
      iterate 2 refine dstp (fun _ h => s0 h) ?_
      refine dstp (fun _ h => si h) ?_
      refine dstp (fun _ h => sl h) ?_
      refine dstp (fun _ h => s0 h) ?_
      refine adraw_nil (by kernel_rfl) ?_
      refine cnd (fun hb => ?ht3) (fun hb => ?hf3)
      case ht3 =>
        have hw24 := hb
        try simp only [bo1, bo2, bo3, bo4, bo5, bo6] at hb
        have hbt24 := hb
        refine AW.seq ?_
        refine AW.region (cfg := cfg) ?_
        refine stp (fun _ h => s0 h) ?_
        refine aops_nil ?_
        refine AW.ret ?_
        refine ⟨.inr rfl, ?_⟩
        refine leaves_tmp1 4 rfl ?_ (by exact hG)
        simp (disch := first | omega | decide) only [go_sem, F, aIndex_map]
        all_goals (rw [decide_eq_false (fun e => by subst e; simp at hb)]; done)
      case hf3 =>
        have hw24 := hb
        try simp only [bo1, bo2, bo3, bo4, bo5, bo6] at hb
        have hbt24 := hb
        refine AW.skip ?_
        refine AW.region (cfg := cfg) ?_
        refine stp (fun _ h => sd h) ?_
        refine stp (fun _ h => s0 h) ?_
        refine aops_nil ?_
        refine ⟨_, _, rfl, ?_, ?_, ?_, ?_, ?_, ?_, (by exact hG)⟩ <;> try simp (disch := first | omega | decide) only [go_sem, F, aIndex_map]
        all_goals first | rfl | assumption | skip
        all_goals (rw [List.take_succ_eq_append_getElem (by omega), List.take_succ_eq_append_getElem (by omega), mo1]; congr 2; apply BitVec.eq_of_toNat_eq; simp at hb; omega)
    · clear F f0 f1 hG
      rintro σ ⟨s, m, rfl, f0, f1, f12, f13, mo0, mo1, hG⟩
      have F := (And.intro f0 (And.intro f1 (And.intro f12 (And.intro f13 hG))))
      refine AW.seq ?_
      refine AW.region (cfg := cfg) ?_
      refine stp (fun _ h => s0 h) ?_
      refine aops_nil ?_
      refine AW.seq ?_
      refine cnd (fun hb => ?ht4) (fun hb => ?hf4)
      case ht4 => (simp at hb; done)
      case hf4 =>
      have hbt14 := hb
      refine AW.exit ?_
      refine AW.seq ?_
      refine AW.region (cfg := cfg) ?_
      refine stp (fun _ h => s0 h) ?_
      refine aops_nil ?_
      refine AW.ret ?_
      refine ⟨.inr rfl, ?_⟩
      refine leaves_tmp1 4 rfl ?_ (by exact hG)
      simp (disch := first | omega | decide) only [go_sem, F, aIndex_map]
      all_goals (rw [decide_eq_true (by rw [List.take_length, mo0, List.take_length] at mo1; exact mo1)]; done)
attribute [simp] noPtrL_bsl
attribute [go_sem] Int.sub_zero
theorem good_GrowBytes (n : Int) (hn : 0 ≤ n ∧ n ≤ 1000000) : Good Tryz.prog 134 [(.sl 0 true [], false), (i64 n, false)] [] [(.sl 1 (!decide (n > 0)) ([] : List AV), true)] [] := by
  refine good_of_body3 27 Tryz.func134 rfl rfl rfl (by simp) ?_
  intro s m ha hr hv hG
  have f0 : s 0 = .v (.sl 0 true []) := ha 0 _ rfl
  have f1 : s 1 = .v (i64 n) := ha 1 _ rfl
  clear ha
  have hc : True := trivial
  have F := (And.intro f0 (And.intro f1 hG))
  refine AW.seq ?_
  refine AW.region (cfg := cfg4) ?_
  refine stp (fun _ h => s0 h) ?_
  refine aops_nil ?_
  refine AW.seq ?_
  refine AW.seq ?_
  refine AW.region (cfg := cfg4) ?_
  iterate 2 refine stp (fun _ h => s0 h) ?_
  refine aops_nil ?_
  refine cnd (fun hb => ?ht1) (fun hb => ?hf1)
  case ht1 => (simp at hb; omega)
  case hf1 =>
  have hbt6 := hb
  refine AW.skip ?_
  refine AW.seq ?_
  refine AW.seq ?_
  refine AW.region (cfg := cfg4) ?_
  iterate 2 refine stp (fun _ h => s0 h) ?_
  refine stp (fun _ h => sd h) ?_
  refine stp (fun _ h => s0 h) ?_
  iterate 3 refine stp (fun _ h => sd h) ?_
  refine stp (fun _ h => s0 h) ?_
  refine aops_nil ?_
  refine AW.seq ?_
  refine AW.region (cfg := cfg4) ?_
  iterate 2 refine stp (fun _ h => s0 h) ?_
  refine aops_nil ?_
  refine cnd (fun hb => ?ht2) (fun hb => ?hf2)
  case ht2 =>
    have hw16 := hb
    try simp only [bo1, bo2, bo3, bo4, bo5, bo6] at hb
    have hbt16 := hb
    have er : (List.replicate n.toNat (AV.base (Value.int IntKind.u8 0))).isEmpty = false := by (cases hq : n.toNat with | zero => omega | succ q => simp [List.replicate_succ])
    have F := And.intro er F
    refine AW.region (cfg := cfg4) ?_
    iterate 2 refine stp (fun _ h => s0 h) ?_
    iterate 2 refine stp (fun _ h => sd h) ?_
    refine stp (fun _ h => s0 h) ?_
    refine stp (fun _ h => kaz h) ?_
    refine stp (fun _ h => s0 h) ?_
    refine stp (fun _ h => sd h) ?_
    refine stp (fun _ h => sz h) ?_
    refine stp (fun _ h => st h) ?_
    refine aops_nil ?_
    refine AW.seq ?_
    refine AW.region (cfg := cfg4) ?_
    refine stp (fun _ h => s0 h) ?_
    refine stp (fun _ h => sm h) ?_
    refine aops_nil ?_
    refine AW.ret ?_
    refine ⟨.inr rfl, ?_⟩
    (have e0 : (!decide (n > 0)) = false := (by simp; omega); rw [e0]; refine leavesN (leaves_own1 4 rfl (by simp (disch := first | omega | decide) only [go_sem, F, aIndex_map] <;> rfl) (by simp (disch := first | omega | decide) only [go_sem, F, aIndex_map] <;> rfl) (by decide) (by simp [sub]) (by exact hG)))
  case hf2 =>
    have hw16 := hb
    try simp only [bo1, bo2, bo3, bo4, bo5, bo6] at hb
    have hbt16 := hb
    refine AW.skip ?_
    refine AW.seq ?_
    refine AW.region (cfg := cfg4) ?_
    refine stp (fun _ h => s0 h) ?_
    refine stp (fun _ h => sm h) ?_
    refine aops_nil ?_
    refine AW.ret ?_
    refine ⟨.inr rfl, ?_⟩
    (have e0 : (!decide (n > 0)) = true := (by simp; omega); rw [e0]; refine ⟨_, nilEq_nil (s := 0) (nilEq_refl _), ?_⟩; refine leaves_mwp2 (rs := [.tmp 4]) rfl ?_; simp [giveL, srcOne, upd, giveOne, readL, readOne, Mwp, M.bind, opn, hG])
def psBytes (p : Bool × List (BitVec 8)) : AV := .sl 1 p.1 (p.2.map u8)
theorem cellsOf_psBytes (p : Bool × List (BitVec 8)) : cellsOf (psBytes p) = [.sl 1 p.1 (p.2.map u8)] := rfl
def catBytes (ps : List (Bool × List (BitVec 8))) : List (BitVec 8) := ps.flatMap (·.2)
theorem catBytes_succ {ps : List (Bool × List (BitVec 8))} {k : Nat} (h : k < ps.length) : catBytes (ps.take (k + 1)) = catBytes (ps.take k) ++ ps[k].2 := by
  rw [List.take_succ_eq_append_getElem h]; simp only [catBytes, List.flatMap_append, List.flatMap_cons, List.flatMap_nil, List.append_nil]
theorem catBytes_le {ps : List (Bool × List (BitVec 8))} (k : Nat) : (catBytes (ps.take k)).length ≤ (catBytes ps).length := by
  have : catBytes ps = catBytes (ps.take k) ++ catBytes (ps.drop k) := by rw [catBytes, catBytes, catBytes, ← List.flatMap_append, List.take_append_drop]
  rw [this, List.length_append]; omega
theorem catBytes_get {ps : List (Bool × List (BitVec 8))} {k : Nat} (h : k < ps.length) : (ps[k].2).length ≤ (catBytes ps).length := by
  have h1 := catBytes_le (ps := ps) (k + 1)
  rw [catBytes_succ h, List.length_append] at h1; omega
theorem catBytes_flag {ps : List (Bool × List (BitVec 8))} {b : List (BitVec 8)} (h : b.length ≤ (catBytes ps).length) : (!decide (((catBytes ps).length : Int) > 0) && (b.map u8).isEmpty) = !decide (((catBytes ps).length : Int) > 0) := by
  cases hd : decide (((catBytes ps).length : Int) > 0) with
  | true => rfl
  | false =>
    have : b.length = 0 := by have := of_decide_eq_false hd; omega
    rw [List.eq_nil_of_length_eq_zero this]; rfl
@[simp] theorem noPtr_psBytes (p : Bool × List (BitVec 8)) : noPtr (psBytes p) = true := by simp [psBytes, noPtr]
@[simp] theorem noPtrL_psBytes (l : List (Bool × List (BitVec 8))) : noPtrL (l.map psBytes) = true := noPtrL_map noPtr_psBytes _
attribute [go_sem] cellsOf_psBytes
theorem good_ConcatBytes (np : Bool) (ps : List (Bool × List (BitVec 8))) (hl : ps.length ≤ 1000000) (hc0 : (catBytes ps).length ≤ 1000000) : Good Tryz.prog 117 [(.sl 1 np (ps.map psBytes), false)] [] [(.sl 1 (!decide (((catBytes ps).length : Int) > 0)) ((catBytes ps).map u8), true)] [] := by
  refine good_of_body2 36 Tryz.func117 rfl rfl rfl (by simp) ?_
  intro s m ha hr hv hG
  have f0 : s 0 = .v (.sl 1 np (ps.map psBytes)) := ha 0 _ rfl
  clear ha
  have hc : True := trivial
  have F := (And.intro f0 hG)
  refine AW.seq ?_
  refine AW.region (cfg := cfg2) ?_
  refine stp (fun _ h => s0 h) ?_
  refine aops_nil ?_
  refine AW.seq ?_
  refine AW.region (cfg := cfg2) ?_
  refine stp (fun _ h => s0 h) ?_
  refine aops_nil ?_
  refine AW.seq ?_
  refine AW.seq ?_
  refine AW.region (cfg := cfg2) ?_
  refine stp (fun _ h => s0 h) ?_
  refine stp (fun _ h => sd h) ?_
  refine stp (fun _ h => s0 h) ?_
  refine aops_nil ?_
  refine AW.block ?_
  refine AW.forN (fun k σ => ∃ s m, σ = ⟨36, s, m⟩ ∧ s 3 = .v (i64 ((catBytes (ps.take k)).length : Int)) ∧ s 9 = .v (.sl 1 np (ps.map psBytes)) ∧ s 10 = .v (i64 (ps.length : Int)) ∧ s 11 = .v (i64 (k : Int)) ∧ s 0 = .v (.sl 1 np (ps.map psBytes)) ∧ (∀ i, (m.objs (.res i)).2 = .dead) ∧ m.G = []) (ps.length) ?_ ?_ ?_
  · refine ⟨_, _, rfl, ?_, ?_, ?_, ?_, ?_, (by intro i; simp [Mem.set, hr]), (by exact hG)⟩ <;> try simp (disch := first | omega | decide) only [go_sem, F, aIndex_map]
    all_goals rfl
  · clear F f0 hr hG
    rintro k σ hk ⟨s, m, rfl, f3, f9, f10, f11, f0, hr, hG⟩
    have F := (And.intro f3 (And.intro f9 (And.intro f10 (And.intro f11 (And.intro f0 hG)))))
    refine AW.seq ?_
    refine AW.region (cfg := cfg2) ?_
    refine stp (fun _ h => s0 h) ?_
    refine aops_nil ?_
    refine AW.seq ?_
    refine cnd (fun hb => ?ht1) (fun hb => ?hf1)
    case hf1 => (simp at hb; omega)
    case ht1 =>
    have hbt12 := hb
    refine AW.skip ?_
    refine AW.seq ?_
    refine AW.block ?_
    refine AW.seq ?_
    refine AW.region (cfg := cfg2) ?_
    refine stp (fun _ h => si h) ?_
    refine stp (fun _ h => sl h) ?_
    refine stp (fun _ h => s0 h) ?_
    refine aops_nil ?_
    refine AW.seq ?_
    have hkp : k < ps.length := by assumption
    have hg := catBytes_get hkp
    have hle := catBytes_le (ps := ps) k
    have hle2 := catBytes_le (ps := ps) (k + 1)
    have hcs := catBytes_succ hkp
    refine AW.region (cfg := cfg2) ?_
    iterate 2 refine stp (fun _ h => s0 h) ?_
    iterate 2 refine stp (fun _ h => sd h) ?_
    refine stp (fun _ h => s0 h) ?_
    refine aops_nil ?_
    refine AW.seq ?_
    refine AW.region (cfg := cfg2) ?_
    iterate 2 refine stp (fun _ h => s0 h) ?_
    refine aops_nil ?_
    refine cnd (fun hb => ?ht2) (fun hb => ?hf2)
    case ht2 => (simp at hb; omega)
    case hf2 =>
    have hbt20 := hb
    refine AW.skip ?_
    refine AW.region (cfg := cfg2) ?_
    refine stp (fun _ h => sd h) ?_
    refine stp (fun _ h => s0 h) ?_
    refine aops_nil ?_
    refine ⟨_, _, rfl, ?_, ?_, ?_, ?_, ?_, (by intro i; simp [Mem.set, hr]), (by exact hG)⟩ <;> try simp (disch := first | omega | decide) only [go_sem, F, aIndex_map]
    all_goals first | rfl | (rw [catBytes_succ hkp]; simp; done)
  · clear F f0 hr hG
    rintro σ ⟨s, m, rfl, f3, f9, f10, f11, f0, hr, hG⟩
    have F := (And.intro f3 (And.intro f9 (And.intro f10 (And.intro f11 (And.intro f0 hG)))))
    refine AW.seq ?_
    refine AW.region (cfg := cfg2) ?_
    refine stp (fun _ h => s0 h) ?_
    refine aops_nil ?_
    refine AW.seq ?_
    refine cnd (fun hb => ?ht3) (fun hb => ?hf3)
    case ht3 => (simp at hb; done)
    case hf3 =>
    have hbt12 := hb
    refine AW.exit ?_
    refine AW.seq ?_
    have e9 : catBytes (ps.take ps.length) = catBytes ps := by rw [List.take_length]
    have F := And.intro e9 F
    refine AW.region (cfg := cfg2) ?_
    refine stp (fun _ h => s0 h) ?_
    refine stp (fun _ h => co1 (w := good_GrowBytes _ (by omega)) (x := h)) ?_
    refine stp (fun _ h => st h) ?_
    refine aops_nil ?_
    refine AW.seq ?_
    refine AW.seq ?_
    refine AW.region (cfg := cfg2) ?_
    refine stp (fun _ h => s0 h) ?_
    refine stp (fun _ h => sd h) ?_
    refine stp (fun _ h => s0 h) ?_
    refine aops_nil ?_
    refine AW.block ?_
    refine AW.forN (fun k σ => ∃ s m, σ = ⟨36, s, m⟩ ∧ s 6 = .own (.var 6) (m.objs (.var 6)).1 0 ((catBytes (ps.take k)).length) ∧ (m.objs (.var 6)).2 = .arr (!decide (((catBytes ps).length : Int) > 0)) 1 ((catBytes (ps.take k)).map u8) ∧ s 25 = .v (.sl 1 np (ps.map psBytes)) ∧ s 26 = .v (i64 (ps.length : Int)) ∧ s 27 = .v (i64 (k : Int)) ∧ (∀ i, (m.objs (.res i)).2 = .dead) ∧ m.G = []) (ps.length) ?_ ?_ ?_
    · refine ⟨_, _, rfl, ?_, ?_, ?_, ?_, ?_, (by intro i; simp [Mem.set, hr]), (by exact hG)⟩ <;> try simp (disch := first | omega | decide) only [go_sem, F, aIndex_map]
      all_goals rfl
    · clear F f3 f9 f10 f11 f0 hr hG
      rintro k σ hk ⟨s, m, rfl, f6, o6, f25, f26, f27, hr, hG⟩
      obtain ⟨g6, o6⟩ : ∃ g, m.objs (.var 6) = (g, .arr (!decide (((catBytes ps).length : Int) > 0)) 1 ((catBytes (ps.take k)).map u8)) := ⟨_, Prod.ext rfl o6⟩
      rw [o6] at f6
      have F := (And.intro f6 (And.intro f25 (And.intro f26 (And.intro f27 (And.intro o6 (And.intro e9 hG))))))
      refine AW.seq ?_
      refine AW.region (cfg := cfg2) ?_
      refine stp (fun _ h => s0 h) ?_
      refine aops_nil ?_
      refine AW.seq ?_
      refine cnd (fun hb => ?ht4) (fun hb => ?hf4)
      case hf4 => (simp at hb; omega)
      case ht4 =>
      have hbt28 := hb
      refine AW.skip ?_
      refine AW.seq ?_
      refine AW.block ?_
      refine AW.seq ?_
      refine AW.region (cfg := cfg2) ?_
      refine stp (fun _ h => si h) ?_
      refine stp (fun _ h => sl h) ?_
      refine stp (fun _ h => s0 h) ?_
      refine aops_nil ?_
      have hkp : k < ps.length := by assumption
      have hg := catBytes_get hkp
      have hle := catBytes_le (ps := ps) k
      have hle2 := catBytes_le (ps := ps) (k + 1)
      have hcs := catBytes_succ hkp
      have hcl : (catBytes (ps.take k)).length + (ps[k].2).length ≤ 1000000 := by (rw [hcs, List.length_append] at hle2; omega)
      refine AW.region (cfg := cfg2) ?_
      iterate 2 refine stp (fun _ h => s0 h) ?_
      refine stp (fun _ h => sp h) ?_
      refine stp (fun _ h => st h) ?_
      refine aops_nil ?_
      refine AW.region (cfg := cfg2) ?_
      refine stp (fun _ h => sd h) ?_
      refine stp (fun _ h => s0 h) ?_
      refine aops_nil ?_
      refine ⟨_, _, rfl, ?_, ?_, ?_, ?_, ?_, (by intro i; simp [Mem.set, hr]), (by exact hG)⟩ <;> try simp (disch := first | omega | decide) only [go_sem, F, aIndex_map]
      all_goals first | rfl | (rw [catBytes_succ hkp]; simp; done) | (rw [catBytes_flag hg, catBytes_succ hkp]; done)
    · clear F f3 f9 f10 f11 f0 hr hG
      rintro σ ⟨s, m, rfl, f6, o6, f25, f26, f27, hr, hG⟩
      obtain ⟨g6, o6⟩ : ∃ g, m.objs (.var 6) = (g, .arr (!decide (((catBytes ps).length : Int) > 0)) 1 ((catBytes (ps.take ps.length)).map u8)) := ⟨_, Prod.ext rfl o6⟩
      rw [o6] at f6
      have F := (And.intro f6 (And.intro f25 (And.intro f26 (And.intro f27 (And.intro o6 (And.intro e9 hG))))))
      refine AW.seq ?_
      refine AW.region (cfg := cfg2) ?_
      refine stp (fun _ h => s0 h) ?_
      refine aops_nil ?_
      refine AW.seq ?_
      refine cnd (fun hb => ?ht5) (fun hb => ?hf5)
      case ht5 => (simp at hb; done)
      case hf5 =>
      have hbt28 := hb
      refine AW.exit ?_
      refine AW.seq ?_
      refine AW.region (cfg := cfg2) ?_
      refine stp (fun _ h => s0 h) ?_
      refine stp (fun _ h => sm h) ?_
      refine aops_nil ?_
      refine AW.ret ?_
      refine ⟨.inr rfl, ?_⟩
      have e9 : catBytes (ps.take ps.length) = catBytes ps := by rw [List.take_length]
      refine leaves_own1 2 rfl (by simp (disch := first | omega | decide) only [go_sem, F, aIndex_map] <;> rfl) (by simp (disch := first | omega | decide) only [go_sem, F, aIndex_map] <;> rfl) (by decide) (by simp [sub, List.take_of_length_le]) (by exact hG)
end Go.Vai.Z
