import Derived.Test.YtheihmlgnldijaatTab
namespace Go.Vai.T
open Go.Proofs Go.Vai Go.Vai.N
set_option linter.unusedSimpArgs false
set_option linter.unusedVariables false
set_option maxHeartbeats 4000000
set_option maxRecDepth 100000
def chN : Int → List Nr → Bool
  | _, [] => true
  | last, x :: r => (!bad x && decide (last < x.of)) && chN x.of r
def tabOK (l : List Nr) : Bool := chN 0 l && decide ((l.length : Int) ≤ 16)
def tabE (l : List Nr) : Int := if tabOK l then 0 else 1
theorem ch_drop {last : Int} {ls : List Nr} {k : Nat} (h : k < ls.length) : chN last (ls.drop k) = ((!bad ls[k] && decide (last < ls[k].of)) && chN ls[k].of (ls.drop (k + 1))) := by
  rw [List.drop_eq_getElem_cons h]; rfl
theorem ch_end {last : Int} {ls : List Nr} : chN last (ls.drop ls.length) = true := by simp [chN]
theorem ch_no {ls : List Nr} {last : Int} {k : Nat} (h : chN 0 ls = chN last (ls.drop k)) (hk : k < ls.length) (h2 : chk ls[k] ≠ 0 ∨ ls[k].of ≤ last) : tabE ls = 1 := by
  have e : (!bad ls[k] && decide (last < ls[k].of)) = false := by
    rcases h2 with h2 | h2
    · rw [chk_1 h2]; rfl
    · rw [decide_eq_false (by omega), Bool.and_false]
  rw [tabE, tabOK, h, ch_drop hk, e]; simp
theorem ch_go {ls : List Nr} {last : Int} {k : Nat} (h : chN 0 ls = chN last (ls.drop k)) (hk : k < ls.length) (h2 : ¬ chk ls[k] ≠ 0 ∧ ¬ ls[k].of ≤ last) : chN 0 ls = chN ls[k].of (ls.drop (k + 1)) := by
  rw [h, ch_drop hk, chk_0 (Decidable.not_not.1 h2.1), decide_eq_true (by omega)]; rfl
theorem tab_big {ls : List Nr} (h : (ls.length : Int) > 16) : tabE ls = 1 := by
  rw [tabE, tabOK, decide_eq_false (by omega), Bool.and_false]; rfl
theorem tab_ok {ls : List Nr} {last : Int} (h : chN 0 ls = chN last (ls.drop ls.length)) (h2 : ¬ (ls.length : Int) > 16) : tabE ls = 0 := by
  rw [tabE, tabOK, h, ch_end, decide_eq_true (by omega)]; rfl
theorem tab_0 {ls : List Nr} (h : ¬ tabE ls ≠ 0) : tabOK ls = true := by
  cases e : tabOK ls with
  | true => rfl
  | false => rw [tabE, e] at h; simp at h
theorem tab_1 {ls : List Nr} (h : tabE ls ≠ 0) : tabOK ls = false := by
  cases e : tabOK ls with
  | false => rfl
  | true => rw [tabE, e] at h; simp at h
theorem good_CheckT (nil : Bool) (l : List Nr) (hl : l.length ≤ 9223372036854775807) : Good Try.prog 24 [(.sl 8 nil (l.map nrA), false)] [] [(i64 (tabE l), false)] [] := by
  refine good_of_body2 27 Try.func24 rfl rfl rfl (by simp) ?_
  intro s m ha hr hv hG
  have f0 : s 0 = .v (.sl 8 nil (l.map nrA)) := ha 0 _ rfl
  clear ha
  have hc : True := trivial
  have F := (And.intro f0 hG)
  refine AW.seq ?_
  refine AW.region (cfg := cfg) ?_
  refine stp (fun _ h => s0 h) ?_
  refine aops_nil ?_
  refine AW.seq ?_
  refine AW.region (cfg := cfg) ?_
  refine stp (fun _ h => s0 h) ?_
  refine aops_nil ?_
  refine AW.seq ?_
  refine AW.seq ?_
  refine AW.region (cfg := cfg) ?_
  refine stp (fun _ h => s0 h) ?_
  refine stp (fun _ h => sd h) ?_
  refine stp (fun _ h => s0 h) ?_
  refine aops_nil ?_
  refine AW.block ?_
  refine AW.forN (fun k σ => ∃ s m last, σ = ⟨27, s, m⟩ ∧ s 0 = .v (.sl 8 nil (l.map nrA)) ∧ s 3 = .v (i64 last) ∧ s 6 = .v (.sl 8 nil (l.map nrA)) ∧ s 7 = .v (i64 (l.length : Int)) ∧ s 8 = .v (i64 (k : Int)) ∧ (chN 0 l = chN last (l.drop k)) ∧ (∀ i, (m.objs (.res i)).2 = .dead) ∧ m.G = []) (l.length) ?_ ?_ ?_
  · refine ⟨_, _, 0, rfl, ?_, ?_, ?_, ?_, ?_, ?_, (by intro i; simp [Mem.set, hr]), (by exact hG)⟩ <;> try simp (disch := first | omega | decide) only [go_sem, F, aIndex_map]
    all_goals rfl
  · clear F f0 hr hG
    rintro k σ hk ⟨s, m, last, rfl, f0, f3, f6, f7, f8, mo0, hr, hG⟩
    have F := (And.intro f0 (And.intro f3 (And.intro f6 (And.intro f7 (And.intro f8 hG)))))
    refine AW.seq ?_
    refine AW.region (cfg := cfg) ?_
    refine stp (fun _ h => s0 h) ?_
    refine aops_nil ?_
    refine AW.seq ?_
    refine cnd (fun hb => ?ht1) (fun hb => ?hf1)
    case hf1 => (simp at hb; omega)
    case ht1 =>
    have hbt9 := hb
    refine AW.skip ?_
    refine AW.seq ?_
    refine AW.block ?_
    refine AW.seq ?_
    refine AW.region (cfg := cfg) ?_
    refine stp (fun _ h => si h) ?_
    refine stp (fun _ h => sl h) ?_
    refine stp (fun _ h => sd h) ?_
    refine stp0 (fun _ h => ss h) ?_
    refine aops_nil ?_
    refine AW.seq ?_
    refine AW.seq ?_
    refine AW.region (cfg := cfg) ?_
    refine stp (fun _ h => sl h) ?_
    refine stp (fun _ h => cs (w := good_chkN _) (x := h)) ?_
    iterate 2 refine stp (fun _ h => s0 h) ?_
    refine mrg wa (fun hc _ h => sx h) ?_
    refine mrg wa (fun hc _ h => sl h) ?_
    iterate 2 refine mrg wa (fun hc _ h => s0 h) ?_
    refine stp (fun _ h => s0 h) ?_
    refine aops_nil ?_
    refine cnd (fun hb => ?ht2) (fun hb => ?hf2)
    case ht2 =>
      have hw20 := hb
      try simp only [bo1, bo2, bo3, bo4, bo5, bo6] at hb
      have hbt20 := hb
      refine AW.seq ?_
      refine AW.region (cfg := cfg) ?_
      refine stp (fun _ h => s0 h) ?_
      refine aops_nil ?_
      refine AW.ret ?_
      refine ⟨.inr rfl, ?_⟩
      refine leaves_tmp1 2 rfl ?_ (by exact hG)
      simp (disch := first | omega | decide) only [go_sem, F, aIndex_map]
      all_goals (rw [ch_no mo0 hk hb]; done)
    case hf2 =>
      have hw20 := hb
      try simp only [bo1, bo2, bo3, bo4, bo5, bo6] at hb
      have hbt20 := hb
      refine AW.skip ?_
      refine AW.region (cfg := cfg) ?_
      refine stp (fun _ h => sx h) ?_
      refine stp (fun _ h => sl h) ?_
      refine stp (fun _ h => s0 h) ?_
      refine aops_nil ?_
      refine AW.region (cfg := cfg) ?_
      refine stp (fun _ h => sd h) ?_
      refine stp (fun _ h => s0 h) ?_
      refine aops_nil ?_
      refine ⟨_, _, l[k].of, rfl, ?_, ?_, ?_, ?_, ?_, ?_, (by intro i; simp [Mem.set, hr]), (by exact hG)⟩ <;> try simp (disch := first | omega | decide) only [go_sem, F, aIndex_map]
      all_goals first | rfl | exact ch_go mo0 hk hb
  · clear F f0 hr hG
    rintro σ ⟨s, m, last, rfl, f0, f3, f6, f7, f8, mo0, hr, hG⟩
    have F := (And.intro f0 (And.intro f3 (And.intro f6 (And.intro f7 (And.intro f8 hG)))))
    refine AW.seq ?_
    refine AW.region (cfg := cfg) ?_
    refine stp (fun _ h => s0 h) ?_
    refine aops_nil ?_
    refine AW.seq ?_
    refine cnd (fun hb => ?ht3) (fun hb => ?hf3)
    case ht3 => (simp at hb; done)
    case hf3 =>
    have hbt9 := hb
    refine AW.exit ?_
    refine AW.seq ?_
    refine AW.seq ?_
    refine AW.region (cfg := cfg) ?_
    refine stp (fun _ h => s0 h) ?_
    refine stp (fun _ h => sd h) ?_
    refine stp (fun _ h => s0 h) ?_
    refine aops_nil ?_
    refine cnd (fun hb => ?ht4) (fun hb => ?hf4)
    case ht4 =>
      have hw26 := hb
      try simp only [bo1, bo2, bo3, bo4, bo5, bo6] at hb
      have hbt26 := hb
      refine AW.seq ?_
      refine AW.region (cfg := cfg) ?_
      refine stp (fun _ h => s0 h) ?_
      refine aops_nil ?_
      refine AW.ret ?_
      refine ⟨.inr rfl, ?_⟩
      refine leaves_tmp1 2 rfl ?_ (by exact hG)
      simp (disch := first | omega | decide) only [go_sem, F, aIndex_map]
      all_goals (rw [tab_big hb]; done)
    case hf4 =>
      have hw26 := hb
      try simp only [bo1, bo2, bo3, bo4, bo5, bo6] at hb
      have hbt26 := hb
      refine AW.skip ?_
      refine AW.seq ?_
      refine AW.region (cfg := cfg) ?_
      refine stp (fun _ h => s0 h) ?_
      refine aops_nil ?_
      refine AW.ret ?_
      refine ⟨.inr rfl, ?_⟩
      refine leaves_tmp1 2 rfl ?_ (by exact hG)
      simp (disch := first | omega | decide) only [go_sem, F, aIndex_map]
      all_goals (rw [tab_ok mo0 hb]; done)
end Go.Vai.T
