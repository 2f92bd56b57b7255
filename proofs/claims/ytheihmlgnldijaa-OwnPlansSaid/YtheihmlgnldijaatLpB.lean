import Derived.Test.YtheihmlgnldijaatLpA
namespace Go.Vai.L
open Go.Proofs Go.Vai Go.Vai.O
set_option linter.unusedSimpArgs false
set_option linter.unusedVariables false
set_option maxHeartbeats 4000000
set_option maxRecDepth 100000
theorem good_EqualLink (na nb : Bool) (a b : List LinkS) (ha : a.length ≤ 9223372036854775807) (hb : b.length ≤ 9223372036854775807) : Good Try.prog 27 [(.sl 2 na (a.map linkA), false), (.sl 2 nb (b.map linkA), false)] [] [(.b (decide (a = b)), false)] [] := by
  refine good_of_body2 26 Try.func27 rfl rfl rfl (by simp) ?_
  intro s m ha hr hv hG
  have f0 : s 0 = .v (.sl 2 na (a.map linkA)) := ha 0 _ rfl
  have f1 : s 1 = .v (.sl 2 nb (b.map linkA)) := ha 1 _ rfl
  clear ha
  have hc : True := trivial
  have F := (And.intro f0 (And.intro f1 hG))
  refine AW.seq ?_
  refine AW.region (cfg := cfg) ?_
  refine stp (fun _ h => s0 h) ?_
  refine aops_nil ?_
  refine AW.seq ?_
  refine AW.seq ?_
  refine AW.region (cfg := cfg) ?_
  refine stp (fun _ h => s0 h) ?_
  refine stp (fun _ h => sd h) ?_
  refine stp (fun _ h => s0 h) ?_
  refine stp (fun _ h => sd h) ?_
  refine stp (fun _ h => s0 h) ?_
  refine aops_nil ?_
  refine cnd (fun hb => ?ht1) (fun hb => ?hf1)
  case ht1 =>
    have hw10 := hb
    try simp only [bo1, bo2, bo3, bo4, bo5, bo6] at hb
    have hbt10 := hb
    refine AW.seq ?_
    refine AW.region (cfg := cfg) ?_
    refine stp (fun _ h => s0 h) ?_
    refine aops_nil ?_
    refine AW.ret ?_
    refine ⟨.inr rfl, ?_⟩
    refine leaves_tmp1 4 rfl ?_ (by exact hG)
    simp (disch := first | omega | decide) only [go_sem, F, aIndex_map]
    all_goals (rw [decide_eq_false (fun e => by have := congrArg List.length e; omega)]; done)
  case hf1 =>
    have hw10 := hb
    try simp only [bo1, bo2, bo3, bo4, bo5, bo6] at hb
    have hbt10 := hb
    refine AW.skip ?_
    refine AW.seq ?_
    refine AW.seq ?_
    refine AW.region (cfg := cfg) ?_
    refine stp (fun _ h => s0 h) ?_
    refine stp (fun _ h => sd h) ?_
    refine stp (fun _ h => s0 h) ?_
    refine aops_nil ?_
    refine AW.block ?_
    refine AW.forN (fun k σ => ∃ s m, σ = ⟨26, s, m⟩ ∧ s 0 = .v (.sl 2 na (a.map linkA)) ∧ s 1 = .v (.sl 2 nb (b.map linkA)) ∧ s 12 = .v (i64 (a.length : Int)) ∧ s 13 = .v (i64 (k : Int)) ∧ (a.length = b.length) ∧ (a.take k = b.take k) ∧ m.G = []) (a.length) ?_ ?_ ?_
    · refine ⟨_, _, rfl, ?_, ?_, ?_, ?_, ?_, ?_, (by exact hG)⟩ <;> try simp (disch := first | omega | decide) only [go_sem, F, aIndex_map]
      all_goals first | rfl | omega
    · clear F f0 f1 hG
      rintro k σ hk ⟨s, m, rfl, f0, f1, f12, f13, mo0, mo1, hG⟩
      have F := (And.intro f0 (And.intro f1 (And.intro f12 (And.intro f13 hG))))
      refine AW.seq ?_
      refine AW.region (cfg := cfg) ?_
      refine stp (fun _ h => s0 h) ?_
      refine aops_nil ?_
      refine AW.seq ?_
      refine cnd (fun hb => ?ht2) (fun hb => ?hf2)
      case hf2 => (simp at hb; omega)
      case ht2 =>
      have hbt14 := hb
      refine AW.skip ?_
      refine AW.seq ?_
      refine AW.block ?_
      refine AW.seq ?_
      refine AW.region (cfg := cfg) ?_
      iterate 2 refine stp (fun _ h => s0 h) ?_
      refine aops_nil ?_
      refine AW.seq ?_
      refine AW.draw (cfg := cfg) (by kernel_rfl) (by kernel_rfl) (by kernel_rfl) ?_
      iterate 2 refine dstp (fun _ h => s0 h) ?_
      refine dstp (fun _ h => si h) ?_
      refine dstp (fun _ h => sl h) ?_
      iterate 2 refine dstp (fun _ h => s0 h) ?_
      refine dstp (fun _ h => si h) ?_
      refine dstp (fun _ h => sl h) ?_
      refine dstp (fun _ h => s0 h) ?_
      refine adraw_nil (by kernel_rfl) ?_
      refine cnd (fun hb => ?ht3) (fun hb => ?hf3)
      case ht3 =>
        have hw24 := hb
        try simp only [bo1, bo2, bo3, bo4, bo5, bo6] at hb
        have hbt24 := hb
        refine AW.seq ?_
        refine AW.region (cfg := cfg) ?_
        refine stp (fun _ h => s0 h) ?_
        refine aops_nil ?_
        refine AW.ret ?_
        refine ⟨.inr rfl, ?_⟩
        refine leaves_tmp1 4 rfl ?_ (by exact hG)
        simp (disch := first | omega | decide) only [go_sem, F, aIndex_map]
        all_goals (rw [decide_eq_false (fun e => by subst e; exact link_ne hb rfl)]; done)
      case hf3 =>
        have hw24 := hb
        try simp only [bo1, bo2, bo3, bo4, bo5, bo6] at hb
        have hbt24 := hb
        refine AW.skip ?_
        refine AW.region (cfg := cfg) ?_
        refine stp (fun _ h => sd h) ?_
        refine stp (fun _ h => s0 h) ?_
        refine aops_nil ?_
        refine ⟨_, _, rfl, ?_, ?_, ?_, ?_, ?_, ?_, (by exact hG)⟩ <;> try simp (disch := first | omega | decide) only [go_sem, F, aIndex_map]
        all_goals first | rfl | assumption | skip
        all_goals (rw [List.take_succ_eq_append_getElem (by omega), List.take_succ_eq_append_getElem (by omega), mo1]; congr 2; exact link_eq hb)
    · clear F f0 f1 hG
      rintro σ ⟨s, m, rfl, f0, f1, f12, f13, mo0, mo1, hG⟩
      have F := (And.intro f0 (And.intro f1 (And.intro f12 (And.intro f13 hG))))
      refine AW.seq ?_
      refine AW.region (cfg := cfg) ?_
      refine stp (fun _ h => s0 h) ?_
      refine aops_nil ?_
      refine AW.seq ?_
      refine cnd (fun hb => ?ht4) (fun hb => ?hf4)
      case ht4 => (simp at hb; done)
      case hf4 =>
      have hbt14 := hb
      refine AW.exit ?_
      refine AW.seq ?_
      refine AW.region (cfg := cfg) ?_
      refine stp (fun _ h => s0 h) ?_
      refine aops_nil ?_
      refine AW.ret ?_
      refine ⟨.inr rfl, ?_⟩
      refine leaves_tmp1 4 rfl ?_ (by exact hG)
      simp (disch := first | omega | decide) only [go_sem, F, aIndex_map]
      all_goals (rw [decide_eq_true (by rw [List.take_length, mo0, List.take_length] at mo1; exact mo1)]; done)
theorem good_CloneLink (nil : Bool) (l : List LinkS) (hl : l.length ≤ 8796093022208) (hz : nil = true → l = []) : Good Try.prog 57 [(.sl 2 nil (l.map linkA), false)] [] [(.sl 2 nil (l.map linkA), true)] [] := by
  refine good_of_body3 8 Try.func57 rfl rfl rfl (by simp) ?_
  intro s m ha hr hv hG
  have f0 : s 0 = .v (.sl 2 nil (l.map linkA)) := ha 0 _ rfl
  clear ha
  have hc : True := trivial
  have F := (And.intro f0 hG)
  refine AW.seq ?_
  refine AW.region (cfg := cfg) ?_
  refine stp (fun _ h => s0 h) ?_
  refine aops_nil ?_
  refine AW.seq ?_
  refine AW.seq ?_
  refine AW.region (cfg := cfg) ?_
  iterate 2 refine stp (fun _ h => s0 h) ?_
  refine aops_nil ?_
  refine cnd (fun hb => ?ht1) (fun hb => ?hf1)
  case ht1 =>
    have hw4 := hb
    try simp only [bo1, bo2, bo3, bo4, bo5, bo6] at hb
    have hbt4 := hb
    refine AW.seq ?_
    refine AW.region (cfg := cfg) ?_
    refine stp (fun _ h => s0 h) ?_
    refine aops_nil ?_
    refine AW.ret ?_
    refine ⟨.inr rfl, ?_⟩
    (obtain rfl : nil = true := (by simpa using hb); obtain rfl := hz rfl; refine ⟨_, nilEq_nil (nilEq_refl _), leaves_own1 2 rfl (by simp (disch := first | omega | decide) only [go_sem, F, aIndex_map] <;> rfl) (by simp (disch := first | omega | decide) only [go_sem, F, aIndex_map] <;> rfl) (by decide) (by simp [sub, List.take_of_length_le]) (by exact hG)⟩)
  case hf1 =>
    have hw4 := hb
    try simp only [bo1, bo2, bo3, bo4, bo5, bo6] at hb
    have hbt4 := hb
    refine AW.skip ?_
    refine AW.seq ?_
    refine AW.region (cfg := cfg) ?_
    refine stp (fun _ h => sq h) ?_
    refine stp (fun _ h => s0 h) ?_
    refine stp (fun _ h => sp h) ?_
    refine stp (fun _ h => st h) ?_
    refine aops_nil ?_
    refine AW.ret ?_
    refine ⟨.inr rfl, ?_⟩
    (obtain rfl : nil = false := (by simpa using hb); refine leavesN (leaves_own1 2 rfl (by simp (disch := first | omega | decide) only [go_sem, F, aIndex_map] <;> rfl) (by simp (disch := first | omega | decide) only [go_sem, F, aIndex_map] <;> rfl) (by decide) (by simp [sub, List.take_of_length_le]) (by exact hG)))
end Go.Vai.L
