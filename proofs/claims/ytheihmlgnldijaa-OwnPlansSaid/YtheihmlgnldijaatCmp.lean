import Derived.Test.YtheihmlgnldijaatCfg
namespace Go.Vai.N
open Go.Proofs Go.Vai
set_option linter.unusedSimpArgs false
set_option linter.unusedVariables false
set_option maxHeartbeats 4000000
set_option maxRecDepth 100000
attribute [go_sem] ne_eq not_true_eq_false
theorem good_isNaN (a : Int) : Good Try.prog 62 [(i64 a, false)] [] [(.b false, false)] [] := by
  refine good_of_body2 6 Try.func62 rfl rfl rfl (by simp) ?_
  intro s m ha hr hv hG
  have f0 : s 0 = .v (i64 a) := ha 0 _ rfl
  clear ha
  have hc : True := trivial
  have F := (And.intro f0 hG)
  refine AW.seq ?_
  refine AW.region (cfg := cfg) ?_
  refine stp (fun _ h => s0 h) ?_
  refine aops_nil ?_
  refine AW.seq ?_
  refine AW.region (cfg := cfg) ?_
  iterate 4 refine stp (fun _ h => s0 h) ?_
  refine aops_nil ?_
  refine AW.ret ?_
  refine ⟨.inr rfl, ?_⟩
  refine leaves_tmp1 2 rfl ?_ (by exact hG)
  simp (disch := first | omega | decide) only [go_sem, F, aIndex_map]
  all_goals (simp; done)
theorem good_cmpInt (a b : Int) : Good Try.prog 56 [(i64 a, false), (i64 b, false)] [] [(i64 (cmpI a b), false)] [] := by
  refine good_of_body2 20 Try.func56 rfl rfl rfl (by simp) ?_
  intro s m ha hr hv hG
  have f0 : s 0 = .v (i64 a) := ha 0 _ rfl
  have f1 : s 1 = .v (i64 b) := ha 1 _ rfl
  clear ha
  have hc : True := trivial
  have F := (And.intro f0 (And.intro f1 hG))
  refine AW.seq ?_
  refine AW.region (cfg := cfg) ?_
  refine stp (fun _ h => s0 h) ?_
  refine aops_nil ?_
  refine AW.seq ?_
  refine AW.region (cfg := cfg) ?_
  refine stp (fun _ h => s0 h) ?_
  refine stp (fun _ h => cs (w := good_isNaN _) (x := h)) ?_
  refine stp (fun _ h => s0 h) ?_
  refine aops_nil ?_
  refine AW.seq ?_
  refine AW.region (cfg := cfg) ?_
  refine stp (fun _ h => s0 h) ?_
  refine stp (fun _ h => cs (w := good_isNaN _) (x := h)) ?_
  refine stp (fun _ h => s0 h) ?_
  refine aops_nil ?_
  refine AW.seq ?_
  refine AW.seq ?_
  refine AW.region (cfg := cfg) ?_
  refine stp (fun _ h => s0 h) ?_
  refine aops_nil ?_
  refine cnd (fun hb => ?ht1) (fun hb => ?hf1)
  case ht1 => (simp at hb; done)
  case hf1 =>
  have hbt11 := hb
  refine AW.skip ?_
  refine AW.seq ?_
  refine AW.seq ?_
  refine AW.region (cfg := cfg) ?_
  refine stp (fun _ h => s0 h) ?_
  refine aops_nil ?_
  refine cnd (fun hb => ?ht2) (fun hb => ?hf2)
  case ht2 => (simp at hb; done)
  case hf2 =>
  have hbt13 := hb
  refine AW.skip ?_
  refine AW.seq ?_
  refine AW.seq ?_
  refine AW.region (cfg := cfg) ?_
  iterate 3 refine stp (fun _ h => s0 h) ?_
  refine aops_nil ?_
  refine cnd (fun hb => ?ht3) (fun hb => ?hf3)
  case ht3 =>
    have hw16 := hb
    try simp only [bo1, bo2, bo3, bo4, bo5, bo6] at hb
    have hbt16 := hb
    refine AW.seq ?_
    refine AW.region (cfg := cfg) ?_
    refine stp (fun _ h => s0 h) ?_
    refine aops_nil ?_
    refine AW.ret ?_
    refine ⟨.inr rfl, ?_⟩
    refine leaves_tmp1 4 rfl ?_ (by exact hG)
    simp (disch := first | omega | decide) only [go_sem, F, aIndex_map]
    all_goals (simp only [cmpI]; split <;> (try split) <;> rfl)
  case hf3 =>
    have hw16 := hb
    try simp only [bo1, bo2, bo3, bo4, bo5, bo6] at hb
    have hbt16 := hb
    refine AW.skip ?_
    refine AW.seq ?_
    refine AW.seq ?_
    refine AW.region (cfg := cfg) ?_
    iterate 3 refine stp (fun _ h => s0 h) ?_
    refine aops_nil ?_
    refine cnd (fun hb => ?ht4) (fun hb => ?hf4)
    case ht4 =>
      have hw19 := hb
      try simp only [bo1, bo2, bo3, bo4, bo5, bo6] at hb
      have hbt19 := hb
      refine AW.seq ?_
      refine AW.region (cfg := cfg) ?_
      refine stp (fun _ h => s0 h) ?_
      refine aops_nil ?_
      refine AW.ret ?_
      refine ⟨.inr rfl, ?_⟩
      refine leaves_tmp1 4 rfl ?_ (by exact hG)
      simp (disch := first | omega | decide) only [go_sem, F, aIndex_map]
      all_goals (simp only [cmpI]; split <;> (try split) <;> first | rfl | omega)
    case hf4 =>
      have hw19 := hb
      try simp only [bo1, bo2, bo3, bo4, bo5, bo6] at hb
      have hbt19 := hb
      refine AW.skip ?_
      refine AW.seq ?_
      refine AW.region (cfg := cfg) ?_
      refine stp (fun _ h => s0 h) ?_
      refine aops_nil ?_
      refine AW.ret ?_
      refine ⟨.inr rfl, ?_⟩
      refine leaves_tmp1 4 rfl ?_ (by exact hG)
      simp (disch := first | omega | decide) only [go_sem, F, aIndex_map]
      all_goals (simp only [cmpI]; split <;> (try split) <;> first | rfl | omega)
end Go.Vai.N
