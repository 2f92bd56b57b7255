import Derived.Test.YtbnpnljlfnaheaapIt3
import Derived.Test.YtbnpnljlfnaheaapIt4
namespace Go.Vai.IT
open Go.Proofs Go.Vai Go.Vai.I Go.Vai.N
set_option linter.unusedSimpArgs false
set_option linter.unusedVariables false
set_option maxHeartbeats 4000000
set_option maxRecDepth 100000
theorem good_wrong1 (x : It) : Good Try.prog 55 [(itA x, false)] [] [(.b (!it1 x), false)] [] := by
  refine good_of_body2 7 Try.func55 rfl rfl rfl (by simp) ?_
  intro s m ha hr hv hG
  have f0 : s 0 = .v (.agg [i64 x.o, i64 x.s]) := ha 0 _ rfl
  clear ha
  have hc : True := trivial
  have F := (And.intro f0 hG)
  refine AW.seq ?_
  refine AW.region (cfg := cfg) ?_
  refine stp (fun _ h => sb h) ?_
  refine stp (fun _ h => s0 h) ?_
  refine aops_nil ?_
  refine AW.seq ?_
  refine AW.region (cfg := cfg) ?_
  refine stp (fun _ h => sl h) ?_
  refine stp (fun _ h => sq h) ?_
  refine stp (fun _ h => cs (w := good_ItCheck false [x] (by simp)) (x := h)) ?_
  iterate 2 refine stp (fun _ h => s0 h) ?_
  refine aops_nil ?_
  refine AW.ret ?_
  refine ⟨.inr rfl, ?_⟩
  refine leaves_tmp1 2 rfl ?_ (by exact hG)
  simp (disch := first | omega | decide) only [go_sem, F, aIndex_map]
  all_goals (rw [itE_dec, it1_eq]; done)
theorem good_wrong (nil : Bool) (l : List It) (hl : l.length ≤ 1000000) (nx : Bool) (x : List It) (hx : x.length ≤ 1000000) : Good Try.prog 30 [(.sl 2 nil (l.map itA), false), (.sl 2 nx (x.map itA), false)] [] [(.b (!(itOK l && x.all it1)), false)] [] := by
  refine good_of_body2 12 Try.func30 rfl rfl rfl (by simp) ?_
  intro s m ha hr hv hG
  have f0 : s 0 = .v (.sl 2 nil (l.map itA)) := ha 0 _ rfl
  have f1 : s 1 = .v (.sl 2 nx (x.map itA)) := ha 1 _ rfl
  clear ha
  have hc : True := trivial
  have F := (And.intro f0 (And.intro f1 hG))
  refine AW.seq ?_
  refine AW.region (cfg := cfg) ?_
  refine stp (fun _ h => s0 h) ?_
  refine aops_nil ?_
  refine AW.seq ?_
  refine AW.region (cfg := cfg) ?_
  refine stp (fun _ h => s0 h) ?_
  refine stp (fun _ h => cs (w := good_ItCheck nil l (by omega)) (x := h)) ?_
  iterate 2 refine stp (fun _ h => s0 h) ?_
  refine mrg wa (fun hc _ h => s0 h) ?_
  refine mrg wa (fun hc _ h => cs (w := good_ContainsFuncIt nx x 55 [] (fun y => !it1 y) (by omega) rfl rfl rfl rfl (fun y _ => good_wrong1 y)) (x := h)) ?_
  iterate 2 refine stp (fun _ h => s0 h) ?_
  refine aops_nil ?_
  refine AW.ret ?_
  refine ⟨.inr rfl, ?_⟩
  refine leaves_tmp1 4 rfl ?_ (by exact hG)
  simp (disch := first | omega | decide) only [go_sem, F, aIndex_map]
  all_goals (rw [itE_dec, List.all_eq_not_any_not]; simp; done)
theorem good_May20 (nil : Bool) (l : List It) (hl : l.length ≤ 1000000) (nx : Bool) (x : List It) (hx : x.length ≤ 1000000) : Good Try.prog 7 [(.sl 2 nil (l.map itA), false), (.sl 2 nx (x.map itA), false)] [] [(.b (itOK l && x.all it1), false)] [] := by
  refine good_of_body2 21 Try.func7 rfl rfl rfl (by simp) ?_
  intro s m ha hr hv hG
  have f0 : s 0 = .v (.sl 2 nil (l.map itA)) := ha 0 _ rfl
  have f1 : s 1 = .v (.sl 2 nx (x.map itA)) := ha 1 _ rfl
  clear ha
  have hc : True := trivial
  have F := (And.intro f0 (And.intro f1 hG))
  refine AW.seq ?_
  refine AW.region (cfg := cfg) ?_
  refine stp (fun _ h => s0 h) ?_
  refine aops_nil ?_
  refine AW.seq ?_
  refine AW.seq ?_
  refine AW.region (cfg := cfg) ?_
  refine stp (fun _ h => s0 h) ?_
  refine aops_nil ?_
  refine AW.block ?_
  refine AW.forN (fun k σ => ∃ s m, σ = ⟨21, s, m⟩ ∧ s 0 = .v (.sl 2 nil (l.map itA)) ∧ s 1 = .v (.sl 2 nx (x.map itA)) ∧ s 5 = .v (i64 (k : Int)) ∧ ((x.take k).all it1 = true) ∧ (∀ i, (m.objs (.res i)).2 = .dead) ∧ m.G = []) (x.length) ?_ ?_ ?_
  · refine ⟨_, _, rfl, ?_, ?_, ?_, ?_, (by intro i; simp [Mem.set, hr]), (by exact hG)⟩ <;> try simp (disch := first | omega | decide) only [go_sem, F, aIndex_map]
    all_goals rfl
  · clear F f0 f1 hr hG
    rintro k σ hk ⟨s, m, rfl, f0, f1, f5, mo0, hr, hG⟩
    have F := (And.intro f0 (And.intro f1 (And.intro f5 hG)))
    refine AW.seq ?_
    refine AW.seq ?_
    refine AW.region (cfg := cfg) ?_
    iterate 2 refine stp (fun _ h => s0 h) ?_
    refine stp (fun _ h => sd h) ?_
    refine stp (fun _ h => s0 h) ?_
    refine aops_nil ?_
    refine cnd (fun hb => ?ht1) (fun hb => ?hf1)
    case hf1 => (simp at hb; omega)
    case ht1 =>
    have hbt9 := hb
    refine AW.skip ?_
    refine AW.seq ?_
    refine AW.block ?_
    refine AW.seq ?_
    have hcut := cut1 (x := x) (by assumption)
    have F := And.intro hcut F
    refine AW.region (cfg := cfg) ?_
    iterate 3 refine stp (fun _ h => s0 h) ?_
    iterate 2 refine stp (fun _ h => sd h) ?_
    refine stp (fun _ h => cs (w := good_RItems nx [x[k]] (by simp)) (x := h)) ?_
    refine stp (fun _ h => s0 h) ?_
    refine aops_nil ?_
    refine cnd (fun hb => ?ht2) (fun hb => ?hf2)
    case ht2 =>
      have hw18 := hb
      try simp only [bo1, bo2, bo3, bo4, bo5, bo6] at hb
      have hbt18 := hb
      refine AW.seq ?_
      refine AW.region (cfg := cfg) ?_
      refine stp (fun _ h => s0 h) ?_
      refine aops_nil ?_
      refine AW.ret ?_
      refine ⟨.inr rfl, ?_⟩
      refine leaves_tmp1 4 rfl ?_ (by exact hG)
      simp (disch := first | omega | decide) only [go_sem, F, aIndex_map]
      all_goals (rw [all_at (f := it1) hk (by rw [← it1_eq]; exact hw18), Bool.and_false]; done)
    case hf2 =>
      have hw18 := hb
      try simp only [bo1, bo2, bo3, bo4, bo5, bo6] at hb
      have hbt18 := hb
      refine AW.skip ?_
      refine AW.region (cfg := cfg) ?_
      refine stp (fun _ h => s0 h) ?_
      refine stp (fun _ h => sd h) ?_
      refine stp (fun _ h => s0 h) ?_
      refine aops_nil ?_
      refine ⟨_, _, rfl, ?_, ?_, ?_, ?_, (by intro i; simp [Mem.set, hr]), (by exact hG)⟩ <;> try simp (disch := first | omega | decide) only [go_sem, F, aIndex_map]
      all_goals first | rfl | (exact all_step hk mo0 (by rw [← it1_eq]; exact hw18))
  · clear F f0 f1 hr hG
    rintro σ ⟨s, m, rfl, f0, f1, f5, mo0, hr, hG⟩
    have F := (And.intro f0 (And.intro f1 (And.intro f5 hG)))
    refine AW.seq ?_
    refine AW.seq ?_
    refine AW.region (cfg := cfg) ?_
    iterate 2 refine stp (fun _ h => s0 h) ?_
    refine stp (fun _ h => sd h) ?_
    refine stp (fun _ h => s0 h) ?_
    refine aops_nil ?_
    refine cnd (fun hb => ?ht3) (fun hb => ?hf3)
    case ht3 => (simp at hb; done)
    case hf3 =>
    have hbt9 := hb
    refine AW.exit ?_
    refine AW.seq ?_
    refine AW.region (cfg := cfg) ?_
    refine stp (fun _ h => s0 h) ?_
    refine stp (fun _ h => cs (w := good_RItems nil l (by omega)) (x := h)) ?_
    refine stp (fun _ h => s0 h) ?_
    refine aops_nil ?_
    refine AW.ret ?_
    refine ⟨.inr rfl, ?_⟩
    refine leaves_tmp1 4 rfl ?_ (by exact hG)
    simp (disch := first | omega | decide) only [go_sem, F, aIndex_map]
    all_goals (rw [all_end mo0, Bool.and_true]; done)
end Go.Vai.IT
