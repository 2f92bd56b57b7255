import Derived.Test.YtkekchbnaidmnaaqDb7
namespace Go.Vai.DB
open Go.Proofs Go.Vai Go.Vai.D Go.Vai.I Go.Vai.L Go.Vai.N Go.Vai.O
set_option linter.unusedSimpArgs false
set_option linter.unusedVariables false
set_option maxHeartbeats 4000000
set_option maxRecDepth 100000
theorem sameI_eq {x y : It} (h : (!(decide (x.o = y.o) && decide (x.s = y.s))) = false) : x = y := by
  obtain ⟨_, _⟩ := x
  obtain ⟨_, _⟩ := y
  simpa using h
theorem sameI_ne {x y : It} (h : (!(decide (x.o = y.o) && decide (x.s = y.s))) = true) : x ≠ y := by
  rintro rfl
  simp at h
theorem good_sameI (na nb : Bool) (a b : List It) (ha : a.length ≤ 1000000) (hb : b.length ≤ 1000000) : Good Try.prog 10 [(.sl 2 na (a.map itA), false), (.sl 2 nb (b.map itA), false)] [] [(.b (decide (a = b)), false)] [] := by
  refine good_of_body2 26 Try.func10 rfl rfl rfl (by simp) ?_
  intro s m ha hr hv hG
  have f0 : s 0 = .v (.sl 2 na (a.map itA)) := ha 0 _ rfl
  have f1 : s 1 = .v (.sl 2 nb (b.map itA)) := ha 1 _ rfl
  clear ha
  have hc : True := trivial
  have F := (And.intro f0 (And.intro f1 hG))
  refine AW.seq ?_
  refine AW.region (cfg := cfg) ?_
  refine stp (fun _ h => s0 h) ?_
  refine aops_nil ?_
  refine AW.seq ?_
  refine AW.seq ?_
  refine AW.region (cfg := cfg) ?_
  refine stp (fun _ h => s0 h) ?_
  refine stp (fun _ h => sd h) ?_
  refine stp (fun _ h => s0 h) ?_
  refine stp (fun _ h => sd h) ?_
  refine stp (fun _ h => s0 h) ?_
  refine aops_nil ?_
  refine cnd (fun hb => ?ht1) (fun hb => ?hf1)
  case ht1 =>
    have hw10 := hb
    try simp only [bo1, bo2, bo3, bo4, bo5, bo6] at hb
    have hbt10 := hb
    refine AW.seq ?_
    refine AW.region (cfg := cfg) ?_
    refine stp (fun _ h => s0 h) ?_
    refine aops_nil ?_
    refine AW.ret ?_
    refine ⟨.inr rfl, ?_⟩
    refine leaves_tmp1 4 rfl ?_ (by exact hG)
    simp (disch := first | omega | decide) only [go_sem, F, aIndex_map]
    all_goals (rw [decide_eq_false (fun e => by have := congrArg List.length e; omega)]; done)
  case hf1 =>
    have hw10 := hb
    try simp only [bo1, bo2, bo3, bo4, bo5, bo6] at hb
    have hbt10 := hb
    refine AW.skip ?_
    refine AW.seq ?_
    refine AW.seq ?_
    refine AW.region (cfg := cfg) ?_
    refine stp (fun _ h => s0 h) ?_
    refine aops_nil ?_
    refine AW.block ?_
    refine AW.forN (fun k σ => ∃ s m, σ = ⟨26, s, m⟩ ∧ s 0 = .v (.sl 2 na (a.map itA)) ∧ s 1 = .v (.sl 2 nb (b.map itA)) ∧ s 5 = .v (i64 (k : Int)) ∧ (a.length = b.length) ∧ (a.take k = b.take k) ∧ (∀ i, (m.objs (.res i)).2 = .dead) ∧ m.G = []) (a.length) ?_ ?_ ?_
    · refine ⟨_, _, rfl, ?_, ?_, ?_, ?_, ?_, (by intro i; simp [Mem.set, hr]), (by exact hG)⟩ <;> try simp (disch := first | omega | decide) only [go_sem, F, aIndex_map]
      all_goals first | rfl | omega
    · clear F f0 f1 hr hG
      rintro k σ hk ⟨s, m, rfl, f0, f1, f5, mo0, mo1, hr, hG⟩
      have F := (And.intro f0 (And.intro f1 (And.intro f5 hG)))
      refine AW.seq ?_
      refine AW.seq ?_
      refine AW.region (cfg := cfg) ?_
      iterate 2 refine stp (fun _ h => s0 h) ?_
      refine stp (fun _ h => sd h) ?_
      refine stp (fun _ h => s0 h) ?_
      refine aops_nil ?_
      refine cnd (fun hb => ?ht2) (fun hb => ?hf2)
      case hf2 => (simp at hb; omega)
      case ht2 =>
      have hbt14 := hb
      refine AW.skip ?_
      refine AW.seq ?_
      refine AW.block ?_
      refine AW.seq ?_
      refine AW.draw (cfg := cfg) (by kernel_rfl) (by kernel_rfl) (by kernel_rfl) ?_
      iterate 2 refine dstp (fun _ h => s0 h) ?_
      refine dstp (fun _ h => si h) ?_
      refine dstp (fun _ h => sl h) ?_
      iterate 2 refine dstp (fun _ h => s0 h) ?_
      refine dstp (fun _ h => si h) ?_
      refine dstp (fun _ h => sl h) ?_
      refine dstp (fun _ h => s0 h) ?_
      refine adraw_nil (by kernel_rfl) ?_
      refine cnd (fun hb => ?ht3) (fun hb => ?hf3)
      case ht3 =>
        have hw25 := hb
        try simp only [bo1, bo2, bo3, bo4, bo5, bo6] at hb
        have hbt25 := hb
        refine AW.seq ?_
        refine AW.region (cfg := cfg) ?_
        refine stp (fun _ h => s0 h) ?_
        refine aops_nil ?_
        refine AW.ret ?_
        refine ⟨.inr rfl, ?_⟩
        refine leaves_tmp1 4 rfl ?_ (by exact hG)
        simp (disch := first | omega | decide) only [go_sem, F, aIndex_map]
        all_goals (rw [decide_eq_false (fun e => by subst e; exact sameI_ne hb rfl)]; done)
      case hf3 =>
        have hw25 := hb
        try simp only [bo1, bo2, bo3, bo4, bo5, bo6] at hb
        have hbt25 := hb
        refine AW.skip ?_
        refine AW.region (cfg := cfg) ?_
        refine stp (fun _ h => s0 h) ?_
        refine stp (fun _ h => sd h) ?_
        refine stp (fun _ h => s0 h) ?_
        refine aops_nil ?_
        refine ⟨_, _, rfl, ?_, ?_, ?_, ?_, ?_, (by intro i; simp [Mem.set, hr]), (by exact hG)⟩ <;> try simp (disch := first | omega | decide) only [go_sem, F, aIndex_map]
        all_goals first | rfl | assumption | exact take_eq hk mo0 mo1 (sameI_eq hb)
    · clear F f0 f1 hr hG
      rintro σ ⟨s, m, rfl, f0, f1, f5, mo0, mo1, hr, hG⟩
      have F := (And.intro f0 (And.intro f1 (And.intro f5 hG)))
      refine AW.seq ?_
      refine AW.seq ?_
      refine AW.region (cfg := cfg) ?_
      iterate 2 refine stp (fun _ h => s0 h) ?_
      refine stp (fun _ h => sd h) ?_
      refine stp (fun _ h => s0 h) ?_
      refine aops_nil ?_
      refine cnd (fun hb => ?ht4) (fun hb => ?hf4)
      case ht4 => (simp at hb; done)
      case hf4 =>
      have hbt14 := hb
      refine AW.exit ?_
      refine AW.seq ?_
      refine AW.region (cfg := cfg) ?_
      refine stp (fun _ h => s0 h) ?_
      refine aops_nil ?_
      refine AW.ret ?_
      refine ⟨.inr rfl, ?_⟩
      refine leaves_tmp1 4 rfl ?_ (by exact hG)
      simp (disch := first | omega | decide) only [go_sem, F, aIndex_map]
      all_goals (rw [decide_eq_true (by rw [List.take_length, mo0, List.take_length] at mo1; exact mo1)]; done)
def x0 : Lsa := ⟨2, 3, true, []⟩
theorem x0_fit : fit x0 := ⟨by decide, fun _ => rfl⟩
theorem x0_all : ∀ y ∈ [x0], fit y := fun y hy => by
  rw [List.mem_singleton] at hy; subst hy; exact x0_fit
theorem nil_all : ∀ y ∈ ([] : List Lsa), fit y := fun y hy => absurd hy (by simp)
theorem put0 : putR [] x0 = (false, [x0], 0) := by rfl
theorem put1 : putR [x0] x0 = (true, [], 10) := by rfl
theorem lack0 : lacksR [x0] [] = [⟨2, 3⟩] := by rfl
theorem items0 : (itemsR [x0]).isEmpty = false := by rfl
theorem good_Put0 : Good Try.prog 9 [(.sl 0 true [], false), (lsaA x0, false)] [] [(.sl 3 false ([x0].map lsaA), false), (i64 0, false)] [] := by
  have c := good_PutDb true [] (by simp) nil_all (by simp) x0 x0_fit
  rw [put0] at c
  exact c.nil0
theorem good_Put1 : Good Try.prog 9 [(.sl 3 false ([x0].map lsaA), false), (lsaA x0, false)] [] [(.sl 3 true [], false), (i64 10, false)] [] := by
  have c := good_PutDb false [x0] (by simp) x0_all (by simp) x0 x0_fit
  rw [put1] at c
  exact c
theorem good_Lack0 : Good Try.prog 22 [(.sl 3 false ([x0].map lsaA), false), (.sl 0 true [], false)] [] [(.sl 2 false [.agg [i64 2, i64 3]], false)] [] := by
  have c := good_LacksDb false [x0] (by simp) x0_all true [] (by simp)
  rw [lack0, items0] at c
  exact c.nil1
attribute [go_sem] List.isEmpty_cons beq_self_eq_true Bool.and_self List.length_cons List.length_nil
theorem good_awakeDb  : Good Try.prog 8 [] [] [(.b true, false)] [] := by
  refine good_of_body4 37 Try.func8 rfl rfl rfl (by simp) (by simp) (by simp [noPtrL, noPtr]) (by rfl) ?_
  intro s m ha hr hv hG
  clear ha
  have hc : True := trivial
  have F := hG
  refine AW.seq ?_
  refine AW.region (cfg := cfg) ?_
  refine stp (fun _ h => s0 h) ?_
  refine aops_nil ?_
  refine AW.seq ?_
  refine AW.region (cfg := cfg) ?_
  refine stp (fun _ h => su h) ?_
  refine stp (fun _ h => cr (w := good_Put0) (x := h)) ?_
  iterate 5 refine stp (fun _ h => s0 h) ?_
  refine aops_nil ?_
  refine AW.seq ?_
  refine AW.region (cfg := cfg) ?_
  refine stp (fun _ h => s0 h) ?_
  refine stp (fun _ h => cr (w := good_Lack0) (x := h)) ?_
  refine stp (fun _ h => s0 h) ?_
  refine aops_nil ?_
  refine AW.seq ?_
  refine AW.region (cfg := cfg) ?_
  refine stp (fun _ h => s0 h) ?_
  refine stp (fun _ h => su h) ?_
  refine stp (fun _ h => cr (w := good_Put1) (x := h)) ?_
  iterate 5 refine stp (fun _ h => s0 h) ?_
  refine aops_nil ?_
  refine AW.seq ?_
  refine AW.region (cfg := cfg) ?_
  iterate 8 refine stp (fun _ h => s0 h) ?_
  refine stp (fun _ h => sd h) ?_
  iterate 4 refine stp (fun _ h => s0 h) ?_
  refine stp (fun _ h => si h) ?_
  refine stp (fun _ h => sl h) ?_
  refine stp (fun _ h => su h) ?_
  iterate 3 refine stp (fun _ h => s0 h) ?_
  refine aops_nil ?_
  refine AW.ret ?_
  refine ⟨.inr rfl, ?_⟩
  apply Exists.intro
  refine leaves_tmp1 0 rfl ?_ (by rfl)
  simp (disch := first | omega | decide) only [go_sem, F, aIndex_map]
  all_goals rfl
end Go.Vai.DB
