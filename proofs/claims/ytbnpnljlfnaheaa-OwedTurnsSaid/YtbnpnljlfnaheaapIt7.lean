import Derived.Test.YtbnpnljlfnaheaapIt6
namespace Go.Vai.IT
open Go.Proofs Go.Vai Go.Vai.I Go.Vai.N
set_option linter.unusedSimpArgs false
set_option linter.unusedVariables false
set_option maxHeartbeats 4000000
set_option maxRecDepth 100000
theorem good_rOwe (nil : Bool) (l : List It) (hl : l.length ≤ 1000) (nx : Bool) (x : List It) (hx : x.length ≤ 1000000) : Good Try.prog 23 [(.sl 2 nil (l.map itA), false), (.sl 2 nx (x.map itA), false)] [] [(.sl 2 (rOweS nil l x x.length).1 ((rOweS nil l x x.length).2.map itA), false)] [] := by
  refine good_of_body2 38 Try.func23 rfl rfl rfl (by simp) ?_
  intro s m ha hr hv hG
  have f0 : s 0 = .v (.sl 2 nil (l.map itA)) := ha 0 _ rfl
  have f1 : s 1 = .v (.sl 2 nx (x.map itA)) := ha 1 _ rfl
  clear ha
  have hc : True := trivial
  have F := (And.intro f0 (And.intro f1 hG))
  refine AW.seq ?_
  refine AW.region (cfg := cfg) ?_
  refine stp (fun _ h => s0 h) ?_
  refine aops_nil ?_
  refine AW.seq ?_
  refine AW.seq ?_
  refine AW.region (cfg := cfg) ?_
  refine stp (fun _ h => s0 h) ?_
  refine aops_nil ?_
  refine AW.block ?_
  refine AW.forN (fun k σ => ∃ s m, σ = ⟨38, s, m⟩ ∧ s 0 = .v (.sl 2 (rOweS nil l x k).1 ((rOweS nil l x k).2.map itA)) ∧ s 1 = .v (.sl 2 nx (x.map itA)) ∧ s 5 = .v (i64 (k : Int)) ∧ (∀ i, (m.objs (.res i)).2 = .dead) ∧ m.G = []) (x.length) ?_ ?_ ?_
  · refine ⟨_, _, rfl, ?_, ?_, ?_, (by intro i; simp [Mem.set, hr]), (by exact hG)⟩ <;> try simp (disch := first | omega | decide) only [go_sem, F, aIndex_map]
    all_goals rfl
  · clear F f0 f1 hr hG
    rintro k σ hk ⟨s, m, rfl, f0, f1, f5, hr, hG⟩
    have F := (And.intro f0 (And.intro f1 (And.intro f5 hG)))
    refine AW.seq ?_
    refine AW.seq ?_
    refine AW.region (cfg := cfg) ?_
    iterate 2 refine stp (fun _ h => s0 h) ?_
    refine stp (fun _ h => sd h) ?_
    refine stp (fun _ h => s0 h) ?_
    refine aops_nil ?_
    refine cnd (fun hb => ?ht1) (fun hb => ?hf1)
    case hf1 => (simp at hb; omega)
    case ht1 =>
    have hbt9 := hb
    refine AW.skip ?_
    refine AW.seq ?_
    refine AW.block ?_
    refine AW.seq ?_
    have hkx : k < x.length := by assumption
    have wl := rOwe_len (nil := nil) (x := x) hl k
    refine AW.draw (cfg := cfg) (by kernel_rfl) (by kernel_rfl) (by kernel_rfl) ?_
    iterate 3 refine dstp (fun _ h => s0 h) ?_
    refine dstp (fun _ h => si h) ?_
    refine dstp (fun _ h => sx h) ?_
    refine dstp (fun _ h => sl h) ?_
    refine dstp (fun _ h => cs (w := good_Seq20 (rOweS nil l x k).1 (rOweS nil l x k).2 (by omega) x[k].o) (x := h)) ?_
    iterate 2 refine dstp (fun _ h => s0 h) ?_
    refine dstp (fun _ h => si h) ?_
    refine dstp (fun _ h => sx h) ?_
    refine dstp (fun _ h => sl h) ?_
    refine dstp (fun _ h => s0 h) ?_
    refine adraw_nil (by kernel_rfl) ?_
    refine cnd (fun hb => ?ht2) (fun hb => ?hf2)
    case ht2 =>
      have hw24 := hb
      try simp only [bo1, bo2, bo3, bo4, bo5, bo6] at hb
      have hbt24 := hb
      refine AW.draw (cfg := cfg) (by kernel_rfl) (by kernel_rfl) (by kernel_rfl) ?_
      iterate 3 refine dstp (fun _ h => s0 h) ?_
      refine dstp (fun _ h => si h) ?_
      refine dstp (fun _ h => sx h) ?_
      refine dstp (fun _ h => sl h) ?_
      iterate 2 refine dstp (fun _ h => s0 h) ?_
      refine dstp (fun _ h => si h) ?_
      refine dstp (fun _ h => sx h) ?_
      refine dstp (fun _ h => sl h) ?_
      refine dstp (fun _ h => cr (w := good_with20 (rOweS nil l x k).1 (rOweS nil l x k).2 (by omega) x[k].o (x[k].s)) (x := h)) ?_
      refine dstp (fun _ h => s0 h) ?_
      refine adraw_nil (by kernel_rfl) ?_
      refine AW.region (cfg := cfg) ?_
      refine stp (fun _ h => s0 h) ?_
      refine stp (fun _ h => sd h) ?_
      refine stp (fun _ h => s0 h) ?_
      refine aops_nil ?_
      refine ⟨_, _, rfl, ?_, ?_, ?_, (by intro i; simp [Mem.set, hr]), (by exact hG)⟩ <;> try simp (disch := first | omega | decide) only [go_sem, F, aIndex_map]
      all_goals first | rfl | (rw [rOweS_yes hk hbt24]; done)
    case hf2 =>
      have hw24 := hb
      try simp only [bo1, bo2, bo3, bo4, bo5, bo6] at hb
      have hbt24 := hb
      refine AW.skip ?_
      refine AW.region (cfg := cfg) ?_
      refine stp (fun _ h => s0 h) ?_
      refine stp (fun _ h => sd h) ?_
      refine stp (fun _ h => s0 h) ?_
      refine aops_nil ?_
      refine ⟨_, _, rfl, ?_, ?_, ?_, (by intro i; simp [Mem.set, hr]), (by exact hG)⟩ <;> try simp (disch := first | omega | decide) only [go_sem, F, aIndex_map]
      all_goals first | rfl | (rw [rOweS_no hk hbt24]; done)
  · clear F f0 f1 hr hG
    rintro σ ⟨s, m, rfl, f0, f1, f5, hr, hG⟩
    have F := (And.intro f0 (And.intro f1 (And.intro f5 hG)))
    refine AW.seq ?_
    refine AW.seq ?_
    refine AW.region (cfg := cfg) ?_
    iterate 2 refine stp (fun _ h => s0 h) ?_
    refine stp (fun _ h => sd h) ?_
    refine stp (fun _ h => s0 h) ?_
    refine aops_nil ?_
    refine cnd (fun hb => ?ht3) (fun hb => ?hf3)
    case ht3 => (simp at hb; done)
    case hf3 =>
    have hbt9 := hb
    refine AW.exit ?_
    refine AW.seq ?_
    refine AW.region (cfg := cfg) ?_
    iterate 2 refine stp (fun _ h => s0 h) ?_
    refine aops_nil ?_
    refine AW.ret ?_
    refine ⟨.inr rfl, ?_⟩
    refine leaves_tmp1 4 rfl ?_ (by exact hG)
    simp (disch := first | omega | decide) only [go_sem, F, aIndex_map]
    all_goals first | done | rfl | trace_state
theorem good_rPaid (nil : Bool) (l : List It) (hl : l.length ≤ 1000) (nx : Bool) (x : List It) (hx : x.length ≤ 1000000) : Good Try.prog 24 [(.sl 2 nil (l.map itA), false), (.sl 2 nx (x.map itA), false)] [] [(.sl 2 (rPayS nil l x x.length).1 ((rPayS nil l x x.length).2.map itA), false)] [] := by
  refine good_of_body2 33 Try.func24 rfl rfl rfl (by simp) ?_
  intro s m ha hr hv hG
  have f0 : s 0 = .v (.sl 2 nil (l.map itA)) := ha 0 _ rfl
  have f1 : s 1 = .v (.sl 2 nx (x.map itA)) := ha 1 _ rfl
  clear ha
  have hc : True := trivial
  have F := (And.intro f0 (And.intro f1 hG))
  refine AW.seq ?_
  refine AW.region (cfg := cfg) ?_
  refine stp (fun _ h => s0 h) ?_
  refine aops_nil ?_
  refine AW.seq ?_
  refine AW.seq ?_
  refine AW.region (cfg := cfg) ?_
  refine stp (fun _ h => s0 h) ?_
  refine aops_nil ?_
  refine AW.block ?_
  refine AW.forN (fun k σ => ∃ s m, σ = ⟨33, s, m⟩ ∧ s 0 = .v (.sl 2 (rPayS nil l x k).1 ((rPayS nil l x k).2.map itA)) ∧ s 1 = .v (.sl 2 nx (x.map itA)) ∧ s 5 = .v (i64 (k : Int)) ∧ (∀ i, (m.objs (.res i)).2 = .dead) ∧ m.G = []) (x.length) ?_ ?_ ?_
  · refine ⟨_, _, rfl, ?_, ?_, ?_, (by intro i; simp [Mem.set, hr]), (by exact hG)⟩ <;> try simp (disch := first | omega | decide) only [go_sem, F, aIndex_map]
    all_goals rfl
  · clear F f0 f1 hr hG
    rintro k σ hk ⟨s, m, rfl, f0, f1, f5, hr, hG⟩
    have F := (And.intro f0 (And.intro f1 (And.intro f5 hG)))
    refine AW.seq ?_
    refine AW.seq ?_
    refine AW.region (cfg := cfg) ?_
    iterate 2 refine stp (fun _ h => s0 h) ?_
    refine stp (fun _ h => sd h) ?_
    refine stp (fun _ h => s0 h) ?_
    refine aops_nil ?_
    refine cnd (fun hb => ?ht1) (fun hb => ?hf1)
    case hf1 => (simp at hb; omega)
    case ht1 =>
    have hbt9 := hb
    refine AW.skip ?_
    refine AW.seq ?_
    refine AW.block ?_
    refine AW.seq ?_
    have hkx : k < x.length := by assumption
    have wl := rPay_len (nil := nil) (x := x) hl k
    refine AW.draw (cfg := cfg) (by kernel_rfl) (by kernel_rfl) (by kernel_rfl) ?_
    iterate 3 refine dstp (fun _ h => s0 h) ?_
    refine dstp (fun _ h => si h) ?_
    refine dstp (fun _ h => sx h) ?_
    refine dstp (fun _ h => sl h) ?_
    refine dstp (fun _ h => cs (w := good_Seq20 (rPayS nil l x k).1 (rPayS nil l x k).2 (by omega) x[k].o) (x := h)) ?_
    iterate 2 refine dstp (fun _ h => s0 h) ?_
    refine dstp (fun _ h => si h) ?_
    refine dstp (fun _ h => sx h) ?_
    refine dstp (fun _ h => sl h) ?_
    refine dstp (fun _ h => s0 h) ?_
    refine adraw_nil (by kernel_rfl) ?_
    refine cnd (fun hb => ?ht2) (fun hb => ?hf2)
    case ht2 =>
      have hw24 := hb
      try simp only [bo1, bo2, bo3, bo4, bo5, bo6] at hb
      have hbt24 := hb
      refine AW.region (cfg := cfg) ?_
      iterate 3 refine stp (fun _ h => s0 h) ?_
      refine stp (fun _ h => si h) ?_
      refine stp (fun _ h => sx h) ?_
      refine stp (fun _ h => sl h) ?_
      refine stp (fun _ h => cr (w := good_with20 (rPayS nil l x k).1 (rPayS nil l x k).2 (by omega) x[k].o (0)) (x := h)) ?_
      refine stp (fun _ h => s0 h) ?_
      refine aops_nil ?_
      refine AW.region (cfg := cfg) ?_
      refine stp (fun _ h => s0 h) ?_
      refine stp (fun _ h => sd h) ?_
      refine stp (fun _ h => s0 h) ?_
      refine aops_nil ?_
      refine ⟨_, _, rfl, ?_, ?_, ?_, (by intro i; simp [Mem.set, hr]), (by exact hG)⟩ <;> try simp (disch := first | omega | decide) only [go_sem, F, aIndex_map]
      all_goals first | rfl | (rw [rPayS_yes hk hbt24]; done)
    case hf2 =>
      have hw24 := hb
      try simp only [bo1, bo2, bo3, bo4, bo5, bo6] at hb
      have hbt24 := hb
      refine AW.skip ?_
      refine AW.region (cfg := cfg) ?_
      refine stp (fun _ h => s0 h) ?_
      refine stp (fun _ h => sd h) ?_
      refine stp (fun _ h => s0 h) ?_
      refine aops_nil ?_
      refine ⟨_, _, rfl, ?_, ?_, ?_, (by intro i; simp [Mem.set, hr]), (by exact hG)⟩ <;> try simp (disch := first | omega | decide) only [go_sem, F, aIndex_map]
      all_goals first | rfl | (rw [rPayS_no hk hbt24]; done)
  · clear F f0 f1 hr hG
    rintro σ ⟨s, m, rfl, f0, f1, f5, hr, hG⟩
    have F := (And.intro f0 (And.intro f1 (And.intro f5 hG)))
    refine AW.seq ?_
    refine AW.seq ?_
    refine AW.region (cfg := cfg) ?_
    iterate 2 refine stp (fun _ h => s0 h) ?_
    refine stp (fun _ h => sd h) ?_
    refine stp (fun _ h => s0 h) ?_
    refine aops_nil ?_
    refine cnd (fun hb => ?ht3) (fun hb => ?hf3)
    case ht3 => (simp at hb; done)
    case hf3 =>
    have hbt9 := hb
    refine AW.exit ?_
    refine AW.seq ?_
    refine AW.region (cfg := cfg) ?_
    iterate 2 refine stp (fun _ h => s0 h) ?_
    refine aops_nil ?_
    refine AW.ret ?_
    refine ⟨.inr rfl, ?_⟩
    refine leaves_tmp1 4 rfl ?_ (by exact hG)
    simp (disch := first | omega | decide) only [go_sem, F, aIndex_map]
    all_goals first | done | rfl | trace_state
def i5 : It := ⟨2, 5⟩
def i4 : It := ⟨2, 4⟩
theorem aw1 : oweR true [] [i5] = (false, [i5], 0) := by decide
theorem aw2 : payR false [i5] [i4] = (false, [i5], 0) := by decide
theorem aw3 : payR false [i5] [i5] = (false, [], 0) := by decide
theorem good_aw1 : Good Try.prog 9 [(.sl 0 true [], false), (.sl 2 false ([i5].map itA), false)] [] [(.sl 2 false ([i5].map itA), false), (i64 0, false)] [] := by
  have c := good_Owe true [] (by simp) (by simp) false [i5] (by simp)
  rw [aw1] at c
  exact c.nil0
theorem good_aw2 : Good Try.prog 10 [(.sl 2 false ([i5].map itA), false), (.sl 2 false ([i4].map itA), false)] [] [(.sl 2 false ([i5].map itA), false), (i64 0, false)] [] := by
  have c := good_Paid false [i5] (by simp) (by simp) false [i4] (by simp)
  rw [aw2] at c
  exact c
theorem good_aw3 : Good Try.prog 10 [(.sl 2 false ([i5].map itA), false), (.sl 2 false ([i5].map itA), false)] [] [(.sl 2 false ([] : List AV), false), (i64 0, false)] [] := by
  have c := good_Paid false [i5] (by simp) (by simp) false [i5] (by simp)
  rw [aw3] at c
  exact c
theorem good_awakeI  : Good Try.prog 8 [] [] [(.b true, false)] [] := by
  refine good_of_body4 47 Try.func8 rfl rfl rfl (by simp) (by simp) (by simp [noPtrL, noPtr]) (by rfl) ?_
  intro s m ha hr hv hG
  clear ha
  have hc : True := trivial
  have F := hG
  refine AW.seq ?_
  refine AW.region (cfg := cfg) ?_
  refine stp (fun _ h => s0 h) ?_
  refine aops_nil ?_
  refine AW.seq ?_
  refine AW.region (cfg := cfg) ?_
  refine stp (fun _ h => su h) ?_
  refine stp (fun _ h => sq h) ?_
  refine stp (fun _ h => cr (w := good_aw1) (x := h)) ?_
  iterate 5 refine stp (fun _ h => s0 h) ?_
  refine aops_nil ?_
  refine AW.seq ?_
  refine AW.region (cfg := cfg) ?_
  refine stp (fun _ h => s0 h) ?_
  refine stp (fun _ h => su h) ?_
  refine stp (fun _ h => sq h) ?_
  refine stp (fun _ h => cr (w := good_aw2) (x := h)) ?_
  iterate 5 refine stp (fun _ h => s0 h) ?_
  refine aops_nil ?_
  refine AW.seq ?_
  refine AW.region (cfg := cfg) ?_
  refine stp (fun _ h => s0 h) ?_
  refine stp (fun _ h => su h) ?_
  refine stp (fun _ h => sq h) ?_
  refine stp (fun _ h => cr (w := good_aw3) (x := h)) ?_
  iterate 5 refine stp (fun _ h => s0 h) ?_
  refine aops_nil ?_
  refine AW.seq ?_
  refine AW.region (cfg := cfg) ?_
  iterate 12 refine stp (fun _ h => s0 h) ?_
  refine stp (fun _ h => sd h) ?_
  iterate 4 refine stp (fun _ h => s0 h) ?_
  refine stp (fun _ h => sd h) ?_
  iterate 3 refine stp (fun _ h => s0 h) ?_
  refine aops_nil ?_
  refine AW.ret ?_
  refine ⟨.inr rfl, ?_⟩
  apply Exists.intro
  refine leaves_tmp1 0 rfl ?_ (by rfl)
  simp (disch := first | omega | decide) only [go_sem, F, aIndex_map]
  all_goals rfl
end Go.Vai.IT
