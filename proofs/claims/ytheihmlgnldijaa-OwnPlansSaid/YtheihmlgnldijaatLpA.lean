import Derived.Test.YtheihmlgnldijaatCfg
import Derived.Test.YtheihmlgnldijaaLsaPl
import Derived.Test.YtheihmlgnldijaaLsaPl2
import Derived.Test.YtheihmlgnldijaaVaiE
namespace Go.Vai.L
open Go.Proofs Go.Vai Go.Vai.O
set_option linter.unusedSimpArgs false
set_option linter.unusedVariables false
set_option maxHeartbeats 4000000
set_option maxRecDepth 100000
attribute [go_sem] cellsOf_link
theorem good_node (n : Int) : Good Try.prog 48 [(i64 n, false)] [] [(.b (node n), false)] [] := by
  refine good_of_body2 9 Try.func48 rfl rfl rfl (by simp) ?_
  intro s m ha hr hv hG
  have f0 : s 0 = .v (i64 n) := ha 0 _ rfl
  clear ha
  have hc : True := trivial
  have F := (And.intro f0 hG)
  refine AW.seq ?_
  refine AW.region (cfg := cfg) ?_
  refine stp (fun _ h => s0 h) ?_
  refine aops_nil ?_
  refine AW.seq ?_
  refine AW.region (cfg := cfg) ?_
  iterate 3 refine stp (fun _ h => s0 h) ?_
  iterate 2 refine mrg wa (fun hc _ h => s0 h) ?_
  iterate 2 refine stp (fun _ h => s0 h) ?_
  refine aops_nil ?_
  refine AW.ret ?_
  refine ⟨.inr rfl, ?_⟩
  refine leaves_mwp2 (rs := [.tmp 2]) rfl ?_
  simp (config := {failIfUnchanged := false}) [giveL, srcOne, rehome, freezeN, sub, upd, opn, aLoad, loadL, giveOne, reify, reifyL, readL, readOne, Mwp, M.bind, Mem.set, setAt, cellsL, hG, f0, node]
  all_goals first | done | omega | (simp_all; done) | (simp_all; omega) | grind
theorem good_Check (o q : Int) (nil : Bool) (ls : List LinkS) (hl : ls.length ≤ 9223372036854775807) : Good Try.prog 30 [(.agg [i64 o, i64 q, .sl 2 nil (ls.map linkA)], false)] [] [(i64 (lsaE ⟨o, q, nil, ls⟩), false)] [] := by
  refine good_of_body2 63 Try.func30 rfl rfl rfl (by simp) ?_
  intro s m ha hr hv hG
  have f0 : s 0 = .v (.agg [i64 o, i64 q, .sl 2 nil (ls.map linkA)]) := ha 0 _ rfl
  clear ha
  have hc : True := trivial
  have F := (And.intro f0 hG)
  refine AW.seq ?_
  refine AW.region (cfg := cfg) ?_
  refine stp (fun _ h => sb h) ?_
  refine stp (fun _ h => s0 h) ?_
  refine aops_nil ?_
  refine AW.seq ?_
  refine AW.seq ?_
  refine AW.region (cfg := cfg) ?_
  refine stp (fun _ h => sx h) ?_
  refine stp (fun _ h => sl h) ?_
  refine stp (fun _ h => cs (w := good_node _) (x := h)) ?_
  iterate 2 refine stp (fun _ h => s0 h) ?_
  refine mrg wa (fun hc _ h => sx h) ?_
  refine mrg wa (fun hc _ h => sl h) ?_
  refine mrg wa (fun hc _ h => s0 h) ?_
  iterate 2 refine stp (fun _ h => s0 h) ?_
  refine mrg wa (fun hc _ h => sx h) ?_
  refine mrg wa (fun hc _ h => sl h) ?_
  refine mrg wa (fun hc _ h => s0 h) ?_
  iterate 2 refine stp (fun _ h => s0 h) ?_
  refine mrg wa (fun hc _ h => sx h) ?_
  refine mrg wa (fun hc _ h => sl h) ?_
  refine mrg wa (fun hc _ h => sd h) ?_
  refine mrg wa (fun hc _ h => s0 h) ?_
  refine stp (fun _ h => s0 h) ?_
  refine aops_nil ?_
  refine cnd (fun hb => ?ht1) (fun hb => ?hf1)
  case ht1 =>
    have hw25 := hb
    try simp only [bo1, bo2, bo3, bo4, bo5, bo6] at hb
    have hbt25 := hb
    refine AW.seq ?_
    refine AW.region (cfg := cfg) ?_
    refine stp (fun _ h => s0 h) ?_
    refine aops_nil ?_
    refine AW.ret ?_
    refine ⟨.inr rfl, ?_⟩
    refine leaves_tmp1 2 rfl ?_ (by exact hG)
    simp (disch := first | omega | decide) only [go_sem, F, aIndex_map]
    all_goals (have z : lsaOK ⟨o, q, nil, ls⟩ = false := (by cases hn : node o <;> simp [lsaOK, hn] at hbt25 ⊢; omega); simp [lsaE, z]; done)
  case hf1 =>
    have hw25 := hb
    try simp only [bo1, bo2, bo3, bo4, bo5, bo6] at hb
    have hbt25 := hb
    refine AW.skip ?_
    refine AW.seq ?_
    refine AW.region (cfg := cfg) ?_
    refine stp (fun _ h => s0 h) ?_
    refine aops_nil ?_
    refine AW.seq ?_
    refine AW.seq ?_
    refine AW.region (cfg := cfg) ?_
    refine stp (fun _ h => sx h) ?_
    refine stp (fun _ h => sl h) ?_
    refine stp (fun _ h => sd h) ?_
    refine stp (fun _ h => s0 h) ?_
    refine aops_nil ?_
    refine AW.block ?_
    refine AW.forN (fun k σ => ∃ s m last, σ = ⟨63, s, m⟩ ∧ s 1 = .lptr (.tmp 1 0) (m.objs (.tmp 1 0)).1 0 ∧ (m.objs (.tmp 1 0)).2 = .box [.v (i64 o), .v (i64 q), .v (.sl 2 nil (ls.map linkA))] ∧ s 3 = .v (i64 last) ∧ s 27 = .v (.sl 2 nil (ls.map linkA)) ∧ s 28 = .v (i64 (ls.length : Int)) ∧ s 29 = .v (i64 (k : Int)) ∧ (linksOK o 0 ls = linksOK o last (ls.drop k)) ∧ m.G = []) (ls.length) ?_ ?_ ?_
    · refine ⟨_, _, 0, rfl, ?_, ?_, ?_, ?_, ?_, ?_, ?_, (by exact hG)⟩ <;> try simp (disch := first | omega | decide) only [go_sem, F, aIndex_map]
      all_goals rfl
    · clear F f0 hG
      rintro k σ hk ⟨s, m, last, rfl, f1, o1, f3, f27, f28, f29, mo0, hG⟩
      obtain ⟨g1, o1⟩ : ∃ g, m.objs (.tmp 1 0) = (g, .box [.v (i64 o), .v (i64 q), .v (.sl 2 nil (ls.map linkA))]) := ⟨_, Prod.ext rfl o1⟩
      rw [o1] at f1
      have F := (And.intro f1 (And.intro f3 (And.intro f27 (And.intro f28 (And.intro f29 (And.intro o1 hG))))))
      refine AW.seq ?_
      refine AW.region (cfg := cfg) ?_
      refine stp (fun _ h => s0 h) ?_
      refine aops_nil ?_
      refine AW.seq ?_
      refine cnd (fun hb => ?ht2) (fun hb => ?hf2)
      case hf2 => (simp at hb; omega)
      case ht2 =>
      have hbt30 := hb
      refine AW.skip ?_
      refine AW.seq ?_
      refine AW.block ?_
      refine AW.seq ?_
      refine AW.region (cfg := cfg) ?_
      refine stp (fun _ h => si h) ?_
      refine stp (fun _ h => sl h) ?_
      refine stp (fun _ h => sd h) ?_
      refine stp0 (fun _ h => ss h) ?_
      refine aops_nil ?_
      refine AW.seq ?_
      refine AW.seq ?_
      refine AW.region (cfg := cfg) ?_
      refine stp (fun _ h => sx h) ?_
      refine stp (fun _ h => sl h) ?_
      refine stp (fun _ h => cs (w := good_node _) (x := h)) ?_
      iterate 2 refine stp (fun _ h => s0 h) ?_
      refine mrg wa (fun hc _ h => sx h) ?_
      refine mrg wa (fun hc _ h => sl h) ?_
      iterate 2 refine mrg wa (fun hc _ h => s0 h) ?_
      iterate 2 refine stp (fun _ h => s0 h) ?_
      refine mrg wa (fun hc _ h => sx h) ?_
      refine mrg wa (fun hc _ h => sl h) ?_
      refine mrg wa (fun hc _ h => sx h) ?_
      refine mrg wa (fun hc _ h => sl h) ?_
      refine mrg wa (fun hc _ h => s0 h) ?_
      iterate 2 refine stp (fun _ h => s0 h) ?_
      refine mrg wa (fun hc _ h => sx h) ?_
      refine mrg wa (fun hc _ h => sl h) ?_
      refine mrg wa (fun hc _ h => s0 h) ?_
      iterate 2 refine stp (fun _ h => s0 h) ?_
      refine mrg wa (fun hc _ h => sx h) ?_
      refine mrg wa (fun hc _ h => sl h) ?_
      refine mrg wa (fun hc _ h => s0 h) ?_
      refine stp (fun _ h => s0 h) ?_
      refine aops_nil ?_
      refine cnd (fun hb => ?ht3) (fun hb => ?hf3)
      case ht3 =>
        have hw59 := hb
        try simp only [bo1, bo2, bo3, bo4, bo5, bo6] at hb
        have hbt59 := hb
        refine AW.seq ?_
        refine AW.region (cfg := cfg) ?_
        refine stp (fun _ h => s0 h) ?_
        refine aops_nil ?_
        refine AW.ret ?_
        refine ⟨.inr rfl, ?_⟩
        refine leaves_tmp1 2 rfl ?_ (by exact hG)
        simp (disch := first | omega | decide) only [go_sem, F, aIndex_map]
        all_goals (have z : lsaOK ⟨o, q, nil, ls⟩ = false := (by simp only [lsaOK, mo0, links_drop hk]; have y : linkOK o last ls[k] = false := (by cases hn : node ls[k].to <;> simp [linkOK, hn] at hbt59 ⊢; omega); simp [y]); simp [lsaE, z]; done)
      case hf3 =>
        have hw59 := hb
        try simp only [bo1, bo2, bo3, bo4, bo5, bo6] at hb
        have hbt59 := hb
        refine AW.skip ?_
        refine AW.region (cfg := cfg) ?_
        refine stp (fun _ h => sx h) ?_
        refine stp (fun _ h => sl h) ?_
        refine stp (fun _ h => s0 h) ?_
        refine aops_nil ?_
        refine AW.region (cfg := cfg) ?_
        refine stp (fun _ h => sd h) ?_
        refine stp (fun _ h => s0 h) ?_
        refine aops_nil ?_
        refine ⟨_, _, ?_, rfl, ?_, ?_, ?_, ?_, ?_, ?_, ?_, (by exact hG)⟩ <;> try simp (disch := first | omega | decide) only [go_sem, F, aIndex_map]
        all_goals first | rfl | skip
        all_goals (rw [mo0, links_drop hk, link_is hbt59, Bool.true_and]; done)
    · clear F f0 hG
      rintro σ ⟨s, m, last, rfl, f1, o1, f3, f27, f28, f29, mo0, hG⟩
      obtain ⟨g1, o1⟩ : ∃ g, m.objs (.tmp 1 0) = (g, .box [.v (i64 o), .v (i64 q), .v (.sl 2 nil (ls.map linkA))]) := ⟨_, Prod.ext rfl o1⟩
      rw [o1] at f1
      have F := (And.intro f1 (And.intro f3 (And.intro f27 (And.intro f28 (And.intro f29 (And.intro o1 hG))))))
      refine AW.seq ?_
      refine AW.region (cfg := cfg) ?_
      refine stp (fun _ h => s0 h) ?_
      refine aops_nil ?_
      refine AW.seq ?_
      refine cnd (fun hb => ?ht4) (fun hb => ?hf4)
      case ht4 => (simp at hb; done)
      case hf4 =>
      have hbt30 := hb
      refine AW.exit ?_
      refine AW.seq ?_
      refine AW.region (cfg := cfg) ?_
      refine stp (fun _ h => s0 h) ?_
      refine aops_nil ?_
      refine AW.ret ?_
      refine ⟨.inr rfl, ?_⟩
      refine leaves_tmp1 2 rfl ?_ (by exact hG)
      simp (disch := first | omega | decide) only [go_sem, F, aIndex_map]
      all_goals (have z : lsaOK ⟨o, q, nil, ls⟩ = true := lsa_is hbt25 (mo0.trans links_end); simp [lsaE, z]; done)
theorem good_refMay (o q : Int) (nil : Bool) (ls : List LinkS) (hl : ls.length ≤ 9223372036854775807) : Good Try.prog 11 [(.agg [i64 o, i64 q, .sl 2 nil (ls.map linkA)], false)] [] [(.b (lsaOK ⟨o, q, nil, ls⟩), false)] [] := by
  refine good_of_body2 82 Try.func11 rfl rfl rfl (by simp) ?_
  intro s m ha hr hv hG
  have f0 : s 0 = .v (.agg [i64 o, i64 q, .sl 2 nil (ls.map linkA)]) := ha 0 _ rfl
  clear ha
  have hc : True := trivial
  have F := (And.intro f0 hG)
  refine AW.seq ?_
  refine AW.region (cfg := cfg) ?_
  refine stp (fun _ h => sb h) ?_
  refine stp (fun _ h => s0 h) ?_
  refine aops_nil ?_
  refine AW.seq ?_
  refine AW.seq ?_
  refine AW.region (cfg := cfg) ?_
  refine stp (fun _ h => s0 h) ?_
  refine aops_nil ?_
  refine AW.block ?_
  refine AW.forN (fun k σ => ∃ s m, σ = ⟨82, s, m⟩ ∧ s 1 = .lptr (.tmp 1 0) (m.objs (.tmp 1 0)).1 0 ∧ (m.objs (.tmp 1 0)).2 = .box [.v (i64 o), .v (i64 q), .v (.sl 2 nil (ls.map linkA))] ∧ s 3 = .v (i64 (k : Int)) ∧ (linksOK o 0 ls = linksOK o (lastOf ls k) (ls.drop k)) ∧ m.G = []) (ls.length) ?_ ?_ ?_
  · refine ⟨_, _, rfl, ?_, ?_, ?_, ?_, (by first | exact hG | rfl | (simp only [mset_G, hG]; done) | (simp only [mset_G, hG]; rfl))⟩ <;> try simp (disch := first | omega | decide) only [go_sem, F, aIndex_map]
    all_goals first | rfl | trace_state
  · clear F f0 hG
    rintro k σ hk ⟨s, m, rfl, f1, o1, f3, mo0, hG⟩
    obtain ⟨g1, o1⟩ : ∃ g, m.objs (.tmp 1 0) = (g, .box [.v (i64 o), .v (i64 q), .v (.sl 2 nil (ls.map linkA))]) := ⟨_, Prod.ext rfl o1⟩
    rw [o1] at f1
    have F := (And.intro f1 (And.intro f3 (And.intro o1 hG)))
    refine AW.seq ?_
    refine AW.seq ?_
    refine AW.region (cfg := cfg) ?_
    refine stp (fun _ h => s0 h) ?_
    refine stp (fun _ h => sx h) ?_
    refine stp (fun _ h => sl h) ?_
    refine stp (fun _ h => sd h) ?_
    refine stp (fun _ h => s0 h) ?_
    refine aops_nil ?_
    refine cnd (fun hb => ?ht1) (fun hb => ?hf1)
    case hf1 => first | (simp at hb; done) | (simp at hb; omega) | (have hb1 := of_decide_eq_false hb; omega) | (have hb1 := of_decide_eq_true hb; omega)
    case ht1 =>
    have hbt9 := hb
    refine AW.skip ?_
    refine AW.seq ?_
    refine AW.block ?_
    refine AW.seq ?_
    refine AW.region (cfg := cfg) ?_
    refine stp (fun _ h => sx h) ?_
    refine stp (fun _ h => sl h) ?_
    refine stp (fun _ h => s0 h) ?_
    refine stp (fun _ h => si h) ?_
    refine stp (fun _ h => sl h) ?_
    refine stp (fun _ h => sd h) ?_
    refine stp0 (fun _ h => ss h) ?_
    refine aops_nil ?_
    refine AW.seq ?_
    refine AW.draw (cfg := cfg) (by kernel_rfl) (by kernel_rfl) (by kernel_rfl) ?_
    refine dstp (fun _ h => sx h) ?_
    refine dstp (fun _ h => sl h) ?_
    iterate 2 refine dstp (fun _ h => s0 h) ?_
    refine dmrg wa (fun hc _ h => sx h) ?_
    refine dmrg wa (fun hc _ h => sl h) ?_
    refine dmrg wa (fun hc _ h => s0 h) ?_
    iterate 2 refine dstp (fun _ h => s0 h) ?_
    refine dmrg wa (fun hc _ h => sx h) ?_
    refine dmrg wa (fun hc _ h => sl h) ?_
    refine dmrg wa (fun hc _ h => sx h) ?_
    refine dmrg wa (fun hc _ h => sl h) ?_
    refine dmrg wa (fun hc _ h => s0 h) ?_
    iterate 2 refine dstp (fun _ h => s0 h) ?_
    refine dmrg wa (fun hc _ h => sx h) ?_
    refine dmrg wa (fun hc _ h => sl h) ?_
    refine dmrg wa (fun hc _ h => s0 h) ?_
    iterate 2 refine dstp (fun _ h => s0 h) ?_
    refine dmrg wa (fun hc _ h => sx h) ?_
    refine dmrg wa (fun hc _ h => sl h) ?_
    refine dmrg wa (fun hc _ h => s0 h) ?_
    iterate 2 refine dstp (fun _ h => s0 h) ?_
    iterate 3 refine dmrg wa (fun hc _ h => s0 h) ?_
    refine dmrg wa (fun hc _ h => sx h) ?_
    refine dmrg wa (fun hc _ h => sl h) ?_
    refine dmrg wa (fun hc _ h => s0 h) ?_
    refine dmrg wa (fun hc _ h => sd h) ?_
    refine dmrg wa (fun hc _ h => sg h) ?_
    refine dmrg wa (fun hc _ h => sx h) ?_
    refine dmrg wa (fun hc _ h => sl h) ?_
    refine dmrg wa (fun hc _ h => sx h) ?_
    refine dmrg wa (fun hc _ h => sl h) ?_
    iterate 2 refine dmrg wa (fun hc _ h => s0 h) ?_
    refine dstp (fun _ h => s0 h) ?_
    refine adraw_nil (by kernel_rfl) ?_
    refine cnd (fun hb => ?ht2) (fun hb => ?hf2)
    case ht2 =>
      have hw57 := hb
      try simp only [bo1, bo2, bo3, bo4, bo5, bo6] at hb
      have hbt57 := hb
      refine AW.seq ?_
      refine AW.region (cfg := cfg) ?_
      refine stp (fun _ h => s0 h) ?_
      refine aops_nil ?_
      refine AW.ret ?_
      refine ⟨.inr rfl, ?_⟩
      refine leaves_tmp1 2 rfl ?_ (by first | rfl | exact hG)
      simp (disch := first | omega | decide) only [go_sem, F, aIndex_map]
      all_goals first | (have z : lsaOK ⟨o, q, nil, ls⟩ = false := (by simp only [lsaOK, mo0, links_drop hk, may_no hbt57]; simp); rw [z]; done) | (have z : linksOK o 0 ls = true := mo0.trans links_end; refine congrArg (fun b => LV.v (AV.b b)) ?_; refine may_end z ?_; simp only [Bool.and_eq_true, decide_eq_true_eq]; omega) | trace_state
    case hf2 =>
      have hw57 := hb
      try simp only [bo1, bo2, bo3, bo4, bo5, bo6] at hb
      have hbt57 := hb
      refine AW.skip ?_
      refine AW.region (cfg := cfg) ?_
      refine stp (fun _ h => s0 h) ?_
      refine stp (fun _ h => sd h) ?_
      refine stp (fun _ h => s0 h) ?_
      refine aops_nil ?_
      refine ⟨_, _, rfl, ?_, ?_, ?_, ?_, (by first | exact hG | rfl | (simp only [mset_G, hG]; done) | (simp only [mset_G, hG]; rfl))⟩ <;> try simp (disch := first | omega | decide) only [go_sem, F, aIndex_map]
      all_goals first | rfl | skip
      all_goals first | (rw [mo0, links_drop hk, may_is hbt57, Bool.true_and, lastOf_succ hk]; done) | trace_state
  · clear F f0 hG
    rintro σ ⟨s, m, rfl, f1, o1, f3, mo0, hG⟩
    obtain ⟨g1, o1⟩ : ∃ g, m.objs (.tmp 1 0) = (g, .box [.v (i64 o), .v (i64 q), .v (.sl 2 nil (ls.map linkA))]) := ⟨_, Prod.ext rfl o1⟩
    rw [o1] at f1
    have F := (And.intro f1 (And.intro f3 (And.intro o1 hG)))
    refine AW.seq ?_
    refine AW.seq ?_
    refine AW.region (cfg := cfg) ?_
    refine stp (fun _ h => s0 h) ?_
    refine stp (fun _ h => sx h) ?_
    refine stp (fun _ h => sl h) ?_
    refine stp (fun _ h => sd h) ?_
    refine stp (fun _ h => s0 h) ?_
    refine aops_nil ?_
    refine cnd (fun hb => ?ht3) (fun hb => ?hf3)
    case ht3 => first | (simp at hb; done) | (simp at hb; omega) | (have hb1 := of_decide_eq_false hb; omega) | (have hb1 := of_decide_eq_true hb; omega)
    case hf3 =>
    have hbt9 := hb
    refine AW.exit ?_
    refine AW.seq ?_
    refine AW.region (cfg := cfg) ?_
    refine stp (fun _ h => sx h) ?_
    refine stp (fun _ h => sl h) ?_
    iterate 2 refine stp (fun _ h => s0 h) ?_
    refine mrg wa (fun hc _ h => sx h) ?_
    refine mrg wa (fun hc _ h => sl h) ?_
    refine mrg wa (fun hc _ h => s0 h) ?_
    iterate 2 refine stp (fun _ h => s0 h) ?_
    refine mrg wa (fun hc _ h => sx h) ?_
    refine mrg wa (fun hc _ h => sl h) ?_
    refine mrg wa (fun hc _ h => s0 h) ?_
    iterate 2 refine stp (fun _ h => s0 h) ?_
    refine mrg wa (fun hc _ h => sx h) ?_
    refine mrg wa (fun hc _ h => sl h) ?_
    refine mrg wa (fun hc _ h => s0 h) ?_
    iterate 2 refine stp (fun _ h => s0 h) ?_
    refine mrg wa (fun hc _ h => sx h) ?_
    refine mrg wa (fun hc _ h => sl h) ?_
    refine mrg wa (fun hc _ h => sd h) ?_
    refine mrg wa (fun hc _ h => s0 h) ?_
    iterate 2 refine stp (fun _ h => s0 h) ?_
    refine aops_nil ?_
    refine AW.ret ?_
    refine ⟨.inr rfl, ?_⟩
    refine leaves_tmp1 2 rfl ?_ (by first | rfl | exact hG)
    simp (disch := first | omega | decide) only [go_sem, F, aIndex_map]
    all_goals first | (have z : lsaOK ⟨o, q, nil, ls⟩ = false := (by simp only [lsaOK, mo0, links_drop hk, may_no hbt57]; simp); rw [z]; done) | (have z : linksOK o 0 ls = true := mo0.trans links_end; refine congrArg (fun b => LV.v (AV.b b)) ?_; refine may_end z ?_; simp only [Bool.and_eq_true, decide_eq_true_eq]; omega) | trace_state
end Go.Vai.L
