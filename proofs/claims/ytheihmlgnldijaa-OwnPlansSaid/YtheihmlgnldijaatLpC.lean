import Derived.Test.YtheihmlgnldijaatLpB
namespace Go.Vai.L
open Go.Proofs Go.Vai Go.Vai.O
set_option linter.unusedSimpArgs false
set_option linter.unusedVariables false
set_option maxHeartbeats 4000000
set_option maxRecDepth 100000
theorem same_is {a b : Lsa} {k : Nat} (h0 : (a.o = b.o ∧ a.s = b.s) ∧ (a.ls.length : Int) = (b.ls.length : Int)) (h : a.ls.take k = b.ls.take k) (hk : k = a.ls.length) : lsaEq a b = true := by
  have : a.ls = b.ls := by
    have e : k = b.ls.length := by omega
    rw [show a.ls.take k = a.ls by rw [hk, List.take_length], show b.ls.take k = b.ls by rw [e, List.take_length]] at h
    exact h
  simp [lsaEq, h0.1.1, h0.1.2, this]
theorem same_no {a b : Lsa} (h : (¬ a.o = b.o ∨ ¬ a.s = b.s) ∨ ¬ (a.ls.length : Int) = (b.ls.length : Int)) : lsaEq a b = false := by
  cases e : lsaEq a b with
  | false => rfl
  | true =>
    simp [lsaEq] at e
    rcases h with (h | h) | h
    · exact absurd e.1 h
    · exact absurd e.2.1 h
    · rw [e.2.2] at h; exact absurd rfl h
theorem same_at {a b : Lsa} {k : Nat} (h1 : k < a.ls.length) (h2 : k < b.ls.length) (h : ¬ a.ls[k] = b.ls[k]) : lsaEq a b = false := by
  cases e : lsaEq a b with
  | false => rfl
  | true =>
    simp [lsaEq] at e
    exact absurd (by simp [e.2.2]) h
theorem good_refSame (x : Lsa) (hx : x.ls.length ≤ 9223372036854775807)(y : Lsa) (hy : y.ls.length ≤ 9223372036854775807) : Good Try.prog 12 [(lsaA x, false), (lsaA y, false)] [] [(.b (lsaEq x y), false)] [] := by
  refine good_of_body2 45 Try.func12 rfl rfl rfl (by simp) ?_
  intro s m ha hr hv hG
  have f0 : s 0 = .v (.agg [i64 x.o, i64 x.s, .sl 2 x.nil (x.ls.map linkA)]) := ha 0 _ rfl
  have f1 : s 1 = .v (.agg [i64 y.o, i64 y.s, .sl 2 y.nil (y.ls.map linkA)]) := ha 1 _ rfl
  clear ha
  have hc : True := trivial
  have F := (And.intro f0 (And.intro f1 hG))
  refine AW.seq ?_
  refine AW.region (cfg := cfg) ?_
  iterate 2 refine stp (fun _ h => sb h) ?_
  refine stp (fun _ h => s0 h) ?_
  refine aops_nil ?_
  refine AW.seq ?_
  refine AW.seq ?_
  refine AW.region (cfg := cfg) ?_
  refine stp (fun _ h => sx h) ?_
  refine stp (fun _ h => sl h) ?_
  refine stp (fun _ h => sx h) ?_
  refine stp (fun _ h => sl h) ?_
  iterate 2 refine stp (fun _ h => s0 h) ?_
  refine mrg wa (fun hc _ h => sx h) ?_
  refine mrg wa (fun hc _ h => sl h) ?_
  refine mrg wa (fun hc _ h => sx h) ?_
  refine mrg wa (fun hc _ h => sl h) ?_
  refine mrg wa (fun hc _ h => s0 h) ?_
  iterate 2 refine stp (fun _ h => s0 h) ?_
  refine mrg wa (fun hc _ h => sx h) ?_
  refine mrg wa (fun hc _ h => sl h) ?_
  refine mrg wa (fun hc _ h => sd h) ?_
  refine mrg wa (fun hc _ h => sx h) ?_
  refine mrg wa (fun hc _ h => sl h) ?_
  refine mrg wa (fun hc _ h => sd h) ?_
  refine mrg wa (fun hc _ h => s0 h) ?_
  refine stp (fun _ h => s0 h) ?_
  refine aops_nil ?_
  refine cnd (fun hb => ?ht1) (fun hb => ?hf1)
  case ht1 =>
    have hw26 := hb
    try simp only [bo1, bo2, bo3, bo4, bo5, bo6] at hb
    have hbt26 := hb
    refine AW.seq ?_
    refine AW.region (cfg := cfg) ?_
    refine stp (fun _ h => s0 h) ?_
    refine aops_nil ?_
    refine AW.ret ?_
    refine ⟨.inr rfl, ?_⟩
    refine leaves_tmp1 4 rfl ?_ (by exact hG)
    simp (disch := first | omega | decide) only [go_sem, F, aIndex_map]
    all_goals (rw [same_no (by simpa using hbt26)]; done)
  case hf1 =>
    have hw26 := hb
    try simp only [bo1, bo2, bo3, bo4, bo5, bo6] at hb
    have hbt26 := hb
    refine AW.skip ?_
    refine AW.seq ?_
    refine AW.seq ?_
    refine AW.region (cfg := cfg) ?_
    refine stp (fun _ h => s0 h) ?_
    refine aops_nil ?_
    refine AW.block ?_
    refine AW.forN (fun k σ => ∃ s m, σ = ⟨45, s, m⟩ ∧ s 2 = .lptr (.tmp 2 0) (m.objs (.tmp 2 0)).1 0 ∧ (m.objs (.tmp 2 0)).2 = .box [.v (i64 x.o), .v (i64 x.s), .v (.sl 2 x.nil (x.ls.map linkA))] ∧ s 3 = .lptr (.tmp 3 0) (m.objs (.tmp 3 0)).1 0 ∧ (m.objs (.tmp 3 0)).2 = .box [.v (i64 y.o), .v (i64 y.s), .v (.sl 2 y.nil (y.ls.map linkA))] ∧ s 5 = .v (i64 (k : Int)) ∧ ((x.o = y.o ∧ x.s = y.s) ∧ (x.ls.length : Int) = (y.ls.length : Int)) ∧ (x.ls.take k = y.ls.take k) ∧ m.G = []) (x.ls.length) ?_ ?_ ?_
    · refine ⟨_, _, rfl, ?_, ?_, ?_, ?_, ?_, ?_, ?_, (by exact hG)⟩ <;> try simp (disch := first | omega | decide) only [go_sem, F, aIndex_map]
      all_goals first | rfl | (simpa using hbt26)
    · clear F f0 f1 hG
      rintro k σ hk ⟨s, m, rfl, f2, o2, f3, o3, f5, mo0, mo1, hG⟩
      obtain ⟨g2, o2⟩ : ∃ g, m.objs (.tmp 2 0) = (g, .box [.v (i64 x.o), .v (i64 x.s), .v (.sl 2 x.nil (x.ls.map linkA))]) := ⟨_, Prod.ext rfl o2⟩
      rw [o2] at f2
      obtain ⟨g3, o3⟩ : ∃ g, m.objs (.tmp 3 0) = (g, .box [.v (i64 y.o), .v (i64 y.s), .v (.sl 2 y.nil (y.ls.map linkA))]) := ⟨_, Prod.ext rfl o3⟩
      rw [o3] at f3
      have F := (And.intro f2 (And.intro f3 (And.intro f5 (And.intro o2 (And.intro o3 hG)))))
      refine AW.seq ?_
      refine AW.seq ?_
      refine AW.region (cfg := cfg) ?_
      refine stp (fun _ h => s0 h) ?_
      refine stp (fun _ h => sx h) ?_
      refine stp (fun _ h => sl h) ?_
      refine stp (fun _ h => sd h) ?_
      refine stp (fun _ h => s0 h) ?_
      refine aops_nil ?_
      refine cnd (fun hb => ?ht2) (fun hb => ?hf2)
      case hf2 => (simp at hb; omega)
      case ht2 =>
      have hbt31 := hb
      refine AW.skip ?_
      refine AW.seq ?_
      refine AW.block ?_
      refine AW.seq ?_
      have hky : k < y.ls.length := by omega
      refine AW.draw (cfg := cfg) (by kernel_rfl) (by kernel_rfl) (by kernel_rfl) ?_
      refine dstp (fun _ h => sx h) ?_
      refine dstp (fun _ h => sl h) ?_
      refine dstp (fun _ h => s0 h) ?_
      refine dstp (fun _ h => si h) ?_
      refine dstp (fun _ h => sl h) ?_
      refine dstp (fun _ h => sx h) ?_
      refine dstp (fun _ h => sl h) ?_
      refine dstp (fun _ h => s0 h) ?_
      refine dstp (fun _ h => si h) ?_
      refine dstp (fun _ h => sl h) ?_
      refine dstp (fun _ h => s0 h) ?_
      refine adraw_nil (by kernel_rfl) ?_
      refine cnd (fun hb => ?ht3) (fun hb => ?hf3)
      case ht3 =>
        have hw44 := hb
        try simp only [bo1, bo2, bo3, bo4, bo5, bo6] at hb
        have hbt44 := hb
        refine AW.seq ?_
        refine AW.region (cfg := cfg) ?_
        refine stp (fun _ h => s0 h) ?_
        refine aops_nil ?_
        refine AW.ret ?_
        refine ⟨.inr rfl, ?_⟩
        refine leaves_tmp1 4 rfl ?_ (by exact hG)
        simp (disch := first | omega | decide) only [go_sem, F, aIndex_map]
        all_goals (rw [same_at (by omega) (by omega) (fun e => link_ne hb e)]; done)
      case hf3 =>
        have hw44 := hb
        try simp only [bo1, bo2, bo3, bo4, bo5, bo6] at hb
        have hbt44 := hb
        refine AW.skip ?_
        refine AW.region (cfg := cfg) ?_
        refine stp (fun _ h => s0 h) ?_
        refine stp (fun _ h => sd h) ?_
        refine stp (fun _ h => s0 h) ?_
        refine aops_nil ?_
        refine ⟨_, _, rfl, ?_, ?_, ?_, ?_, ?_, ?_, ?_, (by exact hG)⟩ <;> try simp (disch := first | omega | decide) only [go_sem, F, aIndex_map]
        all_goals first | rfl | assumption | skip
        all_goals (rw [List.take_succ_eq_append_getElem (by omega), List.take_succ_eq_append_getElem (by omega), mo1]; congr 2; exact link_eq hb)
    · clear F f0 f1 hG
      rintro σ ⟨s, m, rfl, f2, o2, f3, o3, f5, mo0, mo1, hG⟩
      obtain ⟨g2, o2⟩ : ∃ g, m.objs (.tmp 2 0) = (g, .box [.v (i64 x.o), .v (i64 x.s), .v (.sl 2 x.nil (x.ls.map linkA))]) := ⟨_, Prod.ext rfl o2⟩
      rw [o2] at f2
      obtain ⟨g3, o3⟩ : ∃ g, m.objs (.tmp 3 0) = (g, .box [.v (i64 y.o), .v (i64 y.s), .v (.sl 2 y.nil (y.ls.map linkA))]) := ⟨_, Prod.ext rfl o3⟩
      rw [o3] at f3
      have F := (And.intro f2 (And.intro f3 (And.intro f5 (And.intro o2 (And.intro o3 hG)))))
      refine AW.seq ?_
      refine AW.seq ?_
      refine AW.region (cfg := cfg) ?_
      refine stp (fun _ h => s0 h) ?_
      refine stp (fun _ h => sx h) ?_
      refine stp (fun _ h => sl h) ?_
      refine stp (fun _ h => sd h) ?_
      refine stp (fun _ h => s0 h) ?_
      refine aops_nil ?_
      refine cnd (fun hb => ?ht4) (fun hb => ?hf4)
      case ht4 => (simp at hb; done)
      case hf4 =>
      have hbt31 := hb
      refine AW.exit ?_
      refine AW.seq ?_
      refine AW.region (cfg := cfg) ?_
      refine stp (fun _ h => s0 h) ?_
      refine aops_nil ?_
      refine AW.ret ?_
      refine ⟨.inr rfl, ?_⟩
      refine leaves_tmp1 4 rfl ?_ (by exact hG)
      simp (disch := first | omega | decide) only [go_sem, F, aIndex_map]
      all_goals (rw [same_is mo0 mo1 rfl]; done)
theorem good_Light (x : Lsa) (hx : x.ls.length ≤ 9223372036854775807) : Good Try.prog 22 [(lsaA x, false)] [] [(.b (decide ((x.ls.length : Int) ≤ 40)), false)] [] := by
  refine good_of_body2 7 Try.func22 rfl rfl rfl (by simp) ?_
  intro s m ha hr hv hG
  have f0 : s 0 = .v (.agg [i64 x.o, i64 x.s, .sl 2 x.nil (x.ls.map linkA)]) := ha 0 _ rfl
  clear ha
  have hc : True := trivial
  have F := (And.intro f0 hG)
  refine AW.seq ?_
  refine AW.region (cfg := cfg) ?_
  refine stp (fun _ h => sb h) ?_
  refine stp (fun _ h => s0 h) ?_
  refine aops_nil ?_
  refine AW.seq ?_
  refine AW.region (cfg := cfg) ?_
  refine stp (fun _ h => sx h) ?_
  refine stp (fun _ h => sl h) ?_
  refine stp (fun _ h => sd h) ?_
  iterate 2 refine stp (fun _ h => s0 h) ?_
  refine aops_nil ?_
  refine AW.ret ?_
  refine ⟨.inr rfl, ?_⟩
  refine leaves_tmp1 2 rfl ?_ (by exact hG)
  simp (disch := first | omega | decide) only [go_sem, F, aIndex_map]
  all_goals first | done | rfl | trace_state
theorem good_Newer (x : Lsa) (hx : x.ls.length ≤ 9223372036854775807)(y : Lsa) (hy : y.ls.length ≤ 9223372036854775807) : Good Try.prog 52 [(lsaA x, false), (lsaA y, false)] [] [(.b (newer x y), false)] [] := by
  refine good_of_body2 17 Try.func52 rfl rfl rfl (by simp) ?_
  intro s m ha hr hv hG
  have f0 : s 0 = .v (.agg [i64 x.o, i64 x.s, .sl 2 x.nil (x.ls.map linkA)]) := ha 0 _ rfl
  have f1 : s 1 = .v (.agg [i64 y.o, i64 y.s, .sl 2 y.nil (y.ls.map linkA)]) := ha 1 _ rfl
  clear ha
  have hc : True := trivial
  have F := (And.intro f0 (And.intro f1 hG))
  refine AW.seq ?_
  refine AW.region (cfg := cfg) ?_
  iterate 2 refine stp (fun _ h => sb h) ?_
  refine stp (fun _ h => s0 h) ?_
  refine aops_nil ?_
  refine AW.seq ?_
  refine AW.region (cfg := cfg) ?_
  refine stp (fun _ h => sx h) ?_
  refine stp (fun _ h => sl h) ?_
  refine stp (fun _ h => sx h) ?_
  refine stp (fun _ h => sl h) ?_
  iterate 2 refine stp (fun _ h => s0 h) ?_
  refine mrg wa (fun hc _ h => sx h) ?_
  refine mrg wa (fun hc _ h => sl h) ?_
  refine mrg wa (fun hc _ h => sx h) ?_
  refine mrg wa (fun hc _ h => sl h) ?_
  refine mrg wa (fun hc _ h => s0 h) ?_
  iterate 2 refine stp (fun _ h => s0 h) ?_
  refine aops_nil ?_
  refine AW.ret ?_
  refine ⟨.inr rfl, ?_⟩
  refine leaves_tmp1 4 rfl ?_ (by exact hG)
  simp (disch := first | omega | decide) only [go_sem, F, aIndex_map]
  all_goals rfl
theorem good_Copy (x : Lsa) (hx : x.ls.length ≤ 9223372036854775807) (hx2 : x.ls.length ≤ 8796093022208) (hz : x.nil = true → x.ls = []) : Good Try.prog 43 [(lsaA x, false)] [] [(lsaA x, false)] [] := by
  refine good_of_body2 8 Try.func43 rfl rfl rfl (by simp) ?_
  intro s m ha hr hv hG
  have f0 : s 0 = .v (.agg [i64 x.o, i64 x.s, .sl 2 x.nil (x.ls.map linkA)]) := ha 0 _ rfl
  clear ha
  have hc : True := trivial
  have F := (And.intro f0 hG)
  refine AW.seq ?_
  refine AW.region (cfg := cfg) ?_
  refine stp (fun _ h => sb h) ?_
  refine stp (fun _ h => sd h) ?_
  refine aops_nil ?_
  refine AW.seq ?_
  refine AW.region (cfg := cfg) ?_
  refine stp (fun _ h => sx h) ?_
  refine stp (fun _ h => sl h) ?_
  refine stp (fun _ h => co1 (w := good_CloneLink _ _ (by omega) hz) (x := h)) ?_
  refine stp (fun _ h => sx h) ?_
  refine stp0 (fun _ h => ss h) ?_
  refine aops_nil ?_
  refine AW.seq ?_
  refine AW.region (cfg := cfg) ?_
  refine stp (fun _ h => sl h) ?_
  refine stp0 (fun _ h => ss h) ?_
  refine aops_nil ?_
  refine AW.ret ?_
  refine ⟨.inr rfl, ?_⟩
  refine leaves_mwp2 (rs := [.cell 2 33]) rfl ?_
  simp (config := {failIfUnchanged := false}) [giveL, srcOne, rehome, freezeN, sub, ti33, upd, opn, aLoad, loadL, giveOne, reify, reifyL, readL, readOne, Mwp, M.bind, Mem.set, setAt, cellsL, hG, f0, lsaA]
  all_goals exact List.take_of_length_le (by simp)
@[simp] theorem noPtr_lsa (x : Lsa) : noPtr (lsaA x) = true := by simp [lsaA, noPtr, noPtrL, noPtrL_links]
@[simp] theorem noPtrL_lsas (l : List Lsa) : noPtrL (l.map lsaA) = true := noPtrL_map noPtr_lsa _
theorem cellsOf_lsa (x : Lsa) : cellsOf (lsaA x) = [.i .i64 x.o, .i .i64 x.s, .sl 2 x.nil (x.ls.map linkA)] := rfl
theorem lsaEq_refl (x : Lsa) : lsaEq x x = true := by simp [lsaEq]
attribute [go_sem] cellsOf_lsa
end Go.Vai.L
