import Derived.Test.YtbnpnljlfnaheaapIt7
import Derived.Test.YtbnpnljlfnaheaaVaiE
import Derived.Test.YtbnpnljlfnaheaaItPl2
namespace Go.Vai.IT
open Go.Proofs Go.Vai Go.Vai.I Go.Vai.N
set_option linter.unusedSimpArgs false
set_option linter.unusedVariables false
set_option maxHeartbeats 4000000
set_option maxRecDepth 100000
theorem owe1 {r : List It} {y : It} {nil : Bool} (h : itOK r = true) (hy : it1 y = true) : oweR nil r [y] = (false, oweF r y, 0) := by
  have : [y].all it1 = true := by simp [hy]
  rw [oweR, h, this]; simp [oweS]
theorem may_ok {x : List It} (h : (itOK [] && x.all it1) = true) : ∀ y ∈ x, it1 y = true := by
  simp only [Bool.and_eq_true, List.all_eq_true] at h; exact h.2
theorem i64_byte (b : BitVec 8) : IntKind.i64.wrap (b.toNat : Int) = (b.toNat : Int) := IntWalk.i64_in _ (by have := b.isLt; omega)
theorem good_OwedOrders (nx : Bool) (x : List It) (hx : x.length ≤ 9223372036854775807) (hzx : nx = true → x = []) (nt : Bool) (ts : List (BitVec 8)) (ht : ts.length ≤ 9223372036854775807) : Good Try.prog 3 [(.sl 2 nx (x.map itA), false), (.sl 1 nt (bsl ts), false)] [] [(.b true, false)] [] := by
  refine good_of_body2 106 Try.func3 rfl rfl rfl (by simp) ?_
  intro s m ha hr hv hG
  have f0 : s 0 = .v (.sl 2 nx (x.map itA)) := ha 0 _ rfl
  have f1 : s 1 = .v (.sl 1 nt (bsl ts)) := ha 1 _ rfl
  clear ha
  have hc : True := trivial
  have F := (And.intro f0 (And.intro f1 hG))
  refine AW.seq ?_
  refine AW.region (cfg := cfg) ?_
  refine stp (fun _ h => s0 h) ?_
  refine aops_nil ?_
  refine AW.seq ?_
  refine AW.seq ?_
  refine AW.region (cfg := cfg) ?_
  refine stp (fun _ h => s0 h) ?_
  refine stp (fun _ h => sd h) ?_
  iterate 2 refine stp (fun _ h => s0 h) ?_
  refine mrg wa (fun hc _ h => s0 h) ?_
  refine mrg wa (fun hc _ h => sd h) ?_
  refine mrg wa (fun hc _ h => s0 h) ?_
  iterate 2 refine stp (fun _ h => s0 h) ?_
  refine mrg wa (fun hc _ h => s0 h) ?_
  refine mrg wa (fun hc _ h => cs (w := (good_May20 true [] (by simp) nx x (by (simp only [beq_iff_eq, Bool.or_eq_false_iff, decide_eq_false_iff_not] at hc; omega))).nil0) (x := h)) ?_
  refine mrg wa (fun hc _ h => s0 h) ?_
  refine stp (fun _ h => s0 h) ?_
  refine aops_nil ?_
  refine cnd (fun hb => ?ht1) (fun hb => ?hf1)
  case ht1 =>
    have hw26 := hb
    try simp only [bo1, bo2, bo3, bo4, bo5, bo6] at hb
    have hbt26 := hb
    refine AW.seq ?_
    refine AW.region (cfg := cfg) ?_
    refine stp (fun _ h => cs (w := good_awakeI) (x := h)) ?_
    refine stp (fun _ h => s0 h) ?_
    refine aops_nil ?_
    refine AW.ret ?_
    refine ⟨.inr rfl, ?_⟩
    refine leaves_tmp1 4 rfl ?_ (by exact hG)
    simp (disch := first | omega | decide) only [go_sem, F, aIndex_map]
    all_goals first | done | rfl | (simp; done) | trace_state
  case hf1 =>
    have hw26 := hb
    try simp only [bo1, bo2, bo3, bo4, bo5, bo6] at hb
    have hbt26 := hb
    refine AW.skip ?_
    refine AW.seq ?_
    have hm0 : (itOK [] && x.all it1) = true := by simpa using hbt26.2
    have hx1 := may_ok hm0
    have hx2 : x.length ≤ 70 := by omega
    have ht2 : ts.length ≤ 100 := by omega
    have ea : oweR true [] x = (decide (x.length = 0), oweS [] x x.length, 0) := by (rw [oweR, hm0]; simp)
    have F := And.intro ea F
    refine AW.region (cfg := cfg) ?_
    refine stp (fun _ h => s0 h) ?_
    refine stp (fun _ h => cr (w := (good_Owe true [] (by simp) (by simp) nx x (by omega)).nil0) (x := h)) ?_
    iterate 5 refine stp (fun _ h => s0 h) ?_
    refine aops_nil ?_
    refine AW.seq ?_
    refine AW.region (cfg := cfg) ?_
    refine stp (fun _ h => sq h) ?_
    refine stp (fun _ h => st h) ?_
    refine aops_nil ?_
    refine AW.seq ?_
    refine AW.seq ?_
    refine AW.frzVar 7 (by simp (disch := first | omega | decide) only [go_sem, F]; rfl) (by simp (disch := first | omega | decide) only [go_sem, F]; rfl) ?_
    refine AW.region (cfg := cfg) ?_
    refine stp (fun _ h => s0 h) ?_
    refine aops_nil ?_
    refine AW.block ?_
    refine AW.forN (fun k σ => ∃ s m, σ = ⟨106, s, m⟩ ∧ s 0 = .v (.sl 2 nx (x.map itA)) ∧ s 1 = .v (.sl 1 nt (bsl ts)) ∧ s 5 = .v (.sl 2 (decide (x.length = 0)) ((oweS [] x x.length).map itA)) ∧ s 6 = .v (i64 0) ∧ s 7 = .v (.sl 2 false ((oweS [] (zs x ts) k).map itA)) ∧ s 8 = .v (i64 (k : Int)) ∧ (∀ i, (m.objs (.res i)).2 = .dead) ∧ m.G = []) ((if 0 < x.length then ts.length + x.length else 0)) ?_ ?_ ?_
    · refine ⟨_, _, rfl, ?_, ?_, ?_, ?_, ?_, ?_, (by intro i; simp [Mem.set, hr]), (by exact hG)⟩ <;> try simp (disch := first | omega | decide) only [go_sem, F, aIndex_map]
      all_goals rfl
    · clear F f0 f1 hr hG
      rintro k σ hk ⟨s, m, rfl, f0, f1, f5, f6, f7, f8, hr, hG⟩
      have F := (And.intro f0 (And.intro f1 (And.intro f5 (And.intro f6 (And.intro f7 (And.intro f8 (And.intro ea hG)))))))
      refine AW.seq ?_
      refine AW.seq ?_
      refine AW.region (cfg := cfg) ?_
      iterate 2 refine stp (fun _ h => s0 h) ?_
      refine stp (fun _ h => sd h) ?_
      refine stp (fun _ h => s0 h) ?_
      iterate 2 refine stp (fun _ h => sd h) ?_
      iterate 2 refine stp (fun _ h => s0 h) ?_
      refine mrg wa (fun hc _ h => s0 h) ?_
      refine mrg wa (fun hc _ h => sd h) ?_
      refine mrg wa (fun hc _ h => s0 h) ?_
      refine stp (fun _ h => s0 h) ?_
      refine aops_nil ?_
      refine cnd (fun hb => ?ht2) (fun hb => ?hf2)
      case hf2 => (simp only [Bool.and_eq_false_iff, decide_eq_false_iff_not] at hb; split at hk <;> omega)
      case ht2 =>
      have hbt45 := hb
      refine AW.skip ?_
      refine AW.seq ?_
      refine AW.block ?_
      refine AW.seq ?_
      have hkz : k < (if 0 < x.length then ts.length + x.length else 0) := by assumption
      have hx0 : 0 < x.length := by (split at hkz; assumption; omega)
      have hkn : k < ts.length + x.length := by (rw [if_pos hx0] at hkz; exact hkz)
      have hzl : k < (zs x ts).length := by (rw [zs_len]; exact hkz)
      refine AW.region (cfg := cfg) ?_
      refine stp (fun _ h => s0 h) ?_
      iterate 2 refine stp (fun _ h => sd h) ?_
      iterate 2 refine stp (fun _ h => s0 h) ?_
      iterate 3 refine stp (fun _ h => sd h) ?_
      refine stp (fun _ h => s0 h) ?_
      refine aops_nil ?_
      refine AW.join (fun σ => ∃ s m, σ = ⟨106, s, m⟩ ∧ s 0 = .v (.sl 2 nx (x.map itA)) ∧ s 1 = .v (.sl 1 nt (bsl ts)) ∧ s 5 = .v (.sl 2 (decide (x.length = 0)) ((oweS [] x x.length).map itA)) ∧ s 6 = .v (i64 0) ∧ s 7 = .v (.sl 2 false ((oweS [] (zs x ts) k).map itA)) ∧ s 8 = .v (i64 (k : Int)) ∧ s 9 = .v (i64 (idxI x ts k)) ∧ (∀ i, (m.objs (.res i)).2 = .dead) ∧ m.G = []) ?_ ?_
      · skip
        refine AW.seq ?_
        refine AW.region (cfg := cfg) ?_
        iterate 2 refine stp (fun _ h => s0 h) ?_
        refine stp (fun _ h => sd h) ?_
        refine stp (fun _ h => s0 h) ?_
        refine aops_nil ?_
        refine cnd (fun hb => ?ht3) (fun hb => ?hf3)
        case ht3 =>
          have hw59 := hb
          try simp only [bo1, bo2, bo3, bo4, bo5, bo6] at hb
          have hbt59 := hb
          have hbt := i64_byte (ts[k]'(by omega))
          have hmod := Int.emod_lt_of_pos ((ts[k]'(by omega)).toNat : Int) (show (0 : Int) < (x.length : Int) by omega)
          have F := And.intro hbt F
          refine AW.region (cfg := cfg) ?_
          iterate 2 refine stp (fun _ h => s0 h) ?_
          refine stp (fun _ h => si h) ?_
          refine stp (fun _ h => sl h) ?_
          refine stp (fun _ h => sd h) ?_
          refine stp (fun _ h => s0 h) ?_
          iterate 2 refine stp (fun _ h => sd h) ?_
          refine stp (fun _ h => s0 h) ?_
          refine aops_nil ?_
          refine ⟨_, _, rfl, ?_, ?_, ?_, ?_, ?_, ?_, ?_, (by intro i; simp [Mem.set, hr]), (by exact hG)⟩ <;> try simp (disch := first | omega | decide) only [go_sem, F, aIndex_map]
          all_goals (rw [idx_low (by omega)]; done)
        case hf3 =>
          have hw59 := hb
          try simp only [bo1, bo2, bo3, bo4, bo5, bo6] at hb
          have hbt59 := hb
          refine AW.skip ?_
          refine ⟨_, _, rfl, ?_, ?_, ?_, ?_, ?_, ?_, ?_, (by intro i; simp [Mem.set, hr]), (by exact hG)⟩ <;> try simp (disch := first | omega | decide) only [go_sem, F, aIndex_map]
          all_goals (rw [idx_high (by omega)]; done)
      · clear F f0 f1 f5 f6 f7 f8 hr hG
        rintro σ ⟨s, m, rfl, f0, f1, f5, f6, f7, f8, f9, hr, hG⟩
        have F := (And.intro f0 (And.intro f1 (And.intro f5 (And.intro f6 (And.intro f7 (And.intro f8 (And.intro f9 (And.intro ea hG))))))))
        refine AW.seq ?_
        obtain ⟨hz1, hz2⟩ := zs_at hzl
        have hin := idx_in (ts := ts) hx0 hkn
        have hok := owe_all (l := []) rfl (fun y hy => hx1 y ((zs_mem x ts y).1 hy)) k
        have hle := it_len hok
        have hy1 := hx1 _ (List.getElem_mem hz1)
        have e1 : oweR false (oweS [] (zs x ts) k) [x[(idxI x ts k).toNat]] = (false, oweS [] (zs x ts) (k + 1), 0) := by (rw [owe1 hok hy1, oweS_succ hzl, hz2])
        have F := And.intro e1 F
        refine AW.region (cfg := cfg) ?_
        iterate 3 refine stp (fun _ h => s0 h) ?_
        refine stp (fun _ h => si h) ?_
        refine stp (fun _ h => sl h) ?_
        refine stp (fun _ h => sq h) ?_
        refine stp (fun _ h => cr (w := good_Owe false (oweS [] (zs x ts) k) (by omega) (by simp) false [x[(idxI x ts k).toNat]] (by simp)) (x := h)) ?_
        iterate 5 refine stp (fun _ h => s0 h) ?_
        refine aops_nil ?_
        refine AW.seq ?_
        refine AW.seq ?_
        refine AW.region (cfg := cfg) ?_
        iterate 2 refine stp (fun _ h => s0 h) ?_
        refine aops_nil ?_
        refine cnd (fun hb => ?ht4) (fun hb => ?hf4)
        case ht4 => simp at hb
        case hf4 =>
        have hbt79 := hb
        refine AW.skip ?_
        refine AW.region (cfg := cfg) ?_
        iterate 2 refine stp (fun _ h => s0 h) ?_
        refine aops_nil ?_
        refine AW.region (cfg := cfg) ?_
        refine stp (fun _ h => s0 h) ?_
        refine stp (fun _ h => sd h) ?_
        refine stp (fun _ h => s0 h) ?_
        refine aops_nil ?_
        refine ⟨_, _, rfl, ?_, ?_, ?_, ?_, ?_, ?_, (by intro i; simp [Mem.set, hr]), (by exact hG)⟩ <;> try simp (disch := first | omega | decide) only [go_sem, F, aIndex_map]
        all_goals rfl
    · clear F f0 f1 hr hG
      rintro σ ⟨s, m, rfl, f0, f1, f5, f6, f7, f8, hr, hG⟩
      have F := (And.intro f0 (And.intro f1 (And.intro f5 (And.intro f6 (And.intro f7 (And.intro f8 (And.intro ea hG)))))))
      refine AW.seq ?_
      refine AW.seq ?_
      refine AW.region (cfg := cfg) ?_
      iterate 2 refine stp (fun _ h => s0 h) ?_
      refine stp (fun _ h => sd h) ?_
      refine stp (fun _ h => s0 h) ?_
      iterate 2 refine stp (fun _ h => sd h) ?_
      iterate 2 refine stp (fun _ h => s0 h) ?_
      refine mrg wa (fun hc _ h => s0 h) ?_
      refine mrg wa (fun hc _ h => sd h) ?_
      refine mrg wa (fun hc _ h => s0 h) ?_
      refine stp (fun _ h => s0 h) ?_
      refine aops_nil ?_
      refine cnd (fun hb => ?ht5) (fun hb => ?hf5)
      case ht5 => (simp only [Bool.and_eq_true, decide_eq_true_eq] at hb; split at hb <;> omega)
      case hf5 =>
      have hbt45 := hb
      refine AW.exit ?_
      refine AW.seq ?_
      have hle := it_len (owe_all (l := []) rfl hx1 x.length)
      have hnn : (zs x ts).length = (if 0 < x.length then ts.length + x.length else 0) := zs_len x ts
      have ho := orders ts hx1
      rw [hnn] at ho
      have e2 : payR (decide (x.length = 0)) (oweS [] x x.length) x = (decide (x.length = 0), [], 0) := by (rw [payR, owe_all (l := []) rfl hx1 x.length, List.all_eq_true.2 hx1, pay_none hx1]; rfl)
      have F := And.intro e2 F
      have F := And.intro ho F
      refine AW.region (cfg := cfg) ?_
      iterate 2 refine stp (fun _ h => s0 h) ?_
      refine stp (fun _ h => cr (w := good_Paid (decide (x.length = 0)) (oweS [] x x.length) (by omega) (fun h => by (have := List.eq_nil_of_length_eq_zero (of_decide_eq_true h); subst this; rfl)) nx x (by omega)) (x := h)) ?_
      iterate 5 refine stp (fun _ h => s0 h) ?_
      refine aops_nil ?_
      refine AW.seq ?_
      refine AW.region (cfg := cfg) ?_
      iterate 3 refine stp (fun _ h => s0 h) ?_
      iterate 2 refine mrg wa (fun hc _ h => s0 h) ?_
      refine mrg wa (fun hc _ h => cs (w := good_sameI _ _ (oweS [] x x.length) (oweS [] x x.length) (by omega) (by omega)) (x := h)) ?_
      iterate 2 refine stp (fun _ h => s0 h) ?_
      iterate 2 refine mrg wa (fun hc _ h => s0 h) ?_
      iterate 2 refine stp (fun _ h => s0 h) ?_
      refine mrg wa (fun hc _ h => s0 h) ?_
      refine mrg wa (fun hc _ h => sd h) ?_
      refine mrg wa (fun hc _ h => s0 h) ?_
      iterate 2 refine stp (fun _ h => s0 h) ?_
      refine mrg wa (fun hc _ h => cs (w := good_awakeI) (x := h)) ?_
      iterate 2 refine stp (fun _ h => s0 h) ?_
      refine aops_nil ?_
      refine AW.ret ?_
      refine ⟨.inr rfl, ?_⟩
      refine leaves_tmp1 4 rfl ?_ (by exact hG)
      simp (disch := first | omega | decide) only [go_sem, F, aIndex_map]
      all_goals rfl
end Go.Vai.IT
