import Derived.Test.YtmjnimnnlogomaarDf2
import Derived.Test.YtmjnimnnlogomaaVaiE
namespace Go.Vai.DB
open Go.Proofs Go.Vai Go.Vai.D Go.Vai.I Go.Vai.L Go.Vai.N Go.Vai.O
set_option linter.unusedSimpArgs false
set_option linter.unusedVariables false
set_option maxHeartbeats 4000000
set_option maxRecDepth 100000
attribute [go_sem] Int.sub_zero
theorem good_GrowLsa (n : Int) (hn : 0 ≤ n ∧ n ≤ 1000000) : Good Try.prog 42 [(.sl 0 true [], false), (i64 n, false)] [] [(.sl 3 (!decide (n > 0)) ([] : List AV), true)] [] := by
  refine good_of_body3 27 Try.func42 rfl rfl rfl (by simp) ?_
  intro s m ha hr hv hG
  have f0 : s 0 = .v (.sl 0 true []) := ha 0 _ rfl
  have f1 : s 1 = .v (i64 n) := ha 1 _ rfl
  clear ha
  have hc : True := trivial
  have F := (And.intro f0 (And.intro f1 hG))
  refine AW.seq ?_
  refine AW.region (cfg := cfg4) ?_
  refine stp (fun _ h => s0 h) ?_
  refine aops_nil ?_
  refine AW.seq ?_
  refine AW.seq ?_
  refine AW.region (cfg := cfg4) ?_
  iterate 2 refine stp (fun _ h => s0 h) ?_
  refine aops_nil ?_
  refine cnd (fun hb => ?ht1) (fun hb => ?hf1)
  case ht1 => (simp at hb; omega)
  case hf1 =>
  have hbt6 := hb
  refine AW.skip ?_
  refine AW.seq ?_
  refine AW.seq ?_
  refine AW.region (cfg := cfg4) ?_
  iterate 2 refine stp (fun _ h => s0 h) ?_
  refine stp (fun _ h => sd h) ?_
  refine stp (fun _ h => s0 h) ?_
  iterate 3 refine stp (fun _ h => sd h) ?_
  refine stp (fun _ h => s0 h) ?_
  refine aops_nil ?_
  refine AW.seq ?_
  refine AW.region (cfg := cfg4) ?_
  iterate 2 refine stp (fun _ h => s0 h) ?_
  refine aops_nil ?_
  refine cnd (fun hb => ?ht2) (fun hb => ?hf2)
  case ht2 =>
    have hw16 := hb
    try simp only [bo1, bo2, bo3, bo4, bo5, bo6] at hb
    have hbt16 := hb
    have er : (List.replicate n.toNat (AV.agg [i64 0, i64 0, .sl 2 true []])).isEmpty = false := by (cases hq : n.toNat with | zero => omega | succ q => simp [List.replicate_succ])
    have F := And.intro er F
    refine AW.region (cfg := cfg4) ?_
    iterate 2 refine stp (fun _ h => s0 h) ?_
    iterate 2 refine stp (fun _ h => sd h) ?_
    refine stp (fun _ h => s0 h) ?_
    refine stp (fun _ h => kaz h) ?_
    refine stp (fun _ h => s0 h) ?_
    refine stp (fun _ h => sd h) ?_
    refine stp (fun _ h => sz h) ?_
    refine stp (fun _ h => st h) ?_
    refine aops_nil ?_
    refine AW.seq ?_
    refine AW.region (cfg := cfg4) ?_
    refine stp (fun _ h => s0 h) ?_
    refine stp (fun _ h => sm h) ?_
    refine aops_nil ?_
    refine AW.ret ?_
    refine ⟨.inr rfl, ?_⟩
    (have e0 : (!decide (n > 0)) = false := (by simp; omega); rw [e0]; refine leavesN (leaves_own1 4 rfl (by simp (disch := first | omega | decide) only [go_sem, F, aIndex_map] <;> rfl) (by simp (disch := first | omega | decide) only [go_sem, F, aIndex_map] <;> rfl) (by decide) (by simp [sub]) (by exact hG)))
  case hf2 =>
    have hw16 := hb
    try simp only [bo1, bo2, bo3, bo4, bo5, bo6] at hb
    have hbt16 := hb
    refine AW.skip ?_
    refine AW.seq ?_
    refine AW.region (cfg := cfg4) ?_
    refine stp (fun _ h => s0 h) ?_
    refine stp (fun _ h => sm h) ?_
    refine aops_nil ?_
    refine AW.ret ?_
    refine ⟨.inr rfl, ?_⟩
    (have e0 : (!decide (n > 0)) = true := (by simp; omega); rw [e0]; refine ⟨_, nilEq_nil (s := 0) (nilEq_refl _), ?_⟩; refine leaves_mwp2 (rs := [.tmp 4]) rfl ?_; simp [giveL, srcOne, upd, giveOne, readL, readOne, Mwp, M.bind, opn, hG])
def psLsa (p : Bool × List Lsa) : AV := .sl 3 p.1 (p.2.map lsaA)
theorem cellsOf_psLsa (p : Bool × List Lsa) : cellsOf (psLsa p) = [.sl 3 p.1 (p.2.map lsaA)] := rfl
def catLsa (ps : List (Bool × List Lsa)) : List Lsa := ps.flatMap (·.2)
theorem catLsa_succ {ps : List (Bool × List Lsa)} {k : Nat} (h : k < ps.length) : catLsa (ps.take (k + 1)) = catLsa (ps.take k) ++ ps[k].2 := by
  rw [List.take_succ_eq_append_getElem h]; simp only [catLsa, List.flatMap_append, List.flatMap_cons, List.flatMap_nil, List.append_nil]
theorem catLsa_le {ps : List (Bool × List Lsa)} (k : Nat) : (catLsa (ps.take k)).length ≤ (catLsa ps).length := by
  have : catLsa ps = catLsa (ps.take k) ++ catLsa (ps.drop k) := by rw [catLsa, catLsa, catLsa, ← List.flatMap_append, List.take_append_drop]
  rw [this, List.length_append]; omega
theorem catLsa_get {ps : List (Bool × List Lsa)} {k : Nat} (h : k < ps.length) : (ps[k].2).length ≤ (catLsa ps).length := by
  have h1 := catLsa_le (ps := ps) (k + 1)
  rw [catLsa_succ h, List.length_append] at h1; omega
theorem catLsa_flag {ps : List (Bool × List Lsa)} {b : List Lsa} (h : b.length ≤ (catLsa ps).length) : (!decide (((catLsa ps).length : Int) > 0) && (b.map lsaA).isEmpty) = !decide (((catLsa ps).length : Int) > 0) := by
  cases hd : decide (((catLsa ps).length : Int) > 0) with
  | true => rfl
  | false =>
    have : b.length = 0 := by have := of_decide_eq_false hd; omega
    rw [List.eq_nil_of_length_eq_zero this]; rfl
@[simp] theorem noPtr_psLsa (p : Bool × List Lsa) : noPtr (psLsa p) = true := by simp [psLsa, noPtr]
@[simp] theorem noPtrL_psLsa (l : List (Bool × List Lsa)) : noPtrL (l.map psLsa) = true := noPtrL_map noPtr_psLsa _
attribute [go_sem] cellsOf_psLsa
theorem good_ConcatLsa (np : Bool) (ps : List (Bool × List Lsa)) (hl : ps.length ≤ 1000000) (hc0 : (catLsa ps).length ≤ 1000000) : Good Try.prog 28 [(.sl 1 np (ps.map psLsa), false)] [] [(.sl 3 (!decide (((catLsa ps).length : Int) > 0)) ((catLsa ps).map lsaA), true)] [] := by
  refine good_of_body2 36 Try.func28 rfl rfl rfl (by simp) ?_
  intro s m ha hr hv hG
  have f0 : s 0 = .v (.sl 1 np (ps.map psLsa)) := ha 0 _ rfl
  clear ha
  have hc : True := trivial
  have F := (And.intro f0 hG)
  refine AW.seq ?_
  refine AW.region (cfg := cfg2) ?_
  refine stp (fun _ h => s0 h) ?_
  refine aops_nil ?_
  refine AW.seq ?_
  refine AW.region (cfg := cfg2) ?_
  refine stp (fun _ h => s0 h) ?_
  refine aops_nil ?_
  refine AW.seq ?_
  refine AW.seq ?_
  refine AW.region (cfg := cfg2) ?_
  refine stp (fun _ h => s0 h) ?_
  refine stp (fun _ h => sd h) ?_
  refine stp (fun _ h => s0 h) ?_
  refine aops_nil ?_
  refine AW.block ?_
  refine AW.forN (fun k σ => ∃ s m, σ = ⟨36, s, m⟩ ∧ s 3 = .v (i64 ((catLsa (ps.take k)).length : Int)) ∧ s 9 = .v (.sl 1 np (ps.map psLsa)) ∧ s 10 = .v (i64 (ps.length : Int)) ∧ s 11 = .v (i64 (k : Int)) ∧ s 0 = .v (.sl 1 np (ps.map psLsa)) ∧ (∀ i, (m.objs (.res i)).2 = .dead) ∧ m.G = []) (ps.length) ?_ ?_ ?_
  · refine ⟨_, _, rfl, ?_, ?_, ?_, ?_, ?_, (by intro i; simp [Mem.set, hr]), (by exact hG)⟩ <;> try simp (disch := first | omega | decide) only [go_sem, F, aIndex_map]
    all_goals rfl
  · clear F f0 hr hG
    rintro k σ hk ⟨s, m, rfl, f3, f9, f10, f11, f0, hr, hG⟩
    have F := (And.intro f3 (And.intro f9 (And.intro f10 (And.intro f11 (And.intro f0 hG)))))
    refine AW.seq ?_
    refine AW.region (cfg := cfg2) ?_
    refine stp (fun _ h => s0 h) ?_
    refine aops_nil ?_
    refine AW.seq ?_
    refine cnd (fun hb => ?ht1) (fun hb => ?hf1)
    case hf1 => (simp at hb; omega)
    case ht1 =>
    have hbt12 := hb
    refine AW.skip ?_
    refine AW.seq ?_
    refine AW.block ?_
    refine AW.seq ?_
    refine AW.region (cfg := cfg2) ?_
    refine stp (fun _ h => si h) ?_
    refine stp (fun _ h => sl h) ?_
    refine stp (fun _ h => s0 h) ?_
    refine aops_nil ?_
    refine AW.seq ?_
    have hkp : k < ps.length := by assumption
    have hg := catLsa_get hkp
    have hle := catLsa_le (ps := ps) k
    have hle2 := catLsa_le (ps := ps) (k + 1)
    have hcs := catLsa_succ hkp
    refine AW.region (cfg := cfg2) ?_
    iterate 2 refine stp (fun _ h => s0 h) ?_
    iterate 2 refine stp (fun _ h => sd h) ?_
    refine stp (fun _ h => s0 h) ?_
    refine aops_nil ?_
    refine AW.seq ?_
    refine AW.region (cfg := cfg2) ?_
    iterate 2 refine stp (fun _ h => s0 h) ?_
    refine aops_nil ?_
    refine cnd (fun hb => ?ht2) (fun hb => ?hf2)
    case ht2 => (simp at hb; omega)
    case hf2 =>
    have hbt20 := hb
    refine AW.skip ?_
    refine AW.region (cfg := cfg2) ?_
    refine stp (fun _ h => sd h) ?_
    refine stp (fun _ h => s0 h) ?_
    refine aops_nil ?_
    refine ⟨_, _, rfl, ?_, ?_, ?_, ?_, ?_, (by intro i; simp [Mem.set, hr]), (by exact hG)⟩ <;> try simp (disch := first | omega | decide) only [go_sem, F, aIndex_map]
    all_goals first | rfl | (rw [catLsa_succ hkp]; simp; done)
  · clear F f0 hr hG
    rintro σ ⟨s, m, rfl, f3, f9, f10, f11, f0, hr, hG⟩
    have F := (And.intro f3 (And.intro f9 (And.intro f10 (And.intro f11 (And.intro f0 hG)))))
    refine AW.seq ?_
    refine AW.region (cfg := cfg2) ?_
    refine stp (fun _ h => s0 h) ?_
    refine aops_nil ?_
    refine AW.seq ?_
    refine cnd (fun hb => ?ht3) (fun hb => ?hf3)
    case ht3 => (simp at hb; done)
    case hf3 =>
    have hbt12 := hb
    refine AW.exit ?_
    refine AW.seq ?_
    have e9 : catLsa (ps.take ps.length) = catLsa ps := by rw [List.take_length]
    have F := And.intro e9 F
    refine AW.region (cfg := cfg2) ?_
    refine stp (fun _ h => s0 h) ?_
    refine stp (fun _ h => co1 (w := good_GrowLsa _ (by omega)) (x := h)) ?_
    refine stp (fun _ h => st h) ?_
    refine aops_nil ?_
    refine AW.seq ?_
    refine AW.seq ?_
    refine AW.region (cfg := cfg2) ?_
    refine stp (fun _ h => s0 h) ?_
    refine stp (fun _ h => sd h) ?_
    refine stp (fun _ h => s0 h) ?_
    refine aops_nil ?_
    refine AW.block ?_
    refine AW.forN (fun k σ => ∃ s m, σ = ⟨36, s, m⟩ ∧ s 6 = .own (.var 6) (m.objs (.var 6)).1 0 ((catLsa (ps.take k)).length) ∧ (m.objs (.var 6)).2 = .arr (!decide (((catLsa ps).length : Int) > 0)) 3 ((catLsa (ps.take k)).map lsaA) ∧ s 25 = .v (.sl 1 np (ps.map psLsa)) ∧ s 26 = .v (i64 (ps.length : Int)) ∧ s 27 = .v (i64 (k : Int)) ∧ (∀ i, (m.objs (.res i)).2 = .dead) ∧ m.G = []) (ps.length) ?_ ?_ ?_
    · refine ⟨_, _, rfl, ?_, ?_, ?_, ?_, ?_, (by intro i; simp [Mem.set, hr]), (by exact hG)⟩ <;> try simp (disch := first | omega | decide) only [go_sem, F, aIndex_map]
      all_goals rfl
    · clear F f3 f9 f10 f11 f0 hr hG
      rintro k σ hk ⟨s, m, rfl, f6, o6, f25, f26, f27, hr, hG⟩
      obtain ⟨g6, o6⟩ : ∃ g, m.objs (.var 6) = (g, .arr (!decide (((catLsa ps).length : Int) > 0)) 3 ((catLsa (ps.take k)).map lsaA)) := ⟨_, Prod.ext rfl o6⟩
      rw [o6] at f6
      have F := (And.intro f6 (And.intro f25 (And.intro f26 (And.intro f27 (And.intro o6 (And.intro e9 hG))))))
      refine AW.seq ?_
      refine AW.region (cfg := cfg2) ?_
      refine stp (fun _ h => s0 h) ?_
      refine aops_nil ?_
      refine AW.seq ?_
      refine cnd (fun hb => ?ht4) (fun hb => ?hf4)
      case hf4 => (simp at hb; omega)
      case ht4 =>
      have hbt28 := hb
      refine AW.skip ?_
      refine AW.seq ?_
      refine AW.block ?_
      refine AW.seq ?_
      refine AW.region (cfg := cfg2) ?_
      refine stp (fun _ h => si h) ?_
      refine stp (fun _ h => sl h) ?_
      refine stp (fun _ h => s0 h) ?_
      refine aops_nil ?_
      have hkp : k < ps.length := by assumption
      have hg := catLsa_get hkp
      have hle := catLsa_le (ps := ps) k
      have hle2 := catLsa_le (ps := ps) (k + 1)
      have hcs := catLsa_succ hkp
      have hcl : (catLsa (ps.take k)).length + (ps[k].2).length ≤ 1000000 := by (rw [hcs, List.length_append] at hle2; omega)
      refine AW.region (cfg := cfg2) ?_
      iterate 2 refine stp (fun _ h => s0 h) ?_
      refine stp (fun _ h => sp h) ?_
      refine stp (fun _ h => st h) ?_
      refine aops_nil ?_
      refine AW.region (cfg := cfg2) ?_
      refine stp (fun _ h => sd h) ?_
      refine stp (fun _ h => s0 h) ?_
      refine aops_nil ?_
      refine ⟨_, _, rfl, ?_, ?_, ?_, ?_, ?_, (by intro i; simp [Mem.set, hr]), (by exact hG)⟩ <;> try simp (disch := first | omega | decide) only [go_sem, F, aIndex_map]
      all_goals first | rfl | (rw [catLsa_succ hkp]; simp; done) | (rw [catLsa_flag hg, catLsa_succ hkp]; done)
    · clear F f3 f9 f10 f11 f0 hr hG
      rintro σ ⟨s, m, rfl, f6, o6, f25, f26, f27, hr, hG⟩
      obtain ⟨g6, o6⟩ : ∃ g, m.objs (.var 6) = (g, .arr (!decide (((catLsa ps).length : Int) > 0)) 3 ((catLsa (ps.take ps.length)).map lsaA)) := ⟨_, Prod.ext rfl o6⟩
      rw [o6] at f6
      have F := (And.intro f6 (And.intro f25 (And.intro f26 (And.intro f27 (And.intro o6 (And.intro e9 hG))))))
      refine AW.seq ?_
      refine AW.region (cfg := cfg2) ?_
      refine stp (fun _ h => s0 h) ?_
      refine aops_nil ?_
      refine AW.seq ?_
      refine cnd (fun hb => ?ht5) (fun hb => ?hf5)
      case ht5 => (simp at hb; done)
      case hf5 =>
      have hbt28 := hb
      refine AW.exit ?_
      refine AW.seq ?_
      refine AW.region (cfg := cfg2) ?_
      refine stp (fun _ h => s0 h) ?_
      refine stp (fun _ h => sm h) ?_
      refine aops_nil ?_
      refine AW.ret ?_
      refine ⟨.inr rfl, ?_⟩
      have e9 : catLsa (ps.take ps.length) = catLsa ps := by rw [List.take_length]
      refine leaves_own1 2 rfl (by simp (disch := first | omega | decide) only [go_sem, F, aIndex_map] <;> rfl) (by simp (disch := first | omega | decide) only [go_sem, F, aIndex_map] <;> rfl) (by decide) (by simp [sub, List.take_of_length_le]) (by exact hG)
end Go.Vai.DB
