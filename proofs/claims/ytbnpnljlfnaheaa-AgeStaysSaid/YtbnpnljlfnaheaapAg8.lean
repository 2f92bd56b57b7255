import Derived.Test.YtbnpnljlfnaheaapAg7
namespace Go.Vai.AG
open Go.Proofs Go.Vai Go.Vai.I Go.Vai.N Go.Vai.Y
set_option linter.unusedSimpArgs false
set_option linter.unusedVariables false
set_option maxHeartbeats 4000000
set_option maxRecDepth 100000
theorem tk_go (x : It) (n : Nat) : (tk x n).go = decide ((n : Int) > 60) := by
  unfold tk; simp only; rw [decide_eq_decide]; omega
theorem due_dec {x : It} (h : it1 x = true) (n : Nat) : decide (((thR isDue [tk x n]).length : Int) = 1) = (decide ((n : Int) ≥ 30) && decide ((n : Int) ≤ 60)) := by
  have := due_one h n
  rw [Bool.eq_iff_iff, decide_eq_true_eq, Bool.and_eq_true, decide_eq_true_eq, decide_eq_true_eq]
  omega
theorem tk_ag0 (x : It) : (tk x 0).ag = 0 := rfl
theorem byte80 (b : BitVec 8) : ∃ N : Nat, (b.toNat : Int) % 80 = (N : Int) ∧ N < 80 := ⟨b.toNat % 80, by omega, Nat.mod_lt _ (by decide)⟩
theorem i64_b (b : BitVec 8) : IntKind.i64.wrap (b.toNat : Int) = (b.toNat : Int) := IntWalk.i64_in _ (by have := b.isLt; omega)
def x23 : It := ⟨2, 3⟩
theorem aw0 : it1 x23 = true := by decide
theorem aw1 : swR false [tk x23 61] = (false, []) := by decide
theorem aw2 : thR isGo [tk x23 61] = [2] := by decide
theorem aw3 : (tk x23 61).go = true := rfl
attribute [go_sem] List.isEmpty_nil
theorem good_awakeA  : Good Try.prog 26 [] [] [(.b true, false)] [] := by
  refine good_of_body2 52 Try.func26 rfl rfl rfl (by simp) ?_
  intro s m ha hr hv hG
  clear ha
  have hc : True := trivial
  have F := hG
  refine AW.seq ?_
  refine AW.region (cfg := cfg) ?_
  refine stp (fun _ h => s0 h) ?_
  refine aops_nil ?_
  refine AW.seq ?_
  have w0 := com_nil aw0
  have F := And.intro w0 F
  refine AW.region (cfg := cfg) ?_
  refine stp (fun _ h => su h) ?_
  refine stp (fun _ h => cr (w := (good_Come true [] (by simp) (by simp) x23).nil0) (x := h)) ?_
  iterate 5 refine stp (fun _ h => s0 h) ?_
  refine aops_nil ?_
  refine AW.seq ?_
  refine AW.seq ?_
  refine AW.region (cfg := cfg) ?_
  refine stp (fun _ h => s0 h) ?_
  refine aops_nil ?_
  refine AW.block ?_
  refine AW.forN (fun k σ => ∃ s m, σ = ⟨52, s, m⟩ ∧ s 1 = .v (.sl 4 false [agA (tk x23 k)]) ∧ s 2 = .v (i64 0) ∧ s 3 = .v (i64 (k : Int)) ∧ (∀ i, (m.objs (.res i)).2 = .dead) ∧ m.G = []) (61) ?_ ?_ ?_
  · refine ⟨_, _, rfl, ?_, ?_, ?_, (by intro i; simp [Mem.set, hr]), (by exact hG)⟩ <;> try simp (disch := first | omega | decide) only [go_sem, F, aIndex_map]
    all_goals rfl
  · clear F  hr hG
    rintro k σ hk ⟨s, m, rfl, f1, f2, f3, hr, hG⟩
    have F := (And.intro f1 (And.intro f2 (And.intro f3 (And.intro w0 hG))))
    refine AW.seq ?_
    refine AW.seq ?_
    refine AW.region (cfg := cfg) ?_
    iterate 3 refine stp (fun _ h => s0 h) ?_
    iterate 2 refine mrg wa (fun hc _ h => s0 h) ?_
    refine stp (fun _ h => s0 h) ?_
    refine aops_nil ?_
    refine cnd (fun hb => ?ht1) (fun hb => ?hf1)
    case hf1 => (simp at hb; omega)
    case ht1 =>
    have hbt16 := hb
    refine AW.skip ?_
    refine AW.seq ?_
    refine AW.block ?_
    have w1 := tick_one aw0 k
    have F := And.intro w1 F
    refine AW.region (cfg := cfg) ?_
    refine stp (fun _ h => s0 h) ?_
    refine stp (fun _ h => cr (w := good_Tick false [tk x23 k] (by simp) (by simp)) (x := h)) ?_
    iterate 5 refine stp (fun _ h => s0 h) ?_
    refine aops_nil ?_
    refine AW.region (cfg := cfg) ?_
    refine stp (fun _ h => s0 h) ?_
    refine stp (fun _ h => sd h) ?_
    refine stp (fun _ h => s0 h) ?_
    refine aops_nil ?_
    refine ⟨_, _, rfl, ?_, ?_, ?_, (by intro i; simp [Mem.set, hr]), (by exact hG)⟩ <;> try simp (disch := first | omega | decide) only [go_sem, F, aIndex_map]
    all_goals rfl
  · clear F  hr hG
    rintro σ ⟨s, m, rfl, f1, f2, f3, hr, hG⟩
    have F := (And.intro f1 (And.intro f2 (And.intro f3 (And.intro w0 hG))))
    refine AW.seq ?_
    refine AW.seq ?_
    refine AW.region (cfg := cfg) ?_
    iterate 3 refine stp (fun _ h => s0 h) ?_
    iterate 2 refine mrg wa (fun hc _ h => s0 h) ?_
    refine stp (fun _ h => s0 h) ?_
    refine aops_nil ?_
    refine cnd (fun hb => ?ht2) (fun hb => ?hf2)
    case ht2 => (simp at hb; done)
    case hf2 =>
    have hbt16 := hb
    refine AW.exit ?_
    refine AW.seq ?_
    have w2 := aw1
    have w3 := aw2
    have w4 := aw3
    have F := And.intro w2 F
    have F := And.intro w3 F
    have F := And.intro w4 F
    refine AW.region (cfg := cfg) ?_
    refine stp (fun _ h => s0 h) ?_
    refine stp (fun _ h => cr (w := good_Sweep false [tk x23 61] (by simp) (by simp)) (x := h)) ?_
    iterate 5 refine stp (fun _ h => s0 h) ?_
    refine aops_nil ?_
    refine AW.seq ?_
    refine AW.region (cfg := cfg) ?_
    iterate 3 refine stp (fun _ h => s0 h) ?_
    refine mrg wa (fun hc _ h => s0 h) ?_
    refine mrg wa (fun hc _ h => sd h) ?_
    refine mrg wa (fun hc _ h => s0 h) ?_
    iterate 2 refine stp (fun _ h => s0 h) ?_
    refine mrg wa (fun hc _ h => s0 h) ?_
    refine mrg wa (fun hc _ h => si h) ?_
    refine mrg wa (fun hc _ h => sx h) ?_
    refine mrg wa (fun hc _ h => sl h) ?_
    iterate 2 refine stp (fun _ h => s0 h) ?_
    refine mrg wa (fun hc _ h => s0 h) ?_
    refine mrg wa (fun hc _ h => sd h) ?_
    refine mrg wa (fun hc _ h => s0 h) ?_
    iterate 2 refine stp (fun _ h => s0 h) ?_
    refine mrg wa (fun hc _ h => s0 h) ?_
    refine mrg wa (fun hc _ h => sd h) ?_
    refine mrg wa (fun hc _ h => s0 h) ?_
    iterate 2 refine stp (fun _ h => s0 h) ?_
    refine aops_nil ?_
    refine AW.ret ?_
    refine ⟨.inr rfl, ?_⟩
    refine leaves_tmp1 0 rfl ?_ (by exact hG)
    simp (disch := first | omega | decide) only [go_sem, F, aIndex_map]
    all_goals rfl
end Go.Vai.AG
