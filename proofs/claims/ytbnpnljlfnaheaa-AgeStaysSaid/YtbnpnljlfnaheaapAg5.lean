import Derived.Test.YtbnpnljlfnaheaapAg2
namespace Go.Vai.AG
open Go.Proofs Go.Vai Go.Vai.I Go.Vai.N Go.Vai.Y
set_option linter.unusedSimpArgs false
set_option linter.unusedVariables false
set_option maxHeartbeats 4000000
set_option maxRecDepth 100000
theorem good_thoseA (nil : Bool) (l : List Ag) (hl : l.length ≤ 1000000) (fm : FuncId) (p : Ag → Bool) (hpu : cfg.pure fm = true) (hsc : cfg.scalar fm = true) (hxf : cfg.xfer fm = false) (hp : ∀ x, Good Try.prog fm [(agA x, false)] [] [(.b (p x), false)] []) : Good Try.prog 52 [(.sl 4 nil (l.map agA), false), (.clo fm [], false)] [] [(.sl 1 (thR p l).isEmpty ((thR p l).map i64), false)] [] := by
  refine good_of_body2 28 Try.func52 rfl rfl rfl (by simp) ?_
  intro s m ha hr hv hG
  have f0 : s 0 = .v (.sl 4 nil (l.map agA)) := ha 0 _ rfl
  have f1 : s 1 = .v (.clo fm []) := ha 1 _ rfl
  clear ha
  have hc : True := trivial
  have F := (And.intro f0 (And.intro f1 hG))
  refine AW.seq ?_
  refine AW.region (cfg := cfg) ?_
  refine stp (fun _ h => s0 h) ?_
  refine aops_nil ?_
  refine AW.seq ?_
  refine AW.region (cfg := cfg) ?_
  refine stp (fun _ h => s0 h) ?_
  refine aops_nil ?_
  refine AW.seq ?_
  refine AW.seq ?_
  refine AW.region (cfg := cfg) ?_
  refine stp (fun _ h => s0 h) ?_
  refine stp (fun _ h => cs (w := good_AgCheck nil l (by omega)) (x := h)) ?_
  refine stp (fun _ h => s0 h) ?_
  refine aops_nil ?_
  refine cnd (fun hb => ?ht1) (fun hb => ?hf1)
  case ht1 =>
    have hw10 := hb
    try simp only [bo1, bo2, bo3, bo4, bo5, bo6] at hb
    have hbt10 := hb
    refine AW.seq ?_
    refine AW.region (cfg := cfg) ?_
    refine stp (fun _ h => s0 h) ?_
    refine aops_nil ?_
    refine AW.ret ?_
    refine ⟨.inr rfl, ?_⟩
    refine leaves_mwp2 (rs := [.tmp 4]) rfl ?_
    simp (config := {failIfUnchanged := false}) [giveL, srcOne, rehome, freezeN, sub, upd, opn, aLoad, loadL, giveOne, reify, reifyL, readL, readOne, Mwp, M.bind, Mem.set, setAt, cellsL, hG, f0, f1]
    all_goals (rw [thR, agE_1 hbt10]; simp; done)
  case hf1 =>
    have hw10 := hb
    try simp only [bo1, bo2, bo3, bo4, bo5, bo6] at hb
    have hbt10 := hb
    refine AW.skip ?_
    refine AW.seq ?_
    refine AW.seq ?_
    refine AW.region (cfg := cfg) ?_
    refine stp (fun _ h => s0 h) ?_
    refine stp (fun _ h => sd h) ?_
    refine stp (fun _ h => s0 h) ?_
    refine aops_nil ?_
    refine AW.block ?_
    refine AW.forN (fun k σ => ∃ s m, σ = ⟨28, s, m⟩ ∧ s 1 = .v (.clo fm []) ∧ s 5 = .own (.var 5) (m.objs (.var 5)).1 0 ((thL p (l.take k)).length) ∧ (m.objs (.var 5)).2 = .arr (thL p (l.take k)).isEmpty 1 ((thL p (l.take k)).map i64) ∧ s 11 = .v (.sl 4 nil (l.map agA)) ∧ s 12 = .v (i64 (l.length : Int)) ∧ s 13 = .v (i64 (k : Int)) ∧ (∀ i, (m.objs (.res i)).2 = .dead) ∧ m.G = []) (l.length) ?_ ?_ ?_
    · refine ⟨_, _, rfl, ?_, ?_, ?_, ?_, ?_, ?_, (by intro i; simp [Mem.set, hr]), (by exact hG)⟩ <;> try simp (disch := first | omega | decide) only [go_sem, F, aIndex_map]
      all_goals rfl
    · clear F f0 f1 hr hG
      rintro k σ hk ⟨s, m, rfl, f1, f5, o5, f11, f12, f13, hr, hG⟩
      obtain ⟨g5, o5⟩ : ∃ g, m.objs (.var 5) = (g, .arr (thL p (l.take k)).isEmpty 1 ((thL p (l.take k)).map i64)) := ⟨_, Prod.ext rfl o5⟩
      rw [o5] at f5
      have F := (And.intro f1 (And.intro f5 (And.intro f11 (And.intro f12 (And.intro f13 (And.intro o5 hG))))))
      refine AW.seq ?_
      refine AW.region (cfg := cfg) ?_
      refine stp (fun _ h => s0 h) ?_
      refine aops_nil ?_
      refine AW.seq ?_
      refine cnd (fun hb => ?ht2) (fun hb => ?hf2)
      case hf2 => (simp at hb; omega)
      case ht2 =>
      have hbt14 := hb
      refine AW.skip ?_
      refine AW.seq ?_
      refine AW.block ?_
      refine AW.seq ?_
      refine AW.region (cfg := cfg) ?_
      refine stp (fun _ h => si h) ?_
      refine stp (fun _ h => sl h) ?_
      refine stp (fun _ h => sd h) ?_
      refine stp0 (fun _ h => ss h) ?_
      refine aops_nil ?_
      refine AW.seq ?_
      refine AW.region (cfg := cfg) ?_
      refine stp (fun _ h => s0 h) ?_
      refine stp (fun _ h => sl h) ?_
      apply aops_step (by decide) rfl
      · intro K hK
        simp (disch := first | omega | decide) only [go_sem, F, aIndex_map, act_callv, List.map]
        apply mwp_call_sc hpu hxf hsc
        · intro Q hQ
          simp (disch := first | omega | decide) only [go_sem, F, aIndex_map, peekL, reifyL_nil, reifyL_cons, reify_v]
          exact hQ
        · exact hp l[k]
        · simp [noPtrL, noPtr, agA]
        · rfl
        · exact hK _
      refine aops_nil ?_
      refine cnd (fun hb => ?ht3) (fun hb => ?hf3)
      case ht3 =>
        have hw19 := hb
        try simp only [bo1, bo2, bo3, bo4, bo5, bo6] at hb
        have hbt19 := hb
        have wb := th_le p l k
        refine AW.region (cfg := cfg) ?_
        refine stp (fun _ h => s0 h) ?_
        iterate 2 refine stp (fun _ h => sx h) ?_
        refine stp (fun _ h => sl h) ?_
        refine stp (fun _ h => sq h) ?_
        refine stp (fun _ h => sp h) ?_
        refine stp (fun _ h => st h) ?_
        refine aops_nil ?_
        refine AW.region (cfg := cfg) ?_
        refine stp (fun _ h => sd h) ?_
        refine stp (fun _ h => s0 h) ?_
        refine aops_nil ?_
        refine ⟨_, _, rfl, ?_, ?_, ?_, ?_, ?_, ?_, (by intro i; simp [Mem.set, hr]), (by exact hG)⟩ <;> try simp (disch := first | omega | decide) only [go_sem, F, aIndex_map]
        all_goals first | rfl | (rw [th_yes hk hbt19]; simp; done)
      case hf3 =>
        have hw19 := hb
        try simp only [bo1, bo2, bo3, bo4, bo5, bo6] at hb
        have hbt19 := hb
        refine AW.skip ?_
        refine AW.region (cfg := cfg) ?_
        refine stp (fun _ h => sd h) ?_
        refine stp (fun _ h => s0 h) ?_
        refine aops_nil ?_
        refine ⟨_, _, rfl, ?_, ?_, ?_, ?_, ?_, ?_, (by intro i; simp [Mem.set, hr]), (by exact hG)⟩ <;> try simp (disch := first | omega | decide) only [go_sem, F, aIndex_map]
        all_goals first | rfl | (rw [th_no hk hbt19]; done)
    · clear F f0 f1 hr hG
      rintro σ ⟨s, m, rfl, f1, f5, o5, f11, f12, f13, hr, hG⟩
      obtain ⟨g5, o5⟩ : ∃ g, m.objs (.var 5) = (g, .arr (thL p (l.take l.length)).isEmpty 1 ((thL p (l.take l.length)).map i64)) := ⟨_, Prod.ext rfl o5⟩
      rw [o5] at f5
      have F := (And.intro f1 (And.intro f5 (And.intro f11 (And.intro f12 (And.intro f13 (And.intro o5 hG))))))
      refine AW.seq ?_
      refine AW.region (cfg := cfg) ?_
      refine stp (fun _ h => s0 h) ?_
      refine aops_nil ?_
      refine AW.seq ?_
      refine cnd (fun hb => ?ht4) (fun hb => ?hf4)
      case ht4 => (simp at hb; done)
      case hf4 =>
      have hbt14 := hb
      refine AW.exit ?_
      refine AW.seq ?_
      refine AW.region (cfg := cfg) ?_
      refine stp (fun _ h => s0 h) ?_
      refine stp (fun _ h => sm h) ?_
      refine aops_nil ?_
      refine AW.ret ?_
      refine ⟨.inr rfl, ?_⟩
      refine leaves_mwp2 (rs := [.tmp 4]) rfl ?_
      simp (config := {failIfUnchanged := false}) [giveL, srcOne, rehome, freezeN, sub, upd, opn, aLoad, loadL, giveOne, reify, reifyL, readL, readOne, Mwp, M.bind, Mem.set, setAt, cellsL, hG, f1, f5, f11, f12, f13, o5]
      all_goals (rw [thR, agE_0 hbt10]; simp [List.take_of_length_le]; done)
end Go.Vai.AG
