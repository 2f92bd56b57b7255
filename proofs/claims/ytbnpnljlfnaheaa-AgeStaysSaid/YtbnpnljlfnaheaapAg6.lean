import Derived.Test.YtbnpnljlfnaheaapAg2
namespace Go.Vai.AG
open Go.Proofs Go.Vai Go.Vai.I Go.Vai.N Go.Vai.Y
set_option linter.unusedSimpArgs false
set_option linter.unusedVariables false
set_option maxHeartbeats 4000000
set_option maxRecDepth 100000
theorem tick_no {nil : Bool} {l : List Ag} (h : agE l ≠ 0) : tickR nil l = (true, [], 1) ∧ agE l = 1 := by
  have := agE_1 h
  exact ⟨by rw [tickR, this]; rfl, by rw [agE, this]; rfl⟩
theorem tick_ok {nil : Bool} {l : List Ag} (h : ¬ agE l ≠ 0) : tickR nil l = (nil, tickS l l.length, 0) := by
  rw [tickR, agE_0 h, tickS_all]; rfl
theorem good_Tick (nil : Bool) (l : List Ag) (hl : l.length ≤ 1000000) (hz : nil = true → l = []) : Good Try.prog 28 [(.sl 4 nil (l.map agA), false)] [] [(.sl 4 (tickR nil l).1 ((tickR nil l).2.1.map agA), false), (i64 (tickR nil l).2.2, false)] [] := by
  refine good_of_body2 39 Try.func28 rfl rfl rfl (by simp) ?_
  intro s m ha hr hv hG
  have f0 : s 0 = .v (.sl 4 nil (l.map agA)) := ha 0 _ rfl
  clear ha
  have hc : True := trivial
  have F := (And.intro f0 hG)
  refine AW.seq ?_
  refine AW.region (cfg := cfg) ?_
  iterate 2 refine stp (fun _ h => s0 h) ?_
  refine aops_nil ?_
  refine AW.seq ?_
  refine AW.seq ?_
  refine AW.region (cfg := cfg) ?_
  refine stp (fun _ h => s0 h) ?_
  refine stp (fun _ h => cs (w := good_AgCheck nil l (by omega)) (x := h)) ?_
  refine stp (fun _ h => s0 h) ?_
  refine aops_nil ?_
  refine AW.seq ?_
  refine AW.region (cfg := cfg) ?_
  iterate 2 refine stp (fun _ h => s0 h) ?_
  refine aops_nil ?_
  refine cnd (fun hb => ?ht1) (fun hb => ?hf1)
  case ht1 =>
    have hw10 := hb
    try simp only [bo1, bo2, bo3, bo4, bo5, bo6] at hb
    have hbt10 := hb
    refine AW.seq ?_
    refine AW.region (cfg := cfg) ?_
    iterate 3 refine stp (fun _ h => s0 h) ?_
    refine aops_nil ?_
    refine AW.ret ?_
    refine ⟨.inr rfl, ?_⟩
    refine leaves_mwp2 (rs := [.tmp 2, .tmp 3]) rfl ?_
    simp (config := {failIfUnchanged := false}) [giveL, srcOne, rehome, freezeN, sub, upd, opn, aLoad, loadL, giveOne, reify, reifyL, readL, readOne, Mwp, M.bind, Mem.set, setAt, cellsL, hG, f0]
    all_goals (rw [(tick_no hbt10).1, (tick_no (nil := nil) hbt10).2]; simp; done)
  case hf1 =>
    have hw10 := hb
    try simp only [bo1, bo2, bo3, bo4, bo5, bo6] at hb
    have hbt10 := hb
    refine AW.skip ?_
    refine AW.seq ?_
    refine AW.region (cfg := cfg) ?_
    refine stp (fun _ h => s0 h) ?_
    refine stp (fun _ h => co1 (w := good_CloneAg nil l (by omega) hz) (x := h)) ?_
    refine stp (fun _ h => st h) ?_
    refine aops_nil ?_
    refine AW.seq ?_
    refine AW.seq ?_
    refine AW.region (cfg := cfg) ?_
    refine stp (fun _ h => s0 h) ?_
    refine stp (fun _ h => sn h) ?_
    refine stp (fun _ h => s0 h) ?_
    refine aops_nil ?_
    refine AW.block ?_
    refine AW.forN (fun k σ => ∃ s m, σ = ⟨39, s, m⟩ ∧ s 5 = .own (.var 5) (m.objs (.var 5)).1 0 (l.length) ∧ (m.objs (.var 5)).2 = .arr nil 4 ((tickS l k).map agA) ∧ s 15 = .v (i64 (l.length : Int)) ∧ s 16 = .v (i64 (k : Int)) ∧ (∀ i, (m.objs (.res i)).2 = .dead) ∧ m.G = []) (l.length) ?_ ?_ ?_
    · refine ⟨_, _, rfl, ?_, ?_, ?_, ?_, (by intro i; simp [Mem.set, hr]), (by exact hG)⟩ <;> try simp (disch := first | omega | decide) only [go_sem, F, aIndex_map]
      all_goals rfl
    · clear F f0 hr hG
      rintro k σ hk ⟨s, m, rfl, f5, o5, f15, f16, hr, hG⟩
      obtain ⟨g5, o5⟩ : ∃ g, m.objs (.var 5) = (g, .arr nil 4 ((tickS l k).map agA)) := ⟨_, Prod.ext rfl o5⟩
      rw [o5] at f5
      have F := (And.intro f5 (And.intro f15 (And.intro f16 (And.intro o5 hG))))
      refine AW.seq ?_
      refine AW.region (cfg := cfg) ?_
      refine stp (fun _ h => s0 h) ?_
      refine aops_nil ?_
      refine AW.seq ?_
      refine cnd (fun hb => ?ht2) (fun hb => ?hf2)
      case hf2 => (simp at hb; omega)
      case ht2 =>
      have hbt17 := hb
      refine AW.skip ?_
      refine AW.seq ?_
      refine AW.block ?_
      refine AW.seq ?_
      refine AW.region (cfg := cfg) ?_
      iterate 2 refine stp (fun _ h => s0 h) ?_
      refine aops_nil ?_
      refine AW.seq ?_
      refine AW.seq ?_
      have hlt : k < l.length := by assumption
      have hkt : k < (tickS l k).length := by (rw [tickS_len]; exact hlt)
      have hat := tickS_at hlt
      have hln := tickS_len l k
      have F := And.intro hat F
      have F := And.intro hln F
      refine AW.region (cfg := cfg) ?_
      iterate 2 refine stp (fun _ h => s0 h) ?_
      refine stp (fun _ h => si h) ?_
      refine stp (fun _ h => sxe h) ?_
      refine stp (fun _ h => sle h) ?_
      refine stp (fun _ h => s0 h) ?_
      refine aops_nil ?_
      refine cnd (fun hb => ?ht3) (fun hb => ?hf3)
      case ht3 =>
        have hw24 := hb
        try simp only [bo1, bo2, bo3, bo4, bo5, bo6] at hb
        have hbt24 := hb
        refine AW.seq ?_
        obtain ⟨y, hy⟩ : ∃ y : Ag, y = ⟨l[k].o, l[k].s, l[k].ag, true⟩ := ⟨_, rfl⟩
        have hst : setCells (agA (tickS l k)[k]) 3 [.b true] = agA y := by (rw [hat, hy]; rfl)
        refine AW.region (cfg := cfg) ?_
        iterate 2 refine stp (fun _ h => s0 h) ?_
        refine stp (fun _ h => si h) ?_
        refine stp (fun _ h => sxe h) ?_
        refine stp0 (fun _ h => sf2 (w := hst) (x := h)) ?_
        refine aops_nil ?_
        refine AW.exit ?_
        refine AW.region (cfg := cfg) ?_
        refine stp (fun _ h => sd h) ?_
        refine stp (fun _ h => s0 h) ?_
        refine aops_nil ?_
        refine ⟨_, _, rfl, ?_, ?_, ?_, ?_, (by intro i; simp [Mem.set, hr]), (by exact hG)⟩ <;> try simp (disch := first | omega | decide) only [go_sem, F, aIndex_map]
        all_goals first | rfl | (rw [tickS_succ hlt, tickF, if_pos hbt24, hy]; done)
      case hf3 =>
        have hw24 := hb
        try simp only [bo1, bo2, bo3, bo4, bo5, bo6] at hb
        have hbt24 := hb
        refine AW.skip ?_
        obtain ⟨y, hy⟩ : ∃ y : Ag, y = ⟨l[k].o, l[k].s, l[k].ag + 1, l[k].go⟩ := ⟨_, rfl⟩
        have hst : setCells (agA (tickS l k)[k]) 2 [i64 (l[k].ag + 1)] = agA y := by (rw [hat, hy]; rfl)
        have hw : IntKind.i64.wrap (l[k].ag + 1) = l[k].ag + 1 := IntWalk.i64_in _ (by have := agok_ag (chn_ok (agE_0 hbt10) l[k] (List.getElem_mem hlt)).1; omega)
        have F := And.intro hw F
        refine AW.region (cfg := cfg) ?_
        iterate 2 refine stp (fun _ h => s0 h) ?_
        refine stp (fun _ h => si h) ?_
        refine stp (fun _ h => sxe h) ?_
        refine stp (fun _ h => sle h) ?_
        refine stp (fun _ h => sd h) ?_
        refine stp (fun _ h => si h) ?_
        refine stp (fun _ h => sxe h) ?_
        refine stp0 (fun _ h => sf2 (w := hst) (x := h)) ?_
        refine aops_nil ?_
        refine AW.region (cfg := cfg) ?_
        refine stp (fun _ h => sd h) ?_
        refine stp (fun _ h => s0 h) ?_
        refine aops_nil ?_
        refine ⟨_, _, rfl, ?_, ?_, ?_, ?_, (by intro i; simp [Mem.set, hr]), (by exact hG)⟩ <;> try simp (disch := first | omega | decide) only [go_sem, F, aIndex_map]
        all_goals first | rfl | (rw [tickS_succ hlt, tickF, if_neg hbt24, hy]; done)
    · clear F f0 hr hG
      rintro σ ⟨s, m, rfl, f5, o5, f15, f16, hr, hG⟩
      obtain ⟨g5, o5⟩ : ∃ g, m.objs (.var 5) = (g, .arr nil 4 ((tickS l l.length).map agA)) := ⟨_, Prod.ext rfl o5⟩
      rw [o5] at f5
      have F := (And.intro f5 (And.intro f15 (And.intro f16 (And.intro o5 hG))))
      refine AW.seq ?_
      refine AW.region (cfg := cfg) ?_
      refine stp (fun _ h => s0 h) ?_
      refine aops_nil ?_
      refine AW.seq ?_
      refine cnd (fun hb => ?ht4) (fun hb => ?hf4)
      case ht4 => (simp at hb; done)
      case hf4 =>
      have hbt17 := hb
      refine AW.exit ?_
      refine AW.seq ?_
      refine AW.region (cfg := cfg) ?_
      refine stp (fun _ h => s0 h) ?_
      refine stp (fun _ h => sm h) ?_
      refine stp (fun _ h => s0 h) ?_
      refine aops_nil ?_
      refine AW.ret ?_
      refine ⟨.inr rfl, ?_⟩
      refine leaves_mwp2 (rs := [.tmp 2, .tmp 3]) rfl ?_
      simp (config := {failIfUnchanged := false}) [giveL, srcOne, rehome, freezeN, sub, upd, opn, aLoad, loadL, giveOne, reify, reifyL, readL, readOne, Mwp, M.bind, Mem.set, setAt, cellsL, hG, f5, f15, f16, o5]
      all_goals (rw [tick_ok hbt10]; simp [List.take_of_length_le, tickS_len]; done)
end Go.Vai.AG
