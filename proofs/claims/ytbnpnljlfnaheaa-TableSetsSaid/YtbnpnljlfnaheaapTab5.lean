import Derived.Test.YtbnpnljlfnaheaapTab4
namespace Go.Vai.T
open Go.Proofs Go.Vai Go.Vai.N
set_option linter.unusedSimpArgs false
set_option linter.unusedVariables false
set_option maxHeartbeats 4000000
set_option maxRecDepth 100000
structure Pr where
  a : Int
  b : Int
  deriving DecidableEq, Inhabited
def prA (x : Pr) : AV := .agg [.i .i64 x.a, .i .i64 x.b]
theorem cellsOf_pr (x : Pr) : cellsOf (prA x) = [.i .i64 x.a, .i .i64 x.b] := rfl
@[simp] theorem noPtr_pr (x : Pr) : noPtr (prA x) = true := by simp [prA, noPtr, noPtrL]
@[simp] theorem noPtrL_prs (l : List Pr) : noPtrL (l.map prA) = true := noPtrL_map noPtr_pr _
@[simp] theorem noPtrL_ints (l : List Int) : noPtrL (l.map i64) = true := noPtrL_map (fun _ => rfl) _
def thL {α : Type} (p : Nr → Bool) (t : Nr → α) (l : List Nr) : List α := (l.filter p).map t
def thR {α : Type} (p : Nr → Bool) (t : Nr → α) (l : List Nr) : List α := if tabOK l then thL p t l else []
theorem th_yes {α : Type} {p : Nr → Bool} {t : Nr → α} {l : List Nr} {k : Nat} (hk : k < l.length) (h : p l[k] = true) : thL p t (l.take (k + 1)) = thL p t (l.take k) ++ [t l[k]] := by
  rw [List.take_succ_eq_append_getElem hk, thL, thL, List.filter_append, List.map_append]; simp [h]
theorem th_no {α : Type} {p : Nr → Bool} {t : Nr → α} {l : List Nr} {k : Nat} (hk : k < l.length) (h : p l[k] = false) : thL p t (l.take (k + 1)) = thL p t (l.take k) := by
  rw [List.take_succ_eq_append_getElem hk, thL, thL, List.filter_append, List.map_append]; simp [h]
theorem th_le {α : Type} (p : Nr → Bool) (t : Nr → α) (l : List Nr) (k : Nat) : (thL p t (l.take k)).length ≤ k := by
  rw [thL, List.length_map]
  exact Nat.le_trans (List.length_filter_le _ _) (by simp; omega)
attribute [go_sem] cellsOf_pr
theorem good_thoseH (nil : Bool) (l : List Nr) (hl : l.length ≤ 1000000) (fm ft : FuncId) (p : Nr → Bool) (t : Nr → Pr) (hpu1 : cfg.pure fm = true) (hsc1 : cfg.scalar fm = true) (hxf1 : cfg.xfer fm = false) (hxf2 : cfg.xfer ft = false) (hpu2 : cfg.pure ft = true) (hsc2 : cfg.scalar ft = false) (hp : ∀ x, Good Try.prog fm [(nrA x, false)] [] [(.b (p x), false)] []) (ht : ∀ x, Good Try.prog ft [(nrA x, false)] [] [(prA (t x), false)] []) : Good Try.prog 63 [(.sl 8 nil (l.map nrA), false), (.clo fm [], false), (.clo ft [], false)] [] [(.sl 2 (thR p t l).isEmpty ((thR p t l).map prA), false)] [] := by
  refine good_of_body5 30 Try.func63 rfl rfl rfl (by simp) (by simp) (by simp [noPtrL, noPtr]) (by simp [noPtrL, noPtr]) ?_
  intro s m ha hr hv hG
  have f0 : s 0 = .v (.sl 8 nil (l.map nrA)) := ha 0 _ rfl
  have f1 : s 1 = .v (.clo fm []) := ha 1 _ rfl
  have f2 : s 2 = .v (.clo ft []) := ha 2 _ rfl
  clear ha
  have hc : True := trivial
  have F := (And.intro f0 (And.intro f1 (And.intro f2 hG)))
  refine AW.seq ?_
  refine AW.region (cfg := cfg) ?_
  refine stp (fun _ h => s0 h) ?_
  refine aops_nil ?_
  refine AW.seq ?_
  refine AW.region (cfg := cfg) ?_
  refine stp (fun _ h => s0 h) ?_
  refine aops_nil ?_
  refine AW.seq ?_
  refine AW.seq ?_
  refine AW.region (cfg := cfg) ?_
  refine stp (fun _ h => s0 h) ?_
  refine stp (fun _ h => cs (w := good_CheckT nil l (by omega)) (x := h)) ?_
  refine stp (fun _ h => s0 h) ?_
  refine aops_nil ?_
  refine cnd (fun hb => ?ht1) (fun hb => ?hf1)
  case ht1 =>
    have hw12 := hb
    try simp only [bo1, bo2, bo3, bo4, bo5, bo6] at hb
    have hbt12 := hb
    refine AW.seq ?_
    refine AW.region (cfg := cfg) ?_
    refine stp (fun _ h => s0 h) ?_
    refine aops_nil ?_
    refine AW.ret ?_
    refine ⟨.inr rfl, ?_⟩
    apply Exists.intro
    (have zz : thR p t l = [] := by rw [thR, tab_1 (by assumption)]; rfl)
    rw [zz]
    refine leavesN ?_
    refine leaves_mwp2 (rs := [.tmp 6]) rfl ?_; simp (config := {failIfUnchanged := false}) [giveL, srcOne, rehome, freezeN, sub, upd, opn, aLoad, loadL, giveOne, reify, reifyL, readL, readOne, Mwp, M.bind, Mem.set, setAt, cellsL, hG, f0, f1, f2]
    exact rfl
  case hf1 =>
    have hw12 := hb
    try simp only [bo1, bo2, bo3, bo4, bo5, bo6] at hb
    have hbt12 := hb
    refine AW.skip ?_
    refine AW.seq ?_
    refine AW.seq ?_
    refine AW.region (cfg := cfg) ?_
    refine stp (fun _ h => s0 h) ?_
    refine stp (fun _ h => sd h) ?_
    refine stp (fun _ h => s0 h) ?_
    refine aops_nil ?_
    refine AW.block ?_
    refine AW.forN (fun k σ => ∃ s m, σ = ⟨30, s, m⟩ ∧ s 1 = .v (.clo fm []) ∧ s 2 = .v (.clo ft []) ∧ s 7 = .own (.var 7) (m.objs (.var 7)).1 0 ((thL p t (l.take k)).length) ∧ (m.objs (.var 7)).2 = .arr (thL p t (l.take k)).isEmpty 2 ((thL p t (l.take k)).map prA) ∧ s 13 = .v (.sl 8 nil (l.map nrA)) ∧ s 14 = .v (i64 (l.length : Int)) ∧ s 15 = .v (i64 (k : Int)) ∧ (∀ i, (m.objs (.res i)).2 = .dead) ∧ m.G = []) (l.length) ?_ ?_ ?_
    · refine ⟨_, _, rfl, ?_, ?_, ?_, ?_, ?_, ?_, ?_, (by intro i; simp [Mem.set, hr]), (by exact hG)⟩ <;> try simp (disch := first | omega | decide) only [go_sem, F, aIndex_map]
      all_goals rfl
    · clear F f0 f1 f2 hr hG
      rintro k σ hk ⟨s, m, rfl, f1, f2, f7, o7, f13, f14, f15, hr, hG⟩
      obtain ⟨g7, o7⟩ : ∃ g, m.objs (.var 7) = (g, .arr (thL p t (l.take k)).isEmpty 2 ((thL p t (l.take k)).map prA)) := ⟨_, Prod.ext rfl o7⟩
      rw [o7] at f7
      have F := (And.intro f1 (And.intro f2 (And.intro f7 (And.intro f13 (And.intro f14 (And.intro f15 (And.intro o7 hG)))))))
      refine AW.seq ?_
      refine AW.region (cfg := cfg) ?_
      refine stp (fun _ h => s0 h) ?_
      refine aops_nil ?_
      refine AW.seq ?_
      refine cnd (fun hb => ?ht2) (fun hb => ?hf2)
      case hf2 => (simp at hb; omega)
      case ht2 =>
      have hbt16 := hb
      refine AW.skip ?_
      refine AW.seq ?_
      refine AW.block ?_
      refine AW.seq ?_
      refine AW.region (cfg := cfg) ?_
      refine stp (fun _ h => si h) ?_
      refine stp (fun _ h => sl h) ?_
      refine stp (fun _ h => sd h) ?_
      refine stp0 (fun _ h => ss h) ?_
      refine aops_nil ?_
      refine AW.seq ?_
      refine AW.region (cfg := cfg) ?_
      refine stp (fun _ h => s0 h) ?_
      refine stp (fun _ h => sl h) ?_
      apply aops_step (by decide) rfl
      · intro K hK
        simp (disch := first | omega | decide) only [go_sem, F, aIndex_map, act_callv, List.map]
        apply mwp_call_sc hpu1 hxf1 hsc1
        · intro Q hQ
          simp (disch := first | omega | decide) only [go_sem, F, aIndex_map, peekL, reifyL_nil, reifyL_cons, reify_v]
          exact hQ
        · exact hp l[k]
        · simp [noPtrL, noPtr, nrA]
        · rfl
        · exact hK _
      refine aops_nil ?_
      refine cnd (fun hb => ?ht3) (fun hb => ?hf3)
      case ht3 =>
        have hw21 := hb
        try simp only [bo1, bo2, bo3, bo4, bo5, bo6] at hb
        have hbt21 := hb
        have wb := th_le p t l k
        refine AW.region (cfg := cfg) ?_
        iterate 2 refine stp (fun _ h => s0 h) ?_
        refine stp (fun _ h => sl h) ?_
        apply aops_step (by decide) rfl
        · intro K hK
          simp (disch := first | omega | decide) only [go_sem, F, aIndex_map, act_callv, List.map]
          apply mwp_call_r hpu2 hxf2 hsc2
          · intro Q hQ
            (simp (disch := first | omega | decide) only [go_sem, F, aIndex_map, peekL, reifyL_nil, reifyL_cons, reify_v]; (exact hQ))
          · exact ht l[k]
          · simp [noPtrL, noPtr, nrA]
          · simp (disch := first | omega | decide) only [go_sem, F, aIndex_map]
            exact hK _
        refine stp (fun _ h => sq h) ?_
        refine stp (fun _ h => sp h) ?_
        refine stp (fun _ h => st h) ?_
        refine aops_nil ?_
        refine AW.region (cfg := cfg) ?_
        refine stp (fun _ h => sd h) ?_
        refine stp (fun _ h => s0 h) ?_
        refine aops_nil ?_
        refine ⟨_, _, rfl, ?_, ?_, ?_, ?_, ?_, ?_, ?_, (by intro i; simp [Mem.set, hr]), (by exact hG)⟩ <;> try simp (disch := first | omega | decide) only [go_sem, F, aIndex_map]
        all_goals first | rfl | (rw [th_yes hk hb]; simp; done)
      case hf3 =>
        have hw21 := hb
        try simp only [bo1, bo2, bo3, bo4, bo5, bo6] at hb
        have hbt21 := hb
        refine AW.skip ?_
        refine AW.region (cfg := cfg) ?_
        refine stp (fun _ h => sd h) ?_
        refine stp (fun _ h => s0 h) ?_
        refine aops_nil ?_
        refine ⟨_, _, rfl, ?_, ?_, ?_, ?_, ?_, ?_, ?_, (by intro i; simp [Mem.set, hr]), (by exact hG)⟩ <;> try simp (disch := first | omega | decide) only [go_sem, F, aIndex_map]
        all_goals first | rfl | (rw [th_no hk hb]; done)
    · clear F f0 f1 f2 hr hG
      rintro σ ⟨s, m, rfl, f1, f2, f7, o7, f13, f14, f15, hr, hG⟩
      obtain ⟨g7, o7⟩ : ∃ g, m.objs (.var 7) = (g, .arr (thL p t (l.take l.length)).isEmpty 2 ((thL p t (l.take l.length)).map prA)) := ⟨_, Prod.ext rfl o7⟩
      rw [o7] at f7
      have F := (And.intro f1 (And.intro f2 (And.intro f7 (And.intro f13 (And.intro f14 (And.intro f15 (And.intro o7 hG)))))))
      refine AW.seq ?_
      refine AW.region (cfg := cfg) ?_
      refine stp (fun _ h => s0 h) ?_
      refine aops_nil ?_
      refine AW.seq ?_
      refine cnd (fun hb => ?ht4) (fun hb => ?hf4)
      case ht4 => (simp at hb; done)
      case hf4 =>
      have hbt16 := hb
      refine AW.exit ?_
      refine AW.seq ?_
      refine AW.region (cfg := cfg) ?_
      refine stp (fun _ h => s0 h) ?_
      refine stp (fun _ h => sm h) ?_
      refine aops_nil ?_
      refine AW.ret ?_
      refine ⟨.inr rfl, ?_⟩
      apply Exists.intro
      (have zz : thR p t l = thL p t (l.take l.length) := by rw [thR, tab_0 (by assumption), List.take_length]; rfl)
      rw [zz]
      refine leavesN ?_
      refine leaves_mwp2 (rs := [.tmp 6]) rfl ?_; simp (config := {failIfUnchanged := false}) [giveL, srcOne, rehome, freezeN, sub, upd, opn, aLoad, loadL, giveOne, reify, reifyL, readL, readOne, Mwp, M.bind, Mem.set, setAt, cellsL, hG, f1, f2, f7, f13, f14, f15, o7]
      exact ⟨List.take_of_length_le (by simp), rfl⟩
end Go.Vai.T
