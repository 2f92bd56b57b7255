import Derived.Test.YtheihmlgnldijaatTab5
namespace Go.Vai.T
open Go.Proofs Go.Vai Go.Vai.N
set_option linter.unusedSimpArgs false
set_option linter.unusedVariables false
set_option maxHeartbeats 4000000
set_option maxRecDepth 100000
theorem good_thoseL (nil : Bool) (l : List Nr) (hl : l.length ≤ 1000000) (fm ft : FuncId) (p : Nr → Bool) (t : Nr → Pr) (hpu1 : cfg.pure fm = true) (hsc1 : cfg.scalar fm = true) (hxf1 : cfg.xfer fm = false) (hxf2 : cfg.xfer ft = false) (hpu2 : cfg.pure ft = true) (hsc2 : cfg.scalar ft = false) (hp : ∀ x, Good Try.prog fm [(nrA x, false)] [] [(.b (p x), false)] []) (ht : ∀ x, Good Try.prog ft [(nrA x, false)] [] [(prA (t x), false)] []) : Good Try.prog 44 [(.sl 8 nil (l.map nrA), false), (.clo fm [], false), (.clo ft [], false)] [] [(.sl 2 (thR p t l).isEmpty ((thR p t l).map prA), false)] [] := by
  refine good_of_body5 30 Try.func44 rfl rfl rfl (by simp) (by simp) (by simp [noPtrL, noPtr]) (by simp [noPtrL, noPtr]) ?_
  intro s m ha hr hv hG
  have f0 : s 0 = .v (.sl 8 nil (l.map nrA)) := ha 0 _ rfl
  have f1 : s 1 = .v (.clo fm []) := ha 1 _ rfl
  have f2 : s 2 = .v (.clo ft []) := ha 2 _ rfl
  clear ha
  have hc : True := trivial
  have F := (And.intro f0 (And.intro f1 (And.intro f2 hG)))
  refine AW.seq ?_
  refine AW.region (cfg := cfg) ?_
  refine stp (fun _ h => s0 h) ?_
  refine aops_nil ?_
  refine AW.seq ?_
  refine AW.region (cfg := cfg) ?_
  refine stp (fun _ h => s0 h) ?_
  refine aops_nil ?_
  refine AW.seq ?_
  refine AW.seq ?_
  refine AW.region (cfg := cfg) ?_
  refine stp (fun _ h => s0 h) ?_
  refine stp (fun _ h => cs (w := good_CheckT nil l (by omega)) (x := h)) ?_
  refine stp (fun _ h => s0 h) ?_
  refine aops_nil ?_
  refine cnd (fun hb => ?ht1) (fun hb => ?hf1)
  case ht1 =>
    have hw12 := hb
    try simp only [bo1, bo2, bo3, bo4, bo5, bo6] at hb
    have hbt12 := hb
    refine AW.seq ?_
    refine AW.region (cfg := cfg) ?_
    refine stp (fun _ h => s0 h) ?_
    refine aops_nil ?_
    refine AW.ret ?_
    refine ⟨.inr rfl, ?_⟩
    apply Exists.intro
    (have zz : thR p t l = [] := by rw [thR, tab_1 (by assumption)]; rfl)
    rw [zz]
    refine leavesN ?_
    refine leaves_mwp2 (rs := [.tmp 6]) rfl ?_; simp (config := {failIfUnchanged := false}) [giveL, srcOne, rehome, freezeN, sub, upd, opn, aLoad, loadL, giveOne, reify, reifyL, readL, readOne, Mwp, M.bind, Mem.set, setAt, cellsL, hG, f0, f1, f2]
    exact rfl
  case hf1 =>
    have hw12 := hb
    try simp only [bo1, bo2, bo3, bo4, bo5, bo6] at hb
    have hbt12 := hb
    refine AW.skip ?_
    refine AW.seq ?_
    refine AW.seq ?_
    refine AW.region (cfg := cfg) ?_
    refine stp (fun _ h => s0 h) ?_
    refine stp (fun _ h => sd h) ?_
    refine stp (fun _ h => s0 h) ?_
    refine aops_nil ?_
    refine AW.block ?_
    refine AW.forN (fun k σ => ∃ s m, σ = ⟨30, s, m⟩ ∧ s 1 = .v (.clo fm []) ∧ s 2 = .v (.clo ft []) ∧ s 7 = .own (.var 7) (m.objs (.var 7)).1 0 ((thL p t (l.take k)).length) ∧ (m.objs (.var 7)).2 = .arr (thL p t (l.take k)).isEmpty 2 ((thL p t (l.take k)).map prA) ∧ s 13 = .v (.sl 8 nil (l.map nrA)) ∧ s 14 = .v (i64 (l.length : Int)) ∧ s 15 = .v (i64 (k : Int)) ∧ (∀ i, (m.objs (.res i)).2 = .dead) ∧ m.G = []) (l.length) ?_ ?_ ?_
    · refine ⟨_, _, rfl, ?_, ?_, ?_, ?_, ?_, ?_, ?_, (by intro i; simp [Mem.set, hr]), (by exact hG)⟩ <;> try simp (disch := first | omega | decide) only [go_sem, F, aIndex_map]
      all_goals rfl
    · clear F f0 f1 f2 hr hG
      rintro k σ hk ⟨s, m, rfl, f1, f2, f7, o7, f13, f14, f15, hr, hG⟩
      obtain ⟨g7, o7⟩ : ∃ g, m.objs (.var 7) = (g, .arr (thL p t (l.take k)).isEmpty 2 ((thL p t (l.take k)).map prA)) := ⟨_, Prod.ext rfl o7⟩
      rw [o7] at f7
      have F := (And.intro f1 (And.intro f2 (And.intro f7 (And.intro f13 (And.intro f14 (And.intro f15 (And.intro o7 hG)))))))
      refine AW.seq ?_
      refine AW.region (cfg := cfg) ?_
      refine stp (fun _ h => s0 h) ?_
      refine aops_nil ?_
      refine AW.seq ?_
      refine cnd (fun hb => ?ht2) (fun hb => ?hf2)
      case hf2 => (simp at hb; omega)
      case ht2 =>
      have hbt16 := hb
      refine AW.skip ?_
      refine AW.seq ?_
      refine AW.block ?_
      refine AW.seq ?_
      refine AW.region (cfg := cfg) ?_
      refine stp (fun _ h => si h) ?_
      refine stp (fun _ h => sl h) ?_
      refine stp (fun _ h => sd h) ?_
      refine stp0 (fun _ h => ss h) ?_
      refine aops_nil ?_
      refine AW.seq ?_
      refine AW.region (cfg := cfg) ?_
      refine stp (fun _ h => s0 h) ?_
      refine stp (fun _ h => sl h) ?_
      apply aops_step (by decide) rfl
      · intro K hK
        simp (disch := first | omega | decide) only [go_sem, F, aIndex_map, act_callv, List.map]
        apply mwp_call_sc hpu1 hxf1 hsc1
        · intro Q hQ
          simp (disch := first | omega | decide) only [go_sem, F, aIndex_map, peekL, reifyL_nil, reifyL_cons, reify_v]
          exact hQ
        · exact hp l[k]
        · simp [noPtrL, noPtr, nrA]
        · rfl
        · exact hK _
      refine aops_nil ?_
      refine cnd (fun hb => ?ht3) (fun hb => ?hf3)
      case ht3 =>
        have hw21 := hb
        try simp only [bo1, bo2, bo3, bo4, bo5, bo6] at hb
        have hbt21 := hb
        have wb := th_le p t l k
        refine AW.region (cfg := cfg) ?_
        iterate 2 refine stp (fun _ h => s0 h) ?_
        refine stp (fun _ h => sl h) ?_
        apply aops_step (by decide) rfl
        · intro K hK
          simp (disch := first | omega | decide) only [go_sem, F, aIndex_map, act_callv, List.map]
          apply mwp_call_r hpu2 hxf2 hsc2
          · intro Q hQ
            (simp (disch := first | omega | decide) only [go_sem, F, aIndex_map, peekL, reifyL_nil, reifyL_cons, reify_v]; (exact hQ))
          · exact ht l[k]
          · simp [noPtrL, noPtr, nrA]
          · simp (disch := first | omega | decide) only [go_sem, F, aIndex_map]
            exact hK _
        refine stp (fun _ h => sq h) ?_
        refine stp (fun _ h => sp h) ?_
        refine stp (fun _ h => st h) ?_
        refine aops_nil ?_
        refine AW.region (cfg := cfg) ?_
        refine stp (fun _ h => sd h) ?_
        refine stp (fun _ h => s0 h) ?_
        refine aops_nil ?_
        refine ⟨_, _, rfl, ?_, ?_, ?_, ?_, ?_, ?_, ?_, (by intro i; simp [Mem.set, hr]), (by exact hG)⟩ <;> try simp (disch := first | omega | decide) only [go_sem, F, aIndex_map]
        all_goals first | rfl | (rw [th_yes hk hb]; simp; done)
      case hf3 =>
        have hw21 := hb
        try simp only [bo1, bo2, bo3, bo4, bo5, bo6] at hb
        have hbt21 := hb
        refine AW.skip ?_
        refine AW.region (cfg := cfg) ?_
        refine stp (fun _ h => sd h) ?_
        refine stp (fun _ h => s0 h) ?_
        refine aops_nil ?_
        refine ⟨_, _, rfl, ?_, ?_, ?_, ?_, ?_, ?_, ?_, (by intro i; simp [Mem.set, hr]), (by exact hG)⟩ <;> try simp (disch := first | omega | decide) only [go_sem, F, aIndex_map]
        all_goals first | rfl | (rw [th_no hk hb]; done)
    · clear F f0 f1 f2 hr hG
      rintro σ ⟨s, m, rfl, f1, f2, f7, o7, f13, f14, f15, hr, hG⟩
      obtain ⟨g7, o7⟩ : ∃ g, m.objs (.var 7) = (g, .arr (thL p t (l.take l.length)).isEmpty 2 ((thL p t (l.take l.length)).map prA)) := ⟨_, Prod.ext rfl o7⟩
      rw [o7] at f7
      have F := (And.intro f1 (And.intro f2 (And.intro f7 (And.intro f13 (And.intro f14 (And.intro f15 (And.intro o7 hG)))))))
      refine AW.seq ?_
      refine AW.region (cfg := cfg) ?_
      refine stp (fun _ h => s0 h) ?_
      refine aops_nil ?_
      refine AW.seq ?_
      refine cnd (fun hb => ?ht4) (fun hb => ?hf4)
      case ht4 => (simp at hb; done)
      case hf4 =>
      have hbt16 := hb
      refine AW.exit ?_
      refine AW.seq ?_
      refine AW.region (cfg := cfg) ?_
      refine stp (fun _ h => s0 h) ?_
      refine stp (fun _ h => sm h) ?_
      refine aops_nil ?_
      refine AW.ret ?_
      refine ⟨.inr rfl, ?_⟩
      apply Exists.intro
      (have zz : thR p t l = thL p t (l.take l.length) := by rw [thR, tab_0 (by assumption), List.take_length]; rfl)
      rw [zz]
      refine leavesN ?_
      refine leaves_mwp2 (rs := [.tmp 6]) rfl ?_; simp (config := {failIfUnchanged := false}) [giveL, srcOne, rehome, freezeN, sub, upd, opn, aLoad, loadL, giveOne, reify, reifyL, readL, readOne, Mwp, M.bind, Mem.set, setAt, cellsL, hG, f1, f2, f7, f13, f14, f15, o7]
      exact ⟨List.take_of_length_le (by simp), rfl⟩
def hdT (x : Nr) : Pr := ⟨x.of, x.bo⟩
def lkT (x : Nr) : Pr := ⟨x.of, x.co⟩
abbrev heP (x : Nr) : Bool := x.he
abbrev fuP (x : Nr) : Bool := x.fu
abbrev ofP (x : Nr) : Int := x.of
def lastN (ls : List Nr) (k : Nat) : Int := if k = 0 then 0 else (ls.getD ((k : Int) - 1).toNat default).of
theorem lastN_succ {ls : List Nr} {k : Nat} (h : k < ls.length) : lastN ls (k + 1) = ls[k].of := by
  rw [lastN, if_neg (by omega), show (((k + 1 : Nat) : Int) - 1).toNat = k by omega, List.getD_eq_getElem?_getD, List.getElem?_eq_getElem h]; rfl
theorem getD_at {α : Type} [Inhabited α] {ls : List α} {k : Nat} (hk : k < ls.length) : ls.getD k default = ls[k] := by
  rw [List.getD_eq_getElem?_getD, List.getElem?_eq_getElem hk]; rfl
theorem rN_go {ls : List Nr} {k : Nat} (h : chN 0 ls = chN (lastN ls k) (ls.drop k)) (hk : k < ls.length) (h2 : bad ls[k] = false ∧ (¬ (k : Int) > 0 ∨ ¬ (ls.getD ((k : Int) - 1).toNat default).of ≥ (ls.getD k default).of)) : chN 0 ls = chN ls[k].of (ls.drop (k + 1)) := by
  rw [getD_at hk] at h2
  have hb := bad_of h2.1
  rw [h, ch_drop hk, h2.1, decide_eq_true ?_]; rfl
  unfold lastN
  split
  · omega
  · rcases h2.2 with h6 | h6 <;> omega
theorem rN_no {ls : List Nr} {k : Nat} (h : chN 0 ls = chN (lastN ls k) (ls.drop k)) (hk : k < ls.length) (h2 : bad ls[k] = true ∨ ((k : Int) > 0 ∧ (ls.getD ((k : Int) - 1).toNat default).of ≥ (ls.getD k default).of)) : tabOK ls = false := by
  rw [getD_at hk] at h2
  rw [tabOK, h, ch_drop hk]
  rcases h2 with h2 | ⟨h2, h3⟩
  · rw [h2]; rfl
  · rw [decide_eq_false ?_]
    · simp
    · rw [lastN, if_neg (by omega)]; omega
theorem rN_end {ls : List Nr} (h : chN 0 ls = chN (lastN ls ls.length) (ls.drop ls.length)) : decide ((ls.length : Int) ≤ 16) = tabOK ls := by
  rw [tabOK, h, ch_end, Bool.true_and]
theorem thR_yes {α : Type} {p : Nr → Bool} {t : Nr → α} {l : List Nr} (h : tabOK l = true) : thR p t l = thL p t l := by rw [thR, h]; rfl
theorem good_LinksT (nil : Bool) (l : List Nr) (hl : l.length ≤ 1000000) : Good Try.prog 28 [(.sl 8 nil (l.map nrA), false)] [] [(.sl 2 (thR fuP lkT l).isEmpty ((thR fuP lkT l).map prA), false)] [] := by
  refine good_of_body4 5 Try.func28 rfl rfl rfl (by simp) (by simp) (by simp [noPtrL, noPtr]) (by simp [noPtrL, noPtr]) ?_
  intro s m ha hr hv hG
  have f0 : s 0 = .v (.sl 8 nil (l.map nrA)) := ha 0 _ rfl
  clear ha
  have hc : True := trivial
  have F := (And.intro f0 hG)
  refine AW.seq ?_
  refine AW.region (cfg := cfg) ?_
  refine stp (fun _ h => s0 h) ?_
  refine aops_nil ?_
  refine AW.seq ?_
  refine AW.region (cfg := cfg) ?_
  refine stp (fun _ h => s0 h) ?_
  refine stp (fun _ h => cr (w := good_thoseL nil l (by omega) 45 46 fuP lkT rfl rfl rfl rfl rfl rfl good_fullF good_linkT) (x := h)) ?_
  refine stp (fun _ h => s0 h) ?_
  refine aops_nil ?_
  refine AW.ret ?_
  refine ⟨.inr rfl, ?_⟩
  apply Exists.intro
  refine leaves_mwp2 (rs := [.tmp 2]) rfl ?_
  simp (config := {failIfUnchanged := false}) [giveL, srcOne, rehome, freezeN, sub, upd, opn, aLoad, loadL, giveOne, reify, reifyL, readL, readOne, Mwp, M.bind, Mem.set, setAt, cellsL, hG, f0]
  all_goals exact rfl
attribute [go_sem] Bool.not_not
theorem good_mayT (nil : Bool) (l : List Nr) (hl : l.length ≤ 9223372036854775807) : Good Try.prog 14 [(.sl 8 nil (l.map nrA), false)] [] [(.b (tabOK l), false)] [] := by
  refine good_of_body2 37 Try.func14 rfl rfl rfl (by simp) ?_
  intro s m ha hr hv hG
  have f0 : s 0 = .v (.sl 8 nil (l.map nrA)) := ha 0 _ rfl
  clear ha
  have hc : True := trivial
  have F := (And.intro f0 hG)
  refine AW.seq ?_
  refine AW.region (cfg := cfg) ?_
  refine stp (fun _ h => s0 h) ?_
  refine aops_nil ?_
  refine AW.seq ?_
  refine AW.seq ?_
  refine AW.region (cfg := cfg) ?_
  refine stp (fun _ h => s0 h) ?_
  refine aops_nil ?_
  refine AW.block ?_
  refine AW.forN (fun k σ => ∃ s m, σ = ⟨37, s, m⟩ ∧ s 0 = .v (.sl 8 nil (l.map nrA)) ∧ s 3 = .v (i64 (k : Int)) ∧ (chN 0 l = chN (lastN l k) (l.drop k)) ∧ (∀ i, (m.objs (.res i)).2 = .dead) ∧ m.G = []) (l.length) ?_ ?_ ?_
  · refine ⟨_, _, rfl, ?_, ?_, ?_, (by intro i; simp [Mem.set, hr]), (by exact hG)⟩ <;> try simp (disch := first | omega | decide) only [go_sem, F, aIndex_map]
    all_goals rfl
  · clear F f0 hr hG
    rintro k σ hk ⟨s, m, rfl, f0, f3, mo0, hr, hG⟩
    have F := (And.intro f0 (And.intro f3 hG))
    refine AW.seq ?_
    refine AW.seq ?_
    refine AW.region (cfg := cfg) ?_
    iterate 2 refine stp (fun _ h => s0 h) ?_
    refine stp (fun _ h => sd h) ?_
    refine stp (fun _ h => s0 h) ?_
    refine aops_nil ?_
    refine cnd (fun hb => ?ht1) (fun hb => ?hf1)
    case hf1 => (simp at hb; omega)
    case ht1 =>
    have hbt7 := hb
    refine AW.skip ?_
    refine AW.seq ?_
    refine AW.block ?_
    refine AW.seq ?_
    refine AW.draw (cfg := cfg) (by kernel_rfl) (by kernel_rfl) (by kernel_rfl) ?_
    iterate 2 refine dstp (fun _ h => s0 h) ?_
    refine dstp (fun _ h => si h) ?_
    refine dstp (fun _ h => sl h) ?_
    refine dstp (fun _ h => cs (w := good_mayN _) (x := h)) ?_
    iterate 2 refine dstp (fun _ h => s0 h) ?_
    iterate 5 refine dmrg wa (fun hc _ h => s0 h) ?_
    refine dmrg wa (fun hc _ h => sd h) ?_
    refine dmrg wa (fun hc _ h => sg h) ?_
    refine dmrg wa (fun hc _ h => sx h) ?_
    refine dmrg wa (fun hc _ h => sl h) ?_
    iterate 2 refine dmrg wa (fun hc _ h => s0 h) ?_
    refine dmrg wa (fun hc _ h => sg h) ?_
    refine dmrg wa (fun hc _ h => sx h) ?_
    refine dmrg wa (fun hc _ h => sl h) ?_
    iterate 2 refine dmrg wa (fun hc _ h => s0 h) ?_
    refine dstp (fun _ h => s0 h) ?_
    refine adraw_nil (by kernel_rfl) ?_
    refine cnd (fun hb => ?ht2) (fun hb => ?hf2)
    case ht2 =>
      have hw33 := hb
      try simp only [bo1, bo2, bo3, bo4, bo5, bo6] at hb
      have hbt33 := hb
      refine AW.seq ?_
      refine AW.region (cfg := cfg) ?_
      refine stp (fun _ h => s0 h) ?_
      refine aops_nil ?_
      refine AW.ret ?_
      refine ⟨.inr rfl, ?_⟩
      refine leaves_tmp1 2 rfl ?_ (by exact hG)
      simp (disch := first | omega | decide) only [go_sem, F, aIndex_map]
      all_goals (rw [rN_no mo0 hk hb]; done)
    case hf2 =>
      have hw33 := hb
      try simp only [bo1, bo2, bo3, bo4, bo5, bo6] at hb
      have hbt33 := hb
      refine AW.skip ?_
      refine AW.region (cfg := cfg) ?_
      refine stp (fun _ h => s0 h) ?_
      refine stp (fun _ h => sd h) ?_
      refine stp (fun _ h => s0 h) ?_
      refine aops_nil ?_
      refine ⟨_, _, rfl, ?_, ?_, ?_, (by intro i; simp [Mem.set, hr]), (by exact hG)⟩ <;> try simp (disch := first | omega | decide) only [go_sem, F, aIndex_map]
      all_goals first | rfl | (rw [lastN_succ hk]; exact rN_go mo0 hk hb)
  · clear F f0 hr hG
    rintro σ ⟨s, m, rfl, f0, f3, mo0, hr, hG⟩
    have F := (And.intro f0 (And.intro f3 hG))
    refine AW.seq ?_
    refine AW.seq ?_
    refine AW.region (cfg := cfg) ?_
    iterate 2 refine stp (fun _ h => s0 h) ?_
    refine stp (fun _ h => sd h) ?_
    refine stp (fun _ h => s0 h) ?_
    refine aops_nil ?_
    refine cnd (fun hb => ?ht3) (fun hb => ?hf3)
    case ht3 => (simp at hb; done)
    case hf3 =>
    have hbt7 := hb
    refine AW.exit ?_
    refine AW.seq ?_
    refine AW.region (cfg := cfg) ?_
    refine stp (fun _ h => s0 h) ?_
    refine stp (fun _ h => sd h) ?_
    iterate 2 refine stp (fun _ h => s0 h) ?_
    refine aops_nil ?_
    refine AW.ret ?_
    refine ⟨.inr rfl, ?_⟩
    refine leaves_tmp1 2 rfl ?_ (by exact hG)
    simp (disch := first | omega | decide) only [go_sem, F, aIndex_map]
    all_goals (rw [rN_end mo0]; done)
theorem good_refLinksT (nil : Bool) (l : List Nr) (hl : l.length ≤ 1000000) : Good Try.prog 31 [(.sl 8 nil (l.map nrA), false)] [] [(.sl 2 false ((thL fuP lkT l).map prA), false)] [] := by
  refine good_of_body5 32 Try.func31 rfl rfl rfl (by simp) (by simp) (by simp [noPtrL, noPtr]) (by simp [noPtrL, noPtr]) ?_
  intro s m ha hr hv hG
  have f0 : s 0 = .v (.sl 8 nil (l.map nrA)) := ha 0 _ rfl
  clear ha
  have hc : True := trivial
  have F := (And.intro f0 hG)
  refine AW.seq ?_
  refine AW.region (cfg := cfg) ?_
  refine stp (fun _ h => s0 h) ?_
  refine aops_nil ?_
  refine AW.seq ?_
  refine AW.region (cfg := cfg) ?_
  refine stp (fun _ h => sq h) ?_
  refine stp (fun _ h => st h) ?_
  refine aops_nil ?_
  refine AW.seq ?_
  refine AW.seq ?_
  refine AW.region (cfg := cfg) ?_
  refine stp (fun _ h => s0 h) ?_
  refine aops_nil ?_
  refine AW.block ?_
  refine AW.forN (fun k σ => ∃ s m, σ = ⟨32, s, m⟩ ∧ s 0 = .v (.sl 8 nil (l.map nrA)) ∧ s 3 = .own (.var 3) (m.objs (.var 3)).1 0 ((thL fuP lkT (l.take k)).length) ∧ (m.objs (.var 3)).2 = .arr false 2 ((thL fuP lkT (l.take k)).map prA) ∧ s 4 = .v (i64 (k : Int)) ∧ (∀ i, (m.objs (.res i)).2 = .dead) ∧ m.G = []) (l.length) ?_ ?_ ?_
  · refine ⟨_, _, rfl, ?_, ?_, ?_, ?_, (by intro i; simp [Mem.set, hr]), (by exact hG)⟩ <;> try simp (disch := first | omega | decide) only [go_sem, F, aIndex_map]
    all_goals rfl
  · clear F f0 hr hG
    rintro k σ hk ⟨s, m, rfl, f0, f3, o3, f4, hr, hG⟩
    obtain ⟨g3, o3⟩ : ∃ g, m.objs (.var 3) = (g, .arr false 2 ((thL fuP lkT (l.take k)).map prA)) := ⟨_, Prod.ext rfl o3⟩
    rw [o3] at f3
    have F := (And.intro f0 (And.intro f3 (And.intro f4 (And.intro o3 hG))))
    refine AW.seq ?_
    refine AW.seq ?_
    refine AW.region (cfg := cfg) ?_
    iterate 2 refine stp (fun _ h => s0 h) ?_
    refine stp (fun _ h => sd h) ?_
    refine stp (fun _ h => s0 h) ?_
    refine aops_nil ?_
    refine cnd (fun hb => ?ht1) (fun hb => ?hf1)
    case hf1 => (simp at hb; omega)
    case ht1 =>
    have hbt9 := hb
    refine AW.skip ?_
    refine AW.seq ?_
    refine AW.block ?_
    refine AW.seq ?_
    have wb := th_le fuP lkT l k
    refine AW.region (cfg := cfg) ?_
    iterate 2 refine stp (fun _ h => s0 h) ?_
    refine stp (fun _ h => si h) ?_
    refine stp (fun _ h => sx h) ?_
    refine stp (fun _ h => sl h) ?_
    refine aops_nil ?_
    refine cnd (fun hb => ?ht2) (fun hb => ?hf2)
    case ht2 =>
      have hw16 := hb
      try simp only [bo1, bo2, bo3, bo4, bo5, bo6] at hb
      have hbt16 := hb
      refine AW.draw (cfg := cfg) (by kernel_rfl) (by kernel_rfl) (by kernel_rfl) ?_
      iterate 3 refine dstp (fun _ h => s0 h) ?_
      refine dstp (fun _ h => si h) ?_
      refine dstp (fun _ h => sx h) ?_
      refine dstp (fun _ h => sl h) ?_
      iterate 2 refine dstp (fun _ h => s0 h) ?_
      refine dstp (fun _ h => si h) ?_
      refine dstp (fun _ h => sx h) ?_
      refine dstp (fun _ h => sl h) ?_
      refine dstp (fun _ h => su h) ?_
      refine dstp (fun _ h => sq h) ?_
      refine dstp (fun _ h => sp h) ?_
      refine dstp (fun _ h => st h) ?_
      refine adraw_nil (by kernel_rfl) ?_
      refine AW.region (cfg := cfg) ?_
      refine stp (fun _ h => s0 h) ?_
      refine stp (fun _ h => sd h) ?_
      refine stp (fun _ h => s0 h) ?_
      refine aops_nil ?_
      refine ⟨_, _, rfl, ?_, ?_, ?_, ?_, (by intro i; simp [Mem.set, hr]), (by exact hG)⟩ <;> try simp (disch := first | omega | decide) only [go_sem, F, aIndex_map]
      all_goals first | rfl | (rw [th_yes hk hb]; simp [prA, lkT]; done)
    case hf2 =>
      have hw16 := hb
      try simp only [bo1, bo2, bo3, bo4, bo5, bo6] at hb
      have hbt16 := hb
      refine AW.skip ?_
      refine AW.region (cfg := cfg) ?_
      refine stp (fun _ h => s0 h) ?_
      refine stp (fun _ h => sd h) ?_
      refine stp (fun _ h => s0 h) ?_
      refine aops_nil ?_
      refine ⟨_, _, rfl, ?_, ?_, ?_, ?_, (by intro i; simp [Mem.set, hr]), (by exact hG)⟩ <;> try simp (disch := first | omega | decide) only [go_sem, F, aIndex_map]
      all_goals first | rfl | (rw [th_no hk (by simpa using hb)]; done)
  · clear F f0 hr hG
    rintro σ ⟨s, m, rfl, f0, f3, o3, f4, hr, hG⟩
    obtain ⟨g3, o3⟩ : ∃ g, m.objs (.var 3) = (g, .arr false 2 ((thL fuP lkT (l.take l.length)).map prA)) := ⟨_, Prod.ext rfl o3⟩
    rw [o3] at f3
    have F := (And.intro f0 (And.intro f3 (And.intro f4 (And.intro o3 hG))))
    refine AW.seq ?_
    refine AW.seq ?_
    refine AW.region (cfg := cfg) ?_
    iterate 2 refine stp (fun _ h => s0 h) ?_
    refine stp (fun _ h => sd h) ?_
    refine stp (fun _ h => s0 h) ?_
    refine aops_nil ?_
    refine cnd (fun hb => ?ht3) (fun hb => ?hf3)
    case ht3 => (simp at hb; done)
    case hf3 =>
    have hbt9 := hb
    refine AW.exit ?_
    refine AW.seq ?_
    refine AW.region (cfg := cfg) ?_
    refine stp (fun _ h => s0 h) ?_
    refine stp (fun _ h => sm h) ?_
    refine aops_nil ?_
    refine AW.ret ?_
    refine ⟨.inr rfl, ?_⟩
    apply Exists.intro
    rw [← List.take_length (l := l)]
    refine leavesN ?_
    refine leaves_mwp2 (rs := [.tmp 2]) rfl ?_; simp (config := {failIfUnchanged := false}) [giveL, srcOne, rehome, freezeN, sub, upd, opn, aLoad, loadL, giveOne, reify, reifyL, readL, readOne, Mwp, M.bind, Mem.set, setAt, cellsL, hG, f0, f3, f4, o3]
    exact ⟨List.take_of_length_le (by simp), rfl⟩
end Go.Vai.T
