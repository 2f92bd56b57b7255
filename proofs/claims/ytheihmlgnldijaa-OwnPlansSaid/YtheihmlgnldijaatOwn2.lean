import Derived.Test.YtheihmlgnldijaatOwn
namespace Go.Vai.OW
open Go.Proofs Go.Vai Go.Vai.D Go.Vai.DB Go.Vai.I Go.Vai.L Go.Vai.N Go.Vai.O Go.Vai.S Go.Vai.T
set_option linter.unusedSimpArgs false
set_option linter.unusedVariables false
set_option maxHeartbeats 4000000
set_option maxRecDepth 100000
structure Cg where
  kd : Int
  l : Lsa
  n : Int
  of : Int
def cgA (c : Cg) : AV := .agg [i64 c.kd, i64 c.l.o, i64 c.l.s, .sl 2 c.l.nil (c.l.ls.map linkA), i64 c.n, i64 c.of]
theorem cellsOf_cg (c : Cg) : cellsOf (cgA c) = [i64 c.kd, i64 c.l.o, i64 c.l.s, .sl 2 c.l.nil (c.l.ls.map linkA), i64 c.n, i64 c.of] := rfl
@[simp] theorem noPtr_cg (c : Cg) : noPtr (cgA c) = true := by simp [cgA, noPtr, noPtrL]
@[simp] theorem noPtrL_cgs (l : List Cg) : noPtrL (l.map cgA) = true := noPtrL_map noPtr_cg _
def cgU (n : Int) : Cg := ⟨2, default, n, 0⟩
def cgL (x : Lsa) : Cg := ⟨1, x, 0, 0⟩
def preC (x u : Int) : List Cg := if x > u then [cgU (wV x u)] else []
def wS (x u : Int) : Int := if x > u then wV x u else u
structure Pl where
  nil : Bool
  l : List Cg
  x : Int
  u : Int
  e : Int
def pl0 (e : Int) : Pl := ⟨true, [], 0, 0, e⟩
def planR (db : List Lsa) (me : Int) (t : List Nr) (x u : Int) : Pl :=
  if ((mkR me 1 t).2 ≠ 0 ∨ dbE db ≠ 0) ∨ wE x u = 1 then pl0 1 else if x > u ∧ wE x u ≠ 0 then pl0 (wE x u) else if (putR db (mkR me x t).1).2.2 ≠ 0 then pl0 1
  else ⟨false, preC x u ++ [cgL (mkR me x t).1], x + 1, wS x u, 0⟩
theorem pre_len (x u : Int) : (preC x u).length ≤ 1 := by
  rw [preC]; split <;> simp
theorem we_may {x u : Int} (h : ¬ wE x u = 1) : mayS x u = true := by
  cases hm : mayS x u with
  | true => rfl
  | false => rw [wE, hm] at h; exact absurd rfl h
theorem te_gt {x u : Int} (hm : mayS x u = true) : tE x u = if x > u then 3 else 0 := by rw [tE, hm]; rfl
theorem we_is {x u : Int} (hm : mayS x u = true) : wE x u = if x > 4611686018427387904 then 9 else 0 := by rw [wE, hm]; rfl
theorem wv_is {x u : Int} (hm : mayS x u = true) (h : ¬ x > 4611686018427387904) : wV x u = min (x + 7) 4611686018427387904 := by rw [wV, hm, if_pos rfl, if_neg h]
theorem may_want {x u : Int} (hm : mayS x u = true) (h : ¬ x > 4611686018427387904) : mayS x (wV x u) = true := by
  have := mayS_range hm
  rw [wv_is hm h]
  simp only [mayS, Bool.and_eq_true, decide_eq_true_eq]; omega
theorem grant_is {x u : Int} (hm : mayS x u = true) (h : ¬ x > 4611686018427387904) (h2 : x > u) : gBad x u (wV x u) = false := by
  have := mayS_range hm
  have h3 := wv_is hm h
  rw [gBad, hm]
  simp only [Bool.not_true, Bool.false_or, Bool.or_eq_false_iff, decide_eq_false_iff_not]; omega
theorem take_is {x u : Int} (hm : mayS x u = true) (h : ¬ x > u) : tV x u = x ∧ tN x u = x + 1 ∧ tU x u = u := by
  refine ⟨?_, ?_, ?_⟩
  · rw [tV, hm, if_pos rfl, if_neg h]
  · rw [tN, hm, if_pos rfl, if_neg h]
  · rw [tU, hm, if_pos rfl, if_neg h]
theorem mk_fit {me sq : Int} {t : List Nr} : fit (mkR me sq t).1 := by
  rw [mkR]
  split
  · rename_i h
    simp only [Bool.and_eq_true] at h
    refine ⟨?_, fun e => List.isEmpty_iff.1 e⟩
    have := bounds_le h.1.1
    have := lkL_len t
    show (lkL t).length ≤ 1000000
    omega
  · exact ⟨by decide, fun _ => rfl⟩
theorem plan_no {db : List Lsa} {me : Int} {t : List Nr} {x u : Int} (h : ((mkR me 1 t).2 ≠ 0 ∨ dbE db ≠ 0) ∨ wE x u = 1) : planR db me t x u = pl0 1 := by rw [planR, if_pos h]
theorem plan_spent {db : List Lsa} {me : Int} {t : List Nr} {x u : Int} (h : ¬ (((mkR me 1 t).2 ≠ 0 ∨ dbE db ≠ 0) ∨ wE x u = 1)) (h2 : x > u) (h3 : wE x u ≠ 0) : planR db me t x u = pl0 (wE x u) := by rw [planR, if_neg h, if_pos ⟨h2, h3⟩]
theorem plan_old {db : List Lsa} {me : Int} {t : List Nr} {x u : Int} (h : ¬ (((mkR me 1 t).2 ≠ 0 ∨ dbE db ≠ 0) ∨ wE x u = 1)) (h2 : ¬ (x > u ∧ wE x u ≠ 0)) (h3 : (putR db (mkR me x t).1).2.2 ≠ 0) : planR db me t x u = pl0 1 := by rw [planR, if_neg h, if_neg h2, if_pos h3]
theorem plan_yes {db : List Lsa} {me : Int} {t : List Nr} {x u : Int} (h : ¬ (((mkR me 1 t).2 ≠ 0 ∨ dbE db ≠ 0) ∨ wE x u = 1)) (h2 : ¬ (x > u ∧ wE x u ≠ 0)) (h3 : ¬ (putR db (mkR me x t).1).2.2 ≠ 0) : planR db me t x u = ⟨false, preC x u ++ [cgL (mkR me x t).1], x + 1, wS x u, 0⟩ := by rw [planR, if_neg h, if_neg h2, if_neg h3]
theorem no3 {p q r : Prop} (h : (¬ p ∧ ¬ q) ∧ ¬ r) : ¬ ((p ∨ q) ∨ r) := fun e => by
  rcases e with (e | e) | e
  · exact h.1.1 e
  · exact h.1.2 e
  · exact h.2 e
attribute [go_sem] cellsOf_cg
theorem good_PlanO (nd : Bool) (db : List Lsa) (hd : db.length ≤ 1000000) (pd : ∀ x ∈ db, fit x) (hz : nd = true → db = []) (me : Int) (nt : Bool) (t : List Nr) (ht : t.length ≤ 1000000) (x u : Int) (hx : -9223372036854775808 ≤ x ∧ x ≤ 9223372036854775807) (hu : -9223372036854775808 ≤ u ∧ u ≤ 9223372036854775807) : Good Try.prog 16 [(.sl 3 nd (db.map lsaA), false), (i64 me, false), (.sl 8 nt (t.map nrA), false), (.agg [i64 x, i64 u], false)] [] [(.sl 6 (planR db me t x u).nil ((planR db me t x u).l.map cgA), false), (.agg [i64 (planR db me t x u).x, i64 (planR db me t x u).u], false), (i64 (planR db me t x u).e, false)] [] := by
  refine good_of_body2 97 Try.func16 rfl rfl rfl (by simp) ?_
  intro s m ha hr hv hG
  have f0 : s 0 = .v (.sl 3 nd (db.map lsaA)) := ha 0 _ rfl
  have f1 : s 1 = .v (i64 me) := ha 1 _ rfl
  have f2 : s 2 = .v (.sl 8 nt (t.map nrA)) := ha 2 _ rfl
  have f3 : s 3 = .v (.agg [i64 x, i64 u]) := ha 3 _ rfl
  clear ha
  have hc : True := trivial
  have F := (And.intro f0 (And.intro f1 (And.intro f2 (And.intro f3 hG))))
  refine AW.seq ?_
  refine AW.region (cfg := cfg) ?_
  refine stp (fun _ h => sb h) ?_
  refine stp (fun _ h => s0 h) ?_
  refine stp (fun _ h => sd h) ?_
  refine stp (fun _ h => s0 h) ?_
  refine aops_nil ?_
  refine AW.seq ?_
  refine AW.region (cfg := cfg) ?_
  refine stp (fun _ h => sl h) ?_
  refine stp (fun _ h => ct (w := S.good_Want x u hx hu) (x := h)) ?_
  iterate 5 refine stp (fun _ h => s0 h) ?_
  refine aops_nil ?_
  refine AW.seq ?_
  refine AW.seq ?_
  refine AW.region (cfg := cfg) ?_
  iterate 2 refine stp (fun _ h => s0 h) ?_
  refine stp (fun _ h => cr (w := good_MakeO me 1 nt t (by omega)) (x := h)) ?_
  iterate 3 refine stp (fun _ h => s0 h) ?_
  refine stp (fun _ h => sd h) ?_
  refine stp0 (fun _ h => ss h) ?_
  refine stp (fun _ h => s0 h) ?_
  refine aops_nil ?_
  refine AW.seq ?_
  refine AW.region (cfg := cfg) ?_
  iterate 3 refine stp (fun _ h => s0 h) ?_
  refine mrg wa (fun hc _ h => s0 h) ?_
  refine mrg wa (fun hc _ h => cs (w := good_CheckDb nd db (by omega) (fun x hx => by have := (pd x hx).1; omega)) (x := h)) ?_
  refine mrg wa (fun hc _ h => s0 h) ?_
  iterate 2 refine stp (fun _ h => s0 h) ?_
  iterate 2 refine mrg wa (fun hc _ h => s0 h) ?_
  refine stp (fun _ h => s0 h) ?_
  refine aops_nil ?_
  refine cnd (fun hb => ?ht1) (fun hb => ?hf1)
  case ht1 =>
    have hw44 := hb
    try simp only [bo1, bo2, bo3, bo4, bo5, bo6] at hb
    have hbt44 := hb
    refine AW.seq ?_
    refine AW.region (cfg := cfg) ?_
    refine stp (fun _ h => su h) ?_
    refine stp (fun _ h => s0 h) ?_
    refine stp0 (fun _ h => ss h) ?_
    refine stp (fun _ h => s0 h) ?_
    refine aops_nil ?_
    refine AW.ret ?_
    refine ⟨.inr rfl, ?_⟩
    refine leaves_mwp2 (rs := [.tmp 8, .cell 9 25, .tmp 10]) rfl ?_
    simp (config := {failIfUnchanged := false}) [giveL, srcOne, rehome, freezeN, sub, ti25, upd, opn, aLoad, loadL, giveOne, reify, reifyL, readL, readOne, Mwp, M.bind, Mem.set, setAt, cellsL, hG, f0, f1, f2, f3]
    all_goals (rw [plan_no hbt44]; (simp [pl0]; done))
  case hf1 =>
    have hw44 := hb
    try simp only [bo1, bo2, bo3, bo4, bo5, bo6] at hb
    have hbt44 := hb
    refine AW.skip ?_
    refine AW.seq ?_
    have hn := no3 hbt44
    have hm := we_may hbt44.2
    have hr1 := mayS_range hm
    have ht3 := te_gt hm
    have pf : fit (mkR me x t).1 := mk_fit
    have F := And.intro ht3 F
    refine AW.region (cfg := cfg) ?_
    refine stp (fun _ h => s0 h) ?_
    refine aops_nil ?_
    refine AW.seq ?_
    refine AW.region (cfg := cfg) ?_
    refine stp (fun _ h => sl h) ?_
    refine stp (fun _ h => cr (w := S.good_Take x u hx hu) (x := h)) ?_
    iterate 4 refine stp (fun _ h => s0 h) ?_
    refine stp (fun _ h => sd h) ?_
    refine stp (fun _ h => s0 h) ?_
    refine stp0 (fun _ h => ss h) ?_
    refine stp (fun _ h => s0 h) ?_
    refine aops_nil ?_
    refine AW.join (fun σ => ∃ s m, σ = ⟨97, s, m⟩ ∧ s 0 = .v (.sl 3 nd (db.map lsaA)) ∧ s 1 = .v (i64 me) ∧ s 2 = .v (.sl 8 nt (t.map nrA)) ∧ s 9 = .lptr (.tmp 9 0) (m.objs (.tmp 9 0)).1 0 ∧ (m.objs (.tmp 9 0)).2 = .box [.v (i64 0), .v (i64 0)] ∧ s 15 = .own (.var 15) (m.objs (.var 15)).1 0 ((preC x u).length) ∧ (m.objs (.var 15)).2 = .arr (preC x u).isEmpty 6 ((preC x u).map cgA) ∧ s 16 = .v (i64 x) ∧ s 17 = .lptr (.tmp 17 0) (m.objs (.tmp 17 0)).1 0 ∧ (m.objs (.tmp 17 0)).2 = .box [.v (i64 (x + 1)), .v (i64 (wS x u))] ∧ (¬ (x > u ∧ wE x u ≠ 0)) ∧ (∀ i, (m.objs (.res i)).2 = .dead) ∧ m.G = []) ?_ ?_
    · skip
      refine AW.seq ?_
      refine AW.region (cfg := cfg) ?_
      iterate 2 refine stp (fun _ h => s0 h) ?_
      refine aops_nil ?_
      refine cnd (fun hb => ?ht2) (fun hb => ?hf2)
      case ht2 =>
        have hw53 := hb
        try simp only [bo1, bo2, bo3, bo4, bo5, bo6] at hb
        have hbt53 := hb
        refine AW.seq ?_
        refine AW.seq ?_
        have hgt : x > u := by (by_cases q : x > u; exact q; exfalso; rw [if_neg q] at hbt53; exact hbt53 rfl)
        refine AW.region (cfg := cfg) ?_
        iterate 2 refine stp (fun _ h => s0 h) ?_
        refine aops_nil ?_
        refine cnd (fun hb => ?ht3) (fun hb => ?hf3)
        case ht3 =>
          have hw55 := hb
          try simp only [bo1, bo2, bo3, bo4, bo5, bo6] at hb
          have hbt55 := hb
          refine AW.seq ?_
          refine AW.region (cfg := cfg) ?_
          refine stp (fun _ h => su h) ?_
          iterate 2 refine stp (fun _ h => s0 h) ?_
          refine stp0 (fun _ h => ss h) ?_
          refine stp (fun _ h => s0 h) ?_
          refine aops_nil ?_
          refine AW.ret ?_
          refine ⟨.inr rfl, ?_⟩
          refine leaves_mwp2 (rs := [.tmp 8, .cell 9 25, .tmp 10]) rfl ?_
          simp (config := {failIfUnchanged := false}) [giveL, srcOne, rehome, freezeN, sub, ti25, upd, opn, aLoad, loadL, giveOne, reify, reifyL, readL, readOne, Mwp, M.bind, Mem.set, setAt, cellsL, hG, f0, f1, f2, f3, ht3]
          all_goals (rw [plan_spent hn hgt hbt55]; (simp [pl0]; done))
        case hf3 =>
          have hw55 := hb
          try simp only [bo1, bo2, bo3, bo4, bo5, bo6] at hb
          have hbt55 := hb
          refine AW.skip ?_
          refine AW.seq ?_
          have hwe := we_is hm
          have hlt : ¬ x > 4611686018427387904 := fun q => by (rw [hwe, if_pos q] at hbt55; exact hbt55 (by decide))
          have hw := wv_is hm hlt
          have hmw := may_want hm hlt
          have hgb := grant_is hm hlt hgt
          have hwr := mayS_range hmw
          have g1 : gN x u (wV x u) = x := by (rw [gN, hgb]; rfl)
          have g2 : gU x u (wV x u) = wV x u := by (rw [gU, hgb]; rfl)
          obtain ⟨t1, t2, t3⟩ := take_is hmw (show ¬ x > wV x u by omega)
          have hno : ¬ (x > u ∧ wE x u ≠ 0) := fun q => q.2 (by (rw [hwe, if_neg hlt]))
          have F := And.intro g1 F
          have F := And.intro g2 F
          have F := And.intro t1 F
          have F := And.intro t2 F
          have F := And.intro t3 F
          refine AW.region (cfg := cfg) ?_
          iterate 2 refine stp (fun _ h => s0 h) ?_
          refine stp (fun _ h => su h) ?_
          refine stp (fun _ h => sq h) ?_
          refine stp (fun _ h => sp h) ?_
          refine stp (fun _ h => st h) ?_
          refine aops_nil ?_
          refine AW.seq ?_
          refine AW.region (cfg := cfg) ?_
          refine stp (fun _ h => sl h) ?_
          refine stp (fun _ h => s0 h) ?_
          refine stp (fun _ h => cr (w := S.good_Grant x u (wV x u) hx hu (by omega)) (x := h)) ?_
          iterate 3 refine stp (fun _ h => s0 h) ?_
          refine stp0 (fun _ h => ss h) ?_
          refine aops_nil ?_
          refine AW.region (cfg := cfg) ?_
          refine stp (fun _ h => sl h) ?_
          refine stp (fun _ h => cr (w := S.good_Take x (wV x u) hx (by omega)) (x := h)) ?_
          iterate 5 refine stp (fun _ h => s0 h) ?_
          refine stp0 (fun _ h => ss h) ?_
          refine aops_nil ?_
          refine ⟨_, _, rfl, ?_, ?_, ?_, ?_, ?_, ?_, ?_, ?_, ?_, ?_, ?_, (by intro i; simp [Mem.set, hr]), (by exact hG)⟩ <;> try simp (disch := first | omega | decide) only [go_sem, F, aIndex_map]
          all_goals first | assumption | (rw [preC, if_pos hgt]; rfl) | (simp [preC, wS, hgt]; done)
      case hf2 =>
        have hw53 := hb
        try simp only [bo1, bo2, bo3, bo4, bo5, bo6] at hb
        have hbt53 := hb
        refine AW.skip ?_
        refine ⟨_, _, rfl, ?_, ?_, ?_, ?_, ?_, ?_, ?_, ?_, ?_, ?_, ?_, (by intro i; simp [Mem.set, hr]), (by exact hG)⟩ <;> try simp (disch := first | omega | decide) only [go_sem, F, aIndex_map]
        all_goals (have hng : ¬ x > u := (by (intro q; rw [if_pos q] at hbt53; exact hbt53 (by decide))); obtain ⟨t1, t2, t3⟩ := take_is hm hng; simp [preC, wS, hng, t1, t2, t3]; done)
    · clear F f0 f1 f2 f3 hr hG
      rintro σ ⟨s, m, rfl, f0, f1, f2, f9, o9, f15, o15, f16, f17, o17, mo0, hr, hG⟩
      obtain ⟨g9, o9⟩ : ∃ g, m.objs (.tmp 9 0) = (g, .box [.v (i64 0), .v (i64 0)]) := ⟨_, Prod.ext rfl o9⟩
      rw [o9] at f9
      obtain ⟨g15, o15⟩ : ∃ g, m.objs (.var 15) = (g, .arr (preC x u).isEmpty 6 ((preC x u).map cgA)) := ⟨_, Prod.ext rfl o15⟩
      rw [o15] at f15
      obtain ⟨g17, o17⟩ : ∃ g, m.objs (.tmp 17 0) = (g, .box [.v (i64 (x + 1)), .v (i64 (wS x u))]) := ⟨_, Prod.ext rfl o17⟩
      rw [o17] at f17
      have F := (And.intro f0 (And.intro f1 (And.intro f2 (And.intro f9 (And.intro f15 (And.intro f16 (And.intro f17 (And.intro o9 (And.intro o15 (And.intro o17 (And.intro ht3 hG)))))))))))
      refine AW.seq ?_
      refine AW.region (cfg := cfg) ?_
      iterate 3 refine stp (fun _ h => s0 h) ?_
      refine stp (fun _ h => cr (w := good_MakeO me x nt t (by omega)) (x := h)) ?_
      iterate 3 refine stp (fun _ h => s0 h) ?_
      refine stp (fun _ h => sd h) ?_
      refine stp0 (fun _ h => ss h) ?_
      refine stp (fun _ h => s0 h) ?_
      refine aops_nil ?_
      refine AW.seq ?_
      refine AW.seq ?_
      refine AW.region (cfg := cfg) ?_
      refine stp (fun _ h => s0 h) ?_
      refine stp (fun _ h => sl h) ?_
      refine stp (fun _ h => cr (w := good_PutDb nd db (by omega) pd hz (mkR me x t).1 pf) (x := h)) ?_
      iterate 5 refine stp (fun _ h => s0 h) ?_
      refine aops_nil ?_
      refine AW.seq ?_
      refine AW.region (cfg := cfg) ?_
      iterate 2 refine stp (fun _ h => s0 h) ?_
      refine aops_nil ?_
      refine cnd (fun hb => ?ht4) (fun hb => ?hf4)
      case ht4 =>
        have hw89 := hb
        try simp only [bo1, bo2, bo3, bo4, bo5, bo6] at hb
        have hbt89 := hb
        refine AW.seq ?_
        refine AW.region (cfg := cfg) ?_
        refine stp (fun _ h => su h) ?_
        refine stp (fun _ h => s0 h) ?_
        refine stp0 (fun _ h => ss h) ?_
        refine stp (fun _ h => s0 h) ?_
        refine aops_nil ?_
        refine AW.ret ?_
        refine ⟨.inr rfl, ?_⟩
        refine leaves_mwp2 (rs := [.tmp 8, .cell 9 25, .tmp 10]) rfl ?_
        simp (config := {failIfUnchanged := false}) [giveL, srcOne, rehome, freezeN, sub, ti25, upd, opn, aLoad, loadL, giveOne, reify, reifyL, readL, readOne, Mwp, M.bind, Mem.set, setAt, cellsL, hG, f0, f1, f2, f9, f15, f16, f17, o9, o15, o17, ht3]
        all_goals (rw [plan_old hn mo0 hbt89]; (simp [pl0]; done))
      case hf4 =>
        have hw89 := hb
        try simp only [bo1, bo2, bo3, bo4, bo5, bo6] at hb
        have hbt89 := hb
        refine AW.skip ?_
        refine AW.seq ?_
        have wpl := pre_len x u
        refine AW.draw (cfg := cfg) (by kernel_rfl) (by kernel_rfl) (by kernel_rfl) ?_
        refine dstp (fun _ h => s0 h) ?_
        refine dstp (fun _ h => sl h) ?_
        refine dstp (fun _ h => su h) ?_
        refine dstp (fun _ h => sq h) ?_
        refine dstp (fun _ h => sp h) ?_
        refine dstp (fun _ h => sl h) ?_
        refine dstp (fun _ h => st h) ?_
        refine dstp0 (fun _ h => ss h) ?_
        refine dstp (fun _ h => s0 h) ?_
        refine adraw_nil (by kernel_rfl) ?_
        refine AW.ret ?_
        refine ⟨.inr rfl, ?_⟩
        refine leaves_mwp2 (rs := [.tmp 8, .cell 9 25, .tmp 10]) rfl ?_
        simp (config := {failIfUnchanged := false}) [giveL, srcOne, rehome, freezeN, sub, ti25, upd, opn, aLoad, loadL, giveOne, reify, reifyL, readL, readOne, Mwp, M.bind, Mem.set, setAt, cellsL, hG, f0, f1, f2, f9, f15, f16, f17, o9, o15, o17, ht3]
        all_goals (rw [plan_yes hn mo0 hbt89]; (simp [cgA, cgL, List.take_of_length_le]; done))
end Go.Vai.OW
