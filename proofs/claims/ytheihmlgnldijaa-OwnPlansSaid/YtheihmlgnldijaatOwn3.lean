import Derived.Test.YtheihmlgnldijaatOwn2
import Derived.Test.YtheihmlgnldijaaDfPl2
namespace Go.Vai.OW
open Go.Proofs Go.Vai Go.Vai.D Go.Vai.DB Go.Vai.I Go.Vai.L Go.Vai.N Go.Vai.O Go.Vai.S Go.Vai.T
set_option linter.unusedSimpArgs false
set_option linter.unusedVariables false
set_option maxHeartbeats 4000000
set_option maxRecDepth 100000
def cgEq (a b : Cg) : Bool := ((decide (a.kd = b.kd) && lsaEq a.l b.l) && decide (a.n = b.n)) && decide (a.of = b.of)
theorem cgEq_refl (a : Cg) : cgEq a a = true := by simp [cgEq, lsaEq_refl]
def rpre (x u : Int) : List Cg := if x > u then [cgU (rW x)] else []
def rS (x u : Int) : Int := if x > u then rW x else u
def rplan (me : Int) (t : List Nr) (x u : Int) : Pl := if x > u ∧ rW x = 0 then ⟨true, [], 0, 0, 0⟩ else ⟨false, rpre x u ++ [cgL (mkF me x t)], x + 1, rS x u, 1⟩
theorem rp_no {me : Int} {t : List Nr} {x u : Int} (h : x > u) (h2 : rW x = 0) : rplan me t x u = ⟨true, [], 0, 0, 0⟩ := by rw [rplan, if_pos ⟨h, h2⟩]
theorem rp_yes {me : Int} {t : List Nr} {x u : Int} (h : ¬ (x > u ∧ rW x = 0)) : rplan me t x u = ⟨false, rpre x u ++ [cgL (mkF me x t)], x + 1, rS x u, 1⟩ := by rw [rplan, if_neg h]
theorem rpre_len (x u : Int) : (rpre x u).length ≤ 1 := by rw [rpre]; split <;> simp
theorem gnil2 {P : Program} {f : FuncId} {a b : AV × Bool} {rest : List (AV × Bool)} {G G' : List (List AV)} {r : List (AV × Bool)} {s s' : Nat} {o : Bool} (h : Good P f (a :: b :: (.sl s true [], o) :: rest) G r G') : Good P f (a :: b :: (.sl s' true [], o) :: rest) G r G' :=
  h.arg_nil rfl fun j x y hx hy => by
    match j with
    | 0 => simp at hx hy; rw [hx] at hy; exact .inl hy
    | 1 => simp at hx hy; rw [hx] at hy; exact .inl hy
    | 2 => simp at hx hy; subst hx hy; exact .inr ⟨s, s', o, rfl, rfl⟩
    | j + 3 => simp at hx hy; rw [hx] at hy; exact .inl (by simpa using hy)
theorem lsaOK_same {me sq : Int} {t : List Nr} (h : tabOK t = true) : lsaOK (mkL me sq t) = lsaOK (mkF me sq t) := by
  show (node me && (decide (1 ≤ sq) && (decide (sq ≤ 4611686018427387904) && (decide ((lkL t).length ≤ 16) && linksOK me 0 (lkL t))))) = _
  rw [lk_same h]; rfl
theorem mk_same {me sq : Int} {t : List Nr} (h : tabOK t = true) : lsaEq (mkL me sq t) (mkF me sq t) = true := by
  rw [lsaEq_nz]
  show (⟨me, sq, true, lkL t⟩ : Lsa) = ⟨me, sq, true, lkF t⟩
  rw [lk_same h]
theorem right_is {me : Int} {t : List Nr} (h : tabOK t = true) : isK Nr.of t me = decide (((gK Nr.of t me).getD default).of > 0) := find_pos h
theorem of_nn {me : Int} {t : List Nr} (h : tabOK t = true) : 0 ≤ ((gK Nr.of t me).getD default).of := by
  cases e : gK Nr.of t me with
  | none => exact Int.le_refl _
  | some x => have := (tab_mem h x (gK_mem e).1).2; simp only [Option.getD_some]; omega
theorem mk_no {me sq : Int} {t : List Nr} (h : (!rightR me t) = true ∨ (!lsaOK (mkF me sq t)) = true) : mkR me sq t = (default, 1) := by
  rw [mkR]
  cases ht : tabOK t with
  | false => rfl
  | true =>
    rw [lsaOK_same ht]
    rcases h with h | h
    · cases hl : lsaOK (mkF me sq t) with
      | false => rw [Bool.and_false]; rfl
      | true =>
        have hb : 1 ≤ me ∧ me ≤ 64 := (lsa_bd hl).1
        have hr : rightR me t = decide (((gK Nr.of t me).getD default).of = 0) := by
          rw [rightR, ht, decide_eq_true (by omega), decide_eq_true hb.2]; rfl
        rw [hr] at h
        have hn := of_nn (me := me) ht
        have : isK Nr.of t me = true := by
          rw [right_is ht]
          simp at h ⊢; omega
        rw [this]; rfl
    · rw [show lsaOK (mkF me sq t) = false by simpa using h, Bool.and_false]; rfl
theorem mk_yes {me sq : Int} {t : List Nr} (h : (!rightR me t) = false ∧ (!lsaOK (mkF me sq t)) = false) : mkR me sq t = (mkL me sq t, 0) ∧ tabOK t = true := by
  have h1 : rightR me t = true := by simpa using h.1
  have h2 : lsaOK (mkF me sq t) = true := by simpa using h.2
  simp only [rightR, Bool.and_eq_true, decide_eq_true_eq] at h1
  have ht := h1.1.2
  have : isK Nr.of t me = false := by rw [right_is ht]; simp; omega
  refine ⟨?_, ht⟩
  rw [mkR, ht, this, lsaOK_same ht, h2]; rfl
def a0 : Lsa := ⟨2, 1, true, []⟩
theorem plan0 : planR [] 2 [] 1 0 = ⟨false, [cgU 8, cgL a0], 2, 8, 0⟩ := by rfl
theorem must0 : mustR [] 2 [] 1 = true := by rfl
theorem good_SameCg (c : Cg) (pc : fit c.l) (d : Cg) (pd : fit d.l) : Good Try.prog 40 [(cgA c, false), (cgA d, false)] [] [(.b (cgEq c d), false)] [] := by
  refine good_of_body2 31 Try.func40 rfl rfl rfl (by simp) ?_
  intro s m ha hr hv hG
  have f0 : s 0 = .v (.agg [i64 c.kd, i64 c.l.o, i64 c.l.s, .sl 2 c.l.nil (c.l.ls.map linkA), i64 c.n, i64 c.of]) := ha 0 _ rfl
  have f1 : s 1 = .v (.agg [i64 d.kd, i64 d.l.o, i64 d.l.s, .sl 2 d.l.nil (d.l.ls.map linkA), i64 d.n, i64 d.of]) := ha 1 _ rfl
  clear ha
  have hc : True := trivial
  have F := (And.intro f0 (And.intro f1 hG))
  refine AW.seq ?_
  refine AW.region (cfg := cfg) ?_
  iterate 2 refine stp (fun _ h => sb h) ?_
  refine stp (fun _ h => s0 h) ?_
  refine aops_nil ?_
  refine AW.seq ?_
  refine AW.region (cfg := cfg) ?_
  refine stp (fun _ h => sx h) ?_
  refine stp (fun _ h => sl h) ?_
  refine stp (fun _ h => sx h) ?_
  refine stp (fun _ h => sl h) ?_
  iterate 2 refine stp (fun _ h => s0 h) ?_
  refine mrg wa (fun hc _ h => sx h) ?_
  refine mrg wa (fun hc _ h => sl h) ?_
  refine mrg wa (fun hc _ h => sx h) ?_
  refine mrg wa (fun hc _ h => sl h) ?_
  refine mrg wa (fun hc _ h => cs (w := L.good_refSame c.l (by have := pc.1; omega) d.l (by have := pd.1; omega)) (x := h)) ?_
  iterate 2 refine stp (fun _ h => s0 h) ?_
  refine mrg wa (fun hc _ h => sx h) ?_
  refine mrg wa (fun hc _ h => sl h) ?_
  refine mrg wa (fun hc _ h => sx h) ?_
  refine mrg wa (fun hc _ h => sl h) ?_
  refine mrg wa (fun hc _ h => s0 h) ?_
  iterate 2 refine stp (fun _ h => s0 h) ?_
  refine mrg wa (fun hc _ h => sx h) ?_
  refine mrg wa (fun hc _ h => sl h) ?_
  refine mrg wa (fun hc _ h => sx h) ?_
  refine mrg wa (fun hc _ h => sl h) ?_
  refine mrg wa (fun hc _ h => s0 h) ?_
  iterate 2 refine stp (fun _ h => s0 h) ?_
  refine aops_nil ?_
  refine AW.ret ?_
  refine ⟨.inr rfl, ?_⟩
  refine leaves_tmp1 4 rfl ?_ (by exact hG)
  simp (disch := first | omega | decide) only [go_sem, F, aIndex_map]
  all_goals rfl
theorem good_ListsCg (na nb : Bool) (a b : List Cg) (ha : a.length ≤ 9223372036854775807) (hb : b.length ≤ 9223372036854775807) (pa : ∀ x ∈ a, fit x.l) (pb : ∀ x ∈ b, fit x.l) : Good Try.prog 21 [(.sl 6 na (a.map cgA), false), (.sl 6 nb (b.map cgA), false)] [] [(.b (eqAll cgEq a b), false)] [] := by
  refine good_of_body2 27 Try.func21 rfl rfl rfl (by simp) ?_
  intro s m ha hr hv hG
  have f0 : s 0 = .v (.sl 6 na (a.map cgA)) := ha 0 _ rfl
  have f1 : s 1 = .v (.sl 6 nb (b.map cgA)) := ha 1 _ rfl
  clear ha
  have hc : True := trivial
  have F := (And.intro f0 (And.intro f1 hG))
  refine AW.seq ?_
  refine AW.region (cfg := cfg) ?_
  refine stp (fun _ h => s0 h) ?_
  refine aops_nil ?_
  refine AW.seq ?_
  refine AW.seq ?_
  refine AW.region (cfg := cfg) ?_
  refine stp (fun _ h => s0 h) ?_
  refine stp (fun _ h => sd h) ?_
  refine stp (fun _ h => s0 h) ?_
  refine stp (fun _ h => sd h) ?_
  refine stp (fun _ h => s0 h) ?_
  refine aops_nil ?_
  refine cnd (fun hb => ?ht1) (fun hb => ?hf1)
  case ht1 =>
    have hw10 := hb
    try simp only [bo1, bo2, bo3, bo4, bo5, bo6] at hb
    have hbt10 := hb
    refine AW.seq ?_
    refine AW.region (cfg := cfg) ?_
    refine stp (fun _ h => s0 h) ?_
    refine aops_nil ?_
    refine AW.ret ?_
    refine ⟨.inr rfl, ?_⟩
    refine leaves_tmp1 4 rfl ?_ (by exact hG)
    simp (disch := first | omega | decide) only [go_sem, F, aIndex_map]
    all_goals (rw [eqAll_len (by omega)]; done)
  case hf1 =>
    have hw10 := hb
    try simp only [bo1, bo2, bo3, bo4, bo5, bo6] at hb
    have hbt10 := hb
    refine AW.skip ?_
    refine AW.seq ?_
    refine AW.seq ?_
    refine AW.region (cfg := cfg) ?_
    refine stp (fun _ h => s0 h) ?_
    refine aops_nil ?_
    refine AW.block ?_
    refine AW.forN (fun k σ => ∃ s m, σ = ⟨27, s, m⟩ ∧ s 0 = .v (.sl 6 na (a.map cgA)) ∧ s 1 = .v (.sl 6 nb (b.map cgA)) ∧ s 5 = .v (i64 (k : Int)) ∧ (a.length = b.length) ∧ (((a.zip b).take k).all (fun p => cgEq p.1 p.2) = true) ∧ m.G = []) (a.length) ?_ ?_ ?_
    · refine ⟨_, _, rfl, ?_, ?_, ?_, ?_, ?_, (by exact hG)⟩ <;> try simp (disch := first | omega | decide) only [go_sem, F, aIndex_map]
      all_goals first | rfl | omega
    · clear F f0 f1 hG
      rintro k σ hk ⟨s, m, rfl, f0, f1, f5, mo0, mo1, hG⟩
      have F := (And.intro f0 (And.intro f1 (And.intro f5 hG)))
      refine AW.seq ?_
      refine AW.seq ?_
      refine AW.region (cfg := cfg) ?_
      iterate 2 refine stp (fun _ h => s0 h) ?_
      refine stp (fun _ h => sd h) ?_
      refine stp (fun _ h => s0 h) ?_
      refine aops_nil ?_
      refine cnd (fun hb => ?ht2) (fun hb => ?hf2)
      case hf2 => (simp at hb; omega)
      case ht2 =>
      have hbt14 := hb
      refine AW.skip ?_
      refine AW.seq ?_
      refine AW.block ?_
      refine AW.seq ?_
      have hka : k < a.length := by assumption
      have hkb : k < b.length := by omega
      have pka := pa a[k] (List.getElem_mem hka)
      have pkb := pb b[k] (List.getElem_mem hkb)
      refine AW.draw (cfg := cfg) (by kernel_rfl) (by kernel_rfl) (by kernel_rfl) ?_
      iterate 2 refine dstp (fun _ h => s0 h) ?_
      refine dstp (fun _ h => si h) ?_
      refine dstp (fun _ h => sl h) ?_
      iterate 2 refine dstp (fun _ h => s0 h) ?_
      refine dstp (fun _ h => si h) ?_
      refine dstp (fun _ h => sl h) ?_
      refine dstp (fun _ h => cs (w := good_SameCg a[k] pka b[k] pkb) (x := h)) ?_
      refine dstp (fun _ h => s0 h) ?_
      refine adraw_nil (by kernel_rfl) ?_
      refine cnd (fun hb => ?ht3) (fun hb => ?hf3)
      case ht3 =>
        have hw26 := hb
        try simp only [bo1, bo2, bo3, bo4, bo5, bo6] at hb
        have hbt26 := hb
        refine AW.seq ?_
        refine AW.region (cfg := cfg) ?_
        refine stp (fun _ h => s0 h) ?_
        refine aops_nil ?_
        refine AW.ret ?_
        refine ⟨.inr rfl, ?_⟩
        refine leaves_tmp1 4 rfl ?_ (by exact hG)
        simp (disch := first | omega | decide) only [go_sem, F, aIndex_map]
        all_goals (rw [eqAll_at mo0 hk hb]; done)
      case hf3 =>
        have hw26 := hb
        try simp only [bo1, bo2, bo3, bo4, bo5, bo6] at hb
        have hbt26 := hb
        refine AW.skip ?_
        refine AW.region (cfg := cfg) ?_
        refine stp (fun _ h => s0 h) ?_
        refine stp (fun _ h => sd h) ?_
        refine stp (fun _ h => s0 h) ?_
        refine aops_nil ?_
        refine ⟨_, _, rfl, ?_, ?_, ?_, ?_, ?_, (by exact hG)⟩ <;> try simp (disch := first | omega | decide) only [go_sem, F, aIndex_map]
        all_goals first | rfl | assumption | exact eqAll_step mo0 hk mo1 hb
    · clear F f0 f1 hG
      rintro σ ⟨s, m, rfl, f0, f1, f5, mo0, mo1, hG⟩
      have F := (And.intro f0 (And.intro f1 (And.intro f5 hG)))
      refine AW.seq ?_
      refine AW.seq ?_
      refine AW.region (cfg := cfg) ?_
      iterate 2 refine stp (fun _ h => s0 h) ?_
      refine stp (fun _ h => sd h) ?_
      refine stp (fun _ h => s0 h) ?_
      refine aops_nil ?_
      refine cnd (fun hb => ?ht4) (fun hb => ?hf4)
      case ht4 => (simp at hb; done)
      case hf4 =>
      have hbt14 := hb
      refine AW.exit ?_
      refine AW.seq ?_
      refine AW.region (cfg := cfg) ?_
      refine stp (fun _ h => s0 h) ?_
      refine aops_nil ?_
      refine AW.ret ?_
      refine ⟨.inr rfl, ?_⟩
      refine leaves_tmp1 4 rfl ?_ (by exact hG)
      simp (disch := first | omega | decide) only [go_sem, F, aIndex_map]
      all_goals (rw [eqAll_end mo0 mo1]; done)
theorem good_refPlanO (me : Int) (nt : Bool) (t : List Nr) (ht : t.length ≤ 1000000) (x u : Int) (hm : mayS x u = true) : Good Try.prog 18 [(i64 me, false), (.sl 8 nt (t.map nrA), false), (.agg [i64 x, i64 u], false)] [] [(.sl 6 (rplan me t x u).nil ((rplan me t x u).l.map cgA), false), (.agg [i64 (rplan me t x u).x, i64 (rplan me t x u).u], false), (.b (decide ((rplan me t x u).e = 1)), false)] [] := by
  refine good_of_body2 44 Try.func18 rfl rfl rfl (by simp) ?_
  intro s m ha hr hv hG
  have f0 : s 0 = .v (i64 me) := ha 0 _ rfl
  have f1 : s 1 = .v (.sl 8 nt (t.map nrA)) := ha 1 _ rfl
  have f2 : s 2 = .v (.agg [i64 x, i64 u]) := ha 2 _ rfl
  clear ha
  have hc : True := trivial
  have F := (And.intro f0 (And.intro f1 (And.intro f2 hG)))
  have hr1 := mayS_range hm
  have wrl := rpre_len x u
  refine AW.seq ?_
  refine AW.region (cfg := cfg) ?_
  refine stp (fun _ h => sb h) ?_
  refine stp (fun _ h => s0 h) ?_
  refine stp (fun _ h => sd h) ?_
  refine stp (fun _ h => s0 h) ?_
  refine aops_nil ?_
  refine AW.seq ?_
  refine AW.region (cfg := cfg) ?_
  refine stp (fun _ h => sq h) ?_
  refine stp (fun _ h => st h) ?_
  refine aops_nil ?_
  refine AW.join (fun σ => ∃ s m, σ = ⟨44, s, m⟩ ∧ s 0 = .v (i64 me) ∧ s 1 = .v (.sl 8 nt (t.map nrA)) ∧ s 5 = .lptr (.tmp 5 0) (m.objs (.tmp 5 0)).1 0 ∧ (m.objs (.tmp 5 0)).2 = .box [.v (i64 x), .v (i64 (rS x u))] ∧ s 7 = .lptr (.tmp 7 0) (m.objs (.tmp 7 0)).1 0 ∧ (m.objs (.tmp 7 0)).2 = .box [.v (i64 0), .v (i64 0)] ∧ s 9 = .own (.var 9) (m.objs (.var 9)).1 0 ((rpre x u).length) ∧ (m.objs (.var 9)).2 = .arr false 6 ((rpre x u).map cgA) ∧ (¬ (x > u ∧ rW x = 0)) ∧ (∀ i, (m.objs (.res i)).2 = .dead) ∧ m.G = []) ?_ ?_
  · skip
    refine AW.seq ?_
    refine AW.region (cfg := cfg) ?_
    refine stp (fun _ h => sx h) ?_
    refine stp (fun _ h => sl h) ?_
    refine stp (fun _ h => sx h) ?_
    refine stp (fun _ h => sl h) ?_
    refine stp (fun _ h => s0 h) ?_
    refine aops_nil ?_
    refine cnd (fun hb => ?ht1) (fun hb => ?hf1)
    case ht1 =>
      have hw16 := hb
      try simp only [bo1, bo2, bo3, bo4, bo5, bo6] at hb
      have hbt16 := hb
      refine AW.seq ?_
      refine AW.region (cfg := cfg) ?_
      refine stp (fun _ h => sl h) ?_
      refine stp (fun _ h => cs (w := S.good_refWant x u (by omega)) (x := h)) ?_
      refine stp (fun _ h => s0 h) ?_
      refine aops_nil ?_
      refine AW.seq ?_
      refine AW.seq ?_
      refine AW.region (cfg := cfg) ?_
      iterate 2 refine stp (fun _ h => s0 h) ?_
      refine aops_nil ?_
      refine cnd (fun hb => ?ht2) (fun hb => ?hf2)
      case ht2 =>
        have hw20 := hb
        try simp only [bo1, bo2, bo3, bo4, bo5, bo6] at hb
        have hbt20 := hb
        refine AW.seq ?_
        refine AW.region (cfg := cfg) ?_
        refine stp (fun _ h => su h) ?_
        refine stp (fun _ h => s0 h) ?_
        refine stp0 (fun _ h => ss h) ?_
        refine stp (fun _ h => s0 h) ?_
        refine aops_nil ?_
        refine AW.ret ?_
        refine ⟨.inr rfl, ?_⟩
        refine leaves_mwp2 (rs := [.tmp 6, .cell 7 25, .tmp 8]) rfl ?_
        simp (config := {failIfUnchanged := false}) [giveL, srcOne, rehome, freezeN, sub, ti25, upd, opn, aLoad, loadL, giveOne, reify, reifyL, readL, readOne, Mwp, M.bind, Mem.set, setAt, cellsL, hG, f0, f1, f2]
        all_goals (rw [rp_no hbt16 hbt20]; (simp; done))
      case hf2 =>
        have hw20 := hb
        try simp only [bo1, bo2, bo3, bo4, bo5, bo6] at hb
        have hbt20 := hb
        refine AW.skip ?_
        refine AW.seq ?_
        refine AW.region (cfg := cfg) ?_
        iterate 2 refine stp (fun _ h => s0 h) ?_
        refine stp (fun _ h => su h) ?_
        refine stp (fun _ h => sq h) ?_
        refine stp (fun _ h => sp h) ?_
        refine stp (fun _ h => st h) ?_
        refine aops_nil ?_
        refine AW.region (cfg := cfg) ?_
        refine stp (fun _ h => s0 h) ?_
        refine stp (fun _ h => sx h) ?_
        refine stp0 (fun _ h => ss h) ?_
        refine aops_nil ?_
        refine ⟨_, _, rfl, ?_, ?_, ?_, ?_, ?_, ?_, ?_, ?_, ?_, (by intro i; simp [Mem.set, hr]), (by exact hG)⟩ <;> try simp (disch := first | omega | decide) only [go_sem, F, aIndex_map]
        all_goals first | (intro q; exact hbt20 q.2) | (simp [rpre, rS, hbt16]; done) | (rw [rpre, if_pos hbt16]; rfl)
    case hf1 =>
      have hw16 := hb
      try simp only [bo1, bo2, bo3, bo4, bo5, bo6] at hb
      have hbt16 := hb
      refine AW.skip ?_
      refine ⟨_, _, rfl, ?_, ?_, ?_, ?_, ?_, ?_, ?_, ?_, ?_, (by intro i; simp [Mem.set, hr]), (by exact hG)⟩ <;> try simp (disch := first | omega | decide) only [go_sem, F, aIndex_map]
      all_goals first | (intro q; exact hbt16 q.1) | (simp [rpre, rS, hbt16]; done)
  · clear F f0 f1 f2 hr hG
    rintro σ ⟨s, m, rfl, f0, f1, f5, o5, f7, o7, f9, o9, mo0, hr, hG⟩
    obtain ⟨g5, o5⟩ : ∃ g, m.objs (.tmp 5 0) = (g, .box [.v (i64 x), .v (i64 (rS x u))]) := ⟨_, Prod.ext rfl o5⟩
    rw [o5] at f5
    obtain ⟨g7, o7⟩ : ∃ g, m.objs (.tmp 7 0) = (g, .box [.v (i64 0), .v (i64 0)]) := ⟨_, Prod.ext rfl o7⟩
    rw [o7] at f7
    obtain ⟨g9, o9⟩ : ∃ g, m.objs (.var 9) = (g, .arr false 6 ((rpre x u).map cgA)) := ⟨_, Prod.ext rfl o9⟩
    rw [o9] at f9
    have F := (And.intro f0 (And.intro f1 (And.intro f5 (And.intro f7 (And.intro f9 (And.intro o5 (And.intro o7 (And.intro o9 hG))))))))
    refine AW.seq ?_
    refine AW.region (cfg := cfg) ?_
    iterate 2 refine stp (fun _ h => s0 h) ?_
    refine stp (fun _ h => sx h) ?_
    refine stp (fun _ h => sl h) ?_
    refine stp (fun _ h => s0 h) ?_
    refine stp (fun _ h => cr (w := good_refMakeO me x nt t (by omega)) (x := h)) ?_
    refine stp (fun _ h => su h) ?_
    refine stp (fun _ h => sq h) ?_
    refine stp (fun _ h => sp h) ?_
    refine stp (fun _ h => st h) ?_
    refine aops_nil ?_
    refine AW.seq ?_
    refine AW.region (cfg := cfg) ?_
    refine stp (fun _ h => sx h) ?_
    refine stp (fun _ h => sl h) ?_
    refine stp (fun _ h => sd h) ?_
    refine stp (fun _ h => sx h) ?_
    refine stp0 (fun _ h => ss h) ?_
    refine aops_nil ?_
    refine AW.seq ?_
    refine AW.draw (cfg := cfg) (by kernel_rfl) (by kernel_rfl) (by kernel_rfl) ?_
    refine dstp (fun _ h => s0 h) ?_
    refine dstp (fun _ h => sl h) ?_
    refine dstp (fun _ h => sm h) ?_
    refine dstp0 (fun _ h => ss h) ?_
    refine dstp (fun _ h => s0 h) ?_
    refine adraw_nil (by kernel_rfl) ?_
    refine AW.ret ?_
    refine ⟨.inr rfl, ?_⟩
    refine leaves_mwp2 (rs := [.tmp 6, .cell 7 25, .tmp 8]) rfl ?_
    simp (config := {failIfUnchanged := false}) [giveL, srcOne, rehome, freezeN, sub, ti25, upd, opn, aLoad, loadL, giveOne, reify, reifyL, readL, readOne, Mwp, M.bind, Mem.set, setAt, cellsL, hG, f0, f1, f5, f7, f9, o5, o7, o9]
    all_goals (rw [rp_yes mo0]; (simp [cgA, cgL, mkF, List.take_of_length_le]; done))
end Go.Vai.OW
