import Derived.Test.YtheihmlgnldijaatOwn4
namespace Go.Vai.OW
open Go.Proofs Go.Vai Go.Vai.D Go.Vai.DB Go.Vai.I Go.Vai.L Go.Vai.N Go.Vai.O Go.Vai.S Go.Vai.T
set_option linter.unusedSimpArgs false
set_option linter.unusedVariables false
set_option maxHeartbeats 4000000
set_option maxRecDepth 100000
theorem good_OwnMust (nd : Bool) (db : List Lsa) (hd : db.length ≤ 9223372036854775807) (hz : nd = true → db = []) (pd0 : ∀ x ∈ db, x.ls.length ≤ 9223372036854775807 ∧ (x.nil = true → x.ls = [])) (nt : Bool) (t : List Nr) (ht : t.length ≤ 9223372036854775807) (me x u first : Int) (hx : -9223372036854775808 ≤ x ∧ x ≤ 9223372036854775807) (hu : -9223372036854775808 ≤ u ∧ u ≤ 9223372036854775807) : Good Try.prog 3 [(.sl 3 nd (db.map lsaA), false), (.sl 8 nt (t.map nrA), false), (.agg [i64 me, i64 x, i64 u, i64 first], false)] [] [(.b true, false)] [] := by
  refine good_of_body2 103 Try.func3 rfl rfl rfl (by simp) ?_
  intro s m ha hr hv hG
  have f0 : s 0 = .v (.sl 3 nd (db.map lsaA)) := ha 0 _ rfl
  have f1 : s 1 = .v (.sl 8 nt (t.map nrA)) := ha 1 _ rfl
  have f2 : s 2 = .v (.agg [i64 me, i64 x, i64 u, i64 first]) := ha 2 _ rfl
  clear ha
  have hc : True := trivial
  have F := (And.intro f0 (And.intro f1 (And.intro f2 hG)))
  refine AW.seq ?_
  refine AW.region (cfg := cfg) ?_
  refine stp (fun _ h => sb h) ?_
  refine stp (fun _ h => s0 h) ?_
  refine aops_nil ?_
  refine AW.seq ?_
  refine AW.seq ?_
  refine AW.region (cfg := cfg) ?_
  refine stp (fun _ h => s0 h) ?_
  refine stp (fun _ h => cs (w := good_LightDb nd db (by omega) (fun x hx => (pd0 x hx).1)) (x := h)) ?_
  iterate 2 refine stp (fun _ h => s0 h) ?_
  refine mrg wa (fun hc _ h => s0 h) ?_
  refine mrg wa (fun hc _ h => sd h) ?_
  refine mrg wa (fun hc _ h => s0 h) ?_
  refine stp (fun _ h => s0 h) ?_
  refine aops_nil ?_
  refine cnd (fun hb => ?ht1) (fun hb => ?hf1)
  case ht1 =>
    have hw18 := hb
    try simp only [bo1, bo2, bo3, bo4, bo5, bo6] at hb
    have hbt18 := hb
    refine AW.seq ?_
    refine AW.region (cfg := cfg) ?_
    refine stp (fun _ h => cs (w := good_awakeO) (x := h)) ?_
    refine stp (fun _ h => s0 h) ?_
    refine aops_nil ?_
    refine AW.ret ?_
    refine ⟨.inr rfl, ?_⟩
    refine leaves_tmp1 6 rfl ?_ (by exact hG)
    simp (disch := first | omega | decide) only [go_sem, F, aIndex_map]
    all_goals first | done | rfl | (simp; done) | trace_state
  case hf1 =>
    have hw18 := hb
    try simp only [bo1, bo2, bo3, bo4, bo5, bo6] at hb
    have hbt18 := hb
    refine AW.skip ?_
    refine AW.seq ?_
    obtain ⟨hd2, pd⟩ := light_of (show lightD db = true by simpa using hbt18.1) (fun x hx => (pd0 x hx).2)
    have ht2 : t.length ≤ 40 := by omega
    have wlf := lk_len t
    have wll := lkL_len t
    refine AW.region (cfg := cfg) ?_
    refine stp (fun _ h => s0 h) ?_
    refine stp (fun _ h => sx h) ?_
    refine stp (fun _ h => sl h) ?_
    refine stp (fun _ h => s0 h) ?_
    refine stp (fun _ h => sx h) ?_
    refine stp (fun _ h => sl h) ?_
    refine stp (fun _ h => cs (w := good_MustO nd db (by omega) pd me nt t (by omega) first) (x := h)) ?_
    refine stp (fun _ h => s0 h) ?_
    refine aops_nil ?_
    refine AW.seq ?_
    refine AW.region (cfg := cfg) ?_
    refine stp (fun _ h => sx h) ?_
    refine stp (fun _ h => sl h) ?_
    refine stp (fun _ h => sx h) ?_
    refine stp (fun _ h => sl h) ?_
    refine stp (fun _ h => s0 h) ?_
    refine stp (fun _ h => cr (w := good_MakeO me first nt t (by omega)) (x := h)) ?_
    iterate 3 refine stp (fun _ h => s0 h) ?_
    refine stp (fun _ h => sd h) ?_
    refine stp0 (fun _ h => ss h) ?_
    refine stp (fun _ h => s0 h) ?_
    refine aops_nil ?_
    refine AW.seq ?_
    refine AW.region (cfg := cfg) ?_
    refine stp (fun _ h => sx h) ?_
    refine stp (fun _ h => sl h) ?_
    refine stp (fun _ h => sx h) ?_
    refine stp (fun _ h => sl h) ?_
    refine stp (fun _ h => s0 h) ?_
    refine stp (fun _ h => cr (w := good_refMakeO me first nt t (by omega)) (x := h)) ?_
    refine stp (fun _ h => sd h) ?_
    refine stp0 (fun _ h => ss h) ?_
    refine aops_nil ?_
    refine AW.join (fun σ => ∃ s m, σ = ⟨103, s, m⟩ ∧ s 0 = .v (.sl 3 nd (db.map lsaA)) ∧ s 1 = .v (.sl 8 nt (t.map nrA)) ∧ s 5 = .lptr (.tmp 5 0) (m.objs (.tmp 5 0)).1 0 ∧ (m.objs (.tmp 5 0)).2 = .box [.v (i64 me), .v (i64 x), .v (i64 u), .v (i64 first)] ∧ s 7 = .v (.b (mustR db me t first)) ∧ (∀ i, (m.objs (.res i)).2 = .dead) ∧ m.G = []) ?_ ?_
    · skip
      refine AW.seq ?_
      refine AW.region (cfg := cfg) ?_
      refine stp (fun _ h => sx h) ?_
      refine stp (fun _ h => sl h) ?_
      refine stp (fun _ h => s0 h) ?_
      refine stp (fun _ h => cs (w := good_RightO me nt t (by omega)) (x := h)) ?_
      iterate 2 refine stp (fun _ h => s0 h) ?_
      refine mrg wa (fun hc _ h => sl h) ?_
      refine mrg wa (fun hc _ h => cs (w := good_refMayX (mkF me first t) (show (lkF t).length ≤ 9223372036854775807 by omega)) (x := h)) ?_
      refine mrg wa (fun hc _ h => s0 h) ?_
      refine stp (fun _ h => s0 h) ?_
      refine aops_nil ?_
      refine cnd (fun hb => ?ht2) (fun hb => ?hf2)
      case ht2 =>
        have hw51 := hb
        try simp only [bo1, bo2, bo3, bo4, bo5, bo6] at hb
        have hbt51 := hb
        refine AW.seq ?_
        have e1 := mk_no hbt51
        have F := And.intro e1 F
        refine AW.region (cfg := cfg) ?_
        iterate 3 refine stp (fun _ h => s0 h) ?_
        refine mrg wa (fun hc _ h => sl h) ?_
        refine mrg wa (fun hc _ h => su h) ?_
        refine mrg wa (fun hc _ h => cs (w := L.good_refSame default def_fit default def_fit) (x := h)) ?_
        refine mrg wa (fun hc _ h => s0 h) ?_
        refine stp (fun _ h => s0 h) ?_
        refine aops_nil ?_
        refine cnd (fun hb => ?ht3) (fun hb => ?hf3)
        case ht3 => (simp [lsaEq_refl] at hb; done)
        case hf3 =>
        have hbt59 := hb
        refine AW.skip ?_
        refine ⟨_, _, rfl, ?_, ?_, ?_, ?_, ?_, (by intro i; simp [Mem.set, hr]), (by exact hG)⟩ <;> try simp (disch := first | omega | decide) only [go_sem, F, aIndex_map]
        all_goals first | rfl | trace_state
      case hf2 =>
        have hw51 := hb
        try simp only [bo1, bo2, bo3, bo4, bo5, bo6] at hb
        have hbt51 := hb
        refine AW.seq ?_
        obtain ⟨e1, htk⟩ := mk_yes hbt51
        have e2 := mk_same (me := me) (sq := first) htk
        have F := And.intro e1 F
        have F := And.intro e2 F
        refine AW.region (cfg := cfg) ?_
        iterate 3 refine stp (fun _ h => s0 h) ?_
        iterate 2 refine mrg wa (fun hc _ h => sl h) ?_
        refine mrg wa (fun hc _ h => cs (w := L.good_refSame (mkL me first t) (show (lkL t).length ≤ 9223372036854775807 by omega) (mkF me first t) (show (lkF t).length ≤ 9223372036854775807 by omega)) (x := h)) ?_
        refine mrg wa (fun hc _ h => s0 h) ?_
        refine stp (fun _ h => s0 h) ?_
        refine aops_nil ?_
        refine cnd (fun hb => ?ht4) (fun hb => ?hf4)
        case ht4 => (simp at hb; done)
        case hf4 =>
        have hbt67 := hb
        refine AW.skip ?_
        refine ⟨_, _, rfl, ?_, ?_, ?_, ?_, ?_, (by intro i; simp [Mem.set, hr]), (by exact hG)⟩ <;> try simp (disch := first | omega | decide) only [go_sem, F, aIndex_map]
        all_goals first | rfl | trace_state
    · clear F f0 f1 f2 hr hG
      rintro σ ⟨s, m, rfl, f0, f1, f5, o5, f7, hr, hG⟩
      obtain ⟨g5, o5⟩ : ∃ g, m.objs (.tmp 5 0) = (g, .box [.v (i64 me), .v (i64 x), .v (i64 u), .v (i64 first)]) := ⟨_, Prod.ext rfl o5⟩
      rw [o5] at f5
      have F := (And.intro f0 (And.intro f1 (And.intro f5 (And.intro f7 (And.intro o5 hG)))))
      refine AW.seq ?_
      refine AW.seq ?_
      refine AW.region (cfg := cfg) ?_
      refine stp (fun _ h => s0 h) ?_
      refine stp (fun _ h => cs (w := good_MayDb nd db (by omega) (fun x hx => by have := (pd x hx).1; omega)) (x := h)) ?_
      iterate 2 refine stp (fun _ h => s0 h) ?_
      refine mrg wa (fun hc _ h => s0 h) ?_
      refine mrg wa (fun hc _ h => cs (w := good_mayT nt t (by omega)) (x := h)) ?_
      refine mrg wa (fun hc _ h => s0 h) ?_
      iterate 2 refine stp (fun _ h => s0 h) ?_
      refine mrg wa (fun hc _ h => sx h) ?_
      refine mrg wa (fun hc _ h => sl h) ?_
      refine mrg wa (fun hc _ h => s0 h) ?_
      iterate 2 refine stp (fun _ h => s0 h) ?_
      refine mrg wa (fun hc _ h => sx h) ?_
      refine mrg wa (fun hc _ h => sl h) ?_
      refine mrg wa (fun hc _ h => s0 h) ?_
      refine stp (fun _ h => s0 h) ?_
      refine aops_nil ?_
      refine cnd (fun hb => ?ht5) (fun hb => ?hf5)
      case ht5 =>
        have hw85 := hb
        try simp only [bo1, bo2, bo3, bo4, bo5, bo6] at hb
        have hbt85 := hb
        refine AW.seq ?_
        have e1 := must_bad (first := first) hbt85
        have F := And.intro e1 F
        refine AW.region (cfg := cfg) ?_
        iterate 3 refine stp (fun _ h => s0 h) ?_
        refine mrg wa (fun hc _ h => cs (w := good_awakeO) (x := h)) ?_
        iterate 2 refine stp (fun _ h => s0 h) ?_
        refine aops_nil ?_
        refine AW.ret ?_
        refine ⟨.inr rfl, ?_⟩
        refine leaves_tmp1 6 rfl ?_ (by exact hG)
        simp (disch := first | omega | decide) only [go_sem, F, aIndex_map]
        all_goals rfl
      case hf5 =>
        have hw85 := hb
        try simp only [bo1, bo2, bo3, bo4, bo5, bo6] at hb
        have hbt85 := hb
        refine AW.skip ?_
        refine AW.seq ?_
        have e1 := must_eq (first := first) (show dbOK db = true by simpa using hbt85.1.1.1) (show tabOK t = true by simpa using hbt85.1.1.2) (show node me = true by (have q1 := hbt85.1.2; have q2 := hbt85.2; simp [node]; omega))
        have F := And.intro e1 F
        refine AW.region (cfg := cfg) ?_
        iterate 2 refine stp (fun _ h => s0 h) ?_
        refine stp (fun _ h => sx h) ?_
        refine stp (fun _ h => sl h) ?_
        refine stp (fun _ h => s0 h) ?_
        refine stp (fun _ h => sx h) ?_
        refine stp (fun _ h => sl h) ?_
        refine stp (fun _ h => cs (w := good_refMustO nd db (by omega) pd me nt t (by omega) first) (x := h)) ?_
        iterate 2 refine stp (fun _ h => s0 h) ?_
        refine mrg wa (fun hc _ h => cs (w := good_awakeO) (x := h)) ?_
        iterate 2 refine stp (fun _ h => s0 h) ?_
        refine aops_nil ?_
        refine AW.ret ?_
        refine ⟨.inr rfl, ?_⟩
        refine leaves_tmp1 6 rfl ?_ (by exact hG)
        simp (disch := first | omega | decide) only [go_sem, F, aIndex_map]
        all_goals first | done | rfl | (simp; done) | trace_state
end Go.Vai.OW
