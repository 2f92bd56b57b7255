import Derived.Test.YtmjnimnnlogomaarDf3
import Derived.Test.YtmjnimnnlogomaaDfPl
namespace Go.Vai.DB
open Go.Proofs Go.Vai Go.Vai.D Go.Vai.I Go.Vai.L Go.Vai.N Go.Vai.O
set_option linter.unusedSimpArgs false
set_option linter.unusedVariables false
set_option maxHeartbeats 4000000
set_option maxRecDepth 100000
def dlA (d : Dl) : AV := .agg [.sl 3 d.n1 (d.nw.map lsaA), .sl 1 d.n2 (d.gn.map i64), .sl 3 d.n3 (d.ol.map lsaA)]
theorem xS_nil2 {a F : List Lsa} {k : Nat} (h : (a.isEmpty && decide (k = 0)) = true) : xS a F k = [] := by
  simp only [Bool.and_eq_true, decide_eq_true_eq] at h
  rw [h.2]; exact List.isEmpty_iff.1 h.1
theorem cellsOf_dl (d : Dl) : cellsOf (dlA d) = [.sl 3 d.n1 (d.nw.map lsaA), .sl 1 d.n2 (d.gn.map i64), .sl 3 d.n3 (d.ol.map lsaA)] := rfl
@[simp] theorem noPtr_dl (d : Dl) : noPtr (dlA d) = true := by simp [dlA, noPtr, noPtrL]
attribute [go_sem] cellsOf_dl
theorem good_OfDf (na : Bool) (a : List Lsa) (ha : a.length ≤ 1000000) (pa : ∀ x ∈ a, fit x) (nb : Bool) (b : List Lsa) (hb0 : b.length ≤ 1000000) (pb : ∀ x ∈ b, fit x) : Good Try.prog 8 [(.sl 3 na (a.map lsaA), false), (.sl 3 nb (b.map lsaA), false)] [] [(dlA (ofR a b).1, false), (i64 (ofR a b).2, false)] [] := by
  refine good_of_body2 89 Try.func8 rfl rfl rfl (by simp) ?_
  intro s m ha hr hv hG
  have f0 : s 0 = .v (.sl 3 na (a.map lsaA)) := ha 0 _ rfl
  have f1 : s 1 = .v (.sl 3 nb (b.map lsaA)) := ha 1 _ rfl
  clear ha
  have hc : True := trivial
  have F := (And.intro f0 (And.intro f1 hG))
  refine AW.seq ?_
  refine AW.region (cfg := cfg) ?_
  refine stp (fun _ h => sd h) ?_
  refine stp (fun _ h => s0 h) ?_
  refine aops_nil ?_
  refine AW.seq ?_
  refine AW.seq ?_
  refine AW.region (cfg := cfg) ?_
  refine stp (fun _ h => s0 h) ?_
  refine stp (fun _ h => cs (w := good_CheckDb na a (by omega) (fun x hx => by have := (pa x hx).1; omega)) (x := h)) ?_
  iterate 2 refine stp (fun _ h => s0 h) ?_
  refine mrg wa (fun hc _ h => s0 h) ?_
  refine mrg wa (fun hc _ h => cs (w := good_CheckDb nb b (by omega) (fun x hx => by have := (pb x hx).1; omega)) (x := h)) ?_
  refine mrg wa (fun hc _ h => s0 h) ?_
  refine stp (fun _ h => s0 h) ?_
  refine aops_nil ?_
  refine cnd (fun hb => ?ht1) (fun hb => ?hf1)
  case ht1 =>
    have hw22 := hb
    try simp only [bo1, bo2, bo3, bo4, bo5, bo6] at hb
    have hbt22 := hb
    refine AW.seq ?_
    refine AW.region (cfg := cfg) ?_
    refine stp (fun _ h => su h) ?_
    refine stp0 (fun _ h => ss h) ?_
    refine stp (fun _ h => s0 h) ?_
    refine aops_nil ?_
    refine AW.ret ?_
    refine ⟨.inr rfl, ?_⟩
    refine leaves_mwp2 (rs := [.cell 4 27, .tmp 5]) rfl ?_
    simp (config := {failIfUnchanged := false}) [giveL, srcOne, rehome, freezeN, sub, ti27, upd, opn, aLoad, loadL, giveOne, reify, reifyL, readL, readOne, Mwp, M.bind, Mem.set, setAt, cellsL, hG, f0, f1]
    all_goals (rw [ofR_no hbt22]; exact ⟨rfl, rfl⟩)
  case hf1 =>
    have hw22 := hb
    try simp only [bo1, bo2, bo3, bo4, bo5, bo6] at hb
    have hbt22 := hb
    refine AW.skip ?_
    refine AW.seq ?_
    have h0a := dbE_0 hbt22.1
    have h0b := dbE_0 hbt22.2
    have hla := db_len h0a
    have hlb := db_len h0b
    refine AW.region (cfg := cfg) ?_
    refine stp (fun _ h => sd h) ?_
    refine aops_nil ?_
    refine AW.seq ?_
    refine AW.seq ?_
    refine AW.cellNil 6 0 3 (by simp (disch := first | omega | decide) only [go_sem, F, aIndex_map]; rfl) (by rfl) ?_
    refine AW.cellNil 6 1 1 (by simp (disch := first | omega | decide) only [go_sem, F, aIndex_map]; rfl) (by rfl) ?_
    refine AW.cellNil 6 2 3 (by simp (disch := first | omega | decide) only [go_sem, F, aIndex_map]; rfl) (by rfl) ?_
    refine AW.region (cfg := cfg) ?_
    refine stp (fun _ h => s0 h) ?_
    refine stp (fun _ h => sd h) ?_
    refine stp (fun _ h => s0 h) ?_
    refine aops_nil ?_
    refine AW.block ?_
    refine AW.forN (fun k σ => ∃ s m, σ = ⟨89, s, m⟩ ∧ s 0 = .v (.sl 3 na (a.map lsaA)) ∧ s 1 = .v (.sl 3 nb (b.map lsaA)) ∧ s 4 = .lptr (.tmp 4 0) (m.objs (.tmp 4 0)).1 0 ∧ (m.objs (.tmp 4 0)).2 = .box [.v (.sl 3 true []), .v (.sl 1 true []), .v (.sl 3 true [])] ∧ s 6 = .lptr (.tmp 6 0) (m.objs (.tmp 6 0)).1 0 ∧ (m.objs (.tmp 6 0)).2 = .box [.own (.cell 6 0) (m.objs (.cell 6 0)).1 0 (((b.take k).filter (nwP a)).length), .own (.cell 6 1) (m.objs (.cell 6 1)).1 0 ((([] : List Int)).length), .own (.cell 6 2) (m.objs (.cell 6 2)).1 0 (((b.take k).filter (olP a)).length)] ∧ (m.objs (.cell 6 0)).2 = .arr ((b.take k).filter (nwP a)).isEmpty 3 (((b.take k).filter (nwP a)).map lsaA) ∧ (m.objs (.cell 6 1)).2 = .arr (([] : List Int)).isEmpty 1 ((([] : List Int)).map i64) ∧ (m.objs (.cell 6 2)).2 = .arr ((b.take k).filter (olP a)).isEmpty 3 (((b.take k).filter (olP a)).map lsaA) ∧ s 24 = .v (.sl 3 nb (b.map lsaA)) ∧ s 25 = .v (i64 (b.length : Int)) ∧ s 26 = .v (i64 (k : Int)) ∧ (∀ i, (m.objs (.res i)).2 = .dead) ∧ m.G = []) (b.length) ?_ ?_ ?_
    · refine ⟨_, _, rfl, ?_, ?_, ?_, ?_, ?_, ?_, ?_, ?_, ?_, ?_, ?_, ?_, (by intro i; simp [Mem.set, hr]), (by exact hG)⟩ <;> try simp (disch := first | omega | decide) only [go_sem, F, aIndex_map]
      all_goals rfl
    · clear F f0 f1 hr hG
      rintro k σ hk ⟨s, m, rfl, f0, f1, f4, o4, f6, o6, o6c0, o6c1, o6c2, f24, f25, f26, hr, hG⟩
      obtain ⟨g4, o4⟩ : ∃ g, m.objs (.tmp 4 0) = (g, .box [.v (.sl 3 true []), .v (.sl 1 true []), .v (.sl 3 true [])]) := ⟨_, Prod.ext rfl o4⟩
      rw [o4] at f4
      obtain ⟨g6c0, o6c0⟩ : ∃ g, m.objs (.cell 6 0) = (g, .arr ((b.take k).filter (nwP a)).isEmpty 3 (((b.take k).filter (nwP a)).map lsaA)) := ⟨_, Prod.ext rfl o6c0⟩
      rw [o6c0] at o6
      obtain ⟨g6c1, o6c1⟩ : ∃ g, m.objs (.cell 6 1) = (g, .arr (([] : List Int)).isEmpty 1 ((([] : List Int)).map i64)) := ⟨_, Prod.ext rfl o6c1⟩
      rw [o6c1] at o6
      obtain ⟨g6c2, o6c2⟩ : ∃ g, m.objs (.cell 6 2) = (g, .arr ((b.take k).filter (olP a)).isEmpty 3 (((b.take k).filter (olP a)).map lsaA)) := ⟨_, Prod.ext rfl o6c2⟩
      rw [o6c2] at o6
      simp only at o6
      obtain ⟨g6, o6⟩ : ∃ g, m.objs (.tmp 6 0) = (g, .box [.own (.cell 6 0) g6c0 0 (((b.take k).filter (nwP a)).length), .own (.cell 6 1) g6c1 0 ((([] : List Int)).length), .own (.cell 6 2) g6c2 0 (((b.take k).filter (olP a)).length)]) := ⟨_, Prod.ext rfl o6⟩
      rw [o6] at f6
      have F := (And.intro f0 (And.intro f1 (And.intro f4 (And.intro f6 (And.intro f24 (And.intro f25 (And.intro f26 (And.intro o4 (And.intro o6 (And.intro o6c0 (And.intro o6c1 (And.intro o6c2 hG))))))))))))
      refine AW.seq ?_
      refine AW.region (cfg := cfg) ?_
      refine stp (fun _ h => s0 h) ?_
      refine aops_nil ?_
      refine AW.seq ?_
      refine cnd (fun hb => ?ht2) (fun hb => ?hf2)
      case hf2 => (simp at hb; omega)
      case ht2 =>
      have hbt27 := hb
      refine AW.skip ?_
      refine AW.seq ?_
      refine AW.block ?_
      refine AW.seq ?_
      have hkb : k < b.length := by assumption
      have pk := pb b[k] (List.getElem_mem hkb)
      have eg := getR_is (t := b[k].o) h0a
      have pg := gd_fit (t := b[k].o) pa
      have w0 := flt_len (nwP a) b k
      have w2 := flt_len (olP a) b k
      have F := And.intro eg F
      refine AW.region (cfg := cfg) ?_
      refine stp (fun _ h => si h) ?_
      refine stp (fun _ h => sl h) ?_
      refine stp (fun _ h => sd h) ?_
      refine stp0 (fun _ h => ss h) ?_
      refine aops_nil ?_
      refine AW.seq ?_
      refine AW.region (cfg := cfg) ?_
      refine stp (fun _ h => s0 h) ?_
      refine stp (fun _ h => sx h) ?_
      refine stp (fun _ h => sl h) ?_
      refine stp (fun _ h => cr (w := good_GetDb na a (by omega) pa b[k].o) (x := h)) ?_
      iterate 3 refine stp (fun _ h => s0 h) ?_
      refine stp (fun _ h => sd h) ?_
      refine stp0 (fun _ h => ss h) ?_
      refine stp (fun _ h => s0 h) ?_
      refine aops_nil ?_
      refine AW.block ?_
      refine AW.seq ?_
      refine AW.region (cfg := cfg) ?_
      iterate 3 refine stp (fun _ h => s0 h) ?_
      iterate 2 refine mrg wa (fun hc _ h => sl h) ?_
      refine mrg wa (fun hc _ h => cs (w := L.good_Newer b[k] (by have := pk.1; omega) ((gK Lsa.o a b[k].o).getD default) (by have := pg.1; omega)) (x := h)) ?_
      iterate 2 refine stp (fun _ h => s0 h) ?_
      refine aops_nil ?_
      refine cnd (fun hb => ?ht3) (fun hb => ?hf3)
      case ht3 =>
        have hw37 := hb
        try simp only [bo1, bo2, bo3, bo4, bo5, bo6] at hb
        have hbt37 := hb
        refine AW.draw (cfg := cfg) (by kernel_rfl) (by kernel_rfl) (by kernel_rfl) ?_
        refine dstp (fun _ h => sx h) ?_
        iterate 2 refine dstp (fun _ h => sl h) ?_
        refine dstp (fun _ h => cr (w := good_CopyX b[k] pk) (x := h)) ?_
        refine dstp (fun _ h => sq h) ?_
        refine dstp (fun _ h => sp h) ?_
        refine dstp (fun _ h => sx h) ?_
        refine dstp0 (fun _ h => ss h) ?_
        refine adraw_nil (by kernel_rfl) ?_
        refine AW.region (cfg := cfg) ?_
        refine stp (fun _ h => sd h) ?_
        refine stp (fun _ h => s0 h) ?_
        refine aops_nil ?_
        refine ⟨_, _, rfl, ?_, ?_, ?_, ?_, ?_, ?_, ?_, ?_, ?_, ?_, ?_, ?_, (by intro i; simp [Mem.set, hr]), (by exact hG)⟩ <;> try simp (disch := first | omega | decide) only [go_sem, F, aIndex_map]
        all_goals first | rfl | (rw [flt_yes (p := nwP a) hkb hw37, flt_no (p := olP a) hkb (ol_n1 hw37)]; simp; done) | (rw [flt_yes (p := nwP a) hkb hw37]; simp; done) | (rw [flt_no (p := olP a) hkb (ol_n1 hw37)]; done)
      case hf3 =>
        have hw37 := hb
        try simp only [bo1, bo2, bo3, bo4, bo5, bo6] at hb
        have hbt37 := hb
        refine AW.seq ?_
        refine AW.region (cfg := cfg) ?_
        iterate 2 refine stp (fun _ h => sl h) ?_
        refine stp (fun _ h => cs (w := L.good_Same b[k] (by have := pk.1; omega) ((gK Lsa.o a b[k].o).getD default) (by have := pg.1; omega)) (x := h)) ?_
        iterate 2 refine stp (fun _ h => s0 h) ?_
        refine aops_nil ?_
        refine cnd (fun hb => ?ht4) (fun hb => ?hf4)
        case ht4 =>
          have hw52 := hb
          try simp only [bo1, bo2, bo3, bo4, bo5, bo6] at hb
          have hbt52 := hb
          refine AW.draw (cfg := cfg) (by kernel_rfl) (by kernel_rfl) (by kernel_rfl) ?_
          refine dstp (fun _ h => sx h) ?_
          iterate 2 refine dstp (fun _ h => sl h) ?_
          refine dstp (fun _ h => cr (w := good_CopyX b[k] pk) (x := h)) ?_
          refine dstp (fun _ h => sq h) ?_
          refine dstp (fun _ h => sp h) ?_
          refine dstp (fun _ h => sx h) ?_
          refine dstp0 (fun _ h => ss h) ?_
          refine adraw_nil (by kernel_rfl) ?_
          refine AW.region (cfg := cfg) ?_
          refine stp (fun _ h => sd h) ?_
          refine stp (fun _ h => s0 h) ?_
          refine aops_nil ?_
          refine ⟨_, _, rfl, ?_, ?_, ?_, ?_, ?_, ?_, ?_, ?_, ?_, ?_, ?_, ?_, (by intro i; simp [Mem.set, hr]), (by exact hG)⟩ <;> try simp (disch := first | omega | decide) only [go_sem, F, aIndex_map]
          all_goals first | rfl | (rw [flt_no (p := nwP a) hkb hw37, flt_yes (p := olP a) hkb (ol_y hw37 hw52)]; simp; done) | (rw [flt_no (p := nwP a) hkb hw37]; done) | (rw [flt_yes (p := olP a) hkb (ol_y hw37 hw52)]; simp; done)
        case hf4 =>
          have hw52 := hb
          try simp only [bo1, bo2, bo3, bo4, bo5, bo6] at hb
          have hbt52 := hb
          refine AW.skip ?_
          refine AW.region (cfg := cfg) ?_
          refine stp (fun _ h => sd h) ?_
          refine stp (fun _ h => s0 h) ?_
          refine aops_nil ?_
          refine ⟨_, _, rfl, ?_, ?_, ?_, ?_, ?_, ?_, ?_, ?_, ?_, ?_, ?_, ?_, (by intro i; simp [Mem.set, hr]), (by exact hG)⟩ <;> try simp (disch := first | omega | decide) only [go_sem, F, aIndex_map]
          all_goals first | rfl | (rw [flt_no (p := nwP a) hkb hw37, flt_no (p := olP a) hkb (ol_n2 hw52)]; done) | (rw [flt_no (p := nwP a) hkb hw37]; done) | (rw [flt_no (p := olP a) hkb (ol_n2 hw52)]; done)
    · clear F f0 f1 hr hG
      rintro σ ⟨s, m, rfl, f0, f1, f4, o4, f6, o6, o6c0, o6c1, o6c2, f24, f25, f26, hr, hG⟩
      obtain ⟨g4, o4⟩ : ∃ g, m.objs (.tmp 4 0) = (g, .box [.v (.sl 3 true []), .v (.sl 1 true []), .v (.sl 3 true [])]) := ⟨_, Prod.ext rfl o4⟩
      rw [o4] at f4
      obtain ⟨g6c0, o6c0⟩ : ∃ g, m.objs (.cell 6 0) = (g, .arr ((b.take (b.length)).filter (nwP a)).isEmpty 3 (((b.take (b.length)).filter (nwP a)).map lsaA)) := ⟨_, Prod.ext rfl o6c0⟩
      rw [o6c0] at o6
      obtain ⟨g6c1, o6c1⟩ : ∃ g, m.objs (.cell 6 1) = (g, .arr (([] : List Int)).isEmpty 1 ((([] : List Int)).map i64)) := ⟨_, Prod.ext rfl o6c1⟩
      rw [o6c1] at o6
      obtain ⟨g6c2, o6c2⟩ : ∃ g, m.objs (.cell 6 2) = (g, .arr ((b.take (b.length)).filter (olP a)).isEmpty 3 (((b.take (b.length)).filter (olP a)).map lsaA)) := ⟨_, Prod.ext rfl o6c2⟩
      rw [o6c2] at o6
      simp only at o6
      obtain ⟨g6, o6⟩ : ∃ g, m.objs (.tmp 6 0) = (g, .box [.own (.cell 6 0) g6c0 0 (((b.take (b.length)).filter (nwP a)).length), .own (.cell 6 1) g6c1 0 ((([] : List Int)).length), .own (.cell 6 2) g6c2 0 (((b.take (b.length)).filter (olP a)).length)]) := ⟨_, Prod.ext rfl o6⟩
      rw [o6] at f6
      have F := (And.intro f0 (And.intro f1 (And.intro f4 (And.intro f6 (And.intro f24 (And.intro f25 (And.intro f26 (And.intro o4 (And.intro o6 (And.intro o6c0 (And.intro o6c1 (And.intro o6c2 hG))))))))))))
      refine AW.seq ?_
      refine AW.region (cfg := cfg) ?_
      refine stp (fun _ h => s0 h) ?_
      refine aops_nil ?_
      refine AW.seq ?_
      refine cnd (fun hb => ?ht5) (fun hb => ?hf5)
      case ht5 => (simp at hb; done)
      case hf5 =>
      have hbt27 := hb
      refine AW.exit ?_
      refine AW.seq ?_
      refine AW.seq ?_
      refine AW.region (cfg := cfg) ?_
      refine stp (fun _ h => s0 h) ?_
      refine stp (fun _ h => sd h) ?_
      refine stp (fun _ h => s0 h) ?_
      refine aops_nil ?_
      refine AW.block ?_
      refine AW.forN (fun k σ => ∃ s m, σ = ⟨89, s, m⟩ ∧ s 0 = .v (.sl 3 na (a.map lsaA)) ∧ s 1 = .v (.sl 3 nb (b.map lsaA)) ∧ s 4 = .lptr (.tmp 4 0) (m.objs (.tmp 4 0)).1 0 ∧ (m.objs (.tmp 4 0)).2 = .box [.v (.sl 3 true []), .v (.sl 1 true []), .v (.sl 3 true [])] ∧ s 6 = .lptr (.tmp 6 0) (m.objs (.tmp 6 0)).1 0 ∧ (m.objs (.tmp 6 0)).2 = .box [.own (.cell 6 0) (m.objs (.cell 6 0)).1 0 (((b.take b.length).filter (nwP a)).length), .own (.cell 6 1) (m.objs (.cell 6 1)).1 0 ((((a.take k).filter (gnP b)).map Lsa.o).length), .own (.cell 6 2) (m.objs (.cell 6 2)).1 0 (((b.take b.length).filter (olP a)).length)] ∧ (m.objs (.cell 6 0)).2 = .arr ((b.take b.length).filter (nwP a)).isEmpty 3 (((b.take b.length).filter (nwP a)).map lsaA) ∧ (m.objs (.cell 6 1)).2 = .arr (((a.take k).filter (gnP b)).map Lsa.o).isEmpty 1 ((((a.take k).filter (gnP b)).map Lsa.o).map i64) ∧ (m.objs (.cell 6 2)).2 = .arr ((b.take b.length).filter (olP a)).isEmpty 3 (((b.take b.length).filter (olP a)).map lsaA) ∧ s 65 = .v (.sl 3 na (a.map lsaA)) ∧ s 66 = .v (i64 (a.length : Int)) ∧ s 67 = .v (i64 (k : Int)) ∧ (∀ i, (m.objs (.res i)).2 = .dead) ∧ m.G = []) (a.length) ?_ ?_ ?_
      · refine ⟨_, _, rfl, ?_, ?_, ?_, ?_, ?_, ?_, ?_, ?_, ?_, ?_, ?_, ?_, (by intro i; simp [Mem.set, hr]), (by exact hG)⟩ <;> try simp (disch := first | omega | decide) only [go_sem, F, aIndex_map]
        all_goals rfl
      · clear F f0 f1 f4 f6 f24 f25 f26 o4 o6 o6c0 o6c1 o6c2 hr hG
        rintro k σ hk ⟨s, m, rfl, f0, f1, f4, o4, f6, o6, o6c0, o6c1, o6c2, f65, f66, f67, hr, hG⟩
        obtain ⟨g4, o4⟩ : ∃ g, m.objs (.tmp 4 0) = (g, .box [.v (.sl 3 true []), .v (.sl 1 true []), .v (.sl 3 true [])]) := ⟨_, Prod.ext rfl o4⟩
        rw [o4] at f4
        obtain ⟨g6c0, o6c0⟩ : ∃ g, m.objs (.cell 6 0) = (g, .arr ((b.take b.length).filter (nwP a)).isEmpty 3 (((b.take b.length).filter (nwP a)).map lsaA)) := ⟨_, Prod.ext rfl o6c0⟩
        rw [o6c0] at o6
        obtain ⟨g6c1, o6c1⟩ : ∃ g, m.objs (.cell 6 1) = (g, .arr (((a.take k).filter (gnP b)).map Lsa.o).isEmpty 1 ((((a.take k).filter (gnP b)).map Lsa.o).map i64)) := ⟨_, Prod.ext rfl o6c1⟩
        rw [o6c1] at o6
        obtain ⟨g6c2, o6c2⟩ : ∃ g, m.objs (.cell 6 2) = (g, .arr ((b.take b.length).filter (olP a)).isEmpty 3 (((b.take b.length).filter (olP a)).map lsaA)) := ⟨_, Prod.ext rfl o6c2⟩
        rw [o6c2] at o6
        simp only at o6
        obtain ⟨g6, o6⟩ : ∃ g, m.objs (.tmp 6 0) = (g, .box [.own (.cell 6 0) g6c0 0 (((b.take b.length).filter (nwP a)).length), .own (.cell 6 1) g6c1 0 ((((a.take k).filter (gnP b)).map Lsa.o).length), .own (.cell 6 2) g6c2 0 (((b.take b.length).filter (olP a)).length)]) := ⟨_, Prod.ext rfl o6⟩
        rw [o6] at f6
        have F := (And.intro f0 (And.intro f1 (And.intro f4 (And.intro f6 (And.intro f65 (And.intro f66 (And.intro f67 (And.intro o4 (And.intro o6 (And.intro o6c0 (And.intro o6c1 (And.intro o6c2 hG))))))))))))
        refine AW.seq ?_
        refine AW.region (cfg := cfg) ?_
        refine stp (fun _ h => s0 h) ?_
        refine aops_nil ?_
        refine AW.seq ?_
        refine cnd (fun hb => ?ht6) (fun hb => ?hf6)
        case hf6 => (simp at hb; omega)
        case ht6 =>
        have hbt68 := hb
        refine AW.skip ?_
        refine AW.seq ?_
        refine AW.block ?_
        refine AW.seq ?_
        have hka : k < a.length := by assumption
        have pk := pa a[k] (List.getElem_mem hka)
        have eg := getR_is (t := a[k].o) h0b
        have w1 := flt_len (gnP b) a k
        have F := And.intro eg F
        refine AW.region (cfg := cfg) ?_
        refine stp (fun _ h => si h) ?_
        refine stp (fun _ h => sl h) ?_
        refine stp (fun _ h => sd h) ?_
        refine stp0 (fun _ h => ss h) ?_
        refine aops_nil ?_
        refine AW.seq ?_
        refine AW.region (cfg := cfg) ?_
        refine stp (fun _ h => s0 h) ?_
        refine stp (fun _ h => sx h) ?_
        refine stp (fun _ h => sl h) ?_
        refine stp (fun _ h => cr (w := good_GetDb nb b (by omega) pb a[k].o) (x := h)) ?_
        iterate 3 refine stp (fun _ h => s0 h) ?_
        refine stp (fun _ h => sd h) ?_
        refine stp0 (fun _ h => ss h) ?_
        refine stp (fun _ h => s0 h) ?_
        refine aops_nil ?_
        refine AW.seq ?_
        refine AW.region (cfg := cfg) ?_
        iterate 2 refine stp (fun _ h => s0 h) ?_
        refine aops_nil ?_
        refine cnd (fun hb => ?ht7) (fun hb => ?hf7)
        case ht7 =>
          have hw79 := hb
          try simp only [bo1, bo2, bo3, bo4, bo5, bo6] at hb
          have hbt79 := hb
          refine AW.region (cfg := cfg) ?_
          refine stp (fun _ h => sx h) ?_
          refine stp (fun _ h => sl h) ?_
          refine stp (fun _ h => sx h) ?_
          refine stp (fun _ h => sl h) ?_
          refine stp (fun _ h => sq h) ?_
          refine stp (fun _ h => sp h) ?_
          refine stp (fun _ h => sx h) ?_
          refine stp0 (fun _ h => ss h) ?_
          refine aops_nil ?_
          refine AW.region (cfg := cfg) ?_
          refine stp (fun _ h => sd h) ?_
          refine stp (fun _ h => s0 h) ?_
          refine aops_nil ?_
          refine ⟨_, _, rfl, ?_, ?_, ?_, ?_, ?_, ?_, ?_, ?_, ?_, ?_, ?_, ?_, (by intro i; simp [Mem.set, hr]), (by exact hG)⟩ <;> try simp (disch := first | omega | decide) only [go_sem, F, aIndex_map]
          all_goals first | rfl | (rw [flt_yes (p := gnP b) hka hw79]; simp; done)
        case hf7 =>
          have hw79 := hb
          try simp only [bo1, bo2, bo3, bo4, bo5, bo6] at hb
          have hbt79 := hb
          refine AW.skip ?_
          refine AW.region (cfg := cfg) ?_
          refine stp (fun _ h => sd h) ?_
          refine stp (fun _ h => s0 h) ?_
          refine aops_nil ?_
          refine ⟨_, _, rfl, ?_, ?_, ?_, ?_, ?_, ?_, ?_, ?_, ?_, ?_, ?_, ?_, (by intro i; simp [Mem.set, hr]), (by exact hG)⟩ <;> try simp (disch := first | omega | decide) only [go_sem, F, aIndex_map]
          all_goals first | rfl | (rw [flt_no (p := gnP b) hka hw79]; done)
      · clear F f0 f1 f4 f6 f24 f25 f26 o4 o6 o6c0 o6c1 o6c2 hr hG
        rintro σ ⟨s, m, rfl, f0, f1, f4, o4, f6, o6, o6c0, o6c1, o6c2, f65, f66, f67, hr, hG⟩
        obtain ⟨g4, o4⟩ : ∃ g, m.objs (.tmp 4 0) = (g, .box [.v (.sl 3 true []), .v (.sl 1 true []), .v (.sl 3 true [])]) := ⟨_, Prod.ext rfl o4⟩
        rw [o4] at f4
        obtain ⟨g6c0, o6c0⟩ : ∃ g, m.objs (.cell 6 0) = (g, .arr ((b.take b.length).filter (nwP a)).isEmpty 3 (((b.take b.length).filter (nwP a)).map lsaA)) := ⟨_, Prod.ext rfl o6c0⟩
        rw [o6c0] at o6
        obtain ⟨g6c1, o6c1⟩ : ∃ g, m.objs (.cell 6 1) = (g, .arr (((a.take (a.length)).filter (gnP b)).map Lsa.o).isEmpty 1 ((((a.take (a.length)).filter (gnP b)).map Lsa.o).map i64)) := ⟨_, Prod.ext rfl o6c1⟩
        rw [o6c1] at o6
        obtain ⟨g6c2, o6c2⟩ : ∃ g, m.objs (.cell 6 2) = (g, .arr ((b.take b.length).filter (olP a)).isEmpty 3 (((b.take b.length).filter (olP a)).map lsaA)) := ⟨_, Prod.ext rfl o6c2⟩
        rw [o6c2] at o6
        simp only at o6
        obtain ⟨g6, o6⟩ : ∃ g, m.objs (.tmp 6 0) = (g, .box [.own (.cell 6 0) g6c0 0 (((b.take b.length).filter (nwP a)).length), .own (.cell 6 1) g6c1 0 ((((a.take (a.length)).filter (gnP b)).map Lsa.o).length), .own (.cell 6 2) g6c2 0 (((b.take b.length).filter (olP a)).length)]) := ⟨_, Prod.ext rfl o6⟩
        rw [o6] at f6
        have F := (And.intro f0 (And.intro f1 (And.intro f4 (And.intro f6 (And.intro f65 (And.intro f66 (And.intro f67 (And.intro o4 (And.intro o6 (And.intro o6c0 (And.intro o6c1 (And.intro o6c2 hG))))))))))))
        refine AW.seq ?_
        refine AW.region (cfg := cfg) ?_
        refine stp (fun _ h => s0 h) ?_
        refine aops_nil ?_
        refine AW.seq ?_
        refine cnd (fun hb => ?ht8) (fun hb => ?hf8)
        case ht8 => (simp at hb; done)
        case hf8 =>
        have hbt68 := hb
        refine AW.exit ?_
        refine AW.seq ?_
        refine AW.region (cfg := cfg) ?_
        refine stp (fun _ h => sl h) ?_
        refine stp0 (fun _ h => ss h) ?_
        refine stp (fun _ h => s0 h) ?_
        refine aops_nil ?_
        refine AW.ret ?_
        refine ⟨.inr rfl, ?_⟩
        refine leaves_mwp2 (rs := [.cell 4 27, .tmp 5]) rfl ?_
        simp (config := {failIfUnchanged := false}) [giveL, srcOne, rehome, freezeN, sub, ti27, upd, opn, aLoad, loadL, giveOne, reify, reifyL, readL, readOne, Mwp, M.bind, Mem.set, setAt, cellsL, hG, f0, f1, f4, f6, f65, f66, f67, o4, o6, o6c0, o6c1, o6c2]
        all_goals (rw [ofR_yes h0a h0b]; simp only [dlR, dlA, nwL, olL, gnL]; (simp [List.take_of_length_le, sub_full]; done))
end Go.Vai.DB
