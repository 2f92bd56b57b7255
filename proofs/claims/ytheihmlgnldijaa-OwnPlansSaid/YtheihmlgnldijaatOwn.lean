import Derived.Test.YtheihmlgnldijaatDb9
import Derived.Test.YtheihmlgnldijaatTabA
import Derived.Test.YtheihmlgnldijaatSpace
import Derived.Test.YtheihmlgnldijaaDfPl
namespace Go.Vai.OW
open Go.Proofs Go.Vai Go.Vai.D Go.Vai.DB Go.Vai.I Go.Vai.L Go.Vai.N Go.Vai.O Go.Vai.S Go.Vai.T
set_option linter.unusedSimpArgs false
set_option linter.unusedVariables false
set_option maxHeartbeats 4000000
set_option maxRecDepth 100000
open Go.Vai.L Go.Vai.D Go.Vai.I Go.Vai.T Go.Vai.S
def lkS (p : Pr) : LinkS := ⟨p.a, p.b⟩
def lkL (t : List Nr) : List LinkS := (thR fuP lkT t).map lkS
def lkF (t : List Nr) : List LinkS := (thL fuP lkT t).map lkS
theorem lkS_map (l : List Pr) : l.map prA = (l.map lkS).map linkA := by rw [List.map_map]; rfl
theorem lk_emp (l : List Pr) : l.isEmpty = (l.map lkS).isEmpty := by cases l <;> rfl
theorem lk_same {t : List Nr} (h : tabOK t = true) : lkL t = lkF t := by rw [lkL, lkF, thR_yes h]
theorem lk_len (t : List Nr) : (lkF t).length ≤ t.length := by
  rw [lkF, List.length_map]; exact th_len fuP lkT t
theorem lkL_len (t : List Nr) : (lkL t).length ≤ t.length := by
  rw [lkL, List.length_map, thR]
  split
  · exact th_len fuP lkT t
  · simp
theorem good_LinksL (nil : Bool) (l : List Nr) (hl : l.length ≤ 1000000) : Good Try.prog 28 [(.sl 8 nil (l.map nrA), false)] [] [(.sl 2 (lkL l).isEmpty ((lkL l).map linkA), false)] [] := by
  have c := good_LinksT nil l hl
  rw [lkS_map, lk_emp] at c
  exact c
theorem good_refLinksL (nil : Bool) (l : List Nr) (hl : l.length ≤ 1000000) : Good Try.prog 31 [(.sl 8 nil (l.map nrA), false)] [] [(.sl 2 false ((lkF l).map linkA), false)] [] := by
  have c := good_refLinksT nil l hl
  rw [lkS_map] at c
  exact c
def mkL (me sq : Int) (t : List Nr) : Lsa := ⟨me, sq, (lkL t).isEmpty, lkL t⟩
def mkF (me sq : Int) (t : List Nr) : Lsa := ⟨me, sq, false, lkF t⟩
def mkR (me sq : Int) (t : List Nr) : Lsa × Int := if tabOK t && !isK Nr.of t me && lsaOK (mkL me sq t) then (mkL me sq t, 0) else (default, 1)
theorem mk_tab {me sq : Int} {t : List Nr} (h : tabE t ≠ 0) : mkR me sq t = (default, 1) := by rw [mkR, tab_1 h]; rfl
theorem mk_in {me sq : Int} {t : List Nr} (h : isK Nr.of t me = true) : mkR me sq t = (default, 1) := by rw [mkR, h]; simp
theorem mk_bad {me sq : Int} {t : List Nr} (h : lsaE (mkL me sq t) ≠ 0) : mkR me sq t = (default, 1) := by rw [mkR, lsaE_ne h, Bool.and_false]; rfl
theorem lsaE_one {x : Lsa} (h : lsaE x ≠ 0) : lsaE x = 1 := by rw [lsaE, lsaE_ne h]; rfl
theorem mk_ok {me sq : Int} {t : List Nr} (h : tabOK t = true) (h2 : isK Nr.of t me = false) (h3 : ¬ lsaE (mkL me sq t) ≠ 0) : mkR me sq t = (mkL me sq t, 0) := by rw [mkR, h, h2, lsaE_0 h3]; rfl
def mustR (db : List Lsa) (me : Int) (t : List Nr) (first : Int) : Bool := ((dbOK db && tabOK t) && node me) && ((!isK Lsa.o db me || decide ((gD db me).s < first)) || !decide ((gD db me).ls = lkL t))
theorem must_no {db : List Lsa} {me : Int} {t : List Nr} {first : Int} (h : (dbE db ≠ 0 ∨ tabE t ≠ 0) ∨ (!node me) = true) : mustR db me t first = false := by
  rw [mustR]
  rcases h with (h | h) | h
  · rw [dbE_1 h]; rfl
  · rw [tab_1 h, Bool.and_false]; rfl
  · rw [show node me = false by simpa using h, Bool.and_false]; rfl
theorem must_yes {db : List Lsa} {me : Int} {t : List Nr} {first : Int} (h : dbOK db = true) (h2 : tabOK t = true) (h3 : node me = true) : mustR db me t first = ((!isK Lsa.o db me || decide ((gD db me).s < first)) || !decide ((gD db me).ls = lkL t)) := by rw [mustR, h, h2, h3]; rfl
def rightR (me : Int) (t : List Nr) : Bool := ((decide (me ≥ 1) && decide (me ≤ 64)) && tabOK t) && decide (((gK Nr.of t me).getD default).of = 0)
def rmustR (db : List Lsa) (me : Int) (t : List Nr) (first : Int) : Bool := (decide ((gD db me).o = 0) || decide ((gD db me).s < first)) || !lsaEq (gD db me) (mkF me (gD db me).s t)
theorem good_nodeO (n : Int) : Good Try.prog 25 [(i64 n, false)] [] [(.b (node n), false)] [] := by
  refine good_of_body2 9 Try.func25 rfl rfl rfl (by simp) ?_
  intro s m ha hr hv hG
  have f0 : s 0 = .v (i64 n) := ha 0 _ rfl
  clear ha
  have hc : True := trivial
  have F := (And.intro f0 hG)
  refine AW.seq ?_
  refine AW.region (cfg := cfg) ?_
  refine stp (fun _ h => s0 h) ?_
  refine aops_nil ?_
  refine AW.seq ?_
  refine AW.region (cfg := cfg) ?_
  iterate 3 refine stp (fun _ h => s0 h) ?_
  iterate 2 refine mrg wa (fun hc _ h => s0 h) ?_
  iterate 2 refine stp (fun _ h => s0 h) ?_
  refine aops_nil ?_
  refine AW.ret ?_
  refine ⟨.inr rfl, ?_⟩
  refine leaves_tmp1 2 rfl ?_ (by exact hG)
  simp (disch := first | omega | decide) only [go_sem, F, aIndex_map]
  all_goals rfl
theorem good_MakeO (me sq : Int) (nt : Bool) (t : List Nr) (ht : t.length ≤ 1000000) : Good Try.prog 8 [(i64 me, false), (i64 sq, false), (.sl 8 nt (t.map nrA), false)] [] [(lsaA (mkR me sq t).1, false), (i64 (mkR me sq t).2, false)] [] := by
  refine good_of_body2 36 Try.func8 rfl rfl rfl (by simp) ?_
  intro s m ha hr hv hG
  have f0 : s 0 = .v (i64 me) := ha 0 _ rfl
  have f1 : s 1 = .v (i64 sq) := ha 1 _ rfl
  have f2 : s 2 = .v (.sl 8 nt (t.map nrA)) := ha 2 _ rfl
  clear ha
  have hc : True := trivial
  have F := (And.intro f0 (And.intro f1 (And.intro f2 hG)))
  refine AW.seq ?_
  refine AW.region (cfg := cfg) ?_
  refine stp (fun _ h => sd h) ?_
  refine stp (fun _ h => s0 h) ?_
  refine aops_nil ?_
  refine AW.seq ?_
  refine AW.seq ?_
  refine AW.region (cfg := cfg) ?_
  refine stp (fun _ h => s0 h) ?_
  refine stp (fun _ h => cs (w := good_CheckT nt t (by omega)) (x := h)) ?_
  refine stp (fun _ h => s0 h) ?_
  refine aops_nil ?_
  refine cnd (fun hb => ?ht1) (fun hb => ?hf1)
  case ht1 =>
    have hw14 := hb
    try simp only [bo1, bo2, bo3, bo4, bo5, bo6] at hb
    have hbt14 := hb
    refine AW.seq ?_
    refine AW.region (cfg := cfg) ?_
    refine stp (fun _ h => su h) ?_
    refine stp0 (fun _ h => ss h) ?_
    refine stp (fun _ h => s0 h) ?_
    refine aops_nil ?_
    refine AW.ret ?_
    refine ⟨.inr rfl, ?_⟩
    refine leaves_mwp2 (rs := [.cell 6 33, .tmp 7]) rfl ?_
    simp (config := {failIfUnchanged := false}) [giveL, srcOne, rehome, freezeN, sub, ti33, upd, opn, aLoad, loadL, giveOne, reify, reifyL, readL, readOne, Mwp, M.bind, Mem.set, setAt, cellsL, hG, f0, f1, f2]
    all_goals (rw [mk_tab hbt14]; exact ⟨rfl, rfl⟩)
  case hf1 =>
    have hw14 := hb
    try simp only [bo1, bo2, bo3, bo4, bo5, bo6] at hb
    have hbt14 := hb
    refine AW.skip ?_
    refine AW.seq ?_
    refine AW.seq ?_
    have h0 := tab_0 hbt14
    have hle := bounds_le h0
    have wl := lkL_len t
    have ef : findR t me = ((gK Nr.of t me).getD default, isK Nr.of t me) := by (rw [findR, h0]; rfl)
    have F := And.intro ef F
    refine AW.region (cfg := cfg) ?_
    iterate 2 refine stp (fun _ h => s0 h) ?_
    refine stp (fun _ h => cr (w := good_FindT nt t (by omega) me) (x := h)) ?_
    iterate 3 refine stp (fun _ h => s0 h) ?_
    refine stp (fun _ h => sd h) ?_
    refine stp0 (fun _ h => ss h) ?_
    refine stp (fun _ h => s0 h) ?_
    refine aops_nil ?_
    refine AW.seq ?_
    refine AW.region (cfg := cfg) ?_
    refine stp (fun _ h => s0 h) ?_
    refine aops_nil ?_
    refine cnd (fun hb => ?ht2) (fun hb => ?hf2)
    case ht2 =>
      have hw22 := hb
      try simp only [bo1, bo2, bo3, bo4, bo5, bo6] at hb
      have hbt22 := hb
      refine AW.seq ?_
      refine AW.region (cfg := cfg) ?_
      refine stp (fun _ h => su h) ?_
      refine stp0 (fun _ h => ss h) ?_
      refine stp (fun _ h => s0 h) ?_
      refine aops_nil ?_
      refine AW.ret ?_
      refine ⟨.inr rfl, ?_⟩
      refine leaves_mwp2 (rs := [.cell 6 33, .tmp 7]) rfl ?_
      simp (config := {failIfUnchanged := false}) [giveL, srcOne, rehome, freezeN, sub, ti33, upd, opn, aLoad, loadL, giveOne, reify, reifyL, readL, readOne, Mwp, M.bind, Mem.set, setAt, cellsL, hG, f0, f1, f2, ef]
      all_goals (rw [mk_in hbt22]; exact ⟨rfl, rfl⟩)
    case hf2 =>
      have hw22 := hb
      try simp only [bo1, bo2, bo3, bo4, bo5, bo6] at hb
      have hbt22 := hb
      refine AW.skip ?_
      refine AW.seq ?_
      refine AW.region (cfg := cfg) ?_
      iterate 3 refine stp (fun _ h => s0 h) ?_
      refine stp (fun _ h => cr (w := good_LinksL nt t (by omega)) (x := h)) ?_
      refine stp (fun _ h => su h) ?_
      refine stp (fun _ h => sd h) ?_
      refine stp0 (fun _ h => ss h) ?_
      refine aops_nil ?_
      refine AW.seq ?_
      refine AW.seq ?_
      refine AW.region (cfg := cfg) ?_
      refine stp (fun _ h => sl h) ?_
      refine stp (fun _ h => cs (w := good_CheckX (mkL me sq t) (show (lkL t).length ≤ 9223372036854775807 by omega)) (x := h)) ?_
      refine stp (fun _ h => s0 h) ?_
      refine aops_nil ?_
      refine AW.seq ?_
      refine AW.region (cfg := cfg) ?_
      iterate 2 refine stp (fun _ h => s0 h) ?_
      refine aops_nil ?_
      refine cnd (fun hb => ?ht3) (fun hb => ?hf3)
      case ht3 =>
        have hw32 := hb
        try simp only [bo1, bo2, bo3, bo4, bo5, bo6] at hb
        have hbt32 := hb
        refine AW.seq ?_
        have e1 := lsaE_one hbt32
        have F := And.intro e1 F
        refine AW.region (cfg := cfg) ?_
        refine stp (fun _ h => su h) ?_
        refine stp (fun _ h => s0 h) ?_
        refine stp0 (fun _ h => ss h) ?_
        refine stp (fun _ h => s0 h) ?_
        refine aops_nil ?_
        refine AW.ret ?_
        refine ⟨.inr rfl, ?_⟩
        refine leaves_mwp2 (rs := [.cell 6 33, .tmp 7]) rfl ?_
        simp (config := {failIfUnchanged := false}) [giveL, srcOne, rehome, freezeN, sub, ti33, upd, opn, aLoad, loadL, giveOne, reify, reifyL, readL, readOne, Mwp, M.bind, Mem.set, setAt, cellsL, hG, f0, f1, f2, ef, e1]
        all_goals (rw [mk_bad hbt32]; exact ⟨rfl, rfl⟩)
      case hf3 =>
        have hw32 := hb
        try simp only [bo1, bo2, bo3, bo4, bo5, bo6] at hb
        have hbt32 := hb
        refine AW.skip ?_
        refine AW.seq ?_
        refine AW.region (cfg := cfg) ?_
        refine stp (fun _ h => sl h) ?_
        refine stp0 (fun _ h => ss h) ?_
        refine stp (fun _ h => s0 h) ?_
        refine aops_nil ?_
        refine AW.ret ?_
        refine ⟨.inr rfl, ?_⟩
        refine leaves_mwp2 (rs := [.cell 6 33, .tmp 7]) rfl ?_
        simp (config := {failIfUnchanged := false}) [giveL, srcOne, rehome, freezeN, sub, ti33, upd, opn, aLoad, loadL, giveOne, reify, reifyL, readL, readOne, Mwp, M.bind, Mem.set, setAt, cellsL, hG, f0, f1, f2, ef]
        all_goals (rw [mk_ok h0 hbt22 hbt32]; exact ⟨rfl, rfl⟩)
theorem good_MustO (nd : Bool) (db : List Lsa) (hd : db.length ≤ 1000000) (pd : ∀ x ∈ db, fit x) (me : Int) (nt : Bool) (t : List Nr) (ht : t.length ≤ 1000000) (first : Int) : Good Try.prog 7 [(.sl 3 nd (db.map lsaA), false), (i64 me, false), (.sl 8 nt (t.map nrA), false), (i64 first, false)] [] [(.b (mustR db me t first), false)] [] := by
  refine good_of_body2 46 Try.func7 rfl rfl rfl (by simp) ?_
  intro s m ha hr hv hG
  have f0 : s 0 = .v (.sl 3 nd (db.map lsaA)) := ha 0 _ rfl
  have f1 : s 1 = .v (i64 me) := ha 1 _ rfl
  have f2 : s 2 = .v (.sl 8 nt (t.map nrA)) := ha 2 _ rfl
  have f3 : s 3 = .v (i64 first) := ha 3 _ rfl
  clear ha
  have hc : True := trivial
  have F := (And.intro f0 (And.intro f1 (And.intro f2 (And.intro f3 hG))))
  refine AW.seq ?_
  refine AW.region (cfg := cfg) ?_
  refine stp (fun _ h => s0 h) ?_
  refine aops_nil ?_
  refine AW.seq ?_
  refine AW.seq ?_
  refine AW.region (cfg := cfg) ?_
  refine stp (fun _ h => s0 h) ?_
  refine stp (fun _ h => cs (w := good_CheckDb nd db (by omega) (fun x hx => by have := (pd x hx).1; omega)) (x := h)) ?_
  iterate 2 refine stp (fun _ h => s0 h) ?_
  refine mrg wa (fun hc _ h => s0 h) ?_
  refine mrg wa (fun hc _ h => cs (w := good_CheckT nt t (by omega)) (x := h)) ?_
  refine mrg wa (fun hc _ h => s0 h) ?_
  iterate 2 refine stp (fun _ h => s0 h) ?_
  refine mrg wa (fun hc _ h => s0 h) ?_
  refine mrg wa (fun hc _ h => cs (w := good_nodeO me) (x := h)) ?_
  refine mrg wa (fun hc _ h => s0 h) ?_
  refine stp (fun _ h => s0 h) ?_
  refine aops_nil ?_
  refine cnd (fun hb => ?ht1) (fun hb => ?hf1)
  case ht1 =>
    have hw23 := hb
    try simp only [bo1, bo2, bo3, bo4, bo5, bo6] at hb
    have hbt23 := hb
    refine AW.seq ?_
    refine AW.region (cfg := cfg) ?_
    refine stp (fun _ h => s0 h) ?_
    refine aops_nil ?_
    refine AW.ret ?_
    refine ⟨.inr rfl, ?_⟩
    refine leaves_tmp1 8 rfl ?_ (by exact hG)
    simp (disch := first | omega | decide) only [go_sem, F, aIndex_map]
    all_goals (rw [must_no hbt23]; done)
  case hf1 =>
    have hw23 := hb
    try simp only [bo1, bo2, bo3, bo4, bo5, bo6] at hb
    have hbt23 := hb
    refine AW.skip ?_
    refine AW.seq ?_
    have h0 := dbE_0 hbt23.1.1
    have h1 := tab_0 hbt23.1.2
    have h2 : node me = true := by simpa using hbt23.2
    have hle := bounds_le h1
    have wl := lkL_len t
    have eg := getR_is (t := me) h0
    have pg := gd_fit (t := me) pd
    have F := And.intro eg F
    refine AW.region (cfg := cfg) ?_
    iterate 2 refine stp (fun _ h => s0 h) ?_
    refine stp (fun _ h => cr (w := good_GetDb nd db (by omega) pd me) (x := h)) ?_
    iterate 3 refine stp (fun _ h => s0 h) ?_
    refine stp (fun _ h => sd h) ?_
    refine stp0 (fun _ h => ss h) ?_
    refine stp (fun _ h => s0 h) ?_
    refine aops_nil ?_
    refine AW.seq ?_
    refine AW.draw (cfg := cfg) (by kernel_rfl) (by kernel_rfl) (by kernel_rfl) ?_
    iterate 3 refine dstp (fun _ h => s0 h) ?_
    refine dmrg wa (fun hc _ h => sx h) ?_
    refine dmrg wa (fun hc _ h => sl h) ?_
    iterate 2 refine dmrg wa (fun hc _ h => s0 h) ?_
    iterate 2 refine dstp (fun _ h => s0 h) ?_
    refine dmrg wa (fun hc _ h => sx h) ?_
    refine dmrg wa (fun hc _ h => sl h) ?_
    refine dmrg wa (fun hc _ h => s0 h) ?_
    refine dmrg wa (fun hc _ h => cr (w := good_LinksL nt t (by omega)) (x := h)) ?_
    refine dmrg wa (fun hc _ h => cs (w := L.good_EqualLink _ _ ((gK Lsa.o db me).getD default).ls (lkL t) (by have := pg.1; omega) (by omega)) (x := h)) ?_
    refine dmrg wa (fun hc _ h => s0 h) ?_
    iterate 2 refine dstp (fun _ h => s0 h) ?_
    refine adraw_nil (by kernel_rfl) ?_
    refine AW.ret ?_
    refine ⟨.inr rfl, ?_⟩
    refine leaves_tmp1 8 rfl ?_ (by exact hG)
    simp (disch := first | omega | decide) only [go_sem, F, aIndex_map]
    all_goals (rw [must_yes h0 h1 h2]; done)
theorem good_refMakeO (me sq : Int) (nt : Bool) (t : List Nr) (ht : t.length ≤ 1000000) : Good Try.prog 9 [(i64 me, false), (i64 sq, false), (.sl 8 nt (t.map nrA), false)] [] [(lsaA (mkF me sq t), false)] [] := by
  refine good_of_body2 12 Try.func9 rfl rfl rfl (by simp) ?_
  intro s m ha hr hv hG
  have f0 : s 0 = .v (i64 me) := ha 0 _ rfl
  have f1 : s 1 = .v (i64 sq) := ha 1 _ rfl
  have f2 : s 2 = .v (.sl 8 nt (t.map nrA)) := ha 2 _ rfl
  clear ha
  have hc : True := trivial
  have F := (And.intro f0 (And.intro f1 (And.intro f2 hG)))
  refine AW.seq ?_
  refine AW.region (cfg := cfg) ?_
  refine stp (fun _ h => sd h) ?_
  refine aops_nil ?_
  refine AW.seq ?_
  refine AW.region (cfg := cfg) ?_
  iterate 3 refine stp (fun _ h => s0 h) ?_
  refine stp (fun _ h => cr (w := good_refLinksL nt t (by omega)) (x := h)) ?_
  refine stp (fun _ h => su h) ?_
  refine stp0 (fun _ h => ss h) ?_
  refine aops_nil ?_
  refine AW.ret ?_
  refine ⟨.inr rfl, ?_⟩
  refine leaves_mwp2 (rs := [.cell 6 33]) rfl ?_
  simp (config := {failIfUnchanged := false}) [giveL, srcOne, rehome, freezeN, sub, ti33, upd, opn, aLoad, loadL, giveOne, reify, reifyL, readL, readOne, Mwp, M.bind, Mem.set, setAt, cellsL, hG, f0, f1, f2]
  all_goals rfl
theorem good_RightO (me : Int) (nt : Bool) (t : List Nr) (ht : t.length ≤ 1000000) : Good Try.prog 10 [(i64 me, false), (.sl 8 nt (t.map nrA), false)] [] [(.b (rightR me t), false)] [] := by
  refine good_of_body2 22 Try.func10 rfl rfl rfl (by simp) ?_
  intro s m ha hr hv hG
  have f0 : s 0 = .v (i64 me) := ha 0 _ rfl
  have f1 : s 1 = .v (.sl 8 nt (t.map nrA)) := ha 1 _ rfl
  clear ha
  have hc : True := trivial
  have F := (And.intro f0 (And.intro f1 hG))
  refine AW.seq ?_
  refine AW.region (cfg := cfg) ?_
  refine stp (fun _ h => s0 h) ?_
  refine aops_nil ?_
  refine AW.seq ?_
  refine AW.region (cfg := cfg) ?_
  iterate 3 refine stp (fun _ h => s0 h) ?_
  iterate 2 refine mrg wa (fun hc _ h => s0 h) ?_
  iterate 2 refine stp (fun _ h => s0 h) ?_
  refine mrg wa (fun hc _ h => s0 h) ?_
  refine mrg wa (fun hc _ h => cs (w := good_mayT nt t (by omega)) (x := h)) ?_
  iterate 2 refine stp (fun _ h => s0 h) ?_
  iterate 2 refine mrg wa (fun hc _ h => s0 h) ?_
  refine mrg wa (fun hc _ h => cr (w := good_rfindN nt t (by omega) me) (x := h)) ?_
  refine mrg wa (fun hc _ h => sd h) ?_
  refine mrg wa (fun hc _ h => s0 h) ?_
  iterate 2 refine stp (fun _ h => s0 h) ?_
  refine aops_nil ?_
  refine AW.ret ?_
  refine ⟨.inr rfl, ?_⟩
  refine leaves_tmp1 4 rfl ?_ (by exact hG)
  simp (disch := first | omega | decide) only [go_sem, F, aIndex_map]
  all_goals rfl
end Go.Vai.OW
