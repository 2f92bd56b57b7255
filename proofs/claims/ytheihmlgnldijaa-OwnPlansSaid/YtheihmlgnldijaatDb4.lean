import Derived.Test.YtheihmlgnldijaatDb3
import Derived.Test.YtheihmlgnldijaaVaiE
namespace Go.Vai.DB
open Go.Proofs Go.Vai Go.Vai.D Go.Vai.I Go.Vai.L Go.Vai.N Go.Vai.O
set_option linter.unusedSimpArgs false
set_option linter.unusedVariables false
set_option maxHeartbeats 4000000
set_option maxRecDepth 100000
theorem good_CopyX (x : Lsa) (h : fit x) : Good Try.prog 43 [(lsaA x, false)] [] [(lsaA x, false)] [] := L.good_Copy x (by have := h.1; omega) (by have := h.1; omega) h.2
theorem putR_fit {l : List Lsa} {x : Lsa} (pl : ∀ y ∈ l, fit y) (px : fit x) : ∀ y ∈ (putR l x).2.1, fit y := by
  rw [putR]
  split
  · split
    · intro y hy
      rcases insP_mem hy with rfl | h
      · exact px
      · exact pl y h
    · intro y hy; cases hy
  · intro y hy; cases hy
theorem putR_len {l : List Lsa} {x : Lsa} (h : dbOK l = true) : (putR l x).2.1.length ≤ l.length + 1 := by
  have hs := db_srt h
  rw [putR]
  split
  · split
    · simp only [insP, List.length_append, List.length_singleton]
      have : ∀ (l : List Lsa), (l.filter fun y => decide (y.o < x.o)).length + (l.filter fun y => decide (x.o < y.o)).length ≤ l.length := by
        intro l
        induction l with
        | nil => simp
        | cons y l ih =>
          simp only [List.filter_cons]
          split <;> split <;> simp_all <;> omega
      have := this l
      omega
    · simp
  · simp
theorem good_GetDb (nil : Bool) (l : List Lsa) (hl : l.length ≤ 1000000) (pl : ∀ x ∈ l, fit x) (t : Int) : Good Try.prog 26 [(.sl 3 nil (l.map lsaA), false), (i64 t, false)] [] [(lsaA (getR l t).1, false), (.b (getR l t).2, false)] [] := by
  refine good_of_body2 26 Try.func26 rfl rfl rfl (by simp) ?_
  intro s m ha hr hv hG
  have f0 : s 0 = .v (.sl 3 nil (l.map lsaA)) := ha 0 _ rfl
  have f1 : s 1 = .v (i64 t) := ha 1 _ rfl
  clear ha
  have hc : True := trivial
  have F := (And.intro f0 (And.intro f1 hG))
  refine AW.seq ?_
  refine AW.region (cfg := cfg) ?_
  refine stp (fun _ h => sd h) ?_
  refine stp (fun _ h => s0 h) ?_
  refine aops_nil ?_
  refine AW.seq ?_
  refine AW.seq ?_
  refine AW.region (cfg := cfg) ?_
  refine stp (fun _ h => s0 h) ?_
  refine stp (fun _ h => cs (w := good_CheckDb nil l (by omega) (fun x hx => by have := (pl x hx).1; omega)) (x := h)) ?_
  refine stp (fun _ h => s0 h) ?_
  refine aops_nil ?_
  refine cnd (fun hb => ?ht1) (fun hb => ?hf1)
  case ht1 =>
    have hw10 := hb
    try simp only [bo1, bo2, bo3, bo4, bo5, bo6] at hb
    have hbt10 := hb
    refine AW.seq ?_
    refine AW.region (cfg := cfg) ?_
    refine stp (fun _ h => su h) ?_
    refine stp0 (fun _ h => ss h) ?_
    refine stp (fun _ h => s0 h) ?_
    refine aops_nil ?_
    refine AW.ret ?_
    refine ⟨.inr rfl, ?_⟩
    refine leaves_mwp2 (rs := [.cell 4 33, .tmp 5]) rfl ?_
    simp (config := {failIfUnchanged := false}) [giveL, srcOne, rehome, freezeN, sub, ti33, upd, opn, aLoad, loadL, giveOne, reify, reifyL, readL, readOne, Mwp, M.bind, Mem.set, setAt, cellsL, hG, f0, f1]
    all_goals (rw [getR_no (db_no0 hbt10)]; exact ⟨rfl, rfl⟩)
  case hf1 =>
    have hw10 := hb
    try simp only [bo1, bo2, bo3, bo4, bo5, bo6] at hb
    have hbt10 := hb
    refine AW.skip ?_
    refine AW.seq ?_
    have h0 : dbOK l = true := db_ok0 hbt10
    have hs := db_srt h0
    refine AW.region (cfg := cfg) ?_
    iterate 2 refine stp (fun _ h => s0 h) ?_
    refine stp (fun _ h => ct (w := good_findDb nil l t (by omega) hs) (x := h)) ?_
    iterate 5 refine stp (fun _ h => s0 h) ?_
    refine aops_nil ?_
    refine AW.seq ?_
    refine AW.seq ?_
    refine AW.region (cfg := cfg) ?_
    iterate 2 refine stp (fun _ h => s0 h) ?_
    refine aops_nil ?_
    refine cnd (fun hb => ?ht2) (fun hb => ?hf2)
    case ht2 =>
      have hw19 := hb
      try simp only [bo1, bo2, bo3, bo4, bo5, bo6] at hb
      have hbt19 := hb
      refine AW.seq ?_
      refine AW.region (cfg := cfg) ?_
      refine stp (fun _ h => su h) ?_
      refine stp0 (fun _ h => ss h) ?_
      refine stp (fun _ h => s0 h) ?_
      refine aops_nil ?_
      refine AW.ret ?_
      refine ⟨.inr rfl, ?_⟩
      refine leaves_mwp2 (rs := [.cell 4 33, .tmp 5]) rfl ?_
      simp (config := {failIfUnchanged := false}) [giveL, srcOne, rehome, freezeN, sub, ti33, upd, opn, aLoad, loadL, giveOne, reify, reifyL, readL, readOne, Mwp, M.bind, Mem.set, setAt, cellsL, hG, f0, f1]
      all_goals (rw [getR_out h0 (by simpa using hbt19)]; exact ⟨rfl, rfl⟩)
    case hf2 =>
      have hw19 := hb
      try simp only [bo1, bo2, bo3, bo4, bo5, bo6] at hb
      have hbt19 := hb
      refine AW.skip ?_
      refine AW.seq ?_
      have h1 : isK Lsa.o l t = true := by simpa using hbt19
      have hp := pos_lt hs h1
      have pk := pl l[posK Lsa.o l t] (List.getElem_mem hp)
      refine AW.region (cfg := cfg) ?_
      iterate 2 refine stp (fun _ h => s0 h) ?_
      refine stp (fun _ h => si h) ?_
      refine stp (fun _ h => sl h) ?_
      refine stp (fun _ h => cr (w := good_CopyX l[posK Lsa.o l t] pk) (x := h)) ?_
      refine stp0 (fun _ h => ss h) ?_
      refine stp (fun _ h => s0 h) ?_
      refine aops_nil ?_
      refine AW.ret ?_
      refine ⟨.inr rfl, ?_⟩
      refine leaves_mwp2 (rs := [.cell 4 33, .tmp 5]) rfl ?_
      simp (config := {failIfUnchanged := false}) [giveL, srcOne, rehome, freezeN, sub, ti33, upd, opn, aLoad, loadL, giveOne, reify, reifyL, readL, readOne, Mwp, M.bind, Mem.set, setAt, cellsL, hG, f0, f1]
      all_goals (rw [getR_hit h0 h1]; exact ⟨rfl, rfl⟩)
theorem good_PutDb (nil : Bool) (l : List Lsa) (hl : l.length ≤ 1000000) (pl : ∀ x ∈ l, fit x) (hz : nil = true → l = []) (x : Lsa) (px : fit x) : Good Try.prog 38 [(.sl 3 nil (l.map lsaA), false), (lsaA x, false)] [] [(.sl 3 (putR l x).1 ((putR l x).2.1.map lsaA), false), (i64 (putR l x).2.2, false)] [] := by
  refine good_of_body2 61 Try.func38 rfl rfl rfl (by simp) ?_
  intro s m ha hr hv hG
  have f0 : s 0 = .v (.sl 3 nil (l.map lsaA)) := ha 0 _ rfl
  have f1 : s 1 = .v (.agg [i64 x.o, i64 x.s, .sl 2 x.nil (x.ls.map linkA)]) := ha 1 _ rfl
  clear ha
  have hc : True := trivial
  have F := (And.intro f0 (And.intro f1 hG))
  refine AW.seq ?_
  refine AW.region (cfg := cfg) ?_
  refine stp (fun _ h => sb h) ?_
  iterate 2 refine stp (fun _ h => s0 h) ?_
  refine aops_nil ?_
  refine AW.seq ?_
  refine AW.seq ?_
  refine AW.region (cfg := cfg) ?_
  refine stp (fun _ h => s0 h) ?_
  refine stp (fun _ h => cs (w := good_CheckDb nil l (by omega) (fun x hx => by have := (pl x hx).1; omega)) (x := h)) ?_
  iterate 2 refine stp (fun _ h => s0 h) ?_
  refine mrg wa (fun hc _ h => sl h) ?_
  refine mrg wa (fun hc _ h => cs (w := good_CheckX x (by have := px.1; omega)) (x := h)) ?_
  refine mrg wa (fun hc _ h => s0 h) ?_
  refine stp (fun _ h => s0 h) ?_
  refine aops_nil ?_
  refine cnd (fun hb => ?ht1) (fun hb => ?hf1)
  case ht1 =>
    have hw17 := hb
    try simp only [bo1, bo2, bo3, bo4, bo5, bo6] at hb
    have hbt17 := hb
    refine AW.seq ?_
    refine AW.region (cfg := cfg) ?_
    iterate 2 refine stp (fun _ h => s0 h) ?_
    refine aops_nil ?_
    refine AW.ret ?_
    refine ⟨.inr rfl, ?_⟩
    refine leaves_mwp2 (rs := [.tmp 4, .tmp 5]) rfl ?_
    simp (config := {failIfUnchanged := false}) [giveL, srcOne, rehome, freezeN, sub, upd, opn, aLoad, loadL, giveOne, reify, reifyL, readL, readOne, Mwp, M.bind, Mem.set, setAt, cellsL, hG, f0, f1]
    all_goals (rw [putR_no hbt17]; (simp; done))
  case hf1 =>
    have hw17 := hb
    try simp only [bo1, bo2, bo3, bo4, bo5, bo6] at hb
    have hbt17 := hb
    refine AW.skip ?_
    refine AW.seq ?_
    have h0 : dbOK l = true := dbE_0 hbt17.1
    have h1 : lsaOK x = true := lsaE_0 hbt17.2
    have hs := db_srt h0
    have hle := db_len h0
    have wz := putR_len (x := x) h0
    have wf := putR_fit (x := x) pl px
    refine AW.region (cfg := cfg) ?_
    refine stp (fun _ h => s0 h) ?_
    refine stp (fun _ h => co1 (w := good_CloneLsa nil l (by omega) hz) (x := h)) ?_
    refine stp (fun _ h => st h) ?_
    refine aops_nil ?_
    refine AW.seq ?_
    refine AW.region (cfg := cfg) ?_
    refine stp (fun _ h => s0 h) ?_
    refine stp (fun _ h => sx h) ?_
    refine stp (fun _ h => sl h) ?_
    refine stp (fun _ h => ct (w := good_findDb nil l x.o (by omega) hs) (x := h)) ?_
    iterate 5 refine stp (fun _ h => s0 h) ?_
    refine aops_nil ?_
    refine AW.join (fun σ => ∃ s m, σ = ⟨61, s, m⟩ ∧ s 6 = .own (.var 6) (m.objs (.var 6)).1 0 ((putR l x).2.1.length) ∧ (m.objs (.var 6)).2 = .arr false 3 ((putR l x).2.1.map lsaA) ∧ (putR l x = (false, (putR l x).2.1, 0)) ∧ (∀ i, (m.objs (.res i)).2 = .dead) ∧ m.G = []) ?_ ?_
    · skip
      refine AW.block ?_
      refine AW.seq ?_
      refine AW.region (cfg := cfg) ?_
      iterate 3 refine stp (fun _ h => s0 h) ?_
      refine aops_nil ?_
      refine cnd (fun hb => ?ht2) (fun hb => ?hf2)
      case ht2 =>
        have hw27 := hb
        try simp only [bo1, bo2, bo3, bo4, bo5, bo6] at hb
        have hbt27 := hb
        have h3 : isK Lsa.o l x.o = false := by simpa using hbt27
        have hq := pos_le Lsa.o l x.o
        refine AW.region (cfg := cfg) ?_
        iterate 2 refine stp (fun _ h => s0 h) ?_
        refine stp (fun _ h => sl h) ?_
        refine stp (fun _ h => sq h) ?_
        refine stp (fun _ h => cx1 (w := good_InsLsa nil l x (posK Lsa.o l x.o) hq (by omega)) (x := h)) ?_
        refine stp (fun _ h => st h) ?_
        refine aops_nil ?_
        refine ⟨_, _, rfl, ?_, ?_, ?_, (by intro i; simp [Mem.set, hr]), (by exact hG)⟩ <;> try simp (disch := first | omega | decide) only [go_sem, F, aIndex_map]
        all_goals (rw [putR_new h0 h1 h3]; done)
      case hf2 =>
        have hw27 := hb
        try simp only [bo1, bo2, bo3, bo4, bo5, bo6] at hb
        have hbt27 := hb
        refine AW.seq ?_
        have h3 : isK Lsa.o l x.o = true := by simpa using hbt27
        have hp := pos_lt hs h3
        obtain rfl : nil = false := by (cases nil; rfl; rw [hz rfl] at hp; cases hp)
        have pk := pl l[posK Lsa.o l x.o] (List.getElem_mem hp)
        have hz0 : 0 + posK Lsa.o l x.o = posK Lsa.o l x.o := Nat.zero_add _
        have F := And.intro hz0 F
        refine AW.draw (cfg := cfg) (by kernel_rfl) (by kernel_rfl) (by kernel_rfl) ?_
        refine dstp (fun _ h => sl h) ?_
        iterate 2 refine dstp (fun _ h => s0 h) ?_
        refine dstp (fun _ h => si h) ?_
        refine dstp (fun _ h => sel h) ?_
        refine dstp (fun _ h => cs (w := L.good_Newer x (by have := px.1; omega) l[posK Lsa.o l x.o] (by have := pk.1; omega)) (x := h)) ?_
        refine dstp (fun _ h => s0 h) ?_
        refine adraw_nil (by kernel_rfl) ?_
        refine cnd (fun hb => ?ht3) (fun hb => ?hf3)
        case ht3 =>
          have hw35 := hb
          try simp only [bo1, bo2, bo3, bo4, bo5, bo6] at hb
          have hbt35 := hb
          refine AW.region (cfg := cfg) ?_
          iterate 2 refine stp (fun _ h => s0 h) ?_
          refine stp (fun _ h => sl h) ?_
          refine stp (fun _ h => si h) ?_
          refine stp0 (fun _ h => se2 (w := lsaA_eq x) (x := h)) ?_
          refine aops_nil ?_
          refine ⟨_, _, rfl, ?_, ?_, ?_, (by intro i; simp [Mem.set, hr]), (by exact hG)⟩ <;> try simp (disch := first | omega | decide) only [go_sem, F, aIndex_map]
          all_goals first | (rw [putR_set h0 h1 h3 hbt35]; done) | (rw [putR_set h0 h1 h3 hbt35]; simp; done)
        case hf3 =>
          have hw35 := hb
          try simp only [bo1, bo2, bo3, bo4, bo5, bo6] at hb
          have hbt35 := hb
          refine AW.seq ?_
          refine AW.region (cfg := cfg) ?_
          iterate 2 refine stp (fun _ h => s0 h) ?_
          refine aops_nil ?_
          refine AW.ret ?_
          refine ⟨.inr rfl, ?_⟩
          refine leaves_mwp2 (rs := [.tmp 4, .tmp 5]) rfl ?_
          simp (config := {failIfUnchanged := false}) [giveL, srcOne, rehome, freezeN, sub, upd, opn, aLoad, loadL, giveOne, reify, reifyL, readL, readOne, Mwp, M.bind, Mem.set, setAt, cellsL, hG, f0, f1, hz0]
          all_goals (rw [putR_old h0 h1 h3 hbt35]; (simp; done))
    · clear F f0 f1 hr hG
      rintro σ ⟨s, m, rfl, f6, o6, mo0, hr, hG⟩
      obtain ⟨g6, o6⟩ : ∃ g, m.objs (.var 6) = (g, .arr false 3 ((putR l x).2.1.map lsaA)) := ⟨_, Prod.ext rfl o6⟩
      rw [o6] at f6
      have F := (And.intro f6 (And.intro o6 hG))
      refine AW.seq ?_
      refine AW.seq ?_
      refine AW.region (cfg := cfg) ?_
      refine stp (fun _ h => s0 h) ?_
      refine stp (fun _ h => sn h) ?_
      refine stp (fun _ h => s0 h) ?_
      refine aops_nil ?_
      refine AW.block ?_
      refine AW.forN (fun k σ => ∃ s m, σ = ⟨61, s, m⟩ ∧ s 6 = .own (.var 6) (m.objs (.var 6)).1 0 ((putR l x).2.1.length) ∧ (m.objs (.var 6)).2 = .arr false 3 ((putR l x).2.1.map lsaA) ∧ s 47 = .v (i64 ((putR l x).2.1.length : Int)) ∧ s 48 = .v (i64 (k : Int)) ∧ (∀ i, (m.objs (.res i)).2 = .dead) ∧ m.G = []) ((putR l x).2.1.length) ?_ ?_ ?_
      · refine ⟨_, _, rfl, ?_, ?_, ?_, ?_, (by intro i; simp [Mem.set, hr]), (by exact hG)⟩ <;> try simp (disch := first | omega | decide) only [go_sem, F, aIndex_map]
        all_goals rfl
      · clear F f6 o6 hr hG
        rintro k σ hk ⟨s, m, rfl, f6, o6, f47, f48, hr, hG⟩
        obtain ⟨g6, o6⟩ : ∃ g, m.objs (.var 6) = (g, .arr false 3 ((putR l x).2.1.map lsaA)) := ⟨_, Prod.ext rfl o6⟩
        rw [o6] at f6
        have F := (And.intro f6 (And.intro f47 (And.intro f48 (And.intro o6 hG))))
        refine AW.seq ?_
        refine AW.region (cfg := cfg) ?_
        refine stp (fun _ h => s0 h) ?_
        refine aops_nil ?_
        refine AW.seq ?_
        refine cnd (fun hb => ?ht4) (fun hb => ?hf4)
        case hf4 => (simp at hb; omega)
        case ht4 =>
        have hbt49 := hb
        refine AW.skip ?_
        refine AW.seq ?_
        refine AW.block ?_
        refine AW.seq ?_
        refine AW.region (cfg := cfg) ?_
        iterate 2 refine stp (fun _ h => s0 h) ?_
        refine aops_nil ?_
        have hkz : k < (putR l x).2.1.length := by assumption
        have pk := wf _ (List.getElem_mem hkz)
        have hz0 : 0 + k = k := Nat.zero_add _
        have F := And.intro hz0 F
        refine AW.region (cfg := cfg) ?_
        iterate 4 refine stp (fun _ h => s0 h) ?_
        refine stp (fun _ h => si h) ?_
        refine stp (fun _ h => sel h) ?_
        refine stp (fun _ h => cr (w := good_CopyX (putR l x).2.1[k] pk) (x := h)) ?_
        refine stp (fun _ h => si h) ?_
        refine stp0 (fun _ h => se2 (w := lsaA_eq (putR l x).2.1[k]) (x := h)) ?_
        refine aops_nil ?_
        refine AW.region (cfg := cfg) ?_
        refine stp (fun _ h => sd h) ?_
        refine stp (fun _ h => s0 h) ?_
        refine aops_nil ?_
        refine ⟨_, _, rfl, ?_, ?_, ?_, ?_, (by intro i; simp [Mem.set, hr]), (by exact hG)⟩ <;> try simp (disch := first | omega | decide) only [go_sem, F, aIndex_map]
        all_goals first | rfl | (rw [List.set_getElem_self]; done)
      · clear F f6 o6 hr hG
        rintro σ ⟨s, m, rfl, f6, o6, f47, f48, hr, hG⟩
        obtain ⟨g6, o6⟩ : ∃ g, m.objs (.var 6) = (g, .arr false 3 ((putR l x).2.1.map lsaA)) := ⟨_, Prod.ext rfl o6⟩
        rw [o6] at f6
        have F := (And.intro f6 (And.intro f47 (And.intro f48 (And.intro o6 hG))))
        refine AW.seq ?_
        refine AW.region (cfg := cfg) ?_
        refine stp (fun _ h => s0 h) ?_
        refine aops_nil ?_
        refine AW.seq ?_
        refine cnd (fun hb => ?ht5) (fun hb => ?hf5)
        case ht5 => (simp at hb; done)
        case hf5 =>
        have hbt49 := hb
        refine AW.exit ?_
        refine AW.seq ?_
        refine AW.region (cfg := cfg) ?_
        refine stp (fun _ h => s0 h) ?_
        refine stp (fun _ h => sm h) ?_
        refine stp (fun _ h => s0 h) ?_
        refine aops_nil ?_
        refine AW.ret ?_
        refine ⟨.inr rfl, ?_⟩
        refine leaves_mwp2 (rs := [.tmp 4, .tmp 5]) rfl ?_
        simp (config := {failIfUnchanged := false}) [giveL, srcOne, rehome, freezeN, sub, upd, opn, aLoad, loadL, giveOne, reify, reifyL, readL, readOne, Mwp, M.bind, Mem.set, setAt, cellsL, hG, f6, f47, f48, o6]
        all_goals (rw [mo0]; (simp [List.take_of_length_le]; done))
end Go.Vai.DB
