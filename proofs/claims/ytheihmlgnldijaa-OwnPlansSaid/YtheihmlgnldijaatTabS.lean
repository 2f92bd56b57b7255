import Derived.Test.YtheihmlgnldijaatTab6
import Derived.Test.YtheihmlgnldijaaOrdPl
namespace Go.Vai.T
open Go.Proofs Go.Vai Go.Vai.N
set_option linter.unusedSimpArgs false
set_option linter.unusedVariables false
set_option maxHeartbeats 4000000
set_option maxRecDepth 100000
theorem chN_chn : ∀ (l : List Nr) (t : Int), chN t l = chn (fun x => !bad x) Nr.of t l
  | [], _ => rfl
  | x :: l, t => by rw [chN, chn, chN_chn l]
theorem tab_srt {l : List Nr} (h : tabOK l = true) : Srt Nr.of l := by
  simp only [tabOK, Bool.and_eq_true] at h
  rw [chN_chn] at h
  exact chn_srt h.1
theorem tabE_0 {l : List Nr} (h : tabE l = 0) : tabOK l = true := tab_0 (fun e => e h)
theorem tabE_n {l : List Nr} (h : ¬ tabE l = 0) : tabOK l = false := tab_1 h
def findR (l : List Nr) (t : Int) : Nr × Bool := if tabOK l then ((gK Nr.of l t).getD default, isK Nr.of l t) else (default, false)
def setR (l : List Nr) (x : Nr) : Bool × List Nr × Int :=
  if tabOK l && !bad x then (if isK Nr.of l x.of then (false, insP Nr.of l x, 0) else if l.length = 16 then (true, [], 4) else (false, insP Nr.of l x, 0)) else (true, [], 1)
theorem findR_no {l : List Nr} {t : Int} (h : tabOK l = false) : findR l t = (default, false) := by rw [findR, h]; rfl
theorem findR_hit {l : List Nr} {t : Int} (h : tabOK l = true) (h2 : isK Nr.of l t = true) : findR l t = (l[posK Nr.of l t]'(pos_lt (tab_srt h) h2), true) := by
  rw [findR, h, (pos_at (tab_srt h) h2).2, h2]; rfl
theorem findR_out {l : List Nr} {t : Int} (h : tabOK l = true) (h2 : isK Nr.of l t = false) : findR l t = (default, false) := by
  have : gK Nr.of l t = none := by rw [isK_gK, Option.isSome_eq_false_iff, Option.isNone_iff_eq_none] at h2; exact h2
  rw [findR, h, h2, this]; rfl
theorem bounds_le {l : List Nr} (h : tabOK l = true) : l.length ≤ 16 := by
  simp only [tabOK, Bool.and_eq_true, decide_eq_true_eq] at h; omega
theorem good_findT (nil : Bool) (l : List Nr) (t : Int) (hl : l.length ≤ 1000000) (hs : Srt Nr.of l) : Good Try.prog 47 [(.sl 8 nil (l.map nrA), false), (i64 t, false)] [] [(i64 (posK Nr.of l t : Nat), false), (.b (isK Nr.of l t), false)] [] := by
  refine good_of_body2 11 Try.func47 rfl rfl rfl (by simp) ?_
  intro s m ha hr hv hG
  have f0 : s 0 = .v (.sl 8 nil (l.map nrA)) := ha 0 _ rfl
  have f1 : s 1 = .v (i64 t) := ha 1 _ rfl
  clear ha
  have hc : True := trivial
  have F := (And.intro f0 (And.intro f1 hG))
  refine AW.seq ?_
  refine AW.region (cfg := cfg) ?_
  iterate 2 refine stp (fun _ h => s0 h) ?_
  refine aops_nil ?_
  refine AW.seq ?_
  refine AW.region (cfg := cfg) ?_
  iterate 2 refine stp (fun _ h => s0 h) ?_
  refine stp (fun _ h => ct (w := good_BSearchNr nil l t 59 hl (rise_iff.2 hs) rfl rfl rfl (fun x => good_cmpN x t)) (x := h)) ?_
  iterate 4 refine stp (fun _ h => s0 h) ?_
  refine aops_nil ?_
  refine AW.ret ?_
  refine ⟨.inr rfl, ?_⟩
  refine leaves_mwp2 (rs := [.tmp 4, .tmp 5]) rfl ?_
  simp (config := {failIfUnchanged := false}) [giveL, srcOne, rehome, freezeN, sub, upd, opn, aLoad, loadL, giveOne, reify, reifyL, readL, readOne, Mwp, M.bind, Mem.set, setAt, cellsL, hG, f0, f1]
  all_goals first | done | rfl | exact ⟨rfl, rfl⟩ | trace_state
theorem good_rfindN (nil : Bool) (l : List Nr) (hl : l.length ≤ 1000000) (t : Int) : Good Try.prog 32 [(.sl 8 nil (l.map nrA), false), (i64 t, false)] [] [(nrA ((gK Nr.of l t).getD default), false)] [] := by
  refine good_of_body2 24 Try.func32 rfl rfl rfl (by simp) ?_
  intro s m ha hr hv hG
  have f0 : s 0 = .v (.sl 8 nil (l.map nrA)) := ha 0 _ rfl
  have f1 : s 1 = .v (i64 t) := ha 1 _ rfl
  clear ha
  have hc : True := trivial
  have F := (And.intro f0 (And.intro f1 hG))
  refine AW.seq ?_
  refine AW.region (cfg := cfg) ?_
  refine stp (fun _ h => sd h) ?_
  refine aops_nil ?_
  refine AW.seq ?_
  refine AW.seq ?_
  refine AW.region (cfg := cfg) ?_
  refine stp (fun _ h => s0 h) ?_
  refine aops_nil ?_
  refine AW.block ?_
  refine AW.forN (fun k σ => ∃ s m, σ = ⟨24, s, m⟩ ∧ s 0 = .v (.sl 8 nil (l.map nrA)) ∧ s 1 = .v (i64 t) ∧ s 4 = .lptr (.tmp 4 0) (m.objs (.tmp 4 0)).1 0 ∧ (m.objs (.tmp 4 0)).2 = .box [.v (i64 0), .v (i64 0), .v (i64 0), .v (i64 0), .v (.b false), .v (.b false), .v (i64 0), .v (.b false)] ∧ s 5 = .v (i64 (k : Int)) ∧ (gK Nr.of (l.take k) t = none) ∧ (∀ i, (m.objs (.res i)).2 = .dead) ∧ m.G = []) (l.length) ?_ ?_ ?_
  · refine ⟨_, _, rfl, ?_, ?_, ?_, ?_, ?_, ?_, (by intro i; simp [Mem.set, hr]), (by exact hG)⟩ <;> try simp (disch := first | omega | decide) only [go_sem, F, aIndex_map]
    all_goals rfl
  · clear F f0 f1 hr hG
    rintro k σ hk ⟨s, m, rfl, f0, f1, f4, o4, f5, mo0, hr, hG⟩
    obtain ⟨g4, o4⟩ : ∃ g, m.objs (.tmp 4 0) = (g, .box [.v (i64 0), .v (i64 0), .v (i64 0), .v (i64 0), .v (.b false), .v (.b false), .v (i64 0), .v (.b false)]) := ⟨_, Prod.ext rfl o4⟩
    rw [o4] at f4
    have F := (And.intro f0 (And.intro f1 (And.intro f4 (And.intro f5 (And.intro o4 hG)))))
    refine AW.seq ?_
    refine AW.seq ?_
    refine AW.region (cfg := cfg) ?_
    iterate 2 refine stp (fun _ h => s0 h) ?_
    refine stp (fun _ h => sd h) ?_
    refine stp (fun _ h => s0 h) ?_
    refine aops_nil ?_
    refine cnd (fun hb => ?ht1) (fun hb => ?hf1)
    case hf1 => (simp at hb; omega)
    case ht1 =>
    have hbt9 := hb
    refine AW.skip ?_
    refine AW.seq ?_
    refine AW.block ?_
    refine AW.seq ?_
    refine AW.region (cfg := cfg) ?_
    iterate 2 refine stp (fun _ h => s0 h) ?_
    refine stp (fun _ h => si h) ?_
    refine stp (fun _ h => sx h) ?_
    refine stp (fun _ h => sl h) ?_
    iterate 2 refine stp (fun _ h => s0 h) ?_
    refine aops_nil ?_
    refine cnd (fun hb => ?ht2) (fun hb => ?hf2)
    case ht2 =>
      have hw18 := hb
      try simp only [bo1, bo2, bo3, bo4, bo5, bo6] at hb
      have hbt18 := hb
      refine AW.seq ?_
      refine AW.region (cfg := cfg) ?_
      iterate 2 refine stp (fun _ h => s0 h) ?_
      refine stp (fun _ h => si h) ?_
      refine stp (fun _ h => sl h) ?_
      refine stp0 (fun _ h => ss h) ?_
      refine aops_nil ?_
      refine AW.ret ?_
      refine ⟨.inr rfl, ?_⟩
      refine leaves_mwp2 (rs := [.cell 4 64]) rfl ?_
      simp (config := {failIfUnchanged := false}) [giveL, srcOne, rehome, freezeN, sub, ti64, upd, opn, aLoad, loadL, giveOne, reify, reifyL, readL, readOne, Mwp, M.bind, Mem.set, setAt, cellsL, hG, f0, f1, f4, f5, o4]
      all_goals (rw [gK_hit hk mo0 hbt18]; rfl)
    case hf2 =>
      have hw18 := hb
      try simp only [bo1, bo2, bo3, bo4, bo5, bo6] at hb
      have hbt18 := hb
      refine AW.skip ?_
      refine AW.region (cfg := cfg) ?_
      refine stp (fun _ h => s0 h) ?_
      refine stp (fun _ h => sd h) ?_
      refine stp (fun _ h => s0 h) ?_
      refine aops_nil ?_
      refine ⟨_, _, rfl, ?_, ?_, ?_, ?_, ?_, ?_, (by intro i; simp [Mem.set, hr]), (by exact hG)⟩ <;> try simp (disch := first | omega | decide) only [go_sem, F, aIndex_map]
      all_goals first | rfl | (rw [List.take_succ_eq_append_getElem hk, gK_append, mo0, gK_cons, if_neg hbt18, gK_nil]; rfl)
  · clear F f0 f1 hr hG
    rintro σ ⟨s, m, rfl, f0, f1, f4, o4, f5, mo0, hr, hG⟩
    obtain ⟨g4, o4⟩ : ∃ g, m.objs (.tmp 4 0) = (g, .box [.v (i64 0), .v (i64 0), .v (i64 0), .v (i64 0), .v (.b false), .v (.b false), .v (i64 0), .v (.b false)]) := ⟨_, Prod.ext rfl o4⟩
    rw [o4] at f4
    have F := (And.intro f0 (And.intro f1 (And.intro f4 (And.intro f5 (And.intro o4 hG)))))
    refine AW.seq ?_
    refine AW.seq ?_
    refine AW.region (cfg := cfg) ?_
    iterate 2 refine stp (fun _ h => s0 h) ?_
    refine stp (fun _ h => sd h) ?_
    refine stp (fun _ h => s0 h) ?_
    refine aops_nil ?_
    refine cnd (fun hb => ?ht3) (fun hb => ?hf3)
    case ht3 => (simp at hb; done)
    case hf3 =>
    have hbt9 := hb
    refine AW.exit ?_
    refine AW.seq ?_
    refine AW.region (cfg := cfg) ?_
    refine stp (fun _ h => su h) ?_
    refine stp0 (fun _ h => ss h) ?_
    refine aops_nil ?_
    refine AW.ret ?_
    refine ⟨.inr rfl, ?_⟩
    refine leaves_mwp2 (rs := [.cell 4 64]) rfl ?_
    simp (config := {failIfUnchanged := false}) [giveL, srcOne, rehome, freezeN, sub, ti64, upd, opn, aLoad, loadL, giveOne, reify, reifyL, readL, readOne, Mwp, M.bind, Mem.set, setAt, cellsL, hG, f0, f1, f4, f5, o4]
    all_goals (rw [List.take_length] at mo0; rw [mo0]; rfl)
end Go.Vai.T
