import Derived.Test.YtbnpnljlfnaheaapTab6
import Derived.Test.YtbnpnljlfnaheaaOrdPl
namespace Go.Vai.T
open Go.Proofs Go.Vai Go.Vai.N
set_option linter.unusedSimpArgs false
set_option linter.unusedVariables false
set_option maxHeartbeats 4000000
set_option maxRecDepth 100000
theorem nrA_eq (x : Nr) : nrA x = .agg [i64 x.of, i64 x.co, i64 x.bo, i64 x.ep, .b x.he, .b x.fu, i64 x.ag, .b x.go] := rfl
theorem chN_chn : ∀ (l : List Nr) (t : Int), chN t l = chn (fun x => !bad x) Nr.of t l
  | [], _ => rfl
  | x :: l, t => by rw [chN, chn, chN_chn l]
theorem tab_srt {l : List Nr} (h : tabOK l = true) : Srt Nr.of l := by
  simp only [tabOK, Bool.and_eq_true] at h
  rw [chN_chn] at h
  exact chn_srt h.1
theorem tabE_0 {l : List Nr} (h : tabE l = 0) : tabOK l = true := tab_0 (fun e => e h)
theorem tabE_n {l : List Nr} (h : ¬ tabE l = 0) : tabOK l = false := tab_1 h
def findR (l : List Nr) (t : Int) : Nr × Bool := if tabOK l then ((gK Nr.of l t).getD default, isK Nr.of l t) else (default, false)
def setR (l : List Nr) (x : Nr) : Bool × List Nr × Int :=
  if tabOK l && !bad x then (if isK Nr.of l x.of then (false, insP Nr.of l x, 0) else if l.length = 16 then (true, [], 4) else (false, insP Nr.of l x, 0)) else (true, [], 1)
theorem findR_no {l : List Nr} {t : Int} (h : tabOK l = false) : findR l t = (default, false) := by rw [findR, h]; rfl
theorem findR_hit {l : List Nr} {t : Int} (h : tabOK l = true) (h2 : isK Nr.of l t = true) : findR l t = (l[posK Nr.of l t]'(pos_lt (tab_srt h) h2), true) := by
  rw [findR, h, (pos_at (tab_srt h) h2).2, h2]; rfl
theorem findR_out {l : List Nr} {t : Int} (h : tabOK l = true) (h2 : isK Nr.of l t = false) : findR l t = (default, false) := by
  have : gK Nr.of l t = none := by rw [isK_gK, Option.isSome_eq_false_iff, Option.isNone_iff_eq_none] at h2; exact h2
  rw [findR, h, h2, this]; rfl
theorem setR_no {l : List Nr} {x : Nr} (h : tabE l ≠ 0 ∨ chk x ≠ 0) : setR l x = (true, [], 1) := by
  rw [setR]
  rcases h with h | h
  · rw [tab_1 h]; rfl
  · rw [chk_1 h]; simp
theorem setR_old {l : List Nr} {x : Nr} (h : tabOK l = true) (h2 : bad x = false) (h3 : isK Nr.of l x.of = true) : setR l x = (false, l.set (posK Nr.of l x.of) x, 0) := by
  rw [setR, h, h2, h3, ← ins_old (tab_srt h) h3]; rfl
theorem setR_full {l : List Nr} {x : Nr} (h : tabOK l = true) (h2 : bad x = false) (h3 : isK Nr.of l x.of = false) (h4 : (l.length : Int) = 16) : setR l x = (true, [], 4) := by
  rw [setR, h, h2, h3]; simp; omega
theorem setR_new {l : List Nr} {x : Nr} (h : tabOK l = true) (h2 : bad x = false) (h3 : isK Nr.of l x.of = false) (h4 : ¬ (l.length : Int) = 16) : setR l x = (false, l.take (posK Nr.of l x.of) ++ [x] ++ l.drop (posK Nr.of l x.of), 0) := by
  rw [setR, h, h2, h3, ins_new (tab_srt h) h3]; simp; omega
theorem bounds_le {l : List Nr} (h : tabOK l = true) : l.length ≤ 16 := by
  simp only [tabOK, Bool.and_eq_true, decide_eq_true_eq] at h; omega
theorem good_findT (nil : Bool) (l : List Nr) (t : Int) (hl : l.length ≤ 1000000) (hs : Srt Nr.of l) : Good Try.prog 38 [(.sl 8 nil (l.map nrA), false), (i64 t, false)] [] [(i64 (posK Nr.of l t : Nat), false), (.b (isK Nr.of l t), false)] [] := by
  refine good_of_body2 11 Try.func38 rfl rfl rfl (by simp) ?_
  intro s m ha hr hv hG
  have f0 : s 0 = .v (.sl 8 nil (l.map nrA)) := ha 0 _ rfl
  have f1 : s 1 = .v (i64 t) := ha 1 _ rfl
  clear ha
  have hc : True := trivial
  have F := (And.intro f0 (And.intro f1 hG))
  refine AW.seq ?_
  refine AW.region (cfg := cfg) ?_
  iterate 2 refine stp (fun _ h => s0 h) ?_
  refine aops_nil ?_
  refine AW.seq ?_
  refine AW.region (cfg := cfg) ?_
  iterate 2 refine stp (fun _ h => s0 h) ?_
  refine stp (fun _ h => ct (w := good_BSearchNr nil l t 69 hl (rise_iff.2 hs) rfl rfl rfl (fun x => good_cmpN x t)) (x := h)) ?_
  iterate 4 refine stp (fun _ h => s0 h) ?_
  refine aops_nil ?_
  refine AW.ret ?_
  refine ⟨.inr rfl, ?_⟩
  refine leaves_mwp2 (rs := [.tmp 4, .tmp 5]) rfl ?_
  simp (config := {failIfUnchanged := false}) [giveL, srcOne, rehome, freezeN, sub, upd, opn, aLoad, loadL, giveOne, reify, reifyL, readL, readOne, Mwp, M.bind, Mem.set, setAt, cellsL, hG, f0, f1]
  all_goals first | done | rfl | exact ⟨rfl, rfl⟩ | trace_state
theorem rputN_len (l : List Nr) (x : Nr) : ∀ k, k ≤ l.length → (rS Nr.of l x k).1.length ≤ 2 * k
  | 0, _ => by simp [rS]
  | k + 1, h => by
    have i := rputN_len l x k (by omega)
    rw [rS_succ (by omega), rstep]
    split <;> split <;> simp <;> omega
theorem good_rputN (nil : Bool) (l : List Nr) (hl : l.length ≤ 1000000) (x : Nr) : Good Try.prog 19 [(.sl 8 nil (l.map nrA), false), (nrA x, false)] [] [(.sl 8 false ((refPut Nr.of l x).map nrA), false)] [] := by
  refine good_of_body2 53 Try.func19 rfl rfl rfl (by simp) ?_
  intro s m ha hr hv hG
  have f0 : s 0 = .v (.sl 8 nil (l.map nrA)) := ha 0 _ rfl
  have f1 : s 1 = .v (.agg [i64 x.of, i64 x.co, i64 x.bo, i64 x.ep, .b x.he, .b x.fu, i64 x.ag, .b x.go]) := ha 1 _ rfl
  clear ha
  have hc : True := trivial
  have F := (And.intro f0 (And.intro f1 hG))
  refine AW.seq ?_
  refine AW.region (cfg := cfg) ?_
  refine stp (fun _ h => sb h) ?_
  refine stp (fun _ h => s0 h) ?_
  refine aops_nil ?_
  refine AW.seq ?_
  refine AW.region (cfg := cfg) ?_
  refine stp (fun _ h => sq h) ?_
  refine stp (fun _ h => st h) ?_
  refine aops_nil ?_
  refine AW.seq ?_
  refine AW.region (cfg := cfg) ?_
  refine stp (fun _ h => s0 h) ?_
  refine aops_nil ?_
  refine AW.seq ?_
  refine AW.seq ?_
  refine AW.region (cfg := cfg) ?_
  refine stp (fun _ h => s0 h) ?_
  refine aops_nil ?_
  refine AW.block ?_
  refine AW.forN (fun k σ => ∃ s m, σ = ⟨53, s, m⟩ ∧ s 0 = .v (.sl 8 nil (l.map nrA)) ∧ s 3 = .lptr (.tmp 3 0) (m.objs (.tmp 3 0)).1 0 ∧ (m.objs (.tmp 3 0)).2 = .box [.v (i64 x.of), .v (i64 x.co), .v (i64 x.bo), .v (i64 x.ep), .v (.b x.he), .v (.b x.fu), .v (i64 x.ag), .v (.b x.go)] ∧ s 5 = .own (.var 5) (m.objs (.var 5)).1 0 ((rS Nr.of l x k).1.length) ∧ (m.objs (.var 5)).2 = .arr false 8 ((rS Nr.of l x k).1.map nrA) ∧ s 6 = .v (.b (rS Nr.of l x k).2) ∧ s 7 = .v (i64 (k : Int)) ∧ (∀ i, (m.objs (.res i)).2 = .dead) ∧ m.G = []) (l.length) ?_ ?_ ?_
  · refine ⟨_, _, rfl, ?_, ?_, ?_, ?_, ?_, ?_, ?_, (by intro i; simp [Mem.set, hr]), (by exact hG)⟩ <;> try simp (disch := first | omega | decide) only [go_sem, F, aIndex_map]
    all_goals rfl
  · clear F f0 f1 hr hG
    rintro k σ hk ⟨s, m, rfl, f0, f3, o3, f5, o5, f6, f7, hr, hG⟩
    obtain ⟨g3, o3⟩ : ∃ g, m.objs (.tmp 3 0) = (g, .box [.v (i64 x.of), .v (i64 x.co), .v (i64 x.bo), .v (i64 x.ep), .v (.b x.he), .v (.b x.fu), .v (i64 x.ag), .v (.b x.go)]) := ⟨_, Prod.ext rfl o3⟩
    rw [o3] at f3
    obtain ⟨g5, o5⟩ : ∃ g, m.objs (.var 5) = (g, .arr false 8 ((rS Nr.of l x k).1.map nrA)) := ⟨_, Prod.ext rfl o5⟩
    rw [o5] at f5
    have F := (And.intro f0 (And.intro f3 (And.intro f5 (And.intro f6 (And.intro f7 (And.intro o3 (And.intro o5 hG)))))))
    refine AW.seq ?_
    refine AW.seq ?_
    refine AW.region (cfg := cfg) ?_
    iterate 2 refine stp (fun _ h => s0 h) ?_
    refine stp (fun _ h => sd h) ?_
    refine stp (fun _ h => s0 h) ?_
    refine aops_nil ?_
    refine cnd (fun hb => ?ht1) (fun hb => ?hf1)
    case hf1 => (simp at hb; omega)
    case ht1 =>
    have hbt12 := hb
    refine AW.skip ?_
    refine AW.seq ?_
    refine AW.block ?_
    refine AW.seq ?_
    refine AW.seq ?_
    refine AW.draw (cfg := cfg) (by kernel_rfl) (by kernel_rfl) (by kernel_rfl) ?_
    iterate 3 refine dstp (fun _ h => s0 h) ?_
    iterate 2 refine dmrg wa (fun hc _ h => s0 h) ?_
    refine dmrg wa (fun hc _ h => si h) ?_
    refine dmrg wa (fun hc _ h => sx h) ?_
    refine dmrg wa (fun hc _ h => sl h) ?_
    refine dmrg wa (fun hc _ h => sx h) ?_
    refine dmrg wa (fun hc _ h => sl h) ?_
    refine dmrg wa (fun hc _ h => s0 h) ?_
    refine dstp (fun _ h => s0 h) ?_
    refine adraw_nil (by kernel_rfl) ?_
    refine cnd (fun hb => ?ht2) (fun hb => ?hf2)
    case ht2 =>
      have hw26 := hb
      try simp only [bo1, bo2, bo3, bo4, bo5, bo6] at hb
      have hbt26 := hb
      refine AW.seq ?_
      have wl := rputN_len l x k (by omega)
      refine AW.region (cfg := cfg) ?_
      refine stp (fun _ h => s0 h) ?_
      refine stp (fun _ h => sl h) ?_
      refine stp (fun _ h => sq h) ?_
      refine stp (fun _ h => sp h) ?_
      refine stp (fun _ h => st h) ?_
      refine aops_nil ?_
      refine AW.region (cfg := cfg) ?_
      refine stp (fun _ h => s0 h) ?_
      refine aops_nil ?_
      refine AW.seq ?_
      refine AW.draw (cfg := cfg) (by kernel_rfl) (by kernel_rfl) (by kernel_rfl) ?_
      iterate 2 refine dstp (fun _ h => s0 h) ?_
      refine dstp (fun _ h => si h) ?_
      refine dstp (fun _ h => sx h) ?_
      refine dstp (fun _ h => sl h) ?_
      refine dstp (fun _ h => sx h) ?_
      refine dstp (fun _ h => sl h) ?_
      refine dstp (fun _ h => s0 h) ?_
      refine adraw_nil (by kernel_rfl) ?_
      refine cnd (fun hb => ?ht3) (fun hb => ?hf3)
      case ht3 =>
        have hw38 := hb
        try simp only [bo1, bo2, bo3, bo4, bo5, bo6] at hb
        have hbt38 := hb
        have wl := rputN_len l x k (by omega)
        refine AW.region (cfg := cfg) ?_
        iterate 3 refine stp (fun _ h => s0 h) ?_
        refine stp (fun _ h => si h) ?_
        refine stp (fun _ h => sl h) ?_
        refine stp (fun _ h => sq h) ?_
        refine stp (fun _ h => sp h) ?_
        refine stp (fun _ h => st h) ?_
        refine aops_nil ?_
        refine AW.region (cfg := cfg) ?_
        refine stp (fun _ h => s0 h) ?_
        refine stp (fun _ h => sd h) ?_
        refine stp (fun _ h => s0 h) ?_
        refine aops_nil ?_
        refine ⟨_, _, rfl, ?_, ?_, ?_, ?_, ?_, ?_, ?_, (by intro i; simp [Mem.set, hr]), (by exact hG)⟩ <;> try simp (disch := first | omega | decide) only [go_sem, F, aIndex_map]
        all_goals first | rfl | (rw [rS_tt hk hw26 hw38]; done) | (rw [rS_tt hk hw26 hw38]; simp; done) | (rw [rS_tt hk hw26 hw38]; simp [nrA]; done)
      case hf3 =>
        have hw38 := hb
        try simp only [bo1, bo2, bo3, bo4, bo5, bo6] at hb
        have hbt38 := hb
        refine AW.skip ?_
        refine AW.region (cfg := cfg) ?_
        refine stp (fun _ h => s0 h) ?_
        refine stp (fun _ h => sd h) ?_
        refine stp (fun _ h => s0 h) ?_
        refine aops_nil ?_
        refine ⟨_, _, rfl, ?_, ?_, ?_, ?_, ?_, ?_, ?_, (by intro i; simp [Mem.set, hr]), (by exact hG)⟩ <;> try simp (disch := first | omega | decide) only [go_sem, F, aIndex_map]
        all_goals first | rfl | (rw [rS_tf hk hw26 hw38]; done) | (rw [rS_tf hk hw26 hw38]; simp; done) | (rw [rS_tf hk hw26 hw38]; simp [nrA]; done)
    case hf2 =>
      have hw26 := hb
      try simp only [bo1, bo2, bo3, bo4, bo5, bo6] at hb
      have hbt26 := hb
      refine AW.skip ?_
      refine AW.seq ?_
      refine AW.draw (cfg := cfg) (by kernel_rfl) (by kernel_rfl) (by kernel_rfl) ?_
      iterate 2 refine dstp (fun _ h => s0 h) ?_
      refine dstp (fun _ h => si h) ?_
      refine dstp (fun _ h => sx h) ?_
      refine dstp (fun _ h => sl h) ?_
      refine dstp (fun _ h => sx h) ?_
      refine dstp (fun _ h => sl h) ?_
      refine dstp (fun _ h => s0 h) ?_
      refine adraw_nil (by kernel_rfl) ?_
      refine cnd (fun hb => ?ht4) (fun hb => ?hf4)
      case ht4 =>
        have hw38 := hb
        try simp only [bo1, bo2, bo3, bo4, bo5, bo6] at hb
        have hbt38 := hb
        have wl := rputN_len l x k (by omega)
        refine AW.region (cfg := cfg) ?_
        iterate 3 refine stp (fun _ h => s0 h) ?_
        refine stp (fun _ h => si h) ?_
        refine stp (fun _ h => sl h) ?_
        refine stp (fun _ h => sq h) ?_
        refine stp (fun _ h => sp h) ?_
        refine stp (fun _ h => st h) ?_
        refine aops_nil ?_
        refine AW.region (cfg := cfg) ?_
        refine stp (fun _ h => s0 h) ?_
        refine stp (fun _ h => sd h) ?_
        refine stp (fun _ h => s0 h) ?_
        refine aops_nil ?_
        refine ⟨_, _, rfl, ?_, ?_, ?_, ?_, ?_, ?_, ?_, (by intro i; simp [Mem.set, hr]), (by exact hG)⟩ <;> try simp (disch := first | omega | decide) only [go_sem, F, aIndex_map]
        all_goals first | rfl | (rw [rS_ft hk hw26 hw38]; done) | (rw [rS_ft hk hw26 hw38]; simp; done) | (rw [rS_ft hk hw26 hw38]; simp [nrA]; done)
      case hf4 =>
        have hw38 := hb
        try simp only [bo1, bo2, bo3, bo4, bo5, bo6] at hb
        have hbt38 := hb
        refine AW.skip ?_
        refine AW.region (cfg := cfg) ?_
        refine stp (fun _ h => s0 h) ?_
        refine stp (fun _ h => sd h) ?_
        refine stp (fun _ h => s0 h) ?_
        refine aops_nil ?_
        refine ⟨_, _, rfl, ?_, ?_, ?_, ?_, ?_, ?_, ?_, (by intro i; simp [Mem.set, hr]), (by exact hG)⟩ <;> try simp (disch := first | omega | decide) only [go_sem, F, aIndex_map]
        all_goals first | rfl | (rw [rS_ff hk hw26 hw38]; done)
  · clear F f0 f1 hr hG
    rintro σ ⟨s, m, rfl, f0, f3, o3, f5, o5, f6, f7, hr, hG⟩
    obtain ⟨g3, o3⟩ : ∃ g, m.objs (.tmp 3 0) = (g, .box [.v (i64 x.of), .v (i64 x.co), .v (i64 x.bo), .v (i64 x.ep), .v (.b x.he), .v (.b x.fu), .v (i64 x.ag), .v (.b x.go)]) := ⟨_, Prod.ext rfl o3⟩
    rw [o3] at f3
    obtain ⟨g5, o5⟩ : ∃ g, m.objs (.var 5) = (g, .arr false 8 ((rS Nr.of l x l.length).1.map nrA)) := ⟨_, Prod.ext rfl o5⟩
    rw [o5] at f5
    have F := (And.intro f0 (And.intro f3 (And.intro f5 (And.intro f6 (And.intro f7 (And.intro o3 (And.intro o5 hG)))))))
    refine AW.seq ?_
    refine AW.seq ?_
    refine AW.region (cfg := cfg) ?_
    iterate 2 refine stp (fun _ h => s0 h) ?_
    refine stp (fun _ h => sd h) ?_
    refine stp (fun _ h => s0 h) ?_
    refine aops_nil ?_
    refine cnd (fun hb => ?ht5) (fun hb => ?hf5)
    case ht5 => (simp at hb; done)
    case hf5 =>
    have hbt12 := hb
    refine AW.exit ?_
    refine AW.seq ?_
    refine AW.seq ?_
    refine AW.region (cfg := cfg) ?_
    iterate 2 refine stp (fun _ h => s0 h) ?_
    refine aops_nil ?_
    refine cnd (fun hb => ?ht6) (fun hb => ?hf6)
    case ht6 =>
      have hw47 := hb
      try simp only [bo1, bo2, bo3, bo4, bo5, bo6] at hb
      have hbt47 := hb
      have wl := rputN_len l x l.length (Nat.le_refl _)
      refine AW.region (cfg := cfg) ?_
      refine stp (fun _ h => s0 h) ?_
      refine stp (fun _ h => sl h) ?_
      refine stp (fun _ h => sq h) ?_
      refine stp (fun _ h => sp h) ?_
      refine stp (fun _ h => st h) ?_
      refine aops_nil ?_
      refine AW.seq ?_
      refine AW.region (cfg := cfg) ?_
      refine stp (fun _ h => s0 h) ?_
      refine stp (fun _ h => sm h) ?_
      refine aops_nil ?_
      refine AW.ret ?_
      refine ⟨.inr rfl, ?_⟩
      refine leaves_tmp1 4 rfl ?_ (by exact hG)
      simp (disch := first | omega | decide) only [go_sem, F, aIndex_map]
      all_goals (rw [rfin_t hw47, sub_full (by simp)]; simp [nrA]; done)
    case hf6 =>
      have hw47 := hb
      try simp only [bo1, bo2, bo3, bo4, bo5, bo6] at hb
      have hbt47 := hb
      refine AW.skip ?_
      refine AW.seq ?_
      refine AW.region (cfg := cfg) ?_
      refine stp (fun _ h => s0 h) ?_
      refine stp (fun _ h => sm h) ?_
      refine aops_nil ?_
      refine AW.ret ?_
      refine ⟨.inr rfl, ?_⟩
      refine leaves_tmp1 4 rfl ?_ (by exact hG)
      simp (disch := first | omega | decide) only [go_sem, F, aIndex_map]
      all_goals (rw [rfin_f hw47, sub_full (by simp)]; done)
theorem good_rfindN (nil : Bool) (l : List Nr) (hl : l.length ≤ 1000000) (t : Int) : Good Try.prog 17 [(.sl 8 nil (l.map nrA), false), (i64 t, false)] [] [(nrA ((gK Nr.of l t).getD default), false)] [] := by
  refine good_of_body2 24 Try.func17 rfl rfl rfl (by simp) ?_
  intro s m ha hr hv hG
  have f0 : s 0 = .v (.sl 8 nil (l.map nrA)) := ha 0 _ rfl
  have f1 : s 1 = .v (i64 t) := ha 1 _ rfl
  clear ha
  have hc : True := trivial
  have F := (And.intro f0 (And.intro f1 hG))
  refine AW.seq ?_
  refine AW.region (cfg := cfg) ?_
  refine stp (fun _ h => sd h) ?_
  refine aops_nil ?_
  refine AW.seq ?_
  refine AW.seq ?_
  refine AW.region (cfg := cfg) ?_
  refine stp (fun _ h => s0 h) ?_
  refine aops_nil ?_
  refine AW.block ?_
  refine AW.forN (fun k σ => ∃ s m, σ = ⟨24, s, m⟩ ∧ s 0 = .v (.sl 8 nil (l.map nrA)) ∧ s 1 = .v (i64 t) ∧ s 4 = .lptr (.tmp 4 0) (m.objs (.tmp 4 0)).1 0 ∧ (m.objs (.tmp 4 0)).2 = .box [.v (i64 0), .v (i64 0), .v (i64 0), .v (i64 0), .v (.b false), .v (.b false), .v (i64 0), .v (.b false)] ∧ s 5 = .v (i64 (k : Int)) ∧ (gK Nr.of (l.take k) t = none) ∧ (∀ i, (m.objs (.res i)).2 = .dead) ∧ m.G = []) (l.length) ?_ ?_ ?_
  · refine ⟨_, _, rfl, ?_, ?_, ?_, ?_, ?_, ?_, (by intro i; simp [Mem.set, hr]), (by exact hG)⟩ <;> try simp (disch := first | omega | decide) only [go_sem, F, aIndex_map]
    all_goals rfl
  · clear F f0 f1 hr hG
    rintro k σ hk ⟨s, m, rfl, f0, f1, f4, o4, f5, mo0, hr, hG⟩
    obtain ⟨g4, o4⟩ : ∃ g, m.objs (.tmp 4 0) = (g, .box [.v (i64 0), .v (i64 0), .v (i64 0), .v (i64 0), .v (.b false), .v (.b false), .v (i64 0), .v (.b false)]) := ⟨_, Prod.ext rfl o4⟩
    rw [o4] at f4
    have F := (And.intro f0 (And.intro f1 (And.intro f4 (And.intro f5 (And.intro o4 hG)))))
    refine AW.seq ?_
    refine AW.seq ?_
    refine AW.region (cfg := cfg) ?_
    iterate 2 refine stp (fun _ h => s0 h) ?_
    refine stp (fun _ h => sd h) ?_
    refine stp (fun _ h => s0 h) ?_
    refine aops_nil ?_
    refine cnd (fun hb => ?ht1) (fun hb => ?hf1)
    case hf1 => (simp at hb; omega)
    case ht1 =>
    have hbt9 := hb
    refine AW.skip ?_
    refine AW.seq ?_
    refine AW.block ?_
    refine AW.seq ?_
    refine AW.region (cfg := cfg) ?_
    iterate 2 refine stp (fun _ h => s0 h) ?_
    refine stp (fun _ h => si h) ?_
    refine stp (fun _ h => sx h) ?_
    refine stp (fun _ h => sl h) ?_
    iterate 2 refine stp (fun _ h => s0 h) ?_
    refine aops_nil ?_
    refine cnd (fun hb => ?ht2) (fun hb => ?hf2)
    case ht2 =>
      have hw18 := hb
      try simp only [bo1, bo2, bo3, bo4, bo5, bo6] at hb
      have hbt18 := hb
      refine AW.seq ?_
      refine AW.region (cfg := cfg) ?_
      iterate 2 refine stp (fun _ h => s0 h) ?_
      refine stp (fun _ h => si h) ?_
      refine stp (fun _ h => sl h) ?_
      refine stp0 (fun _ h => ss h) ?_
      refine aops_nil ?_
      refine AW.ret ?_
      refine ⟨.inr rfl, ?_⟩
      refine leaves_mwp2 (rs := [.cell 4 34]) rfl ?_
      simp (config := {failIfUnchanged := false}) [giveL, srcOne, rehome, freezeN, sub, ti34, upd, opn, aLoad, loadL, giveOne, reify, reifyL, readL, readOne, Mwp, M.bind, Mem.set, setAt, cellsL, hG, f0, f1, f4, f5, o4]
      all_goals (rw [gK_hit hk mo0 hbt18]; rfl)
    case hf2 =>
      have hw18 := hb
      try simp only [bo1, bo2, bo3, bo4, bo5, bo6] at hb
      have hbt18 := hb
      refine AW.skip ?_
      refine AW.region (cfg := cfg) ?_
      refine stp (fun _ h => s0 h) ?_
      refine stp (fun _ h => sd h) ?_
      refine stp (fun _ h => s0 h) ?_
      refine aops_nil ?_
      refine ⟨_, _, rfl, ?_, ?_, ?_, ?_, ?_, ?_, (by intro i; simp [Mem.set, hr]), (by exact hG)⟩ <;> try simp (disch := first | omega | decide) only [go_sem, F, aIndex_map]
      all_goals first | rfl | (rw [List.take_succ_eq_append_getElem hk, gK_append, mo0, gK_cons, if_neg hbt18, gK_nil]; rfl)
  · clear F f0 f1 hr hG
    rintro σ ⟨s, m, rfl, f0, f1, f4, o4, f5, mo0, hr, hG⟩
    obtain ⟨g4, o4⟩ : ∃ g, m.objs (.tmp 4 0) = (g, .box [.v (i64 0), .v (i64 0), .v (i64 0), .v (i64 0), .v (.b false), .v (.b false), .v (i64 0), .v (.b false)]) := ⟨_, Prod.ext rfl o4⟩
    rw [o4] at f4
    have F := (And.intro f0 (And.intro f1 (And.intro f4 (And.intro f5 (And.intro o4 hG)))))
    refine AW.seq ?_
    refine AW.seq ?_
    refine AW.region (cfg := cfg) ?_
    iterate 2 refine stp (fun _ h => s0 h) ?_
    refine stp (fun _ h => sd h) ?_
    refine stp (fun _ h => s0 h) ?_
    refine aops_nil ?_
    refine cnd (fun hb => ?ht3) (fun hb => ?hf3)
    case ht3 => (simp at hb; done)
    case hf3 =>
    have hbt9 := hb
    refine AW.exit ?_
    refine AW.seq ?_
    refine AW.region (cfg := cfg) ?_
    refine stp (fun _ h => su h) ?_
    refine stp0 (fun _ h => ss h) ?_
    refine aops_nil ?_
    refine AW.ret ?_
    refine ⟨.inr rfl, ?_⟩
    refine leaves_mwp2 (rs := [.cell 4 34]) rfl ?_
    simp (config := {failIfUnchanged := false}) [giveL, srcOne, rehome, freezeN, sub, ti34, upd, opn, aLoad, loadL, giveOne, reify, reifyL, readL, readOne, Mwp, M.bind, Mem.set, setAt, cellsL, hG, f0, f1, f4, f5, o4]
    all_goals (rw [List.take_length] at mo0; rw [mo0]; rfl)
theorem sameN_eq {x y : Nr} (h : (!(decide (x.of = y.of) && (decide (x.co = y.co) && (decide (x.bo = y.bo) && (decide (x.ep = y.ep) && ((x.he == y.he) && ((x.fu == y.fu) && (decide (x.ag = y.ag) && (x.go == y.go))))))))) = false) : x = y := by
  obtain ⟨_, _, _, _, _, _, _, _⟩ := x
  obtain ⟨_, _, _, _, _, _, _, _⟩ := y
  simpa using h
theorem sameN_ne {x y : Nr} (h : (!(decide (x.of = y.of) && (decide (x.co = y.co) && (decide (x.bo = y.bo) && (decide (x.ep = y.ep) && ((x.he == y.he) && ((x.fu == y.fu) && (decide (x.ag = y.ag) && (x.go == y.go))))))))) = true) : x ≠ y := by
  rintro rfl
  simp at h
theorem good_sameN (na nb : Bool) (a b : List Nr) (ha : a.length ≤ 1000000) (hb : b.length ≤ 1000000) : Good Try.prog 20 [(.sl 8 na (a.map nrA), false), (.sl 8 nb (b.map nrA), false)] [] [(.b (decide (a = b)), false)] [] := by
  refine good_of_body2 26 Try.func20 rfl rfl rfl (by simp) ?_
  intro s m ha hr hv hG
  have f0 : s 0 = .v (.sl 8 na (a.map nrA)) := ha 0 _ rfl
  have f1 : s 1 = .v (.sl 8 nb (b.map nrA)) := ha 1 _ rfl
  clear ha
  have hc : True := trivial
  have F := (And.intro f0 (And.intro f1 hG))
  refine AW.seq ?_
  refine AW.region (cfg := cfg) ?_
  refine stp (fun _ h => s0 h) ?_
  refine aops_nil ?_
  refine AW.seq ?_
  refine AW.seq ?_
  refine AW.region (cfg := cfg) ?_
  refine stp (fun _ h => s0 h) ?_
  refine stp (fun _ h => sd h) ?_
  refine stp (fun _ h => s0 h) ?_
  refine stp (fun _ h => sd h) ?_
  refine stp (fun _ h => s0 h) ?_
  refine aops_nil ?_
  refine cnd (fun hb => ?ht1) (fun hb => ?hf1)
  case ht1 =>
    have hw10 := hb
    try simp only [bo1, bo2, bo3, bo4, bo5, bo6] at hb
    have hbt10 := hb
    refine AW.seq ?_
    refine AW.region (cfg := cfg) ?_
    refine stp (fun _ h => s0 h) ?_
    refine aops_nil ?_
    refine AW.ret ?_
    refine ⟨.inr rfl, ?_⟩
    refine leaves_tmp1 4 rfl ?_ (by exact hG)
    simp (disch := first | omega | decide) only [go_sem, F, aIndex_map]
    all_goals (rw [decide_eq_false (fun e => by have := congrArg List.length e; omega)]; done)
  case hf1 =>
    have hw10 := hb
    try simp only [bo1, bo2, bo3, bo4, bo5, bo6] at hb
    have hbt10 := hb
    refine AW.skip ?_
    refine AW.seq ?_
    refine AW.seq ?_
    refine AW.region (cfg := cfg) ?_
    refine stp (fun _ h => s0 h) ?_
    refine aops_nil ?_
    refine AW.block ?_
    refine AW.forN (fun k σ => ∃ s m, σ = ⟨26, s, m⟩ ∧ s 0 = .v (.sl 8 na (a.map nrA)) ∧ s 1 = .v (.sl 8 nb (b.map nrA)) ∧ s 5 = .v (i64 (k : Int)) ∧ (a.length = b.length) ∧ (a.take k = b.take k) ∧ (∀ i, (m.objs (.res i)).2 = .dead) ∧ m.G = []) (a.length) ?_ ?_ ?_
    · refine ⟨_, _, rfl, ?_, ?_, ?_, ?_, ?_, (by intro i; simp [Mem.set, hr]), (by exact hG)⟩ <;> try simp (disch := first | omega | decide) only [go_sem, F, aIndex_map]
      all_goals first | rfl | omega
    · clear F f0 f1 hr hG
      rintro k σ hk ⟨s, m, rfl, f0, f1, f5, mo0, mo1, hr, hG⟩
      have F := (And.intro f0 (And.intro f1 (And.intro f5 hG)))
      refine AW.seq ?_
      refine AW.seq ?_
      refine AW.region (cfg := cfg) ?_
      iterate 2 refine stp (fun _ h => s0 h) ?_
      refine stp (fun _ h => sd h) ?_
      refine stp (fun _ h => s0 h) ?_
      refine aops_nil ?_
      refine cnd (fun hb => ?ht2) (fun hb => ?hf2)
      case hf2 => (simp at hb; omega)
      case ht2 =>
      have hbt14 := hb
      refine AW.skip ?_
      refine AW.seq ?_
      refine AW.block ?_
      refine AW.seq ?_
      refine AW.draw (cfg := cfg) (by kernel_rfl) (by kernel_rfl) (by kernel_rfl) ?_
      iterate 2 refine dstp (fun _ h => s0 h) ?_
      refine dstp (fun _ h => si h) ?_
      refine dstp (fun _ h => sl h) ?_
      iterate 2 refine dstp (fun _ h => s0 h) ?_
      refine dstp (fun _ h => si h) ?_
      refine dstp (fun _ h => sl h) ?_
      refine dstp (fun _ h => s0 h) ?_
      refine adraw_nil (by kernel_rfl) ?_
      refine cnd (fun hb => ?ht3) (fun hb => ?hf3)
      case ht3 =>
        have hw25 := hb
        try simp only [bo1, bo2, bo3, bo4, bo5, bo6] at hb
        have hbt25 := hb
        refine AW.seq ?_
        refine AW.region (cfg := cfg) ?_
        refine stp (fun _ h => s0 h) ?_
        refine aops_nil ?_
        refine AW.ret ?_
        refine ⟨.inr rfl, ?_⟩
        refine leaves_tmp1 4 rfl ?_ (by exact hG)
        simp (disch := first | omega | decide) only [go_sem, F, aIndex_map]
        all_goals (rw [decide_eq_false (fun e => by subst e; exact sameN_ne hb rfl)]; done)
      case hf3 =>
        have hw25 := hb
        try simp only [bo1, bo2, bo3, bo4, bo5, bo6] at hb
        have hbt25 := hb
        refine AW.skip ?_
        refine AW.region (cfg := cfg) ?_
        refine stp (fun _ h => s0 h) ?_
        refine stp (fun _ h => sd h) ?_
        refine stp (fun _ h => s0 h) ?_
        refine aops_nil ?_
        refine ⟨_, _, rfl, ?_, ?_, ?_, ?_, ?_, (by intro i; simp [Mem.set, hr]), (by exact hG)⟩ <;> try simp (disch := first | omega | decide) only [go_sem, F, aIndex_map]
        all_goals first | rfl | assumption | exact take_eq hk mo0 mo1 (sameN_eq hb)
    · clear F f0 f1 hr hG
      rintro σ ⟨s, m, rfl, f0, f1, f5, mo0, mo1, hr, hG⟩
      have F := (And.intro f0 (And.intro f1 (And.intro f5 hG)))
      refine AW.seq ?_
      refine AW.seq ?_
      refine AW.region (cfg := cfg) ?_
      iterate 2 refine stp (fun _ h => s0 h) ?_
      refine stp (fun _ h => sd h) ?_
      refine stp (fun _ h => s0 h) ?_
      refine aops_nil ?_
      refine cnd (fun hb => ?ht4) (fun hb => ?hf4)
      case ht4 => (simp at hb; done)
      case hf4 =>
      have hbt14 := hb
      refine AW.exit ?_
      refine AW.seq ?_
      refine AW.region (cfg := cfg) ?_
      refine stp (fun _ h => s0 h) ?_
      refine aops_nil ?_
      refine AW.ret ?_
      refine ⟨.inr rfl, ?_⟩
      refine leaves_tmp1 4 rfl ?_ (by exact hG)
      simp (disch := first | omega | decide) only [go_sem, F, aIndex_map]
      all_goals (rw [decide_eq_true (by rw [List.take_length, mo0, List.take_length] at mo1; exact mo1)]; done)
end Go.Vai.T
