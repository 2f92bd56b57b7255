import Derived.Test.YtdoomgohnocecaaM1
import Derived.Shelf.Spec.SlicesInsert
import Derived.Test.YtdoomgohnocecaaVaiE
import Derived.Test.YtdoomgohnocecaaVaiD
namespace Go.Vai.DB
open Go.Proofs Go.Vai Go.Vai.D Go.Vai.I Go.Vai.L Go.Vai.N Go.Vai.O
set_option linter.unusedSimpArgs false
set_option linter.unusedVariables false
set_option maxHeartbeats 4000000
set_option maxRecDepth 100000
theorem good_Get11 (nil : Bool) (l : List Lsa) (hl : l.length ≤ 1000000) (t : Int) : Good Try.prog 33 [(.sl 3 nil (l.map lsaA), false), (i64 t, false)] [] [(lsaA ((gK Lsa.o l t).getD default), false)] [] := by
  refine good_of_body2 24 Try.func33 rfl rfl rfl (by simp) ?_
  intro s m ha hr hv hG
  have f0 : s 0 = .v (.sl 3 nil (l.map lsaA)) := ha 0 _ rfl
  have f1 : s 1 = .v (i64 t) := ha 1 _ rfl
  clear ha
  have hc : True := trivial
  have F := (And.intro f0 (And.intro f1 hG))
  refine AW.seq ?_
  refine AW.region (cfg := cfg) ?_
  refine stp (fun _ h => sd h) ?_
  refine aops_nil ?_
  refine AW.seq ?_
  refine AW.seq ?_
  refine AW.region (cfg := cfg) ?_
  refine stp (fun _ h => s0 h) ?_
  refine aops_nil ?_
  refine AW.block ?_
  refine AW.forN (fun k σ => ∃ s m, σ = ⟨24, s, m⟩ ∧ s 0 = .v (.sl 3 nil (l.map lsaA)) ∧ s 1 = .v (i64 t) ∧ s 4 = .lptr (.tmp 4 0) (m.objs (.tmp 4 0)).1 0 ∧ (m.objs (.tmp 4 0)).2 = .box [.v (i64 0), .v (i64 0), .v (.sl 2 true [])] ∧ s 5 = .v (i64 (k : Int)) ∧ (gK Lsa.o (l.take k) t = none) ∧ (∀ i, (m.objs (.res i)).2 = .dead) ∧ m.G = []) (l.length) ?_ ?_ ?_
  · refine ⟨_, _, rfl, ?_, ?_, ?_, ?_, ?_, ?_, (by intro i; simp [Mem.set, hr]), (by exact hG)⟩ <;> try simp (disch := first | omega | decide) only [go_sem, F, aIndex_map]
    all_goals rfl
  · clear F f0 f1 hr hG
    rintro k σ hk ⟨s, m, rfl, f0, f1, f4, o4, f5, mo0, hr, hG⟩
    obtain ⟨g4, o4⟩ : ∃ g, m.objs (.tmp 4 0) = (g, .box [.v (i64 0), .v (i64 0), .v (.sl 2 true [])]) := ⟨_, Prod.ext rfl o4⟩
    rw [o4] at f4
    have F := (And.intro f0 (And.intro f1 (And.intro f4 (And.intro f5 (And.intro o4 hG)))))
    refine AW.seq ?_
    refine AW.seq ?_
    refine AW.region (cfg := cfg) ?_
    iterate 2 refine stp (fun _ h => s0 h) ?_
    refine stp (fun _ h => sd h) ?_
    refine stp (fun _ h => s0 h) ?_
    refine aops_nil ?_
    refine cnd (fun hb => ?ht1) (fun hb => ?hf1)
    case hf1 => (simp at hb; omega)
    case ht1 =>
    have hbt9 := hb
    refine AW.skip ?_
    refine AW.seq ?_
    refine AW.block ?_
    refine AW.seq ?_
    refine AW.region (cfg := cfg) ?_
    iterate 2 refine stp (fun _ h => s0 h) ?_
    refine stp (fun _ h => si h) ?_
    refine stp (fun _ h => sx h) ?_
    refine stp (fun _ h => sl h) ?_
    iterate 2 refine stp (fun _ h => s0 h) ?_
    refine aops_nil ?_
    refine cnd (fun hb => ?ht2) (fun hb => ?hf2)
    case ht2 =>
      have hw18 := hb
      try simp only [bo1, bo2, bo3, bo4, bo5, bo6] at hb
      have hbt18 := hb
      refine AW.seq ?_
      refine AW.region (cfg := cfg) ?_
      iterate 2 refine stp (fun _ h => s0 h) ?_
      refine stp (fun _ h => si h) ?_
      refine stp (fun _ h => sl h) ?_
      refine stp0 (fun _ h => ss h) ?_
      refine aops_nil ?_
      refine AW.ret ?_
      refine ⟨.inr rfl, ?_⟩
      refine leaves_mwp2 (rs := [.cell 4 50]) rfl ?_
      simp (config := {failIfUnchanged := false}) [giveL, srcOne, rehome, freezeN, sub, ti50, upd, opn, aLoad, loadL, giveOne, reify, reifyL, readL, readOne, Mwp, M.bind, Mem.set, setAt, cellsL, hG, f0, f1, f4, f5, o4]
      all_goals (rw [gK_hit hk mo0 hbt18]; rfl)
    case hf2 =>
      have hw18 := hb
      try simp only [bo1, bo2, bo3, bo4, bo5, bo6] at hb
      have hbt18 := hb
      refine AW.skip ?_
      refine AW.region (cfg := cfg) ?_
      refine stp (fun _ h => s0 h) ?_
      refine stp (fun _ h => sd h) ?_
      refine stp (fun _ h => s0 h) ?_
      refine aops_nil ?_
      refine ⟨_, _, rfl, ?_, ?_, ?_, ?_, ?_, ?_, (by intro i; simp [Mem.set, hr]), (by exact hG)⟩ <;> try simp (disch := first | omega | decide) only [go_sem, F, aIndex_map]
      all_goals first | rfl | (rw [List.take_succ_eq_append_getElem hk, gK_append, mo0, gK_cons, if_neg hbt18, gK_nil]; rfl)
  · clear F f0 f1 hr hG
    rintro σ ⟨s, m, rfl, f0, f1, f4, o4, f5, mo0, hr, hG⟩
    obtain ⟨g4, o4⟩ : ∃ g, m.objs (.tmp 4 0) = (g, .box [.v (i64 0), .v (i64 0), .v (.sl 2 true [])]) := ⟨_, Prod.ext rfl o4⟩
    rw [o4] at f4
    have F := (And.intro f0 (And.intro f1 (And.intro f4 (And.intro f5 (And.intro o4 hG)))))
    refine AW.seq ?_
    refine AW.seq ?_
    refine AW.region (cfg := cfg) ?_
    iterate 2 refine stp (fun _ h => s0 h) ?_
    refine stp (fun _ h => sd h) ?_
    refine stp (fun _ h => s0 h) ?_
    refine aops_nil ?_
    refine cnd (fun hb => ?ht3) (fun hb => ?hf3)
    case ht3 => (simp at hb; done)
    case hf3 =>
    have hbt9 := hb
    refine AW.exit ?_
    refine AW.seq ?_
    refine AW.region (cfg := cfg) ?_
    refine stp (fun _ h => su h) ?_
    refine stp0 (fun _ h => ss h) ?_
    refine aops_nil ?_
    refine AW.ret ?_
    refine ⟨.inr rfl, ?_⟩
    refine leaves_mwp2 (rs := [.cell 4 50]) rfl ?_
    simp (config := {failIfUnchanged := false}) [giveL, srcOne, rehome, freezeN, sub, ti50, upd, opn, aLoad, loadL, giveOne, reify, reifyL, readL, readOne, Mwp, M.bind, Mem.set, setAt, cellsL, hG, f0, f1, f4, f5, o4]
    all_goals (rw [List.take_length] at mo0; rw [mo0]; rfl)
theorem Put11_len (l : List Lsa) (x : Lsa) : ∀ k, k ≤ l.length → (rS Lsa.o l x k).1.length ≤ 2 * k
  | 0, _ => by simp [rS]
  | k + 1, h => by
    have i := Put11_len l x k (by omega)
    rw [rS_succ (by omega), rstep]
    split <;> split <;> simp <;> omega
theorem good_Put11 (nil : Bool) (l : List Lsa) (hl : l.length ≤ 1000000) (x : Lsa) : Good Try.prog 59 [(.sl 3 nil (l.map lsaA), false), (lsaA x, false)] [] [(.sl 3 false ((refPut Lsa.o l x).map lsaA), false)] [] := by
  refine good_of_body2 53 Try.func59 rfl rfl rfl (by simp) ?_
  intro s m ha hr hv hG
  have f0 : s 0 = .v (.sl 3 nil (l.map lsaA)) := ha 0 _ rfl
  have f1 : s 1 = .v (.agg [i64 x.o, i64 x.s, .sl 2 x.nil (x.ls.map linkA)]) := ha 1 _ rfl
  clear ha
  have hc : True := trivial
  have F := (And.intro f0 (And.intro f1 hG))
  refine AW.seq ?_
  refine AW.region (cfg := cfg) ?_
  refine stp (fun _ h => sb h) ?_
  refine stp (fun _ h => s0 h) ?_
  refine aops_nil ?_
  refine AW.seq ?_
  refine AW.region (cfg := cfg) ?_
  refine stp (fun _ h => sq h) ?_
  refine stp (fun _ h => st h) ?_
  refine aops_nil ?_
  refine AW.seq ?_
  refine AW.region (cfg := cfg) ?_
  refine stp (fun _ h => s0 h) ?_
  refine aops_nil ?_
  refine AW.seq ?_
  refine AW.seq ?_
  refine AW.region (cfg := cfg) ?_
  refine stp (fun _ h => s0 h) ?_
  refine aops_nil ?_
  refine AW.block ?_
  refine AW.forN (fun k σ => ∃ s m, σ = ⟨53, s, m⟩ ∧ s 0 = .v (.sl 3 nil (l.map lsaA)) ∧ s 3 = .lptr (.tmp 3 0) (m.objs (.tmp 3 0)).1 0 ∧ (m.objs (.tmp 3 0)).2 = .box [.v (i64 x.o), .v (i64 x.s), .v (.sl 2 x.nil (x.ls.map linkA))] ∧ s 5 = .own (.var 5) (m.objs (.var 5)).1 0 ((rS Lsa.o l x k).1.length) ∧ (m.objs (.var 5)).2 = .arr false 3 ((rS Lsa.o l x k).1.map lsaA) ∧ s 6 = .v (.b (rS Lsa.o l x k).2) ∧ s 7 = .v (i64 (k : Int)) ∧ (∀ i, (m.objs (.res i)).2 = .dead) ∧ m.G = []) (l.length) ?_ ?_ ?_
  · refine ⟨_, _, rfl, ?_, ?_, ?_, ?_, ?_, ?_, ?_, (by intro i; simp [Mem.set, hr]), (by exact hG)⟩ <;> try simp (disch := first | omega | decide) only [go_sem, F, aIndex_map]
    all_goals rfl
  · clear F f0 f1 hr hG
    rintro k σ hk ⟨s, m, rfl, f0, f3, o3, f5, o5, f6, f7, hr, hG⟩
    obtain ⟨g3, o3⟩ : ∃ g, m.objs (.tmp 3 0) = (g, .box [.v (i64 x.o), .v (i64 x.s), .v (.sl 2 x.nil (x.ls.map linkA))]) := ⟨_, Prod.ext rfl o3⟩
    rw [o3] at f3
    obtain ⟨g5, o5⟩ : ∃ g, m.objs (.var 5) = (g, .arr false 3 ((rS Lsa.o l x k).1.map lsaA)) := ⟨_, Prod.ext rfl o5⟩
    rw [o5] at f5
    have F := (And.intro f0 (And.intro f3 (And.intro f5 (And.intro f6 (And.intro f7 (And.intro o3 (And.intro o5 hG)))))))
    refine AW.seq ?_
    refine AW.seq ?_
    refine AW.region (cfg := cfg) ?_
    iterate 2 refine stp (fun _ h => s0 h) ?_
    refine stp (fun _ h => sd h) ?_
    refine stp (fun _ h => s0 h) ?_
    refine aops_nil ?_
    refine cnd (fun hb => ?ht1) (fun hb => ?hf1)
    case hf1 => (simp at hb; omega)
    case ht1 =>
    have hbt12 := hb
    refine AW.skip ?_
    refine AW.seq ?_
    refine AW.block ?_
    refine AW.seq ?_
    refine AW.seq ?_
    refine AW.draw (cfg := cfg) (by kernel_rfl) (by kernel_rfl) (by kernel_rfl) ?_
    iterate 3 refine dstp (fun _ h => s0 h) ?_
    iterate 2 refine dmrg wa (fun hc _ h => s0 h) ?_
    refine dmrg wa (fun hc _ h => si h) ?_
    refine dmrg wa (fun hc _ h => sx h) ?_
    refine dmrg wa (fun hc _ h => sl h) ?_
    refine dmrg wa (fun hc _ h => sx h) ?_
    refine dmrg wa (fun hc _ h => sl h) ?_
    refine dmrg wa (fun hc _ h => s0 h) ?_
    refine dstp (fun _ h => s0 h) ?_
    refine adraw_nil (by kernel_rfl) ?_
    refine cnd (fun hb => ?ht2) (fun hb => ?hf2)
    case ht2 =>
      have hw26 := hb
      try simp only [bo1, bo2, bo3, bo4, bo5, bo6] at hb
      have hbt26 := hb
      refine AW.seq ?_
      have wl := Put11_len l x k (by omega)
      refine AW.region (cfg := cfg) ?_
      refine stp (fun _ h => s0 h) ?_
      refine stp (fun _ h => sl h) ?_
      refine stp (fun _ h => sq h) ?_
      refine stp (fun _ h => sp h) ?_
      refine stp (fun _ h => st h) ?_
      refine aops_nil ?_
      refine AW.region (cfg := cfg) ?_
      refine stp (fun _ h => s0 h) ?_
      refine aops_nil ?_
      refine AW.seq ?_
      refine AW.draw (cfg := cfg) (by kernel_rfl) (by kernel_rfl) (by kernel_rfl) ?_
      iterate 2 refine dstp (fun _ h => s0 h) ?_
      refine dstp (fun _ h => si h) ?_
      refine dstp (fun _ h => sx h) ?_
      refine dstp (fun _ h => sl h) ?_
      refine dstp (fun _ h => sx h) ?_
      refine dstp (fun _ h => sl h) ?_
      refine dstp (fun _ h => s0 h) ?_
      refine adraw_nil (by kernel_rfl) ?_
      refine cnd (fun hb => ?ht3) (fun hb => ?hf3)
      case ht3 =>
        have hw38 := hb
        try simp only [bo1, bo2, bo3, bo4, bo5, bo6] at hb
        have hbt38 := hb
        have wl := Put11_len l x k (by omega)
        refine AW.region (cfg := cfg) ?_
        iterate 3 refine stp (fun _ h => s0 h) ?_
        refine stp (fun _ h => si h) ?_
        refine stp (fun _ h => sl h) ?_
        refine stp (fun _ h => sq h) ?_
        refine stp (fun _ h => sp h) ?_
        refine stp (fun _ h => st h) ?_
        refine aops_nil ?_
        refine AW.region (cfg := cfg) ?_
        refine stp (fun _ h => s0 h) ?_
        refine stp (fun _ h => sd h) ?_
        refine stp (fun _ h => s0 h) ?_
        refine aops_nil ?_
        refine ⟨_, _, rfl, ?_, ?_, ?_, ?_, ?_, ?_, ?_, (by intro i; simp [Mem.set, hr]), (by exact hG)⟩ <;> try simp (disch := first | omega | decide) only [go_sem, F, aIndex_map]
        all_goals first | rfl | (rw [rS_tt hk hw26 hw38]; done) | (rw [rS_tt hk hw26 hw38]; simp; done) | (rw [rS_tt hk hw26 hw38]; simp [lsaA]; done)
      case hf3 =>
        have hw38 := hb
        try simp only [bo1, bo2, bo3, bo4, bo5, bo6] at hb
        have hbt38 := hb
        refine AW.skip ?_
        refine AW.region (cfg := cfg) ?_
        refine stp (fun _ h => s0 h) ?_
        refine stp (fun _ h => sd h) ?_
        refine stp (fun _ h => s0 h) ?_
        refine aops_nil ?_
        refine ⟨_, _, rfl, ?_, ?_, ?_, ?_, ?_, ?_, ?_, (by intro i; simp [Mem.set, hr]), (by exact hG)⟩ <;> try simp (disch := first | omega | decide) only [go_sem, F, aIndex_map]
        all_goals first | rfl | (rw [rS_tf hk hw26 hw38]; done) | (rw [rS_tf hk hw26 hw38]; simp; done) | (rw [rS_tf hk hw26 hw38]; simp [lsaA]; done)
    case hf2 =>
      have hw26 := hb
      try simp only [bo1, bo2, bo3, bo4, bo5, bo6] at hb
      have hbt26 := hb
      refine AW.skip ?_
      refine AW.seq ?_
      refine AW.draw (cfg := cfg) (by kernel_rfl) (by kernel_rfl) (by kernel_rfl) ?_
      iterate 2 refine dstp (fun _ h => s0 h) ?_
      refine dstp (fun _ h => si h) ?_
      refine dstp (fun _ h => sx h) ?_
      refine dstp (fun _ h => sl h) ?_
      refine dstp (fun _ h => sx h) ?_
      refine dstp (fun _ h => sl h) ?_
      refine dstp (fun _ h => s0 h) ?_
      refine adraw_nil (by kernel_rfl) ?_
      refine cnd (fun hb => ?ht4) (fun hb => ?hf4)
      case ht4 =>
        have hw38 := hb
        try simp only [bo1, bo2, bo3, bo4, bo5, bo6] at hb
        have hbt38 := hb
        have wl := Put11_len l x k (by omega)
        refine AW.region (cfg := cfg) ?_
        iterate 3 refine stp (fun _ h => s0 h) ?_
        refine stp (fun _ h => si h) ?_
        refine stp (fun _ h => sl h) ?_
        refine stp (fun _ h => sq h) ?_
        refine stp (fun _ h => sp h) ?_
        refine stp (fun _ h => st h) ?_
        refine aops_nil ?_
        refine AW.region (cfg := cfg) ?_
        refine stp (fun _ h => s0 h) ?_
        refine stp (fun _ h => sd h) ?_
        refine stp (fun _ h => s0 h) ?_
        refine aops_nil ?_
        refine ⟨_, _, rfl, ?_, ?_, ?_, ?_, ?_, ?_, ?_, (by intro i; simp [Mem.set, hr]), (by exact hG)⟩ <;> try simp (disch := first | omega | decide) only [go_sem, F, aIndex_map]
        all_goals first | rfl | (rw [rS_ft hk hw26 hw38]; done) | (rw [rS_ft hk hw26 hw38]; simp; done) | (rw [rS_ft hk hw26 hw38]; simp [lsaA]; done)
      case hf4 =>
        have hw38 := hb
        try simp only [bo1, bo2, bo3, bo4, bo5, bo6] at hb
        have hbt38 := hb
        refine AW.skip ?_
        refine AW.region (cfg := cfg) ?_
        refine stp (fun _ h => s0 h) ?_
        refine stp (fun _ h => sd h) ?_
        refine stp (fun _ h => s0 h) ?_
        refine aops_nil ?_
        refine ⟨_, _, rfl, ?_, ?_, ?_, ?_, ?_, ?_, ?_, (by intro i; simp [Mem.set, hr]), (by exact hG)⟩ <;> try simp (disch := first | omega | decide) only [go_sem, F, aIndex_map]
        all_goals first | rfl | (rw [rS_ff hk hw26 hw38]; done)
  · clear F f0 f1 hr hG
    rintro σ ⟨s, m, rfl, f0, f3, o3, f5, o5, f6, f7, hr, hG⟩
    obtain ⟨g3, o3⟩ : ∃ g, m.objs (.tmp 3 0) = (g, .box [.v (i64 x.o), .v (i64 x.s), .v (.sl 2 x.nil (x.ls.map linkA))]) := ⟨_, Prod.ext rfl o3⟩
    rw [o3] at f3
    obtain ⟨g5, o5⟩ : ∃ g, m.objs (.var 5) = (g, .arr false 3 ((rS Lsa.o l x l.length).1.map lsaA)) := ⟨_, Prod.ext rfl o5⟩
    rw [o5] at f5
    have F := (And.intro f0 (And.intro f3 (And.intro f5 (And.intro f6 (And.intro f7 (And.intro o3 (And.intro o5 hG)))))))
    refine AW.seq ?_
    refine AW.seq ?_
    refine AW.region (cfg := cfg) ?_
    iterate 2 refine stp (fun _ h => s0 h) ?_
    refine stp (fun _ h => sd h) ?_
    refine stp (fun _ h => s0 h) ?_
    refine aops_nil ?_
    refine cnd (fun hb => ?ht5) (fun hb => ?hf5)
    case ht5 => (simp at hb; done)
    case hf5 =>
    have hbt12 := hb
    refine AW.exit ?_
    refine AW.seq ?_
    refine AW.seq ?_
    refine AW.region (cfg := cfg) ?_
    iterate 2 refine stp (fun _ h => s0 h) ?_
    refine aops_nil ?_
    refine cnd (fun hb => ?ht6) (fun hb => ?hf6)
    case ht6 =>
      have hw47 := hb
      try simp only [bo1, bo2, bo3, bo4, bo5, bo6] at hb
      have hbt47 := hb
      have wl := Put11_len l x l.length (Nat.le_refl _)
      refine AW.region (cfg := cfg) ?_
      refine stp (fun _ h => s0 h) ?_
      refine stp (fun _ h => sl h) ?_
      refine stp (fun _ h => sq h) ?_
      refine stp (fun _ h => sp h) ?_
      refine stp (fun _ h => st h) ?_
      refine aops_nil ?_
      refine AW.seq ?_
      refine AW.region (cfg := cfg) ?_
      refine stp (fun _ h => s0 h) ?_
      refine stp (fun _ h => sm h) ?_
      refine aops_nil ?_
      refine AW.ret ?_
      refine ⟨.inr rfl, ?_⟩
      refine leaves_tmp1 4 rfl ?_ (by exact hG)
      simp (disch := first | omega | decide) only [go_sem, F, aIndex_map]
      all_goals (rw [rfin_t hw47, sub_full (by simp)]; simp [lsaA]; done)
    case hf6 =>
      have hw47 := hb
      try simp only [bo1, bo2, bo3, bo4, bo5, bo6] at hb
      have hbt47 := hb
      refine AW.skip ?_
      refine AW.seq ?_
      refine AW.region (cfg := cfg) ?_
      refine stp (fun _ h => s0 h) ?_
      refine stp (fun _ h => sm h) ?_
      refine aops_nil ?_
      refine AW.ret ?_
      refine ⟨.inr rfl, ?_⟩
      refine leaves_tmp1 4 rfl ?_ (by exact hG)
      simp (disch := first | omega | decide) only [go_sem, F, aIndex_map]
      all_goals (rw [rfin_f hw47, sub_full (by simp)]; done)
theorem good_BSearchLsa (nil : Bool) (l : List Lsa) (t : Int) (f : FuncId) (hl : l.length ≤ 1000000) (hs : Rise Lsa.o l) (hpu : cfg.pure f = true) (hsc : cfg.scalar f = true) (hxf : cfg.xfer f = false) (hp : ∀ x, Good Try.prog f [(lsaA x, false), (i64 t, false)] [] [(i64 (cmpI (Lsa.o x) t), false)] []) : Good Try.prog 68 [(.sl 3 nil (l.map lsaA), false), (i64 t, false), (.clo f [], false)] [] [(i64 (posK Lsa.o l t : Nat), false), (.b (isK Lsa.o l t), false)] [] := by
  refine good_of_body2 49 Try.func68 rfl rfl rfl (by simp) ?_
  intro s m ha hr hv hG
  have f0 : s 0 = .v (.sl 3 nil (l.map lsaA)) := ha 0 _ rfl
  have f1 : s 1 = .v (i64 t) := ha 1 _ rfl
  have f2 : s 2 = .v (.clo f []) := ha 2 _ rfl
  clear ha
  have hc : True := trivial
  have F := (And.intro f0 (And.intro f1 (And.intro f2 hG)))
  obtain ⟨N, hlt, hge⟩ := bs_end Lsa.o l t
  refine AW.seq ?_
  refine AW.region (cfg := cfg) ?_
  iterate 2 refine stp (fun _ h => s0 h) ?_
  refine aops_nil ?_
  refine AW.seq ?_
  refine AW.region (cfg := cfg) ?_
  refine stp (fun _ h => s0 h) ?_
  refine stp (fun _ h => sd h) ?_
  refine stp (fun _ h => s0 h) ?_
  refine aops_nil ?_
  refine AW.seq ?_
  refine AW.region (cfg := cfg) ?_
  iterate 3 refine stp (fun _ h => s0 h) ?_
  refine aops_nil ?_
  refine AW.seq ?_
  refine AW.block ?_
  refine AW.forN (fun k σ => ∃ s m, σ = ⟨49, s, m⟩ ∧ s 0 = .v (.sl 3 nil (l.map lsaA)) ∧ s 1 = .v (i64 t) ∧ s 2 = .v (.clo f []) ∧ s 8 = .v (i64 (l.length : Int)) ∧ s 9 = .v (i64 ((bsS Lsa.o l t k).1 : Int)) ∧ s 10 = .v (i64 ((bsS Lsa.o l t k).2 : Int)) ∧ (∀ i, (m.objs (.res i)).2 = .dead) ∧ m.G = []) (N) ?_ ?_ ?_
  · refine ⟨_, _, rfl, ?_, ?_, ?_, ?_, ?_, ?_, (by intro i; simp [Mem.set, hr]), (by exact hG)⟩ <;> try simp (disch := first | omega | decide) only [go_sem, F, aIndex_map]
    all_goals rfl
  · clear F f0 f1 f2 hr hG
    rintro k σ hk ⟨s, m, rfl, f0, f1, f2, f8, f9, f10, hr, hG⟩
    have F := (And.intro f0 (And.intro f1 (And.intro f2 (And.intro f8 (And.intro f9 (And.intro f10 hG))))))
    refine AW.seq ?_
    refine AW.seq ?_
    refine AW.region (cfg := cfg) ?_
    iterate 3 refine stp (fun _ h => s0 h) ?_
    refine aops_nil ?_
    refine cnd (fun hb => ?ht1) (fun hb => ?hf1)
    case hf1 => (have hb1 := of_decide_eq_false hb; have hlt2 := hlt _ hk; omega)
    case ht1 =>
    have hbt17 := hb
    refine AW.skip ?_
    refine AW.block ?_
    refine AW.seq ?_
    have hbl := bs_le Lsa.o l t k
    have hlt2 := hlt k hk
    have hmid : IntKind.i64.wrap ((((bsS Lsa.o l t k).1 : Int) + ((bsS Lsa.o l t k).2 : Int)) / 2 ^ Int.toNat 1) = ((bsM (bsS Lsa.o l t k) : Nat) : Int) := bs_mid (by omega)
    have F := And.intro hmid F
    refine AW.region (cfg := cfg) ?_
    iterate 2 refine stp (fun _ h => s0 h) ?_
    iterate 4 refine stp (fun _ h => sd h) ?_
    refine stp (fun _ h => s0 h) ?_
    refine aops_nil ?_
    refine AW.seq ?_
    have hbl := bs_le Lsa.o l t k
    have hlt2 := hlt k hk
    have hmd : bsM (bsS Lsa.o l t k) < l.length := by simp only [bsM]; omega
    refine AW.region (cfg := cfg) ?_
    iterate 3 refine stp (fun _ h => s0 h) ?_
    refine stp (fun _ h => si h) ?_
    refine stp (fun _ h => sl h) ?_
    refine stp (fun _ h => s0 h) ?_
    apply aops_step (by decide) rfl
    · intro K hK
      simp (disch := first | omega | decide) only [go_sem, F, aIndex_map, act_callv, List.map]
      apply mwp_call_sc hpu hxf hsc
      · intro Q hQ
        simp (disch := first | omega | decide) only [go_sem, F, aIndex_map, peekL, reifyL_nil, reifyL_cons, reify_v]
        exact hQ
      · exact hp _
      · simp [noPtrL, noPtr, lsaA]
      · rfl
      · exact hK _
    refine stp (fun _ h => s0 h) ?_
    refine aops_nil ?_
    refine cnd (fun hb => ?ht2) (fun hb => ?hf2)
    case ht2 =>
      have hw31 := hb
      try simp only [bo1, bo2, bo3, bo4, bo5, bo6] at hb
      have hbt31 := hb
      refine AW.region (cfg := cfg) ?_
      refine stp (fun _ h => s0 h) ?_
      refine stp (fun _ h => sd h) ?_
      refine stp (fun _ h => s0 h) ?_
      refine aops_nil ?_
      refine ⟨_, _, rfl, ?_, ?_, ?_, ?_, ?_, ?_, (by intro i; simp [Mem.set, hr]), (by exact hG)⟩ <;> try simp (disch := first | omega | decide) only [go_sem, F, aIndex_map]
      all_goals first | (rw [bs_yes hlt2 (bs_at1 hmd hb)]; done) | (rw [bs_yes hlt2 (bs_at1 hmd hb)]; rfl)
    case hf2 =>
      have hw31 := hb
      try simp only [bo1, bo2, bo3, bo4, bo5, bo6] at hb
      have hbt31 := hb
      refine AW.region (cfg := cfg) ?_
      iterate 2 refine stp (fun _ h => s0 h) ?_
      refine aops_nil ?_
      refine ⟨_, _, rfl, ?_, ?_, ?_, ?_, ?_, ?_, (by intro i; simp [Mem.set, hr]), (by exact hG)⟩ <;> try simp (disch := first | omega | decide) only [go_sem, F, aIndex_map]
      all_goals (rw [bs_no hlt2 (bs_at2 hmd hb)]; done)
  · clear F f0 f1 f2 hr hG
    rintro σ ⟨s, m, rfl, f0, f1, f2, f8, f9, f10, hr, hG⟩
    have F := (And.intro f0 (And.intro f1 (And.intro f2 (And.intro f8 (And.intro f9 (And.intro f10 hG))))))
    refine AW.seq ?_
    refine AW.seq ?_
    refine AW.region (cfg := cfg) ?_
    iterate 3 refine stp (fun _ h => s0 h) ?_
    refine aops_nil ?_
    refine cnd (fun hb => ?ht3) (fun hb => ?hf3)
    case ht3 => (simp at hb; omega)
    case hf3 =>
    have hbt17 := hb
    refine AW.exit ?_
    refine AW.seq ?_
    rw [bs_pos hs hge] at f9
    have F := (And.intro f0 (And.intro f1 (And.intro f2 (And.intro f8 (And.intro f9 (And.intro f10 hG))))))
    by_cases hsp : ((posK Lsa.o l t : Nat) : Int) < (l.length : Int)
    · have hd := decide_eq_true hsp
      have hpl : posK Lsa.o l t < l.length := by omega
      have F := And.intro hd F
      refine AW.region (cfg := cfg) ?_
      iterate 8 refine stp (fun _ h => s0 h) ?_
      refine stp (fun _ h => si h) ?_
      refine stp (fun _ h => sl h) ?_
      refine stp (fun _ h => s0 h) ?_
      apply aops_step (by decide) rfl
      · intro K hK
        simp (disch := first | omega | decide) only [go_sem, F, aIndex_map, act_callv, List.map]
        apply mwp_call_sc hpu hxf hsc
        · intro Q hQ
          simp (disch := first | omega | decide) only [go_sem, F, aIndex_map, peekL, reifyL_nil, reifyL_cons, reify_v]
          exact hQ
        · exact hp _
        · simp [noPtrL, noPtr, lsaA]
        · rfl
        · exact hK _
      iterate 4 refine stp (fun _ h => s0 h) ?_
      refine aops_nil ?_
      refine AW.ret ?_
      refine ⟨.inr rfl, ?_⟩
      refine leaves_mwp2 (rs := [.tmp 6, .tmp 7]) rfl ?_
      simp (config := {failIfUnchanged := false}) [giveL, srcOne, rehome, freezeN, sub, upd, opn, aLoad, loadL, giveOne, reify, reifyL, readL, readOne, Mwp, M.bind, Mem.set, setAt, cellsL, hG, f0, f1, f2, f8, f9, f10, hd]
      all_goals (rw [isK_in2 hs hpl]; done)
    · have hd := decide_eq_false hsp
      have hpl : ¬ posK Lsa.o l t < l.length := by omega
      have F := And.intro hd F
      refine AW.region (cfg := cfg) ?_
      iterate 5 refine stp (fun _ h => s0 h) ?_
      iterate 8 refine skp ?_
      iterate 3 refine stp (fun _ h => s0 h) ?_
      refine aops_nil ?_
      refine AW.ret ?_
      refine ⟨.inr rfl, ?_⟩
      refine leaves_mwp2 (rs := [.tmp 6, .tmp 7]) rfl ?_
      simp (config := {failIfUnchanged := false}) [giveL, srcOne, rehome, freezeN, sub, upd, opn, aLoad, loadL, giveOne, reify, reifyL, readL, readOne, Mwp, M.bind, Mem.set, setAt, cellsL, hG, f0, f1, f2, f8, f9, f10, hd]
      all_goals (rw [isK_out hs hpl]; done)
theorem good_CloneLsa (nil : Bool) (l : List Lsa) (hl : l.length ≤ 1000000000000) (hz : nil = true → l = []) : Good Try.prog 47 [(.sl 3 nil (l.map lsaA), false)] [] [(.sl 3 nil (l.map lsaA), true)] [] := by
  refine good_of_body3 8 Try.func47 rfl rfl rfl (by simp) ?_
  intro s m ha hr hv hG
  have f0 : s 0 = .v (.sl 3 nil (l.map lsaA)) := ha 0 _ rfl
  clear ha
  have hc : True := trivial
  have F := (And.intro f0 hG)
  refine AW.seq ?_
  refine AW.region (cfg := cfg) ?_
  refine stp (fun _ h => s0 h) ?_
  refine aops_nil ?_
  refine AW.seq ?_
  refine AW.seq ?_
  refine AW.region (cfg := cfg) ?_
  iterate 2 refine stp (fun _ h => s0 h) ?_
  refine aops_nil ?_
  refine cnd (fun hb => ?ht1) (fun hb => ?hf1)
  case ht1 =>
    have hw4 := hb
    try simp only [bo1, bo2, bo3, bo4, bo5, bo6] at hb
    have hbt4 := hb
    refine AW.seq ?_
    refine AW.region (cfg := cfg) ?_
    refine stp (fun _ h => s0 h) ?_
    refine aops_nil ?_
    refine AW.ret ?_
    refine ⟨.inr rfl, ?_⟩
    (obtain rfl : nil = true := (by simpa using hb); obtain rfl := hz rfl; refine ⟨_, nilEq_nil (nilEq_refl _), leaves_own1 2 rfl (by simp (disch := first | omega | decide) only [go_sem, F, aIndex_map] <;> rfl) (by simp (disch := first | omega | decide) only [go_sem, F, aIndex_map] <;> rfl) (by decide) (by simp [sub, List.take_of_length_le]) (by exact hG)⟩)
  case hf1 =>
    have hw4 := hb
    try simp only [bo1, bo2, bo3, bo4, bo5, bo6] at hb
    have hbt4 := hb
    refine AW.skip ?_
    refine AW.seq ?_
    refine AW.region (cfg := cfg) ?_
    refine stp (fun _ h => sq h) ?_
    refine stp (fun _ h => s0 h) ?_
    refine stp (fun _ h => sp h) ?_
    refine stp (fun _ h => st h) ?_
    refine aops_nil ?_
    refine AW.ret ?_
    refine ⟨.inr rfl, ?_⟩
    (obtain rfl : nil = false := (by simpa using hb); refine leavesN (leaves_own1 2 rfl (by simp (disch := first | omega | decide) only [go_sem, F, aIndex_map] <;> rfl) (by simp (disch := first | omega | decide) only [go_sem, F, aIndex_map] <;> rfl) (by decide) (by simp [sub, List.take_of_length_le]) (by exact hG)))
end Go.Vai.DB
namespace Go.Vai.DB
open Go.Proofs Go.Vai Go.Vai.D Go.Vai.I Go.Vai.L Go.Vai.N Go.Vai.O
set_option linter.unusedSimpArgs false
set_option linter.unusedVariables false
set_option maxHeartbeats 4000000
set_option maxRecDepth 100000
theorem InsLsa_shift (inf : TypeInfo) (hi0 : Try.prog.info? 50 = some inf) (hsz : inf.size = 3) (b n c i vc : Nat) (ad : Addr) (cs : Array Value) (tb : TypeId) (ca0 : Array Value) (ta : TypeId) (fa : Nat × Nat) (vs : List Value) (w : World) (hi : i < n) (hroom : n + 1 ≤ c) (hc63 : c ≤ 9223372036854775807)
    (hb : w.heap[b]? = some (.cells cs tb (0, 0))) (hcs : c * 3 ≤ cs.size) (hne : ad.block ≠ b) (ha : w.heap[ad.block]? = some (.cells ca0 ta fa)) (hka : ca0.size ≠ 0)
    (hvl : vs.length = 3) (hvs : ∀ j v, vs[j]? = some v → w.cell? (ad.add j) = some v) (h1c : ∀ v ∈ cs.toList.take (n * 3), v.oneCell' = true) (h1v : ∀ v ∈ vs, v.oneCell' = true) :
    Calls Try.prog 71 #[.slice (some ⟨b, 0, none⟩) n c, .int .i64 i, .slice (some ad) 1 vc] w fun e w' =>
      e = .returned (.slice (some ⟨b, 0, none⟩) (n + 1) c) ∧ w' = (w.drew.setRow b (spl cs ((i + 1) * 3) ((cs.toList.take (n * 3)).drop (i * 3)))).setRow b (spl (spl cs ((i + 1) * 3) ((cs.toList.take (n * 3)).drop (i * 3))) (i * 3) vs) := by
  have tS := un22
  have uS' := run_underlying (P := Try.prog) un22
  have t3 : Try.prog.underlying 3 = some (.int .i64) := by kernel_rfl
  have u3' := run_underlying (P := Try.prog) t3
  have zE : ∀ w, (Go.sizeOf 50).run Try.prog w = .ok 3 w := fun w => by rw [run_sizeOf hi0, hsz]
  have hz2 : ¬ ((i : Int) = (n : Int)) := by omega
  have hov : ∀ lb cb, (callFunc 77 #[.slice (some ad) 1 vc, .slice (some ⟨b, (i + 1) * 3, none⟩) lb cb]).run Try.prog w = .ok (.value (.bool false)) w := fun lb cb => by
    rw [run_callFunc_extern Try.func77 (by kernel_rfl) (by kernel_rfl) (by kernel_rfl) (e := Extern.SlicesOverlaps.overlaps #[22, 22] #[4]) (by kernel_rfl),
      run_overlaps_own tS hi0 hne ha hb (by omega) hka]
    rfl
  obtain ⟨mv, hmv⟩ : ∃ mv, mv = (cs.toList.take (n * 3)).drop (i * 3) := ⟨_, rfl⟩
  rw [← hmv]
  have hml : mv.length = (n - i) * inf.size := by rw [hmv, hsz]; simp; omega
  have hcp1 : ∀ ty dc sc, (Builtin.copy_ #[22, 22] ty #[.slice (some ⟨b, (i + 1) * 3, none⟩) (n - i) dc, .slice (some ⟨b, i * 3, none⟩) (n + 1 - i) sc]).run Try.prog w.drew = .ok (goInt (n - i : Nat)) (w.drew.setRow b (spl cs ((i + 1) * 3) mv)) := fun ty dc sc =>
    run_copy_k w.drew 22 22 ty 50 inf mv tS hi0 (n - i) (by simp only [Nat.min_def]; split <;> omega) hml
      (fun j v hj => by
        rw [add_off]
        show w.cell? _ = _
        simp only [World.cell?, hb]
        rw [hmv, List.getElem?_drop, List.getElem?_take] at hj
        split at hj
        · simpa using hj
        · cases hj) hb (by rw [hml, hsz]; omega) (fun v hv => h1c v (by rw [hmv] at hv; exact List.mem_of_mem_drop hv))
  obtain ⟨cs1, hcs1⟩ : ∃ cs1, cs1 = spl cs ((i + 1) * 3) mv := ⟨_, rfl⟩
  rw [← hcs1] at hcp1 ⊢
  have hb1 : (w.drew.setRow b cs1).heap[b]? = some (.cells cs1 tb (0, 0)) := setRow_heap w.drew b cs cs1 tb (0, 0) hb
  have hs1 : cs1.size = cs.size := by rw [hcs1]; exact spl_size (by rw [hml, hsz]; omega)
  have hcp2 : ∀ ty dc, (Builtin.copy_ #[22, 22] ty #[.slice (some ⟨b, i * 3, none⟩) (n + 1 - i) dc, .slice (some ad) 1 vc]).run Try.prog (w.drew.setRow b cs1) = .ok (goInt (1 : Nat)) ((w.drew.setRow b cs1).setRow b (spl cs1 (i * 3) vs)) := fun ty dc =>
    run_copy_k _ 22 22 ty 50 inf vs tS hi0 1 (by simp only [Nat.min_def]; split <;> omega) (by rw [hvl, hsz])
      (fun j v hj => by
        have e : (ad.add j).block ≠ b := by rw [add_block]; exact hne
        rw [cell_setRow_other _ _ _ _ e]
        exact hvs j v hj) hb1 (by rw [hvl, hs1]; omega) h1v
  have hw1 : IntKind.i64.wrap ((i : Int) + 1) = (i : Int) + 1 := by rw [IntKind.wrap_i64]; omega
  have hw2 : (0 : Int) ≤ (i : Int) + 1 := by omega
  have hw3 : (i : Int) + 1 ≤ (n : Int) + 1 := by omega
  have hw4 : (i : Int) ≤ (n : Int) + 1 := by omega
  have htn : ((i : Int) + 1).toNat = i + 1 := by omega
  have hin : i ≤ n := by omega
  have hb4 : ¬ (c = i) := by omega
  have hb2 : ¬ (c = i + 1) := by omega
  have hb5 : n + 1 - (i + 1) = n - i := by omega
  have mixed : Try.prog.follows .mixedOrders = true := by kernel_rfl
  clear hcs1 hmv hs1 hml
  go_enter Try.func71, Try.ntmps71
  go_wp2_with (simp only [hov])
  go_region_law_o (refine step_copy_runI rfl _ _ 22 22 rfl _ _ (by simp [Act.eval, Act.put]) (by simp [Act.eval, Act.put]) (hcp1 _ _ _) ?_)
  go_wp2_with (at_builtin; refine wpList_copy_runI _ rfl _ _ 22 22 rfl _ _ rfl rfl (hcp2 _ _) ?_)
  go_ret
  exact ⟨rfl, rfl⟩
theorem InsLsa_end0 (inf : TypeInfo) (hi0 : Try.prog.info? 50 = some inf) (hsz : inf.size = 3) (vc : Nat) (ad : Addr) (w w2 : World) (v2 : Value)
    (hrun : ∀ ty, (Builtin.append_ #[22, 22] ty #[.slice none 0 0, .slice (some ad) 1 vc]).run Try.prog w = .ok v2 w2) :
    Calls Try.prog 71 #[.slice none 0 0, .int .i64 (0 : Nat), .slice (some ad) 1 vc] w fun e w' => e = .returned v2 ∧ w' = w2 := by
  have tS := un22
  have uS' := run_underlying (P := Try.prog) un22
  have t3 : Try.prog.underlying 3 = some (.int .i64) := by kernel_rfl
  have u3' := run_underlying (P := Try.prog) t3
  have zE : ∀ w, (Go.sizeOf 50).run Try.prog w = .ok 3 w := fun w => by rw [run_sizeOf hi0, hsz]
  go_enter Try.func71, Try.ntmps71
  go_wp2_with (at_builtin; refine Lib.wpList_append_run _ rfl _ _ _ _ rfl _ _ rfl rfl _ _ (hrun _) ?_)
  go_ret
  exact ⟨rfl, rfl⟩
theorem InsLsa_end1 (inf : TypeInfo) (hi0 : Try.prog.info? 50 = some inf) (hsz : inf.size = 3) (b n c vc : Nat) (ad : Addr) (w w2 : World) (v2 : Value) (hnc : n ≤ c) (hc63 : c ≤ 9223372036854775807)
    (hrun : ∀ ty, (Builtin.append_ #[22, 22] ty #[.slice (some ⟨b, 0, none⟩) n c, .slice (some ad) 1 vc]).run Try.prog w = .ok v2 w2) :
    Calls Try.prog 71 #[.slice (some ⟨b, 0, none⟩) n c, .int .i64 n, .slice (some ad) 1 vc] w fun e w' => e = .returned v2 ∧ w' = w2 := by
  have tS := un22
  have uS' := run_underlying (P := Try.prog) un22
  have t3 : Try.prog.underlying 3 = some (.int .i64) := by kernel_rfl
  have u3' := run_underlying (P := Try.prog) t3
  have zE : ∀ w, (Go.sizeOf 50).run Try.prog w = .ok 3 w := fun w => by rw [run_sizeOf hi0, hsz]
  go_enter Try.func71, Try.ntmps71
  go_wp2_with (at_builtin; refine Lib.wpList_append_run _ rfl _ _ _ _ rfl _ _ rfl rfl _ _ (hrun _) ?_)
  all_goals (go_ret; exact ⟨rfl, rfl⟩)
theorem InsLsa_grow (inf : TypeInfo) (hi0 : Try.prog.info? 50 = some inf) (hsz : inf.size = 3) (b n c i vc G : Nat) (ad : Addr) (cs ROW : Array Value) (tb : TypeId) (vs : List Value) (w : World) (hi : i < n) (hnc : n ≤ c) (hroom : c < n + 1) (hc63 : c ≤ 9223372036854775807) (hG : n + 1 ≤ G) (hG63 : G ≤ 9223372036854775807)
    (hb : w.heap[b]? = some (.cells cs tb (0, 0))) (hcs : n * 3 ≤ cs.size) (hav : ad.block ≠ w.heap.size)
    (hvl : vs.length = 3) (hvs : ∀ j v, vs[j]? = some v → w.cell? (ad.add j) = some v) (h1c : ∀ v ∈ cs.toList.take (n * 3), v.oneCell' = true) (h1v : ∀ v ∈ vs, v.oneCell' = true)
    (hrun : ∀ ty, (Builtin.append_ #[22, 3] ty #[.slice (some ⟨b, 0, none⟩) i c, .int .i64 ((n : Int) + 1 - (i : Int))]).run Try.prog w = .ok (.slice (some ⟨w.heap.size, 0, none⟩) (n + 1) G) (w.drew.alloc (.cells ROW 50))) (hrow : (n + 1) * 3 ≤ ROW.size) :
    Calls Try.prog 71 #[.slice (some ⟨b, 0, none⟩) n c, .int .i64 i, .slice (some ad) 1 vc] w fun e w' =>
      e = .returned (.slice (some ⟨w.heap.size, 0, none⟩) (n + 1) G) ∧
      w' = (((w.drew.alloc (.cells ROW 50)).setRow w.heap.size (spl ROW (i * 3) vs)).drew).setRow w.heap.size (spl (spl ROW (i * 3) vs) ((i + 1) * 3) ((cs.toList.take (n * 3)).drop (i * 3))) := by
  have tS := un22
  have uS' := run_underlying (P := Try.prog) un22
  have t3 : Try.prog.underlying 3 = some (.int .i64) := by kernel_rfl
  have u3' := run_underlying (P := Try.prog) t3
  have zE : ∀ w, (Go.sizeOf 50).run Try.prog w = .ok 3 w := fun w => by rw [run_sizeOf hi0, hsz]
  have hz2 : ¬ ((i : Int) = (n : Int)) := by omega
  have hz3 : (c : Int) < (n : Int) + 1 := by omega
  obtain ⟨mv, hmv⟩ : ∃ mv, mv = (cs.toList.take (n * 3)).drop (i * 3) := ⟨_, rfl⟩
  rw [← hmv]
  have hml : mv.length = (n - i) * inf.size := by rw [hmv, hsz]; simp; omega
  have hbw : b < w.heap.size := (Array.getElem?_eq_some_iff.1 hb).1
  have hbN : b ≠ w.heap.size := by omega
  obtain ⟨N, hN⟩ : ∃ N, N = w.heap.size := ⟨_, rfl⟩
  obtain ⟨W1, hW1⟩ : ∃ W1, W1 = w.drew.alloc (.cells ROW 50) := ⟨_, rfl⟩
  have hbA : W1.heap[N]? = some (.cells ROW 50 (0, 0)) := by rw [hW1, hN]; exact alloc_new w.drew _
  have hbB : W1.heap[b]? = some (.cells cs tb (0, 0)) := by rw [hW1, alloc_same w.drew _ b hbw (by show b ≠ w.heap.size; omega)]; exact hb
  rw [← hW1, ← hN] at hrun ⊢
  rw [← hN] at hav hbN
  have hcpA : ∀ ty dc, (Builtin.copy_ #[22, 22] ty #[.slice (some ⟨N, i * 3, none⟩) (n + 1 - i) dc, .slice (some ad) 1 vc]).run Try.prog W1 = .ok (goInt (1 : Nat)) (W1.setRow N (spl ROW (i * 3) vs)) := fun ty dc =>
    run_copy_k _ 22 22 ty 50 inf vs tS hi0 1 (by simp only [Nat.min_def]; split <;> omega) (by rw [hvl, hsz])
      (fun j v hj => by
        have h := hvs j v hj
        have hlt : (ad.add j).block < w.drew.heap.size := by
          simp only [World.cell?] at h
          split at h
          · exact (Array.getElem?_eq_some_iff.1 (by assumption)).1
          · cases h
        rw [hW1]
        exact (cell_same (w := w) (w' := w.drew.alloc (.cells ROW 50)) (alloc_same w.drew _ _ hlt (by omega))).trans h) hbA (by omega) h1v
  obtain ⟨R2, hR2⟩ : ∃ R2, R2 = spl ROW (i * 3) vs := ⟨_, rfl⟩
  rw [← hR2] at hcpA ⊢
  have hs2 : R2.size = ROW.size := by rw [hR2]; exact spl_size (by omega)
  have hbC : (W1.setRow N R2).drew.heap[N]? = some (.cells R2 50 (0, 0)) := setRow_heap W1 N ROW R2 50 (0, 0) hbA
  have hbD : (W1.setRow N R2).drew.heap[b]? = some (.cells cs tb (0, 0)) := (setRow_other W1 N b R2 hbN).trans hbB
  have hcpB : ∀ ty dc sc, (Builtin.copy_ #[22, 22] ty #[.slice (some ⟨N, (i + 1) * 3, none⟩) (n - i) dc, .slice (some ⟨b, i * 3, none⟩) (n - i) sc]).run Try.prog (W1.setRow N R2).drew = .ok (goInt (n - i : Nat)) ((W1.setRow N R2).drew.setRow N (spl R2 ((i + 1) * 3) mv)) := fun ty dc sc =>
    run_copy_k _ 22 22 ty 50 inf mv tS hi0 (n - i) (by simp only [Nat.min_def]; split <;> omega) hml
      (fun j v hj => by
        rw [add_off]
        simp only [World.cell?, hbD]
        rw [hmv, List.getElem?_drop, List.getElem?_take] at hj
        split at hj
        · simpa using hj
        · cases hj) hbC (by rw [hml, hsz]; omega) (fun v hv => h1c v (by rw [hmv] at hv; exact List.mem_of_mem_drop hv))
  have hw1 : IntKind.i64.wrap ((i : Int) + 1) = (i : Int) + 1 := by rw [IntKind.wrap_i64]; omega
  have hw5 : IntKind.i64.wrap ((n : Int) + 1) = (n : Int) + 1 := by rw [IntKind.wrap_i64]; omega
  have hw6 : IntKind.i64.wrap ((n : Int) + 1 - (i : Int)) = (n : Int) + 1 - (i : Int) := by rw [IntKind.wrap_i64]; omega
  have hw2 : (0 : Int) ≤ (i : Int) + 1 := by omega
  have hw3 : (i : Int) + 1 ≤ (n : Int) + 1 := by omega
  have hw4 : (i : Int) ≤ (n : Int) + 1 := by omega
  have htn : ((i : Int) + 1).toNat = i + 1 := by omega
  have hin : i ≤ n := by omega
  have hic : (i : Int) ≤ (c : Int) := by omega
  have hb4 : ¬ (c = i) := by omega
  have hGi : ¬ (G = i) := by omega
  have hGim : ¬ (G = i + 1) := by omega
  have hb5 : n + 1 - (i + 1) = n - i := by omega
  have mixed : Try.prog.follows .mixedOrders = true := by kernel_rfl
  clear hR2 hmv hs2 hml hN hW1 hbA hbB hbC hbD hrow hcs
  go_enter Try.func71, Try.ntmps71
  go_wp2_with (first
    | (at_builtin; refine Lib.wpList_append_run _ rfl _ _ _ _ rfl _ _ rfl rfl _ _ (hrun _) ?_)
    | (at_builtin; refine wpList_copy_runI _ rfl _ _ 22 22 rfl _ _ rfl rfl (hcpA _ _) ?_)
    | (at_builtin; refine wpList_copy_runI _ rfl _ _ 22 22 rfl _ _ rfl rfl (hcpB _ _ _) ?_))
  go_region_law_o (refine step_copy_runI rfl _ _ 22 22 rfl _ _ (by simp [Act.eval, Act.put]) (by simp [Act.eval, Act.put]) (hcpB _ _ _) ?_)
  go_wp2
  go_ret
  exact ⟨rfl, rfl⟩
theorem runs_InsLsa : InsRuns Try.prog 71 22 3 50 3 := by
  have ti := tiOf_ok ti50
  obtain ⟨inf, z', dd, k1, k2, k3, k0, k4, k10, k5, k6, k7, k8, k9⟩ := ti.info
  have hsz : inf.size = 3 := k5.symm
  exact ⟨fun b n c i vc ad cs tb ca0 ta fa vs w h1 h2 h3 h4 h5 h6 h7 h8 h9 h10 h11 h12 => InsLsa_shift inf k1 hsz b n c i vc ad cs tb ca0 ta fa vs w h1 h2 h3 h4 h5 h6 h7 h8 h9 h10 h11 h12,
    fun vc ad w w2 v2 h => InsLsa_end0 inf k1 hsz vc ad w w2 v2 h, fun b n c vc ad w w2 v2 h1 h2 h => InsLsa_end1 inf k1 hsz b n c vc ad w w2 v2 h1 h2 h,
    fun b n c i vc G ad cs ROW tb vs w h1 h2 h3 h4 h5 h6 h7 h8 h9 h10 h11 h12 h13 h14 h15 => InsLsa_grow inf k1 hsz b n c i vc G ad cs ROW tb vs w h1 h2 h3 h4 h5 h6 h7 h8 h9 h10 h11 h12 h13 h14 h15⟩
theorem good_InsLsa (nil : Bool) (l : List Lsa) (y : Lsa) (i : Nat) (hi : i ≤ l.length) (hl : l.length ≤ 1000000) :
    Good Try.prog 71 [(.sl 3 nil (l.map lsaA), true), (i64 i, false), (.sl 3 false [lsaA y], false)] [] [(.sl 3 false ((l.take i ++ [y] ++ l.drop i).map lsaA), true)] [] := by
  have h := good_insert (tiOf_ok ti50) un22 (by kernel_rfl) ⟨_, _, Try.func71, rfl, rfl⟩ runs_InsLsa nil (l.map lsaA) (lsaA y) i (by simpa using hi) (by rw [List.length_map]; simp only [roomB]; omega)
  simpa only [List.map_append, List.map_take, List.map_drop, List.map_cons, List.map_nil] using h
end Go.Vai.DB
namespace Go.Vai.DB
open Go.Proofs Go.Vai Go.Vai.D Go.Vai.I Go.Vai.L Go.Vai.N Go.Vai.O
set_option linter.unusedSimpArgs false
set_option linter.unusedVariables false
theorem good_CopyX (x : Lsa) (h : fit x) : Good Try.prog 49 [(lsaA x, false)] [] [(lsaA x, false)] [] := L.good_Copy x (by have := h.1; omega) (by have := h.1; omega) h.2
end Go.Vai.DB
namespace Go.Vai.DB
open Go.Proofs Go.Vai Go.Vai.D Go.Vai.I Go.Vai.L Go.Vai.N Go.Vai.O
set_option linter.unusedSimpArgs false
set_option linter.unusedVariables false
end Go.Vai.DB
namespace Go.Vai.DB
open Go.Proofs Go.Vai Go.Vai.D Go.Vai.I Go.Vai.L Go.Vai.N Go.Vai.O
set_option linter.unusedSimpArgs false
set_option linter.unusedVariables false
theorem dfS_len {p : It → Bool} {l : List It} {a k : Nat} : (dfS p l a k).1.length = l.length := (df_len p l a k).1
attribute [simp] dfS_len
attribute [go_sem] dfS_len
end Go.Vai.DB
namespace Go.Vai.DB
open Go.Proofs Go.Vai Go.Vai.D Go.Vai.I Go.Vai.L Go.Vai.N Go.Vai.O
set_option linter.unusedSimpArgs false
set_option linter.unusedVariables false
def moreS (l : List Lsa) (y : It) : Bool := decide (sqL l y.o = 0) || decide (y.s > sqL l y.o)
def lackS (x : List It) (y : Lsa) : Bool := !hasI x (itm y)
def hasF (y : Lsa) (z : It) : Bool := decide (z.o = y.o) && decide (z.s ≥ y.s)
end Go.Vai.DB
namespace Go.Vai.DB
open Go.Proofs Go.Vai Go.Vai.D Go.Vai.I Go.Vai.L Go.Vai.N Go.Vai.O
set_option linter.unusedSimpArgs false
set_option linter.unusedVariables false
set_option maxHeartbeats 4000000
set_option maxRecDepth 100000
theorem good_refAllDb (na nb : Bool) (a b : List Lsa) (ha : a.length ≤ 9223372036854775807) (hb : b.length ≤ 9223372036854775807) (pa : ∀ x ∈ a, fit x) (pb : ∀ x ∈ b, fit x) : Good Try.prog 32 [(.sl 3 na (a.map lsaA), false), (.sl 3 nb (b.map lsaA), false)] [] [(.b (eqAll lsaEq a b), false)] [] := by
  refine good_of_body2 27 Try.func32 rfl rfl rfl (by simp) ?_
  intro s m ha hr hv hG
  have f0 : s 0 = .v (.sl 3 na (a.map lsaA)) := ha 0 _ rfl
  have f1 : s 1 = .v (.sl 3 nb (b.map lsaA)) := ha 1 _ rfl
  clear ha
  have hc : True := trivial
  have F := (And.intro f0 (And.intro f1 hG))
  refine AW.seq ?_
  refine AW.region (cfg := cfg) ?_
  refine stp (fun _ h => s0 h) ?_
  refine aops_nil ?_
  refine AW.seq ?_
  refine AW.seq ?_
  refine AW.region (cfg := cfg) ?_
  refine stp (fun _ h => s0 h) ?_
  refine stp (fun _ h => sd h) ?_
  refine stp (fun _ h => s0 h) ?_
  refine stp (fun _ h => sd h) ?_
  refine stp (fun _ h => s0 h) ?_
  refine aops_nil ?_
  refine cnd (fun hb => ?ht1) (fun hb => ?hf1)
  case ht1 =>
    have hw10 := hb
    try simp only [bo1, bo2, bo3, bo4, bo5, bo6] at hb
    have hbt10 := hb
    refine AW.seq ?_
    refine AW.region (cfg := cfg) ?_
    refine stp (fun _ h => s0 h) ?_
    refine aops_nil ?_
    refine AW.ret ?_
    refine ⟨.inr rfl, ?_⟩
    refine leaves_tmp1 4 rfl ?_ (by exact hG)
    simp (disch := first | omega | decide) only [go_sem, F, aIndex_map]
    all_goals (rw [eqAll_len (by omega)]; done)
  case hf1 =>
    have hw10 := hb
    try simp only [bo1, bo2, bo3, bo4, bo5, bo6] at hb
    have hbt10 := hb
    refine AW.skip ?_
    refine AW.seq ?_
    refine AW.seq ?_
    refine AW.region (cfg := cfg) ?_
    refine stp (fun _ h => s0 h) ?_
    refine aops_nil ?_
    refine AW.block ?_
    refine AW.forN (fun k σ => ∃ s m, σ = ⟨27, s, m⟩ ∧ s 0 = .v (.sl 3 na (a.map lsaA)) ∧ s 1 = .v (.sl 3 nb (b.map lsaA)) ∧ s 5 = .v (i64 (k : Int)) ∧ (a.length = b.length) ∧ (((a.zip b).take k).all (fun p => lsaEq p.1 p.2) = true) ∧ m.G = []) (a.length) ?_ ?_ ?_
    · refine ⟨_, _, rfl, ?_, ?_, ?_, ?_, ?_, (by exact hG)⟩ <;> try simp (disch := first | omega | decide) only [go_sem, F, aIndex_map]
      all_goals first | rfl | omega
    · clear F f0 f1 hG
      rintro k σ hk ⟨s, m, rfl, f0, f1, f5, mo0, mo1, hG⟩
      have F := (And.intro f0 (And.intro f1 (And.intro f5 hG)))
      refine AW.seq ?_
      refine AW.seq ?_
      refine AW.region (cfg := cfg) ?_
      iterate 2 refine stp (fun _ h => s0 h) ?_
      refine stp (fun _ h => sd h) ?_
      refine stp (fun _ h => s0 h) ?_
      refine aops_nil ?_
      refine cnd (fun hb => ?ht2) (fun hb => ?hf2)
      case hf2 => (simp at hb; omega)
      case ht2 =>
      have hbt14 := hb
      refine AW.skip ?_
      refine AW.seq ?_
      refine AW.block ?_
      refine AW.seq ?_
      have hka : k < a.length := by assumption
      have hkb : k < b.length := by omega
      have pka := pa a[k] (List.getElem_mem hka)
      have pkb := pb b[k] (List.getElem_mem hkb)
      refine AW.draw (cfg := cfg) (by kernel_rfl) (by kernel_rfl) (by kernel_rfl) ?_
      iterate 2 refine dstp (fun _ h => s0 h) ?_
      refine dstp (fun _ h => si h) ?_
      refine dstp (fun _ h => sl h) ?_
      iterate 2 refine dstp (fun _ h => s0 h) ?_
      refine dstp (fun _ h => si h) ?_
      refine dstp (fun _ h => sl h) ?_
      refine dstp (fun _ h => cs (w := L.good_refSame a[k] (by have := pka.1; omega) b[k] (by have := pkb.1; omega)) (x := h)) ?_
      refine dstp (fun _ h => s0 h) ?_
      refine adraw_nil (by kernel_rfl) ?_
      refine cnd (fun hb => ?ht3) (fun hb => ?hf3)
      case ht3 =>
        have hw26 := hb
        try simp only [bo1, bo2, bo3, bo4, bo5, bo6] at hb
        have hbt26 := hb
        refine AW.seq ?_
        refine AW.region (cfg := cfg) ?_
        refine stp (fun _ h => s0 h) ?_
        refine aops_nil ?_
        refine AW.ret ?_
        refine ⟨.inr rfl, ?_⟩
        refine leaves_tmp1 4 rfl ?_ (by exact hG)
        simp (disch := first | omega | decide) only [go_sem, F, aIndex_map]
        all_goals (rw [eqAll_at mo0 hk hb]; done)
      case hf3 =>
        have hw26 := hb
        try simp only [bo1, bo2, bo3, bo4, bo5, bo6] at hb
        have hbt26 := hb
        refine AW.skip ?_
        refine AW.region (cfg := cfg) ?_
        refine stp (fun _ h => s0 h) ?_
        refine stp (fun _ h => sd h) ?_
        refine stp (fun _ h => s0 h) ?_
        refine aops_nil ?_
        refine ⟨_, _, rfl, ?_, ?_, ?_, ?_, ?_, (by exact hG)⟩ <;> try simp (disch := first | omega | decide) only [go_sem, F, aIndex_map]
        all_goals first | rfl | assumption | exact eqAll_step mo0 hk mo1 hb
    · clear F f0 f1 hG
      rintro σ ⟨s, m, rfl, f0, f1, f5, mo0, mo1, hG⟩
      have F := (And.intro f0 (And.intro f1 (And.intro f5 hG)))
      refine AW.seq ?_
      refine AW.seq ?_
      refine AW.region (cfg := cfg) ?_
      iterate 2 refine stp (fun _ h => s0 h) ?_
      refine stp (fun _ h => sd h) ?_
      refine stp (fun _ h => s0 h) ?_
      refine aops_nil ?_
      refine cnd (fun hb => ?ht4) (fun hb => ?hf4)
      case ht4 => (simp at hb; done)
      case hf4 =>
      have hbt14 := hb
      refine AW.exit ?_
      refine AW.seq ?_
      refine AW.region (cfg := cfg) ?_
      refine stp (fun _ h => s0 h) ?_
      refine aops_nil ?_
      refine AW.ret ?_
      refine ⟨.inr rfl, ?_⟩
      refine leaves_tmp1 4 rfl ?_ (by exact hG)
      simp (disch := first | omega | decide) only [go_sem, F, aIndex_map]
      all_goals (rw [eqAll_end mo0 mo1]; done)
theorem gd_fit {l : List Lsa} {t : Int} (pl : ∀ x ∈ l, fit x) : fit ((gK Lsa.o l t).getD default) := by
  cases h : gK Lsa.o l t with
  | none => exact ⟨by decide, fun _ => rfl⟩
  | some x => exact pl x (gK_mem h).1
end Go.Vai.DB
set_option linter.unusedSimpArgs false
set_option linter.unusedVariables false
namespace Go.Vai.O
structure PutS where
 nb : Bool
 b : List (BitVec 8)
 w : Int
 n : Int
 nt : Bool
 t : List (BitVec 8)
def putA (p : PutS) : AV := .agg [.sl 1 p.nb (bsl p.b), .i .i64 p.w, .i .u64 p.n, .sl 1 p.nt (bsl p.t)]
def okPut (p : PutS) : Prop := 1 ≤ p.w ∧ p.w ≤ 8 ∧ p.t.length ≤ 300
def enc1 (p : PutS) : List (BitVec 8) := numR p.n p.w.toNat ++ (numR (p.t.length : Int) 2 ++ p.t)
def enc (l : List PutS) : List (BitVec 8) := l.flatMap enc1
end Go.Vai.O
set_option linter.unusedSimpArgs false
set_option linter.unusedVariables false
namespace Go.Vai.L
open Go.Vai.O
theorem lsaB_len (l : Lsa) : (lsaB l).length = 10 + 5 * l.ls.length := by
 simp only [lsaB, List.length_append, numR_length, linksB_len]; omega
end Go.Vai.L
namespace Go.Vai.L
open Go.Vai.O
end Go.Vai.L
set_option linter.unusedSimpArgs false
set_option linter.unusedVariables false
namespace Go.Vai.G
open Go.Vai.O Go.Vai.L
structure Page where
 kind : Int
 gen : Int
 mark : Int
 idx : Int
 part : Int
 parts : Int
 nil : Bool
 b : List (BitVec 8)
def pageA (p : Page) : AV := .agg [.i .i64 p.kind, .i .i64 p.gen, .i .i64 p.mark, .i .i64 p.idx, .i .i64 p.part, .i .i64 p.parts, .sl 1 p.nil (bsl p.b)]
@[simp] theorem noPtr_page (p : Page) : noPtr (pageA p) = true := by simp [pageA, noPtr, noPtrL, noPtrL_bsl]
@[simp] theorem noPtrL_pages (ps : List Page) : noPtrL (ps.map pageA) = true := noPtrL_map noPtr_page _
def page0 : Page := ⟨0, 0, 0, 0, 0, 0, true, []⟩
def wi (n lo hi : Int) : Bool := decide (n ≥ lo) && decide (n ≤ hi)
def pageOK (p : Page) : Bool := wi p.kind 1 9 && (wi p.gen 0 2147483648 && (wi p.mark 0 2147483648 && (wi p.idx 0 2147483648 && (wi p.parts 1 16 && (wi p.part 0 (p.parts - 1) && decide ((p.b.length : Int) ≤ 488))))))
def inn (n most : Int) : Bool := decide (n ≥ 0) && decide (n ≤ most)
def pageEq (p q : Page) : Bool := decide (p.kind = q.kind) && (decide (p.gen = q.gen) && (decide (p.mark = q.mark) && (decide (p.idx = q.idx) && (decide (p.part = q.part) && (decide (p.parts = q.parts) && decide (p.b = q.b))))))
def pageH (p : Page) : List (BitVec 8) := [87#8, 65#8, 89#8] ++ (numR p.kind 1 ++ (numR p.gen 4 ++ (numR p.mark 4 ++ (numR p.idx 4 ++ (numR p.part 1 ++ (numR p.parts 1 ++ (numR (p.b.length : Int) 2 ++ p.b)))))))
def pageB (p : Page) : List (BitVec 8) := pageH p ++ List.replicate (488 - p.b.length) 0#8
end Go.Vai.G
set_option linter.unusedSimpArgs false
set_option linter.unusedVariables false
namespace Go.Vai.G
open Go.Vai.O Go.Vai.L
def at1 (i : List (BitVec 8)) (k : Nat) : Int := ((i.getD k default).toNat : Int)
def at4 (i : List (BitVec 8)) (k : Nat) : Int := rV i k false 4
def pgN (i : List (BitVec 8)) : Int := rV i 18 false 2
def pgP (i : List (BitVec 8)) : Page := ⟨at1 i 3, at4 i 4, at4 i 8, at4 i 12, at1 i 16, at1 i 17, false, (i.drop 20).take (pgN i).toNat⟩
end Go.Vai.G
set_option linter.unusedSimpArgs false
set_option linter.unusedVariables false
namespace Go.Vai.L
open Go.Vai.O Go.Vai.G
end Go.Vai.L
set_option linter.unusedSimpArgs false
set_option linter.unusedVariables false
namespace Go.Vai.C
open Go.Vai.O Go.Vai.L Go.Vai.G
structure Ch where
 kind : Int
 l : Lsa
 n : Int
 of : Int
def chA (c : Ch) : AV := .agg [.i .i64 c.kind, .i .i64 c.l.o, .i .i64 c.l.s, .sl 2 c.l.nil (c.l.ls.map linkA), .i .i64 c.n, .i .i64 c.of]
theorem cellsOf_ch (c : Ch) : cellsOf (chA c) = [.i .i64 c.kind, .i .i64 c.l.o, .i .i64 c.l.s, .sl 2 c.l.nil (c.l.ls.map linkA), .i .i64 c.n, .i .i64 c.of] := rfl
@[simp] theorem noPtr_ch (c : Ch) : noPtr (chA c) = true := by simp [chA, noPtr, noPtrL, noPtrL_links]
@[simp] theorem noPtrL_chs (l : List Ch) : noPtrL (l.map chA) = true := noPtrL_map noPtr_ch _
def bare (c : Ch) : Bool := decide (c.l.o = 0) && (decide (c.l.s = 0) && decide ((c.l.ls.length : Int) = 0))
def chOK (c : Ch) : Bool :=
 if c.kind = 1 then lsaOK c.l && (decide (c.n = 0) && decide (c.of = 0))
 else if c.kind = 2 then bare c && (wi c.n 1 4611686018427387904 && decide (c.of = 0))
 else if c.kind = 3 then bare c && (wi c.n 1 1073741824 && decide (c.of = 0))
 else if c.kind = 4 then bare c && (wi c.n 1 1073741824 && wi c.of 1 64)
 else false
def chE (c : Ch) : Int := if chOK c then 0 else 1
def chEq (a b : Ch) : Bool := decide (a.kind = b.kind) && (lsaEq a.l b.l && (decide (a.n = b.n) && decide (a.of = b.of)))
def chB (c : Ch) : List (BitVec 8) := numR c.kind 1 ++ (if c.kind = 1 then lsaB c.l else if c.kind = 2 then numR c.n 8 else if c.kind = 4 then numR c.of 1 ++ numR c.n 4 else numR c.n 4)
def chsB (l : List Ch) : List (BitVec 8) := l.flatMap chB
def many (l : List Ch) : Bool := decide (1 ≤ l.length) && decide (l.length ≤ 40)
def allCh (l : List Ch) : Bool := l.all chOK
def putB (l : List Ch) : List (BitVec 8) := numR (l.length : Int) 1 ++ chsB l
theorem ch_kind {c : Ch} (h : chOK c = true) : (c.kind = 1 ∧ lsaOK c.l = true ∧ c.n = 0 ∧ c.of = 0) ∨ (c.kind = 2 ∧ bare c = true ∧ (1 ≤ c.n ∧ c.n ≤ 4611686018427387904) ∧ c.of = 0) ∨ (c.kind = 3 ∧ bare c = true ∧ (1 ≤ c.n ∧ c.n ≤ 1073741824) ∧ c.of = 0) ∨ (c.kind = 4 ∧ bare c = true ∧ (1 ≤ c.n ∧ c.n ≤ 1073741824) ∧ (1 ≤ c.of ∧ c.of ≤ 64)) := by
 unfold chOK at h
 split at h
 ·simp only [Bool.and_eq_true, decide_eq_true_eq] at h; exact .inl ⟨by assumption, h.1, h.2.1, h.2.2⟩
 ·split at h
  ·simp only [wi, Bool.and_eq_true, decide_eq_true_eq] at h; exact .inr (.inl ⟨by assumption, h.1, by omega, h.2.2⟩)
  ·split at h
   ·simp only [wi, Bool.and_eq_true, decide_eq_true_eq] at h; exact .inr (.inr (.inl ⟨by assumption, h.1, by omega, h.2.2⟩))
   ·split at h
    ·simp only [wi, Bool.and_eq_true, decide_eq_true_eq] at h; exact .inr (.inr (.inr ⟨by assumption, h.1, by omega, by omega⟩))
    ·cases h
structure RdC where
 c : Ch
 ok : Bool
 l : List (BitVec 8)
 w : Bool
def rdC (l : List (BitVec 8)) (w : Bool) : RdC :=
 let k := rnV l w 1
 let l1 := rnL l w 1
 let w1 := rnW l w 1
 if k = 1 then ⟨⟨1, rdL l1 w1, 0, 0⟩, rdOK l1 w1, rdR l1 w1, rdW l1 w1⟩
 else if k = 2 then
  let c : Ch := ⟨2, lsa0, IntKind.i64.wrap (rnV l1 w1 8), 0⟩
  ⟨c, !rnW l1 w1 8 && chOK c, rnL l1 w1 8, rnW l1 w1 8⟩
 else if k = 4 then
  let l2 := rnL l1 w1 1
  let w2 := rnW l1 w1 1
  let c : Ch := ⟨4, lsa0, rnV l2 w2 4, rnV l1 w1 1⟩
  ⟨c, !rnW l2 w2 4 && chOK c, rnL l2 w2 4, rnW l2 w2 4⟩
 else if k = 3 then
  let c : Ch := ⟨3, lsa0, rnV l1 w1 4, 0⟩
  ⟨c, !rnW l1 w1 4 && chOK c, rnL l1 w1 4, rnW l1 w1 4⟩
 else ⟨⟨k, lsa0, 0, 0⟩, false, l1, w1⟩
def norm (c : Ch) : Ch := ⟨c.kind, ⟨c.l.o, c.l.s, if c.kind = 1 then c.l.ls.isEmpty else true, c.l.ls⟩, c.n, c.of⟩
end Go.Vai.C
namespace Go.Vai.C
open Go.Proofs Go.Vai Go.Vai.G Go.Vai.L Go.Vai.O
set_option linter.unusedSimpArgs false
set_option linter.unusedVariables false
set_option maxHeartbeats 4000000
set_option maxRecDepth 100000
attribute [go_sem] cellsOf_ch
theorem lsaE_dec (l : Lsa) : decide (lsaE l = 0) = lsaOK l := by cases h : lsaOK l <;> simp [lsaE, h]
theorem bare_eq (c : Ch) : lsaEq c.l lsa0 = bare c := by
  have : decide (c.l.ls = lsa0.ls) = decide ((c.l.ls.length : Int) = 0) := decide_eq_decide.2 ⟨fun h => by rw [h]; rfl, fun h => List.eq_nil_of_length_eq_zero (by omega)⟩
  rw [lsaEq, this]; rfl
theorem ch_k1 {c : Ch} (h : c.kind = 1) : chOK c = ((lsaOK c.l && decide (c.n = 0)) && decide (c.of = 0)) := by rw [chOK, if_pos h, Bool.and_assoc]
theorem ch_k2 {c : Ch} (h : c.kind = 2) : chOK c = ((bare c && wi c.n 1 4611686018427387904) && decide (c.of = 0)) := by rw [chOK, if_neg (by omega), if_pos h, Bool.and_assoc]
theorem ch_k3 {c : Ch} (h : c.kind = 3) : chOK c = ((bare c && wi c.n 1 1073741824) && decide (c.of = 0)) := by rw [chOK, if_neg (by omega), if_neg (by omega), if_pos h, Bool.and_assoc]
theorem ch_k4 {c : Ch} (h : c.kind = 4) : chOK c = ((bare c && wi c.n 1 1073741824) && wi c.of 1 64) := by rw [chOK, if_neg (by omega), if_neg (by omega), if_neg (by omega), if_pos h, Bool.and_assoc]
theorem ch_k0 {c : Ch} (h1 : ¬ c.kind = 1) (h2 : ¬ c.kind = 2) (h3 : ¬ c.kind = 3) (h4 : ¬ c.kind = 4) : chOK c = false := by rw [chOK, if_neg h1, if_neg h2, if_neg h3, if_neg h4]
theorem good_withinC (n lo hi : Int) : Good Try.prog 54 [(i64 n, false), (i64 lo, false), (i64 hi, false)] [] [(.b (wi n lo hi), false)] [] := by
  refine good_of_body2 15 Try.func54 rfl rfl rfl (by simp) ?_
  intro s m ha hr hv hG
  have f0 : s 0 = .v (i64 n) := ha 0 _ rfl
  have f1 : s 1 = .v (i64 lo) := ha 1 _ rfl
  have f2 : s 2 = .v (i64 hi) := ha 2 _ rfl
  clear ha
  have hc : True := trivial
  have F := (And.intro f0 (And.intro f1 (And.intro f2 hG)))
  refine AW.seq ?_
  refine AW.region (cfg := cfg) ?_
  refine stp (fun _ h => s0 h) ?_
  refine aops_nil ?_
  refine AW.seq ?_
  refine AW.region (cfg := cfg) ?_
  iterate 4 refine stp (fun _ h => s0 h) ?_
  iterate 3 refine mrg wa (fun hc _ h => s0 h) ?_
  iterate 2 refine stp (fun _ h => s0 h) ?_
  refine aops_nil ?_
  refine AW.ret ?_
  refine ⟨.inr rfl, ?_⟩
  refine leaves_tmp1 6 rfl ?_ (by exact hG)
  simp (disch := first | omega | decide) only [go_sem, F, aIndex_map]
  all_goals rfl
attribute [go_sem] lsaE_dec bare_eq
theorem good_bare (c : Ch) (hc : c.l.ls.length ≤ 9223372036854775807) : Good Try.prog 53 [(chA c, false)] [] [(.b (bare c), false)] [] := by
  refine good_of_body2 20 Try.func53 rfl rfl rfl (by simp) ?_
  intro s m ha hr hv hG
  have f0 : s 0 = .v (.agg [i64 c.kind, i64 c.l.o, i64 c.l.s, .sl 2 c.l.nil (c.l.ls.map linkA), i64 c.n, i64 c.of]) := ha 0 _ rfl
  clear ha
  have hc : True := trivial
  have F := (And.intro f0 hG)
  refine AW.seq ?_
  refine AW.region (cfg := cfg) ?_
  refine stp (fun _ h => sb h) ?_
  refine stp (fun _ h => s0 h) ?_
  refine aops_nil ?_
  refine AW.seq ?_
  refine AW.region (cfg := cfg) ?_
  iterate 2 refine stp (fun _ h => sx h) ?_
  refine stp (fun _ h => sl h) ?_
  iterate 2 refine stp (fun _ h => s0 h) ?_
  iterate 2 refine mrg wa (fun hc _ h => sx h) ?_
  refine mrg wa (fun hc _ h => sl h) ?_
  refine mrg wa (fun hc _ h => s0 h) ?_
  iterate 2 refine stp (fun _ h => s0 h) ?_
  iterate 2 refine mrg wa (fun hc _ h => sx h) ?_
  refine mrg wa (fun hc _ h => sl h) ?_
  refine mrg wa (fun hc _ h => sd h) ?_
  refine mrg wa (fun hc _ h => s0 h) ?_
  iterate 2 refine stp (fun _ h => s0 h) ?_
  refine aops_nil ?_
  refine AW.ret ?_
  refine ⟨.inr rfl, ?_⟩
  refine leaves_tmp1 2 rfl ?_ (by exact hG)
  simp (disch := first | omega | decide) only [go_sem, F, aIndex_map]
  all_goals (simp only [bare, Bool.and_assoc]; done)
theorem good_CheckC (c : Ch) (hc : c.l.ls.length ≤ 9223372036854775807) : Good Try.prog 26 [(chA c, false)] [] [(i64 (chE c), false)] [] := by
  refine good_of_body2 66 Try.func26 rfl rfl rfl (by simp) ?_
  intro s m ha hr hv hG
  have f0 : s 0 = .v (.agg [i64 c.kind, i64 c.l.o, i64 c.l.s, .sl 2 c.l.nil (c.l.ls.map linkA), i64 c.n, i64 c.of]) := ha 0 _ rfl
  clear ha
  have hc : True := trivial
  have F := (And.intro f0 hG)
  refine AW.seq ?_
  refine AW.region (cfg := cfg) ?_
  refine stp (fun _ h => sb h) ?_
  refine stp (fun _ h => s0 h) ?_
  refine aops_nil ?_
  refine AW.seq ?_
  refine AW.region (cfg := cfg) ?_
  refine stp (fun _ h => s0 h) ?_
  refine aops_nil ?_
  refine AW.seq ?_
  refine AW.seq ?_
  refine AW.region (cfg := cfg) ?_
  refine stp (fun _ h => sx h) ?_
  refine stp (fun _ h => sl h) ?_
  refine aops_nil ?_
  refine AW.block ?_
  refine AW.seq ?_
  refine AW.region (cfg := cfg) ?_
  iterate 2 refine stp (fun _ h => s0 h) ?_
  refine aops_nil ?_
  refine cnd (fun hb => ?ht1) (fun hb => ?hf1)
  case ht1 =>
    have hw6 := hb
    try simp only [bo1, bo2, bo3, bo4, bo5, bo6] at hb
    have hbt6 := hb
    refine AW.region (cfg := cfg) ?_
    refine stp (fun _ h => sx h) ?_
    refine stp (fun _ h => sl h) ?_
    refine stp (fun _ h => cs (w := L.good_Check c.l.o c.l.s c.l.nil c.l.ls (by omega)) (x := h)) ?_
    iterate 2 refine stp (fun _ h => s0 h) ?_
    refine mrg wa (fun hc _ h => sx h) ?_
    refine mrg wa (fun hc _ h => sl h) ?_
    refine mrg wa (fun hc _ h => s0 h) ?_
    iterate 2 refine stp (fun _ h => s0 h) ?_
    refine mrg wa (fun hc _ h => sx h) ?_
    refine mrg wa (fun hc _ h => sl h) ?_
    refine mrg wa (fun hc _ h => s0 h) ?_
    iterate 2 refine stp (fun _ h => s0 h) ?_
    refine aops_nil ?_
    refine AW.seq ?_
    refine AW.seq ?_
    refine AW.region (cfg := cfg) ?_
    iterate 2 refine stp (fun _ h => s0 h) ?_
    refine aops_nil ?_
    refine cnd (fun hb => ?ht2) (fun hb => ?hf2)
    case ht2 =>
      have hw65 := hb
      try simp only [bo1, bo2, bo3, bo4, bo5, bo6] at hb
      have hbt65 := hb
      refine AW.seq ?_
      refine AW.region (cfg := cfg) ?_
      refine stp (fun _ h => s0 h) ?_
      refine aops_nil ?_
      refine AW.ret ?_
      refine ⟨.inr rfl, ?_⟩
      refine leaves_tmp1 2 rfl ?_ (by exact hG)
      simp (disch := first | omega | decide) only [go_sem, F, aIndex_map]
      all_goals (rw [chE, ch_k1 hbt6, bnot_t hbt65]; rfl)
    case hf2 =>
      have hw65 := hb
      try simp only [bo1, bo2, bo3, bo4, bo5, bo6] at hb
      have hbt65 := hb
      refine AW.skip ?_
      refine AW.seq ?_
      refine AW.region (cfg := cfg) ?_
      refine stp (fun _ h => s0 h) ?_
      refine aops_nil ?_
      refine AW.ret ?_
      refine ⟨.inr rfl, ?_⟩
      refine leaves_tmp1 2 rfl ?_ (by exact hG)
      simp (disch := first | omega | decide) only [go_sem, F, aIndex_map]
      all_goals (rw [chE, ch_k1 hbt6, bnot_f hbt65]; rfl)
  case hf1 =>
    have hw6 := hb
    try simp only [bo1, bo2, bo3, bo4, bo5, bo6] at hb
    have hbt6 := hb
    refine AW.seq ?_
    refine AW.region (cfg := cfg) ?_
    iterate 2 refine stp (fun _ h => s0 h) ?_
    refine aops_nil ?_
    refine cnd (fun hb => ?ht3) (fun hb => ?hf3)
    case ht3 =>
      have hw22 := hb
      try simp only [bo1, bo2, bo3, bo4, bo5, bo6] at hb
      have hbt22 := hb
      refine AW.region (cfg := cfg) ?_
      refine stp (fun _ h => sl h) ?_
      refine stp (fun _ h => cs (w := good_bare c (by omega)) (x := h)) ?_
      refine stp (fun _ h => s0 h) ?_
      refine mrg wa (fun hc _ h => sx h) ?_
      refine mrg wa (fun hc _ h => sl h) ?_
      refine mrg wa (fun hc _ h => cs (w := good_withinC _ _ _) (x := h)) ?_
      iterate 2 refine stp (fun _ h => s0 h) ?_
      refine mrg wa (fun hc _ h => sx h) ?_
      refine mrg wa (fun hc _ h => sl h) ?_
      refine mrg wa (fun hc _ h => s0 h) ?_
      iterate 2 refine stp (fun _ h => s0 h) ?_
      refine aops_nil ?_
      refine AW.seq ?_
      refine AW.seq ?_
      refine AW.region (cfg := cfg) ?_
      iterate 2 refine stp (fun _ h => s0 h) ?_
      refine aops_nil ?_
      refine cnd (fun hb => ?ht4) (fun hb => ?hf4)
      case ht4 =>
        have hw65 := hb
        try simp only [bo1, bo2, bo3, bo4, bo5, bo6] at hb
        have hbt65 := hb
        refine AW.seq ?_
        refine AW.region (cfg := cfg) ?_
        refine stp (fun _ h => s0 h) ?_
        refine aops_nil ?_
        refine AW.ret ?_
        refine ⟨.inr rfl, ?_⟩
        refine leaves_tmp1 2 rfl ?_ (by exact hG)
        simp (disch := first | omega | decide) only [go_sem, F, aIndex_map]
        all_goals (rw [chE, ch_k2 hbt22, bnot_t hbt65]; rfl)
      case hf4 =>
        have hw65 := hb
        try simp only [bo1, bo2, bo3, bo4, bo5, bo6] at hb
        have hbt65 := hb
        refine AW.skip ?_
        refine AW.seq ?_
        refine AW.region (cfg := cfg) ?_
        refine stp (fun _ h => s0 h) ?_
        refine aops_nil ?_
        refine AW.ret ?_
        refine ⟨.inr rfl, ?_⟩
        refine leaves_tmp1 2 rfl ?_ (by exact hG)
        simp (disch := first | omega | decide) only [go_sem, F, aIndex_map]
        all_goals (rw [chE, ch_k2 hbt22, bnot_f hbt65]; rfl)
    case hf3 =>
      have hw22 := hb
      try simp only [bo1, bo2, bo3, bo4, bo5, bo6] at hb
      have hbt22 := hb
      refine AW.seq ?_
      refine AW.region (cfg := cfg) ?_
      iterate 2 refine stp (fun _ h => s0 h) ?_
      refine aops_nil ?_
      refine cnd (fun hb => ?ht5) (fun hb => ?hf5)
      case ht5 =>
        have hw36 := hb
        try simp only [bo1, bo2, bo3, bo4, bo5, bo6] at hb
        have hbt36 := hb
        refine AW.region (cfg := cfg) ?_
        refine stp (fun _ h => sl h) ?_
        refine stp (fun _ h => cs (w := good_bare c (by omega)) (x := h)) ?_
        refine stp (fun _ h => s0 h) ?_
        refine mrg wa (fun hc _ h => sx h) ?_
        refine mrg wa (fun hc _ h => sl h) ?_
        refine mrg wa (fun hc _ h => cs (w := good_withinC _ _ _) (x := h)) ?_
        iterate 2 refine stp (fun _ h => s0 h) ?_
        refine mrg wa (fun hc _ h => sx h) ?_
        refine mrg wa (fun hc _ h => sl h) ?_
        refine mrg wa (fun hc _ h => s0 h) ?_
        iterate 2 refine stp (fun _ h => s0 h) ?_
        refine aops_nil ?_
        refine AW.seq ?_
        refine AW.seq ?_
        refine AW.region (cfg := cfg) ?_
        iterate 2 refine stp (fun _ h => s0 h) ?_
        refine aops_nil ?_
        refine cnd (fun hb => ?ht6) (fun hb => ?hf6)
        case ht6 =>
          have hw65 := hb
          try simp only [bo1, bo2, bo3, bo4, bo5, bo6] at hb
          have hbt65 := hb
          refine AW.seq ?_
          refine AW.region (cfg := cfg) ?_
          refine stp (fun _ h => s0 h) ?_
          refine aops_nil ?_
          refine AW.ret ?_
          refine ⟨.inr rfl, ?_⟩
          refine leaves_tmp1 2 rfl ?_ (by exact hG)
          simp (disch := first | omega | decide) only [go_sem, F, aIndex_map]
          all_goals (rw [chE, ch_k3 hbt36, bnot_t hbt65]; rfl)
        case hf6 =>
          have hw65 := hb
          try simp only [bo1, bo2, bo3, bo4, bo5, bo6] at hb
          have hbt65 := hb
          refine AW.skip ?_
          refine AW.seq ?_
          refine AW.region (cfg := cfg) ?_
          refine stp (fun _ h => s0 h) ?_
          refine aops_nil ?_
          refine AW.ret ?_
          refine ⟨.inr rfl, ?_⟩
          refine leaves_tmp1 2 rfl ?_ (by exact hG)
          simp (disch := first | omega | decide) only [go_sem, F, aIndex_map]
          all_goals (rw [chE, ch_k3 hbt36, bnot_f hbt65]; rfl)
      case hf5 =>
        have hw36 := hb
        try simp only [bo1, bo2, bo3, bo4, bo5, bo6] at hb
        have hbt36 := hb
        refine AW.seq ?_
        refine AW.region (cfg := cfg) ?_
        iterate 2 refine stp (fun _ h => s0 h) ?_
        refine aops_nil ?_
        refine cnd (fun hb => ?ht7) (fun hb => ?hf7)
        case ht7 =>
          have hw50 := hb
          try simp only [bo1, bo2, bo3, bo4, bo5, bo6] at hb
          have hbt50 := hb
          refine AW.region (cfg := cfg) ?_
          refine stp (fun _ h => sl h) ?_
          refine stp (fun _ h => cs (w := good_bare c (by omega)) (x := h)) ?_
          refine stp (fun _ h => s0 h) ?_
          refine mrg wa (fun hc _ h => sx h) ?_
          refine mrg wa (fun hc _ h => sl h) ?_
          refine mrg wa (fun hc _ h => cs (w := good_withinC _ _ _) (x := h)) ?_
          iterate 2 refine stp (fun _ h => s0 h) ?_
          refine mrg wa (fun hc _ h => sx h) ?_
          refine mrg wa (fun hc _ h => sl h) ?_
          refine mrg wa (fun hc _ h => cs (w := good_withinC _ _ _) (x := h)) ?_
          iterate 2 refine stp (fun _ h => s0 h) ?_
          refine aops_nil ?_
          refine AW.seq ?_
          refine AW.seq ?_
          refine AW.region (cfg := cfg) ?_
          iterate 2 refine stp (fun _ h => s0 h) ?_
          refine aops_nil ?_
          refine cnd (fun hb => ?ht8) (fun hb => ?hf8)
          case ht8 =>
            have hw65 := hb
            try simp only [bo1, bo2, bo3, bo4, bo5, bo6] at hb
            have hbt65 := hb
            refine AW.seq ?_
            refine AW.region (cfg := cfg) ?_
            refine stp (fun _ h => s0 h) ?_
            refine aops_nil ?_
            refine AW.ret ?_
            refine ⟨.inr rfl, ?_⟩
            refine leaves_tmp1 2 rfl ?_ (by exact hG)
            simp (disch := first | omega | decide) only [go_sem, F, aIndex_map]
            all_goals (rw [chE, ch_k4 hbt50, bnot_t hbt65]; rfl)
          case hf8 =>
            have hw65 := hb
            try simp only [bo1, bo2, bo3, bo4, bo5, bo6] at hb
            have hbt65 := hb
            refine AW.skip ?_
            refine AW.seq ?_
            refine AW.region (cfg := cfg) ?_
            refine stp (fun _ h => s0 h) ?_
            refine aops_nil ?_
            refine AW.ret ?_
            refine ⟨.inr rfl, ?_⟩
            refine leaves_tmp1 2 rfl ?_ (by exact hG)
            simp (disch := first | omega | decide) only [go_sem, F, aIndex_map]
            all_goals (rw [chE, ch_k4 hbt50, bnot_f hbt65]; rfl)
        case hf7 =>
          have hw50 := hb
          try simp only [bo1, bo2, bo3, bo4, bo5, bo6] at hb
          have hbt50 := hb
          refine AW.skip ?_
          refine AW.seq ?_
          refine AW.seq ?_
          refine AW.region (cfg := cfg) ?_
          iterate 2 refine stp (fun _ h => s0 h) ?_
          refine aops_nil ?_
          refine cnd (fun hb => ?ht9) (fun hb => ?hf9)
          case ht9 =>
            have hw65 := hb
            try simp only [bo1, bo2, bo3, bo4, bo5, bo6] at hb
            have hbt65 := hb
            refine AW.seq ?_
            refine AW.region (cfg := cfg) ?_
            refine stp (fun _ h => s0 h) ?_
            refine aops_nil ?_
            refine AW.ret ?_
            refine ⟨.inr rfl, ?_⟩
            refine leaves_tmp1 2 rfl ?_ (by exact hG)
            simp (disch := first | omega | decide) only [go_sem, F, aIndex_map]
            all_goals (rw [chE, ch_k0 hbt6 hbt22 hbt36 hbt50]; rfl)
          case hf9 =>
            have hw65 := hb
            try simp only [bo1, bo2, bo3, bo4, bo5, bo6] at hb
            have hbt65 := hb
            refine AW.skip ?_
            refine AW.seq ?_
            refine AW.region (cfg := cfg) ?_
            refine stp (fun _ h => s0 h) ?_
            refine aops_nil ?_
            refine AW.ret ?_
            refine ⟨.inr rfl, ?_⟩
            refine leaves_tmp1 2 rfl ?_ (by exact hG)
            simp (disch := first | omega | decide) only [go_sem, F, aIndex_map]
            all_goals (exfalso; simp at hbt65; done)
theorem k2_ref {c : Ch} (h : c.kind = 2) : (((bare c && decide (c.n ≥ 1)) && decide (c.n ≤ 4611686018427387904)) && decide (c.of = 0)) = chOK c := by rw [ch_k2 h, wi, ← Bool.and_assoc]
theorem k3_ref {c : Ch} (h : c.kind = 3) : (((bare c && decide (c.n ≥ 1)) && decide (c.n ≤ 1073741824)) && decide (c.of = 0)) = chOK c := by rw [ch_k3 h, wi, ← Bool.and_assoc]
theorem k4_ref {c : Ch} (h : c.kind = 4) : ((((bare c && decide (c.n ≥ 1)) && decide (c.n ≤ 1073741824)) && decide (c.of ≥ 1)) && decide (c.of ≤ 64)) = chOK c := by rw [ch_k4 h, wi, wi]; simp only [Bool.and_assoc]
theorem good_refMayC (c : Ch) (hc : c.l.ls.length ≤ 9223372036854775807) : Good Try.prog 28 [(chA c, false)] [] [(.b (chOK c), false)] [] := by
  refine good_of_body2 84 Try.func28 rfl rfl rfl (by simp) ?_
  intro s m ha hr hv hG
  have f0 : s 0 = .v (.agg [i64 c.kind, i64 c.l.o, i64 c.l.s, .sl 2 c.l.nil (c.l.ls.map linkA), i64 c.n, i64 c.of]) := ha 0 _ rfl
  clear ha
  have hc : True := trivial
  have F := (And.intro f0 hG)
  refine AW.seq ?_
  refine AW.region (cfg := cfg) ?_
  refine stp (fun _ h => sb h) ?_
  refine stp (fun _ h => s0 h) ?_
  refine aops_nil ?_
  refine AW.seq ?_
  refine AW.region (cfg := cfg) ?_
  refine stp (fun _ h => sx h) ?_
  refine stp (fun _ h => sl h) ?_
  refine stp (fun _ h => su h) ?_
  refine stp (fun _ h => cs (w := L.good_refSame c.l (by omega) lsa0 (by simp [lsa0])) (x := h)) ?_
  refine stp (fun _ h => s0 h) ?_
  refine aops_nil ?_
  refine AW.seq ?_
  refine AW.seq ?_
  refine AW.region (cfg := cfg) ?_
  refine stp (fun _ h => sx h) ?_
  refine stp (fun _ h => sl h) ?_
  refine aops_nil ?_
  refine AW.block ?_
  refine AW.seq ?_
  refine AW.region (cfg := cfg) ?_
  iterate 2 refine stp (fun _ h => s0 h) ?_
  refine aops_nil ?_
  refine cnd (fun hb => ?ht1) (fun hb => ?hf1)
  case ht1 =>
    have hw10 := hb
    try simp only [bo1, bo2, bo3, bo4, bo5, bo6] at hb
    have hbt10 := hb
    refine AW.seq ?_
    refine AW.region (cfg := cfg) ?_
    refine stp (fun _ h => sx h) ?_
    refine stp (fun _ h => sl h) ?_
    refine stp (fun _ h => cs (w := L.good_refMay c.l.o c.l.s c.l.nil c.l.ls (by omega)) (x := h)) ?_
    refine stp (fun _ h => s0 h) ?_
    refine mrg wa (fun hc _ h => sx h) ?_
    refine mrg wa (fun hc _ h => sl h) ?_
    refine mrg wa (fun hc _ h => s0 h) ?_
    iterate 2 refine stp (fun _ h => s0 h) ?_
    refine mrg wa (fun hc _ h => sx h) ?_
    refine mrg wa (fun hc _ h => sl h) ?_
    refine mrg wa (fun hc _ h => s0 h) ?_
    iterate 2 refine stp (fun _ h => s0 h) ?_
    refine aops_nil ?_
    refine AW.ret ?_
    refine ⟨.inr rfl, ?_⟩
    refine leaves_tmp1 2 rfl ?_ (by exact hG)
    simp (disch := first | omega | decide) only [go_sem, F, aIndex_map]
    all_goals (rw [ch_k1 hbt10]; done)
  case hf1 =>
    have hw10 := hb
    try simp only [bo1, bo2, bo3, bo4, bo5, bo6] at hb
    have hbt10 := hb
    refine AW.seq ?_
    refine AW.region (cfg := cfg) ?_
    iterate 2 refine stp (fun _ h => s0 h) ?_
    refine aops_nil ?_
    refine cnd (fun hb => ?ht2) (fun hb => ?hf2)
    case ht2 =>
      have hw25 := hb
      try simp only [bo1, bo2, bo3, bo4, bo5, bo6] at hb
      have hbt25 := hb
      refine AW.seq ?_
      refine AW.region (cfg := cfg) ?_
      iterate 2 refine stp (fun _ h => s0 h) ?_
      refine mrg wa (fun hc _ h => sx h) ?_
      refine mrg wa (fun hc _ h => sl h) ?_
      refine mrg wa (fun hc _ h => s0 h) ?_
      iterate 2 refine stp (fun _ h => s0 h) ?_
      refine mrg wa (fun hc _ h => sx h) ?_
      refine mrg wa (fun hc _ h => sl h) ?_
      refine mrg wa (fun hc _ h => s0 h) ?_
      iterate 2 refine stp (fun _ h => s0 h) ?_
      refine mrg wa (fun hc _ h => sx h) ?_
      refine mrg wa (fun hc _ h => sl h) ?_
      refine mrg wa (fun hc _ h => s0 h) ?_
      iterate 2 refine stp (fun _ h => s0 h) ?_
      refine aops_nil ?_
      refine AW.ret ?_
      refine ⟨.inr rfl, ?_⟩
      refine leaves_tmp1 2 rfl ?_ (by exact hG)
      simp (disch := first | omega | decide) only [go_sem, F, aIndex_map]
      all_goals (rw [k2_ref hbt25]; done)
    case hf2 =>
      have hw25 := hb
      try simp only [bo1, bo2, bo3, bo4, bo5, bo6] at hb
      have hbt25 := hb
      refine AW.seq ?_
      refine AW.region (cfg := cfg) ?_
      iterate 2 refine stp (fun _ h => s0 h) ?_
      refine aops_nil ?_
      refine cnd (fun hb => ?ht3) (fun hb => ?hf3)
      case ht3 =>
        have hw43 := hb
        try simp only [bo1, bo2, bo3, bo4, bo5, bo6] at hb
        have hbt43 := hb
        refine AW.seq ?_
        refine AW.region (cfg := cfg) ?_
        iterate 2 refine stp (fun _ h => s0 h) ?_
        refine mrg wa (fun hc _ h => sx h) ?_
        refine mrg wa (fun hc _ h => sl h) ?_
        refine mrg wa (fun hc _ h => s0 h) ?_
        iterate 2 refine stp (fun _ h => s0 h) ?_
        refine mrg wa (fun hc _ h => sx h) ?_
        refine mrg wa (fun hc _ h => sl h) ?_
        refine mrg wa (fun hc _ h => s0 h) ?_
        iterate 2 refine stp (fun _ h => s0 h) ?_
        refine mrg wa (fun hc _ h => sx h) ?_
        refine mrg wa (fun hc _ h => sl h) ?_
        refine mrg wa (fun hc _ h => s0 h) ?_
        iterate 2 refine stp (fun _ h => s0 h) ?_
        refine aops_nil ?_
        refine AW.ret ?_
        refine ⟨.inr rfl, ?_⟩
        refine leaves_tmp1 2 rfl ?_ (by exact hG)
        simp (disch := first | omega | decide) only [go_sem, F, aIndex_map]
        all_goals (rw [k3_ref hbt43]; done)
      case hf3 =>
        have hw43 := hb
        try simp only [bo1, bo2, bo3, bo4, bo5, bo6] at hb
        have hbt43 := hb
        refine AW.seq ?_
        refine AW.region (cfg := cfg) ?_
        iterate 2 refine stp (fun _ h => s0 h) ?_
        refine aops_nil ?_
        refine cnd (fun hb => ?ht4) (fun hb => ?hf4)
        case ht4 =>
          have hw61 := hb
          try simp only [bo1, bo2, bo3, bo4, bo5, bo6] at hb
          have hbt61 := hb
          refine AW.seq ?_
          refine AW.region (cfg := cfg) ?_
          iterate 2 refine stp (fun _ h => s0 h) ?_
          refine mrg wa (fun hc _ h => sx h) ?_
          refine mrg wa (fun hc _ h => sl h) ?_
          refine mrg wa (fun hc _ h => s0 h) ?_
          iterate 2 refine stp (fun _ h => s0 h) ?_
          refine mrg wa (fun hc _ h => sx h) ?_
          refine mrg wa (fun hc _ h => sl h) ?_
          refine mrg wa (fun hc _ h => s0 h) ?_
          iterate 2 refine stp (fun _ h => s0 h) ?_
          refine mrg wa (fun hc _ h => sx h) ?_
          refine mrg wa (fun hc _ h => sl h) ?_
          refine mrg wa (fun hc _ h => s0 h) ?_
          iterate 2 refine stp (fun _ h => s0 h) ?_
          refine mrg wa (fun hc _ h => sx h) ?_
          refine mrg wa (fun hc _ h => sl h) ?_
          refine mrg wa (fun hc _ h => s0 h) ?_
          iterate 2 refine stp (fun _ h => s0 h) ?_
          refine aops_nil ?_
          refine AW.ret ?_
          refine ⟨.inr rfl, ?_⟩
          refine leaves_tmp1 2 rfl ?_ (by exact hG)
          simp (disch := first | omega | decide) only [go_sem, F, aIndex_map]
          all_goals (rw [k4_ref hbt61]; done)
        case hf4 =>
          have hw61 := hb
          try simp only [bo1, bo2, bo3, bo4, bo5, bo6] at hb
          have hbt61 := hb
          refine AW.skip ?_
          refine AW.seq ?_
          refine AW.region (cfg := cfg) ?_
          refine stp (fun _ h => s0 h) ?_
          refine aops_nil ?_
          refine AW.ret ?_
          refine ⟨.inr rfl, ?_⟩
          refine leaves_tmp1 2 rfl ?_ (by exact hG)
          simp (disch := first | omega | decide) only [go_sem, F, aIndex_map]
          all_goals (rw [ch_k0 hbt10 hbt25 hbt43 hbt61]; done)
def lightC (l : List Ch) : Bool := ((l.take 51).all fun c => decide ((c.l.ls.length : Int) ≤ 40)) && decide ((l.length : Int) ≤ 50)
theorem lightC_at {l : List Ch} {k : Nat} (hk : k < l.length) (hk2 : k < 51) (h : decide (((l[k]).l.ls.length : Int) ≤ 40) = false) : lightC l = false := by
  have : ((l.take 51).all fun c => decide ((c.l.ls.length : Int) ≤ 40)) = false := by
    cases e : (l.take 51).all fun c => decide ((c.l.ls.length : Int) ≤ 40) with
    | false => rfl
    | true =>
      have := List.all_eq_true.1 e l[k] (List.mem_take_iff_getElem.2 ⟨k, by omega, rfl⟩)
      rw [h] at this; cases this
  rw [lightC, this, Bool.false_and]
theorem lightC_end {l : List Ch} (h : ((l.take (min l.length 51)).all fun c => decide ((c.l.ls.length : Int) ≤ 40)) = true) : decide ((l.length : Int) ≤ 50) = lightC l := by
  have e : l.take (min l.length 51) = l.take 51 := by
    by_cases h2 : l.length ≤ 51
    · rw [Nat.min_eq_left h2, List.take_of_length_le (Nat.le_refl _), List.take_of_length_le h2]
    · rw [Nat.min_eq_right (by omega)]
  rw [e] at h
  rw [lightC, h, Bool.true_and]
theorem lightC_bd {l : List Ch} (h : lightC l = true) : l.length ≤ 50 ∧ ∀ x ∈ l, x.l.ls.length ≤ 40 := by
  simp only [lightC, Bool.and_eq_true, decide_eq_true_eq] at h
  refine ⟨by omega, fun x hx => ?_⟩
  have := List.all_eq_true.1 h.1 x (by rw [List.take_of_length_le (by omega)]; exact hx)
  have := of_decide_eq_true this
  omega
theorem good_LightC (nil : Bool) (l : List Ch) (hl : l.length ≤ 9223372036854775807) (pl : ∀ c ∈ l, c.l.ls.length ≤ 9223372036854775807) : Good Try.prog 8 [(.sl 6 nil (l.map chA), false)] [] [(.b (lightC l), false)] [] := by
  refine good_of_body2 24 Try.func8 rfl rfl rfl (by simp) ?_
  intro s m ha hr hv hG
  have f0 : s 0 = .v (.sl 6 nil (l.map chA)) := ha 0 _ rfl
  clear ha
  have hc : True := trivial
  have F := (And.intro f0 hG)
  refine AW.seq ?_
  refine AW.region (cfg := cfg) ?_
  refine stp (fun _ h => s0 h) ?_
  refine aops_nil ?_
  refine AW.seq ?_
  refine AW.seq ?_
  refine AW.region (cfg := cfg) ?_
  refine stp (fun _ h => s0 h) ?_
  refine aops_nil ?_
  refine AW.block ?_
  refine AW.forN (fun k σ => ∃ s m, σ = ⟨24, s, m⟩ ∧ s 0 = .v (.sl 6 nil (l.map chA)) ∧ s 3 = .v (i64 (k : Int)) ∧ (((l.take k).all fun c => decide ((c.l.ls.length : Int) ≤ 40)) = true) ∧ (∀ i, (m.objs (.res i)).2 = .dead) ∧ m.G = []) (min l.length 51) ?_ ?_ ?_
  · refine ⟨_, _, rfl, ?_, ?_, ?_, (by intro i; simp [Mem.set, hr]), (by exact hG)⟩ <;> try simp (disch := first | omega | decide) only [go_sem, F, aIndex_map]
    all_goals rfl
  · clear F f0 hr hG
    rintro k σ hk ⟨s, m, rfl, f0, f3, mo0, hr, hG⟩
    have F := (And.intro f0 (And.intro f3 hG))
    refine AW.seq ?_
    refine AW.seq ?_
    refine AW.region (cfg := cfg) ?_
    iterate 2 refine stp (fun _ h => s0 h) ?_
    refine stp (fun _ h => sd h) ?_
    iterate 2 refine stp (fun _ h => s0 h) ?_
    iterate 2 refine mrg wa (fun hc _ h => s0 h) ?_
    refine stp (fun _ h => s0 h) ?_
    refine aops_nil ?_
    refine cnd (fun hb => ?ht1) (fun hb => ?hf1)
    case hf1 => (simp at hb; omega)
    case ht1 =>
    have hbt11 := hb
    refine AW.skip ?_
    refine AW.seq ?_
    refine AW.block ?_
    refine AW.seq ?_
    have hkl : k < l.length := by omega
    have pkl := pl l[k] (List.getElem_mem hkl)
    refine AW.region (cfg := cfg) ?_
    iterate 2 refine stp (fun _ h => s0 h) ?_
    refine stp (fun _ h => si h) ?_
    refine stp (fun _ h => sx h) ?_
    refine stp (fun _ h => sl h) ?_
    refine stp (fun _ h => cs (w := L.good_Light l[k].l pkl) (x := h)) ?_
    refine stp (fun _ h => s0 h) ?_
    refine aops_nil ?_
    refine cnd (fun hb => ?ht2) (fun hb => ?hf2)
    case ht2 =>
      have hw20 := hb
      try simp only [bo1, bo2, bo3, bo4, bo5, bo6] at hb
      have hbt20 := hb
      refine AW.seq ?_
      refine AW.region (cfg := cfg) ?_
      refine stp (fun _ h => s0 h) ?_
      refine aops_nil ?_
      refine AW.ret ?_
      refine ⟨.inr rfl, ?_⟩
      refine leaves_tmp1 2 rfl ?_ (by exact hG)
      simp (disch := first | omega | decide) only [go_sem, F, aIndex_map]
      all_goals (rw [lightC_at (k := k) (by omega) (by omega) (bnot_t hb)]; done)
    case hf2 =>
      have hw20 := hb
      try simp only [bo1, bo2, bo3, bo4, bo5, bo6] at hb
      have hbt20 := hb
      refine AW.skip ?_
      refine AW.region (cfg := cfg) ?_
      refine stp (fun _ h => s0 h) ?_
      refine stp (fun _ h => sd h) ?_
      refine stp (fun _ h => s0 h) ?_
      refine aops_nil ?_
      refine ⟨_, _, rfl, ?_, ?_, ?_, (by intro i; simp [Mem.set, hr]), (by exact hG)⟩ <;> try simp (disch := first | omega | decide) only [go_sem, F, aIndex_map]
      all_goals first | rfl | (exact all_step (f := fun c : Ch => decide ((c.l.ls.length : Int) ≤ 40)) (by omega) mo0 (by simpa using hb))
  · clear F f0 hr hG
    rintro σ ⟨s, m, rfl, f0, f3, mo0, hr, hG⟩
    have F := (And.intro f0 (And.intro f3 hG))
    refine AW.seq ?_
    refine AW.seq ?_
    refine AW.region (cfg := cfg) ?_
    iterate 2 refine stp (fun _ h => s0 h) ?_
    refine stp (fun _ h => sd h) ?_
    iterate 2 refine stp (fun _ h => s0 h) ?_
    iterate 2 refine mrg wa (fun hc _ h => s0 h) ?_
    refine stp (fun _ h => s0 h) ?_
    refine aops_nil ?_
    refine cnd (fun hb => ?ht3) (fun hb => ?hf3)
    case ht3 => (simp at hb; omega)
    case hf3 =>
    have hbt11 := hb
    refine AW.exit ?_
    refine AW.seq ?_
    refine AW.region (cfg := cfg) ?_
    refine stp (fun _ h => s0 h) ?_
    refine stp (fun _ h => sd h) ?_
    iterate 2 refine stp (fun _ h => s0 h) ?_
    refine aops_nil ?_
    refine AW.ret ?_
    refine ⟨.inr rfl, ?_⟩
    refine leaves_tmp1 2 rfl ?_ (by exact hG)
    simp (disch := first | omega | decide) only [go_sem, F, aIndex_map]
    all_goals (rw [lightC_end mo0]; done)
end Go.Vai.C
namespace Go.Vai.O
open Go.Proofs Go.Vai
set_option linter.unusedSimpArgs false
set_option linter.unusedVariables false
set_option maxHeartbeats 4000000
set_option maxRecDepth 100000
attribute [simp] numB_length numR_length
theorem good_Clone (nil : Bool) (l : List (BitVec 8)) (hl : l.length ≤ 140737488355328) (hz : nil = true → l = []) : Good Try.prog 62 [(.sl 1 nil (bsl l), false)] [] [(.sl 1 nil (bsl l), true)] [] := by
  refine good_of_body3 8 Try.func62 rfl rfl rfl (by simp) ?_
  intro s m ha hr hv hG
  have f0 : s 0 = .v (.sl 1 nil (bsl l)) := ha 0 _ rfl
  clear ha
  have hc : True := trivial
  have F := (And.intro f0 hG)
  refine AW.seq ?_
  refine AW.region (cfg := cfg) ?_
  refine stp (fun _ h => s0 h) ?_
  refine aops_nil ?_
  refine AW.seq ?_
  refine AW.seq ?_
  refine AW.region (cfg := cfg) ?_
  iterate 2 refine stp (fun _ h => s0 h) ?_
  refine aops_nil ?_
  refine cnd (fun hb => ?ht1) (fun hb => ?hf1)
  case ht1 =>
    have hw4 := hb
    try simp only [bo1, bo2, bo3, bo4, bo5, bo6] at hb
    have hbt4 := hb
    refine AW.seq ?_
    refine AW.region (cfg := cfg) ?_
    refine stp (fun _ h => s0 h) ?_
    refine aops_nil ?_
    refine AW.ret ?_
    refine ⟨.inr rfl, ?_⟩
    (obtain rfl : nil = true := (by simpa using hb); obtain rfl := hz rfl; refine ⟨_, nilEq_nil (nilEq_refl _), leaves_own1 2 rfl (by simp (disch := first | omega | decide) only [go_sem, F, aIndex_map] <;> rfl) (by simp (disch := first | omega | decide) only [go_sem, F, aIndex_map] <;> rfl) (by decide) (by simp [sub, List.take_of_length_le]) (by exact hG)⟩)
  case hf1 =>
    have hw4 := hb
    try simp only [bo1, bo2, bo3, bo4, bo5, bo6] at hb
    have hbt4 := hb
    refine AW.skip ?_
    refine AW.seq ?_
    refine AW.region (cfg := cfg) ?_
    refine stp (fun _ h => sq h) ?_
    refine stp (fun _ h => s0 h) ?_
    refine stp (fun _ h => sp h) ?_
    refine stp (fun _ h => st h) ?_
    refine aops_nil ?_
    refine AW.ret ?_
    refine ⟨.inr rfl, ?_⟩
    (obtain rfl : nil = false := (by simpa using hb); refine leavesN (leaves_own1 2 rfl (by simp (disch := first | omega | decide) only [go_sem, F, aIndex_map] <;> rfl) (by simp (disch := first | omega | decide) only [go_sem, F, aIndex_map] <;> rfl) (by decide) (by simp [sub, List.take_of_length_le]) (by exact hG)))
theorem good_mayO (w : Int) : Good Try.prog 63 [(i64 w, false)] [] [(.b (mayW w), false)] [] := by
  refine good_of_body2 9 Try.func63 rfl rfl rfl (by simp) ?_
  intro s m ha hr hv hG
  have f0 : s 0 = .v (i64 w) := ha 0 _ rfl
  clear ha
  have hc : True := trivial
  have F := (And.intro f0 hG)
  refine AW.seq ?_
  refine AW.region (cfg := cfg) ?_
  refine stp (fun _ h => s0 h) ?_
  refine aops_nil ?_
  refine AW.seq ?_
  refine AW.region (cfg := cfg) ?_
  iterate 3 refine stp (fun _ h => s0 h) ?_
  iterate 2 refine mrg wa (fun hc _ h => s0 h) ?_
  iterate 2 refine stp (fun _ h => s0 h) ?_
  refine aops_nil ?_
  refine AW.ret ?_
  refine ⟨.inr rfl, ?_⟩
  refine leaves_mwp2 (rs := [.tmp 2]) rfl ?_
  simp (config := {failIfUnchanged := false}) [giveL, srcOne, rehome, freezeN, sub, upd, opn, aLoad, loadL, giveOne, reify, reifyL, readL, readOne, Mwp, M.bind, Mem.set, setAt, cellsL, hG, f0, mayW]
  all_goals first | done | omega | (simp_all; done) | (simp_all; omega) | grind
theorem mayW_range {w : Int} (h : mayW w = true) : 1 ≤ w ∧ w ≤ 8 := by simpa [mayW] using h
theorem byte_div {n : Int} {w k : Nat} (h : k < w) : BitVec.ofInt 8 (n / 2 ^ (8 * ((w : Int) - 1 - (k : Int))).toNat) = byteAt n (w - 1 - k) := by
  unfold byteAt
  rw [show (8 * ((w : Int) - 1 - (k : Int))).toNat = 8 * (w - 1 - k) by omega]
theorem byte_wrap (x : Int) : IntKind.u8.wrap x = ((BitVec.ofInt 8 x).toNat : Int) := wrapu8 x
theorem numS_no {w n : Int} (h : mayW w = false) : numS w n = [] := by simp [numS, h]
theorem numS_is {w n : Int} (h : mayW w = true) : numS w n = numB w.toNat n w.toNat := by simp [numS, h]
attribute [go_sem] byte_wrap
theorem good_Num (nil : Bool) (l : List (BitVec 8)) (hl : l.length ≤ 140737488355320) (hz : nil = true → l = []) (w n : Int) (hn : 0 ≤ n ∧ n < 18446744073709551616) : Good Try.prog 42 [(.sl 1 nil (bsl l), false), (i64 w, false), (.i .u64 n, false)] [] [(.sl 1 (nil && !mayW w) (bsl (l ++ numS w n)), true)] [] := by
  refine good_of_body3 30 Try.func42 rfl rfl rfl (by simp) ?_
  intro s m ha hr hv hG
  have f0 : s 0 = .v (.sl 1 nil (bsl l)) := ha 0 _ rfl
  have f1 : s 1 = .v (i64 w) := ha 1 _ rfl
  have f2 : s 2 = .v (.i .u64 n) := ha 2 _ rfl
  clear ha
  have hc : True := trivial
  have F := (And.intro f0 (And.intro f1 (And.intro f2 hG)))
  refine AW.seq ?_
  refine AW.region (cfg := cfgN) ?_
  refine stp (fun _ h => s0 h) ?_
  refine aops_nil ?_
  refine AW.seq ?_
  refine AW.region (cfg := cfgN) ?_
  refine stp (fun _ h => s0 h) ?_
  refine stp (fun _ h => co1 (w := good_Clone _ _ (by omega) hz) (x := h)) ?_
  refine stp (fun _ h => st h) ?_
  refine aops_nil ?_
  refine AW.seq ?_
  refine AW.seq ?_
  refine AW.region (cfg := cfgN) ?_
  refine stp (fun _ h => s0 h) ?_
  refine stp (fun _ h => cs (w := good_mayO _) (x := h)) ?_
  refine stp (fun _ h => s0 h) ?_
  refine aops_nil ?_
  refine cnd (fun hb => ?ht1) (fun hb => ?hf1)
  case ht1 =>
    have hw13 := hb
    try simp only [bo1, bo2, bo3, bo4, bo5, bo6] at hb
    have hbt13 := hb
    refine AW.seq ?_
    refine AW.region (cfg := cfgN) ?_
    refine stp (fun _ h => s0 h) ?_
    refine stp (fun _ h => sm h) ?_
    refine aops_nil ?_
    refine AW.ret ?_
    refine ⟨.inr rfl, ?_⟩
    (have hw : mayW w = false := (by simpa using hb); have e0 : (nil && !mayW w) = nil := (by simp [hw]); rw [e0, numS_no hw, List.append_nil]; refine leavesN (leaves_own1 6 rfl (by simp (disch := first | omega | decide) only [go_sem, F, aIndex_map] <;> rfl) (by simp (disch := first | omega | decide) only [go_sem, F, aIndex_map] <;> rfl) (by decide) (by simp [sub, List.take_of_length_le]) (by exact hG)))
  case hf1 =>
    have hw13 := hb
    try simp only [bo1, bo2, bo3, bo4, bo5, bo6] at hb
    have hbt13 := hb
    refine AW.skip ?_
    refine AW.seq ?_
    refine AW.seq ?_
    have hw : mayW w = true := by simpa using hbt13
    have hw2 := mayW_range hw
    have e0 : (nil && !mayW w) = false := by simp [hw]
    obtain ⟨W, rfl⟩ := Int.eq_ofNat_of_zero_le (show 0 ≤ w by omega)
    refine AW.region (cfg := cfgN) ?_
    refine stp (fun _ h => s0 h) ?_
    refine stp (fun _ h => sd h) ?_
    refine stp (fun _ h => s0 h) ?_
    refine aops_nil ?_
    refine AW.block ?_
    refine AW.forN (fun k σ => ∃ s m, σ = ⟨30, s, m⟩ ∧ s 2 = .v (.i .u64 n) ∧ s 7 = .own (.var 7) (m.objs (.var 7)).1 0 (l.length + k) ∧ (m.objs (.var 7)).2 = .arr (nil && decide (k = 0)) 1 (bsl (l ++ numB W n k)) ∧ s 8 = .v (i64 ((W : Int) - 1 - (k : Int))) ∧ (mayW (W : Int) = true) ∧ (∀ i, (m.objs (.res i)).2 = .dead) ∧ m.G = []) (W) ?_ ?_ ?_
    · refine ⟨_, _, rfl, ?_, ?_, ?_, ?_, ?_, (by intro i; simp [Mem.set, hr]), (by exact hG)⟩ <;> try simp (disch := first | omega | decide) only [go_sem, F, aIndex_map]
      all_goals first | rfl | assumption | (simp [numB]; done)
    · clear F f0 f1 f2 hr hG
      rintro k σ hk ⟨s, m, rfl, f2, f7, o7, f8, mo0, hr, hG⟩
      obtain ⟨g7, o7⟩ : ∃ g, m.objs (.var 7) = (g, .arr (nil && decide (k = 0)) 1 (bsl (l ++ numB W n k))) := ⟨_, Prod.ext rfl o7⟩
      rw [o7] at f7
      have F := (And.intro f2 (And.intro f7 (And.intro f8 (And.intro o7 hG))))
      refine AW.seq ?_
      refine AW.seq ?_
      refine AW.region (cfg := cfgN) ?_
      iterate 2 refine stp (fun _ h => s0 h) ?_
      refine aops_nil ?_
      refine cnd (fun hb => ?ht2) (fun hb => ?hf2)
      case hf2 => (simp at hb; omega)
      case ht2 =>
      have hbt18 := hb
      refine AW.skip ?_
      refine AW.seq ?_
      refine AW.block ?_
      refine AW.region (cfg := cfgN) ?_
      iterate 3 refine stp (fun _ h => s0 h) ?_
      iterate 3 refine stp (fun _ h => sd h) ?_
      refine stp (fun _ h => sq h) ?_
      refine stp (fun _ h => sp h) ?_
      refine stp (fun _ h => st h) ?_
      refine aops_nil ?_
      refine AW.region (cfg := cfgN) ?_
      refine stp (fun _ h => s0 h) ?_
      refine stp (fun _ h => sd h) ?_
      refine stp (fun _ h => s0 h) ?_
      refine aops_nil ?_
      refine ⟨_, _, rfl, ?_, ?_, ?_, ?_, ?_, (by intro i; simp [Mem.set, hr]), (by exact hG)⟩ <;> try simp (disch := first | omega | decide) only [go_sem, F, aIndex_map]
      all_goals first | rfl | assumption | (simp [numB_length]; omega) | (rw [numB_succ]; simp [sub, byte_div hk]; done)
    · clear F f0 f1 f2 hr hG
      rintro σ ⟨s, m, rfl, f2, f7, o7, f8, mo0, hr, hG⟩
      obtain ⟨g7, o7⟩ : ∃ g, m.objs (.var 7) = (g, .arr (nil && decide (W = 0)) 1 (bsl (l ++ numB W n W))) := ⟨_, Prod.ext rfl o7⟩
      rw [o7] at f7
      have F := (And.intro f2 (And.intro f7 (And.intro f8 (And.intro o7 hG))))
      refine AW.seq ?_
      refine AW.seq ?_
      refine AW.region (cfg := cfgN) ?_
      iterate 2 refine stp (fun _ h => s0 h) ?_
      refine aops_nil ?_
      refine cnd (fun hb => ?ht3) (fun hb => ?hf3)
      case ht3 => (simp at hb; omega)
      case hf3 =>
      have hbt18 := hb
      refine AW.exit ?_
      refine AW.seq ?_
      refine AW.region (cfg := cfgN) ?_
      refine stp (fun _ h => s0 h) ?_
      refine stp (fun _ h => sm h) ?_
      refine aops_nil ?_
      refine AW.ret ?_
      refine ⟨.inr rfl, ?_⟩
      (rw [show (nil && !mayW (W : Int)) = (nil && decide (W = 0)) by (have := mayW_range mo0; simp [mo0]; omega), numS_is mo0, Int.toNat_natCast]; refine leavesN (leaves_own1 6 rfl (by simp (disch := first | omega | decide) only [go_sem, F, aIndex_map] <;> rfl) (by simp (disch := first | omega | decide) only [go_sem, F, aIndex_map] <;> rfl) (by decide) (sub_full (by simp [numB_length])) (by exact hG)))
theorem byte_rem (x : Int) : BitVec.ofInt 8 (x % 256) = BitVec.ofInt 8 x := by
  apply BitVec.eq_of_toNat_eq
  simp [BitVec.toNat_ofInt]
attribute [go_sem] byte_rem
def txO (t : List (BitVec 8)) : Bool := decide (t.length ≤ 65535)
def txR (l t : List (BitVec 8)) : List (BitVec 8) := if txO t then l ++ numS 2 (t.length : Int) ++ t else l
attribute [go_sem] Bool.false_or
attribute [go_sem] List.take_length
def nilS (l : List (BitVec 8)) (at_ : Nat) (w : Bool) : Bool := sBad l at_ w
end Go.Vai.O
namespace Go.Vai.L
open Go.Proofs Go.Vai Go.Vai.O
set_option linter.unusedSimpArgs false
set_option linter.unusedVariables false
set_option maxHeartbeats 4000000
set_option maxRecDepth 100000
attribute [simp] linksB_len rfLinks_length
theorem oneB_num (n : Int) : [BitVec.ofInt 8 n] = numR n 1 := (numR_one n).symm
attribute [go_sem] numS1 numS4 numS8 nm1 nm4 nm8 Bool.false_and List.append_assoc
theorem good_Put (nil : Bool) (l : List (BitVec 8)) (o q : Int) (nl : Bool) (ls : List LinkS) (hl : l.length ≤ 140737488350000) (hz : nil = true → l = []) (hls : ls.length ≤ 9223372036854775807) : Good Try.prog 43 [(.sl 1 nil (bsl l), false), (.agg [i64 o, i64 q, .sl 2 nl (ls.map linkA)], false)] [] [(.sl 1 (nil && !lsaOK ⟨o, q, nl, ls⟩) (bsl (l ++ lsaS ⟨o, q, nl, ls⟩)), true)] [] := by
  refine good_of_body3 47 Try.func43 rfl rfl rfl (by simp) ?_
  intro s m ha hr hv hG
  have f0 : s 0 = .v (.sl 1 nil (bsl l)) := ha 0 _ rfl
  have f1 : s 1 = .v (.agg [i64 o, i64 q, .sl 2 nl (ls.map linkA)]) := ha 1 _ rfl
  clear ha
  have hc : True := trivial
  have F := (And.intro f0 (And.intro f1 hG))
  refine AW.seq ?_
  refine AW.region (cfg := cfg4) ?_
  refine stp (fun _ h => sb h) ?_
  refine stp (fun _ h => s0 h) ?_
  refine aops_nil ?_
  refine AW.seq ?_
  refine AW.seq ?_
  refine AW.region (cfg := cfg4) ?_
  refine stp (fun _ h => sl h) ?_
  refine stp (fun _ h => cs (w := good_Check _ _ _ _ (by omega)) (x := h)) ?_
  refine stp (fun _ h => s0 h) ?_
  refine aops_nil ?_
  refine cnd (fun hb => ?ht1) (fun hb => ?hf1)
  case ht1 =>
    have hw9 := hb
    try simp only [bo1, bo2, bo3, bo4, bo5, bo6] at hb
    have hbt9 := hb
    refine AW.seq ?_
    refine AW.region (cfg := cfg4) ?_
    refine stp (fun _ h => s0 h) ?_
    refine stp (fun _ h => co1 (w := good_Clone _ _ (by omega) hz) (x := h)) ?_
    refine stp (fun _ h => st h) ?_
    refine aops_nil ?_
    refine AW.ret ?_
    refine ⟨.inr rfl, ?_⟩
    all_goals (have z : lsaOK ⟨o, q, nl, ls⟩ = false := (lsaE_ne (by simpa using hbt9)); rw [z, lsaS, z, Bool.not_false, Bool.and_true, if_neg (by decide), List.append_nil]; refine leavesN (leaves_own1 4 rfl (by simp (disch := first | omega | decide) only [go_sem, F, aIndex_map] <;> rfl) (by simp (disch := first | omega | decide) only [go_sem, F, aIndex_map] <;> rfl) (by decide) (by simp [sub, List.take_of_length_le]) (by exact hG)))
  case hf1 =>
    have hw9 := hb
    try simp only [bo1, bo2, bo3, bo4, bo5, bo6] at hb
    have hbt9 := hb
    refine AW.skip ?_
    refine AW.seq ?_
    have hok : lsaOK ⟨o, q, nl, ls⟩ = true := lsaE_eq (by simpa using hbt9)
    obtain ⟨b1, b2, b3, b4⟩ := lsa_bd hok
    dsimp only at b1 b2 b3 b4
    refine AW.region (cfg := cfg4) ?_
    refine stp (fun _ h => s0 h) ?_
    refine stp (fun _ h => sx h) ?_
    refine stp (fun _ h => sl h) ?_
    refine stp (fun _ h => sd h) ?_
    refine stp (fun _ h => co1 (w := good_Num _ _ (by omega) (by exact hz) _ _ (by omega)) (x := h)) ?_
    refine stp (fun _ h => st h) ?_
    refine aops_nil ?_
    refine AW.seq ?_
    refine AW.region (cfg := cfg4) ?_
    refine stp (fun _ h => s0 h) ?_
    refine stp (fun _ h => sx h) ?_
    refine stp (fun _ h => sl h) ?_
    refine stp (fun _ h => sd h) ?_
    refine stp (fun _ h => co1 (w := good_Num _ _ (by (simp [numR_length, linksB_len]; omega)) (by simp) _ _ (by omega)) (x := h)) ?_
    refine stp (fun _ h => st h) ?_
    refine aops_nil ?_
    refine AW.seq ?_
    refine AW.region (cfg := cfg4) ?_
    refine stp (fun _ h => s0 h) ?_
    refine stp (fun _ h => sx h) ?_
    refine stp (fun _ h => sl h) ?_
    iterate 2 refine stp (fun _ h => sd h) ?_
    refine stp (fun _ h => co1 (w := good_Num _ _ (by (simp [numR_length, linksB_len]; omega)) (by simp) _ _ (by omega)) (x := h)) ?_
    refine stp (fun _ h => st h) ?_
    refine aops_nil ?_
    refine AW.seq ?_
    refine AW.seq ?_
    refine AW.region (cfg := cfg4) ?_
    refine stp (fun _ h => sx h) ?_
    refine stp (fun _ h => sl h) ?_
    refine stp (fun _ h => sd h) ?_
    refine stp (fun _ h => s0 h) ?_
    refine aops_nil ?_
    refine AW.block ?_
    refine AW.forN (fun k σ => ∃ s m, σ = ⟨47, s, m⟩ ∧ s 0 = .own (.var 0) (m.objs (.var 0)).1 0 (l.length + 10 + 5 * k) ∧ (m.objs (.var 0)).2 = .arr false 1 (bsl (l ++ (numR o 1 ++ (numR q 8 ++ (numR (ls.length : Int) 1 ++ linksB (ls.take k)))))) ∧ s 29 = .v (.sl 2 nl (ls.map linkA)) ∧ s 30 = .v (i64 (ls.length : Int)) ∧ s 31 = .v (i64 (k : Int)) ∧ (∀ i, (m.objs (.res i)).2 = .dead) ∧ m.G = []) (ls.length) ?_ ?_ ?_
    · refine ⟨_, _, rfl, ?_, ?_, ?_, ?_, ?_, (by intro i; simp [Mem.set, hr]), (by exact hG)⟩ <;> try simp (disch := first | omega | decide) only [go_sem, F, aIndex_map]
      all_goals first | rfl | (simp [linksB]; done)
    · clear F f0 f1 hr hG
      rintro k σ hk ⟨s, m, rfl, f0, o0, f29, f30, f31, hr, hG⟩
      obtain ⟨g0, o0⟩ : ∃ g, m.objs (.var 0) = (g, .arr false 1 (bsl (l ++ (numR o 1 ++ (numR q 8 ++ (numR (ls.length : Int) 1 ++ linksB (ls.take k))))))) := ⟨_, Prod.ext rfl o0⟩
      rw [o0] at f0
      have F := (And.intro f0 (And.intro f29 (And.intro f30 (And.intro f31 (And.intro o0 hG)))))
      refine AW.seq ?_
      refine AW.region (cfg := cfg4) ?_
      refine stp (fun _ h => s0 h) ?_
      refine aops_nil ?_
      refine AW.seq ?_
      refine cnd (fun hb => ?ht2) (fun hb => ?hf2)
      case hf2 => (simp at hb; omega)
      case ht2 =>
      have hbt32 := hb
      refine AW.skip ?_
      refine AW.seq ?_
      refine AW.block ?_
      refine AW.seq ?_
      obtain ⟨c1, c2⟩ := link_bd b4 hk
      refine AW.region (cfg := cfg4) ?_
      refine stp (fun _ h => si h) ?_
      refine stp (fun _ h => sl h) ?_
      refine stp (fun _ h => sd h) ?_
      refine stp0 (fun _ h => ss h) ?_
      refine aops_nil ?_
      refine AW.seq ?_
      obtain ⟨c1, c2⟩ := link_bd b4 hk
      refine AW.region (cfg := cfg4) ?_
      refine stp (fun _ h => s0 h) ?_
      refine stp (fun _ h => sx h) ?_
      refine stp (fun _ h => sl h) ?_
      refine stp (fun _ h => sd h) ?_
      refine stp (fun _ h => co1 (w := good_Num _ _ (by (simp [numR_length, linksB_len]; omega)) (by simp) _ _ (by omega)) (x := h)) ?_
      refine stp (fun _ h => st h) ?_
      refine aops_nil ?_
      refine AW.region (cfg := cfg4) ?_
      refine stp (fun _ h => s0 h) ?_
      refine stp (fun _ h => sx h) ?_
      refine stp (fun _ h => sl h) ?_
      refine stp (fun _ h => sd h) ?_
      refine stp (fun _ h => co1 (w := good_Num _ _ (by (simp [numR_length, linksB_len]; omega)) (by simp) _ _ (by omega)) (x := h)) ?_
      refine stp (fun _ h => st h) ?_
      refine aops_nil ?_
      refine AW.region (cfg := cfg4) ?_
      refine stp (fun _ h => sd h) ?_
      refine stp (fun _ h => s0 h) ?_
      refine aops_nil ?_
      refine ⟨_, _, rfl, ?_, ?_, ?_, ?_, ?_, (by intro i; simp [Mem.set, hr]), (by exact hG)⟩ <;> try simp (disch := first | omega | decide) only [go_sem, F, aIndex_map]
      all_goals first | rfl | (simp [linksB_len, numR_length]; omega) | (rw [linksB_take hk]; simp [linkB]; done)
    · clear F f0 f1 hr hG
      rintro σ ⟨s, m, rfl, f0, o0, f29, f30, f31, hr, hG⟩
      obtain ⟨g0, o0⟩ : ∃ g, m.objs (.var 0) = (g, .arr false 1 (bsl (l ++ (numR o 1 ++ (numR q 8 ++ (numR (ls.length : Int) 1 ++ linksB (ls.take ls.length))))))) := ⟨_, Prod.ext rfl o0⟩
      rw [o0] at f0
      have F := (And.intro f0 (And.intro f29 (And.intro f30 (And.intro f31 (And.intro o0 hG)))))
      refine AW.seq ?_
      refine AW.region (cfg := cfg4) ?_
      refine stp (fun _ h => s0 h) ?_
      refine aops_nil ?_
      refine AW.seq ?_
      refine cnd (fun hb => ?ht3) (fun hb => ?hf3)
      case ht3 => (simp at hb; done)
      case hf3 =>
      have hbt32 := hb
      refine AW.exit ?_
      refine AW.seq ?_
      refine AW.region (cfg := cfg4) ?_
      refine stp (fun _ h => s0 h) ?_
      refine stp (fun _ h => sm h) ?_
      refine aops_nil ?_
      refine AW.ret ?_
      refine ⟨.inr rfl, ?_⟩
      all_goals (rw [hok, lsaS, hok, Bool.not_true, Bool.and_false, if_pos rfl]; refine leavesN (leaves_own1 4 rfl (by simp (disch := first | omega | decide) only [go_sem, F, aIndex_map] <;> rfl) (by simp (disch := first | omega | decide) only [go_sem, F, aIndex_map] <;> rfl) (by decide) (by rw [sub_full (by simp [numR_length, linksB_len]; omega)]; simp only [List.take_length, lsaB]) (by exact hG)))
attribute [go_sem] oneB_num
end Go.Vai.L
namespace Go.Vai.L
open Go.Proofs Go.Vai Go.Vai.O
set_option linter.unusedSimpArgs false
set_option linter.unusedVariables false
set_option maxHeartbeats 4000000
set_option maxRecDepth 100000
end Go.Vai.L
namespace Go.Vai.L
open Go.Proofs Go.Vai Go.Vai.O
set_option linter.unusedSimpArgs false
set_option linter.unusedVariables false
set_option maxHeartbeats 4000000
set_option maxRecDepth 100000
attribute [go_sem] getD_get Int.reduceToNat
end Go.Vai.L
set_option linter.unusedSimpArgs false
set_option linter.unusedVariables false
namespace Go.Vai.D
open Go.Vai.I Go.Vai.L
def fA (a b : List Lsa) : List Lsa := b.filter fun y => !hasI (a.map itm) (itm y)
def xS (a F : List Lsa) (k : Nat) : List Lsa := (F.take k).foldl (insP Lsa.o) a
theorem xS_succ {a F : List Lsa} {k : Nat} (hk : k < F.length) : xS a F (k + 1) = insP Lsa.o (xS a F k) F[k] := by
 rw [xS, List.take_succ_eq_append_getElem hk, List.foldl_append]; rfl
theorem xS_end {a F : List Lsa} {k : Nat} (hk : ¬ k < F.length) : xS a F (k + 1) = xS a F k := by
 rw [xS, xS, List.take_of_length_le (by omega), List.take_of_length_le (by omega)]
theorem xS_ok {a F : List Lsa} (ha : dbOK a = true) (hF : ∀ y ∈ F, lsaOK y = true) : ∀ k, dbOK (xS a F k) = true
 | 0 => ha
 | k + 1 => by
  by_cases hk : k < F.length
  ·rw [xS_succ hk]; exact ins_db (xS_ok ha hF k) (hF _ (List.getElem_mem hk))
  ·rw [xS_end hk]; exact xS_ok ha hF k
theorem take_none {F : List Lsa} (h : Srt Lsa.o F) {k : Nat} (hk : k < F.length) : gK Lsa.o (F.take k) F[k].o = none := by
 rw [gK_none]
 intro y hy e
 obtain ⟨j, hj, rfl⟩ := List.mem_take_iff_getElem.1 hy
 have := List.pairwise_iff_getElem.1 h j k (by omega) hk (by omega)
 omega
theorem xS_gK {a F : List Lsa} (h : Srt Lsa.o F) (t : Int) : ∀ k, k ≤ F.length → gK Lsa.o (xS a F k) t = (gK Lsa.o (F.take k) t).or (gK Lsa.o a t)
 | 0, _ => by simp [xS, gK]
 | k + 1, hk => by
  have hk : k < F.length := by omega
  rw [xS_succ hk, insP_gK, List.take_succ_eq_append_getElem hk, gK_append, gK_cons, gK_nil, xS_gK h t k (by omega)]
  by_cases e : t = F[k].o
  ·rw [if_pos e, if_pos e.symm, e, take_none h hk]; rfl
  ·rw [if_neg e, if_neg (fun h => e h.symm)]; cases gK Lsa.o (F.take k) t <;> rfl
def ordF (s : List Lsa) (x : Lsa) : List Lsa := if (putR s x).2.2 = 0 then (putR s x).2.1 else s
def ordS (x : List Lsa) (k : Nat) : List Lsa := (x.take k).foldl ordF []
def idxG {α : Type} (x : List α) (ts : List (BitVec 8)) (i : Nat) : Int := if i < ts.length then ((ts.getD i 0).toNat : Int) % (x.length : Int) else (x.length : Int) - 1 - ((i : Int) - (ts.length : Int))
def zsG {α : Type} [Inhabited α] (x : List α) (ts : List (BitVec 8)) : List α := if 0 < x.length then (List.range (ts.length + x.length)).map fun i => x.getD (idxG x ts i).toNat default else []
section
variable {α : Type}
end
end Go.Vai.D
set_option linter.unusedSimpArgs false
set_option linter.unusedVariables false
namespace Go.Vai.D
open Go.Vai.I Go.Vai.L
structure Dl where
 n1 : Bool
 nw : List Lsa
 n2 : Bool
 gn : List Int
 n3 : Bool
 ol : List Lsa
def dl0 : Dl := ⟨true, [], true, [], true, []⟩
abbrev gD (l : List Lsa) (t : Int) : Lsa := (gK Lsa.o l t).getD default
def nwP (a : List Lsa) (y : Lsa) : Bool := !isK Lsa.o a y.o || newer y ((gK Lsa.o a y.o).getD default)
def olP (a : List Lsa) (y : Lsa) : Bool := !nwP a y && !lsaEq y ((gK Lsa.o a y.o).getD default)
def gnP (b : List Lsa) (x : Lsa) : Bool := !isK Lsa.o b x.o
def nwL (a b : List Lsa) : List Lsa := b.filter (nwP a)
def olL (a b : List Lsa) : List Lsa := b.filter (olP a)
def gnL (a b : List Lsa) : List Int := (a.filter (gnP b)).map Lsa.o
def dlR (a b : List Lsa) : Dl := ⟨(nwL a b).isEmpty, nwL a b, (gnL a b).isEmpty, gnL a b, (olL a b).isEmpty, olL a b⟩
def ofR (a b : List Lsa) : Dl × Int := if dbOK a && dbOK b then (dlR a b, 0) else (dl0, 1)
def hasN (l : List Int) (x : Int) : Bool := l.any fun z => decide (x = z)
def kp (d : Dl) (x : Lsa) : Bool := !hasN d.gn x.o
def emptyD (d : Dl) : Bool := (decide ((d.nw.length : Int) = 0) && decide ((d.gn.length : Int) = 0)) && decide ((d.ol.length : Int) = 0)
def sameD (x y : Dl) : Bool := (eqAll lsaEq x.nw y.nw && eqAll lsaEq x.ol y.ol) && decide (x.gn = y.gn)
def mo (d : Dl) : List Lsa := d.ol ++ d.nw
def apA (a : List Lsa) (d : Dl) : List Lsa := a.filter (kp d)
def applyR (a : List Lsa) (d : Dl) : Bool × List Lsa × Int := if dbOK a && (mo d).all lsaOK then ((apA a d).isEmpty && decide ((mo d).length = 0), xS (apA a d) (mo d) (mo d).length, 0) else (true, [], 1)
theorem db_filter {a : List Lsa} {p : Lsa → Bool} (h : dbOK a = true) : dbOK (a.filter p) = true := by
 unfold dbOK at h ⊢
 rw [chn_iff] at h ⊢
 exact ⟨h.1.filter, fun x hx => h.2 x (List.mem_filter.1 hx).1⟩
theorem xS_app {a F G : List Lsa} : xS (xS a F F.length) G G.length = xS a (F ++ G) (F ++ G).length := by
 simp only [xS, List.take_length, List.foldl_append]
def mD (a b : List Lsa) : Dl := ⟨(nwL a b).isEmpty, nwL a b, true, [], true, []⟩
def mergeR (a b : List Lsa) : Bool × List Lsa × Int := if dbOK a && dbOK b then applyR a (mD a b) else (true, [], 1)
theorem applyR_dbno {a : List Lsa} {d : Dl} (h : dbOK a = false) : applyR a d = (true, [], 1) := by rw [applyR, h]; rfl
theorem applyR_mono {a : List Lsa} {d : Dl} (h : (mo d).all lsaOK = false) : applyR a d = (true, [], 1) := by rw [applyR, h, Bool.and_false]; rfl
theorem mo_all {d : Dl} : (mo d).all lsaOK = (d.ol.all lsaOK && d.nw.all lsaOK) := List.all_append
theorem applyR_bad {a : List Lsa} {d : Dl} (h : ((!dbOK a) = true ∨ (!d.nw.all lsaOK) = true) ∨ (!d.ol.all lsaOK) = true) : applyR a d = (true, [], 1) := by
 rcases h with (h | h) | h
 ·exact applyR_dbno (by simpa using h)
 ·exact applyR_mono (by rw [mo_all, show d.nw.all lsaOK = false from by simpa using h, Bool.and_false])
 ·exact applyR_mono (by rw [mo_all, show d.ol.all lsaOK = false from by simpa using h]; rfl)
def rgF {α : Type} (f : Nat → Option α) (k : Nat) : List α := (List.range k).filterMap f
def roG (a b : List Lsa) (i : Nat) : Option Int := if (gD b ((i : Int) + 1)).o = 0 ∧ (gD a ((i : Int) + 1)).o > 0 then some ((i : Int) + 1) else none
def roN (a b : List Lsa) (i : Nat) : Option Lsa := if (gD b ((i : Int) + 1)).o = 0 ∧ (gD a ((i : Int) + 1)).o > 0 then none else if (gD b ((i : Int) + 1)).s > (gD a ((i : Int) + 1)).s then some (gD b ((i : Int) + 1)) else none
def roO (a b : List Lsa) (i : Nat) : Option Lsa := if (gD b ((i : Int) + 1)).o = 0 ∧ (gD a ((i : Int) + 1)).o > 0 then none else if (gD b ((i : Int) + 1)).s > (gD a ((i : Int) + 1)).s then none else if (!lsaEq (gD a ((i : Int) + 1)) (gD b ((i : Int) + 1))) = true then some (gD b ((i : Int) + 1)) else none
def mgX (a b : List Lsa) (i : Nat) : Lsa := if (gD b ((i : Int) + 1)).s > (gD a ((i : Int) + 1)).s then gD b ((i : Int) + 1) else gD a ((i : Int) + 1)
def mgI (a b : List Lsa) (i : Nat) : Option Lsa := if (mgX a b i).o > 0 then some (mgX a b i) else none
def rofR (a b : List Lsa) : Dl := ⟨(rgF (roN a b) 64).isEmpty, rgF (roN a b) 64, (rgF (roG a b) 64).isEmpty, rgF (roG a b) 64, (rgF (roO a b) 64).isEmpty, rgF (roO a b) 64⟩
theorem fm_yes {α : Type} {f : Nat → Option α} {k : Nat} {x : α} (h : f k = some x) : rgF f (k + 1) = rgF f k ++ [x] := by
 rw [rgF, rgF, List.range_succ, List.filterMap_append]; simp [h]
theorem fm_no {α : Type} {f : Nat → Option α} {k : Nat} (h : f k = none) : rgF f (k + 1) = rgF f k := by
 rw [rgF, rgF, List.range_succ, List.filterMap_append]; simp [h]
theorem fm_len {α : Type} (f : Nat → Option α) (k : Nat) : (rgF f k).length ≤ k := Nat.le_trans (List.length_filterMap_le _ _) (by simp)
end Go.Vai.D
