import Derived.Test.YtdoomgohnocecaaM3
import Derived.Test.YtdoomgohnocecaaM2
namespace Go.Vai.BA
open Go.Proofs Go.Vai Go.Vai.C Go.Vai.D Go.Vai.DB Go.Vai.G Go.Vai.I Go.Vai.L Go.Vai.N Go.Vai.O
set_option linter.unusedSimpArgs false
set_option linter.unusedVariables false
set_option maxHeartbeats 4000000
set_option maxRecDepth 100000
theorem hg_copy (mc : Mem) (hG0 : mc.G = []) (a : Sta) (ha1 : a.db.length ≤ 1000000) (ha2 : a.ep.length ≤ 1000000) (pa : ∀ x ∈ a.db, fit x) (z1 : a.n1 = true → a.db = []) (z2 : a.n2 = true → a.ep = []) : HGood Try.prog 20 [.agg [.v (.sl 3 a.n1 (a.db.map lsaA)), .v (i64 a.up), .v (i64 a.bo), .v (.sl 2 a.n2 (a.ep.map itA))]] mc (.agg [.own (.tmp 18 0) ((mc.objs (.tmp 18 0)).1 + 1) 0 a.db.length, .v (i64 a.up), .v (i64 a.bo), .own (.tmp 18 3) ((mc.objs (.tmp 18 3)).1 + 1) 0 a.ep.length]) ((mc.set (.tmp 18 0) ((mc.objs (.tmp 18 0)).1 + 1, .arr a.n1 3 (a.db.map lsaA))).set (.tmp 18 3) ((mc.objs (.tmp 18 3)).1 + 1, .arr a.n2 2 (a.ep.map itA))) := by
  refine hgood_of_body 29 18 Try.func20 rfl rfl rfl (by simp) ?_
  intro s m1 ha hu
  have f0 : s 0 = .agg [.v (.sl 3 a.n1 (a.db.map lsaA)), .v (i64 a.up), .v (i64 a.bo), .v (.sl 2 a.n2 (a.ep.map itA))] := ha 0 _ rfl
  have hr : m1.objs (.res 0) = (0, .dead) := hu.own _ rfl
  have hG : m1.G = [] := hu.G.trans hG0
  clear ha
  have hc : True := trivial
  have F := (And.intro f0 hG)
  refine AW.seq ?_
  refine AW.region (cfg := cfg) ?_
  refine stp (fun _ h => sb h) ?_
  refine stp (fun _ h => sd h) ?_
  refine aops_nil ?_
  refine AW.seq ?_
  refine AW.draw (cfg := cfg) (by kernel_rfl) (by kernel_rfl) (by kernel_rfl) ?_
  refine dstp (fun _ h => sx h) ?_
  refine dstp (fun _ h => sl h) ?_
  refine dstp (fun _ h => co1 (w := good_CloneLsa a.n1 a.db (by omega) z1) (x := h)) ?_
  refine dstp (fun _ h => sx h) ?_
  refine dstp (fun _ h => sl h) ?_
  refine dstp (fun _ h => co1 (w := good_CloneIt a.n2 a.ep (by omega) z2) (x := h)) ?_
  refine dstp (fun _ h => sx h) ?_
  refine dstp0 (fun _ h => ss h) ?_
  refine dstp (fun _ h => sx h) ?_
  refine dstp0 (fun _ h => ss h) ?_
  refine adraw_nil (by kernel_rfl) ?_
  refine AW.seq ?_
  refine AW.seq ?_
  refine AW.region (cfg := cfg) ?_
  refine stp (fun _ h => sx h) ?_
  refine stp (fun _ h => sl h) ?_
  refine stp (fun _ h => sn h) ?_
  refine stp (fun _ h => s0 h) ?_
  refine aops_nil ?_
  refine AW.block ?_
  refine AW.forN (fun k σ => ∃ s m, σ = ⟨29, s, m⟩ ∧ s 1 = .lptr (.tmp 1 0) (m.objs (.tmp 1 0)).1 0 ∧ (m.objs (.tmp 1 0)).2 = .box [.own (.cell 1 0) (m.objs (.cell 1 0)).1 0 a.db.length, .v (i64 a.up), .v (i64 a.bo), .own (.cell 1 3) (m.objs (.cell 1 3)).1 0 a.ep.length] ∧ (m.objs (.cell 1 0)).2 = .arr a.n1 3 (a.db.map lsaA) ∧ (m.objs (.cell 1 3)).2 = .arr a.n2 2 (a.ep.map itA) ∧ s 2 = .lptr (.tmp 2 0) (m.objs (.tmp 2 0)).1 0 ∧ (m.objs (.tmp 2 0)).2 = .box [.v (.sl 3 true []), .v (i64 0), .v (i64 0), .v (.sl 2 true [])] ∧ s 14 = .own (.cell 1 0) (m.objs (.cell 1 0)).1 0 a.db.length ∧ s 15 = .v (i64 (a.db.length : Int)) ∧ s 16 = .v (i64 (k : Int)) ∧ (∀ n : Nm, m.objs n.up = m1.objs n.up) ∧ m.G = []) (a.db.length) ?_ ?_ ?_
  · refine ⟨_, _, rfl, ?_, ?_, ?_, ?_, ?_, ?_, ?_, ?_, ?_, ?_, (by exact hG)⟩ <;> try simp (disch := first | omega | decide) only [go_sem, F, aIndex_map]
    all_goals first | rfl | (intro n; cases n <;> simp [mset_if, Nm.up]; done)
  · clear F f0 hG
    rintro k σ hk ⟨s, m, rfl, f1, o1, o1c0, o1c3, f2, o2, f14, f15, f16, mo0, hG⟩
    obtain ⟨g1c0, o1c0⟩ : ∃ g, m.objs (.cell 1 0) = (g, .arr a.n1 3 (a.db.map lsaA)) := ⟨_, Prod.ext rfl o1c0⟩
    rw [o1c0] at o1
    obtain ⟨g1c3, o1c3⟩ : ∃ g, m.objs (.cell 1 3) = (g, .arr a.n2 2 (a.ep.map itA)) := ⟨_, Prod.ext rfl o1c3⟩
    rw [o1c3] at o1
    simp only at o1
    obtain ⟨g1, o1⟩ : ∃ g, m.objs (.tmp 1 0) = (g, .box [.own (.cell 1 0) g1c0 0 a.db.length, .v (i64 a.up), .v (i64 a.bo), .own (.cell 1 3) g1c3 0 a.ep.length]) := ⟨_, Prod.ext rfl o1⟩
    rw [o1] at f1
    obtain ⟨g2, o2⟩ : ∃ g, m.objs (.tmp 2 0) = (g, .box [.v (.sl 3 true []), .v (i64 0), .v (i64 0), .v (.sl 2 true [])]) := ⟨_, Prod.ext rfl o2⟩
    rw [o2] at f2
    simp only [o1, o2, o1c0, o1c3] at f14
    have F := (And.intro f1 (And.intro f2 (And.intro f14 (And.intro f15 (And.intro f16 (And.intro o1 (And.intro o2 (And.intro o1c0 (And.intro o1c3 hG)))))))))
    refine AW.seq ?_
    refine AW.region (cfg := cfg) ?_
    refine stp (fun _ h => s0 h) ?_
    refine aops_nil ?_
    refine AW.seq ?_
    refine cnd (fun hb => ?ht1) (fun hb => ?hf1)
    case hf1 => (simp at hb; omega)
    case ht1 =>
    have hbt17 := hb
    refine AW.skip ?_
    refine AW.seq ?_
    refine AW.block ?_
    refine AW.seq ?_
    have hkl : k < a.db.length := by assumption
    refine AW.region (cfg := cfg) ?_
    refine stp (fun _ h => s0 h) ?_
    refine stp (fun _ h => si h) ?_
    refine stp (fun _ h => sel h) ?_
    refine stp (fun _ h => sd h) ?_
    refine stp (fun _ h => s0 h) ?_
    refine stp0 (fun _ h => ss h) ?_
    refine aops_nil ?_
    have hkl : k < a.db.length := by assumption
    have pk := pa a.db[k] (List.getElem_mem hkl)
    have hz0 : 0 + k = k := Nat.zero_add _
    have F := And.intro hz0 F
    refine AW.draw (cfg := cfg) (by kernel_rfl) (by kernel_rfl) (by kernel_rfl) ?_
    refine dstp (fun _ h => sx h) ?_
    refine dstp (fun _ h => sl h) ?_
    refine dstp (fun _ h => s0 h) ?_
    refine dstp (fun _ h => sl h) ?_
    refine dstp (fun _ h => cr (w := good_CopyX a.db[k] pk) (x := h)) ?_
    refine dstp (fun _ h => si h) ?_
    refine dstp0 (fun _ h => se2 (w := lsaA_eq a.db[k]) (x := h)) ?_
    refine adraw_nil (by kernel_rfl) ?_
    refine AW.region (cfg := cfg) ?_
    refine stp (fun _ h => sd h) ?_
    refine stp (fun _ h => s0 h) ?_
    refine aops_nil ?_
    refine ⟨_, _, rfl, ?_, ?_, ?_, ?_, ?_, ?_, ?_, ?_, ?_, ?_, (by exact hG)⟩ <;> try simp (disch := first | omega | decide) only [go_sem, F, aIndex_map]
    all_goals first | rfl | (rw [List.set_getElem_self]; done) | (intro n; refine Eq.trans ?_ (mo0 n); cases n <;> simp [mset_if, Nm.up]; done)
  · clear F f0 hG
    rintro σ ⟨s, m, rfl, f1, o1, o1c0, o1c3, f2, o2, f14, f15, f16, mo0, hG⟩
    obtain ⟨g1c0, o1c0⟩ : ∃ g, m.objs (.cell 1 0) = (g, .arr a.n1 3 (a.db.map lsaA)) := ⟨_, Prod.ext rfl o1c0⟩
    rw [o1c0] at o1
    obtain ⟨g1c3, o1c3⟩ : ∃ g, m.objs (.cell 1 3) = (g, .arr a.n2 2 (a.ep.map itA)) := ⟨_, Prod.ext rfl o1c3⟩
    rw [o1c3] at o1
    simp only at o1
    obtain ⟨g1, o1⟩ : ∃ g, m.objs (.tmp 1 0) = (g, .box [.own (.cell 1 0) g1c0 0 a.db.length, .v (i64 a.up), .v (i64 a.bo), .own (.cell 1 3) g1c3 0 a.ep.length]) := ⟨_, Prod.ext rfl o1⟩
    rw [o1] at f1
    obtain ⟨g2, o2⟩ : ∃ g, m.objs (.tmp 2 0) = (g, .box [.v (.sl 3 true []), .v (i64 0), .v (i64 0), .v (.sl 2 true [])]) := ⟨_, Prod.ext rfl o2⟩
    rw [o2] at f2
    simp only [o1, o2, o1c0, o1c3] at f14
    have F := (And.intro f1 (And.intro f2 (And.intro f14 (And.intro f15 (And.intro f16 (And.intro o1 (And.intro o2 (And.intro o1c0 (And.intro o1c3 hG)))))))))
    refine AW.seq ?_
    refine AW.region (cfg := cfg) ?_
    refine stp (fun _ h => s0 h) ?_
    refine aops_nil ?_
    refine AW.seq ?_
    refine cnd (fun hb => ?ht2) (fun hb => ?hf2)
    case ht2 => (simp at hb; done)
    case hf2 =>
    have hbt17 := hb
    refine AW.exit ?_
    refine AW.seq ?_
    refine AW.cellOut 1 0 901 (by simp (disch := first | omega | decide) only [go_sem, F]; rfl) (by rfl) (by simp (disch := first | omega | decide) only [go_sem, F]; rfl) (by decide) ?_
    refine AW.cellOut 1 3 901 (by simp (disch := first | omega | decide) only [go_sem, F]; rfl) (by rfl) (by simp (disch := first | omega | decide) only [go_sem, F]; rfl) (by decide) ?_
    refine AW.region (cfg := cfg) ?_
    refine stp (fun _ h => sl h) ?_
    refine stp0 (fun _ h => ss h) ?_
    refine aops_nil ?_
    refine AW.ret ?_
    refine ⟨.inr rfl, ?_⟩
    have e0 : m.objs (.tmp 1018 0) = upO (mc.objs (.tmp 18 0)) := (mo0 (.tmp 18 0)).trans (hu.up _)
    have e3 : m.objs (.tmp 1018 3) = upO (mc.objs (.tmp 18 3)) := (mo0 (.tmp 18 3)).trans (hu.up _)
    refine hleaves_mwp (x := .cell 2 25) rfl ?_
    simp (config := {failIfUnchanged := false}) [srcOne, giveH, giveHL, rehome, upd, opn, aLoad, loadL, Mwp, M.bind, mset_if, setAt, cellsL, hG, ti25, f1, f2, f14, f15, f16, o1, o2, o1c0, o1c3]
    refine ⟨by rw [e0, e3]; rfl, hG0, fun n => ?_⟩
    by_cases q3 : n = .tmp 18 3
    · subst q3; simp [Nm.up, upO, Obj.up, e3, mset_if]
    · by_cases q0 : n = .tmp 18 0
      · subst q0; simp [Nm.up, upO, Obj.up, e0, mset_if]
      · have q := (mo0 n).trans (hu.up n)
        have q5 : ¬ n.up = .tmp 1018 3 := fun e => q3 (Nm.up_inj e)
        have q6 : ¬ n.up = .tmp 1018 0 := fun e => q0 (Nm.up_inj e)
        simp only [if_neg q3, if_neg q0, if_neg q5, if_neg q6]
        cases n <;> simp_all [Nm.up, upO, mset_if]
    all_goals first | done | trace_state
end Go.Vai.BA
namespace Go.Vai.BA
open Go.Proofs Go.Vai Go.Vai.C Go.Vai.D Go.Vai.DB Go.Vai.G Go.Vai.I Go.Vai.L Go.Vai.N Go.Vai.O
set_option linter.unusedSimpArgs false
set_option linter.unusedVariables false
set_option maxHeartbeats 4000000
set_option maxRecDepth 100000
attribute [go_sem] wr
theorem good_IndexFuncCh (nil : Bool) (l : List Ch) (f : FuncId) (caps : List AV) (p : Ch → Bool) (hl : l.length ≤ 9223372036854775807) (hcn : noPtrL caps = true) (hpu : cfg.pure f = true) (hsc : cfg.scalar f = true) (hxf : cfg.xfer f = false) (hp : ∀ x ∈ l, Good Try.prog f (([chA x] ++ caps).map fun a => (a, false)) [] [(.b (p x), false)] []) : Good Try.prog 52 [(.sl 6 nil (l.map chA), false), (.clo f caps, false)] [] [(i64 (findI p l), false)] [] := by
  refine good_of_body2 19 Try.func52 rfl rfl rfl (by simp) ?_
  intro s m ha hr hv hG
  have f0 : s 0 = .v (.sl 6 nil (l.map chA)) := ha 0 _ rfl
  have f1 : s 1 = .v (.clo f caps) := ha 1 _ rfl
  clear ha
  have hc : True := trivial
  have F := (And.intro f0 (And.intro f1 hG))
  refine AW.seq ?_
  refine AW.region (cfg := cfg) ?_
  refine stp (fun _ h => s0 h) ?_
  refine aops_nil ?_
  refine AW.seq ?_
  refine AW.seq ?_
  refine AW.region (cfg := cfg) ?_
  refine stp (fun _ h => s0 h) ?_
  refine stp (fun _ h => sd h) ?_
  refine stp (fun _ h => s0 h) ?_
  refine aops_nil ?_
  refine AW.block ?_
  refine AW.forN (fun k σ => ∃ s m, σ = ⟨19, s, m⟩ ∧ s 0 = .v (.sl 6 nil (l.map chA)) ∧ s 1 = .v (.clo f caps) ∧ s 7 = .v (i64 (l.length : Int)) ∧ s 8 = .v (i64 (k : Int)) ∧ (∀ x ∈ l.take k, p x = false) ∧ m.G = []) (l.length) ?_ ?_ ?_
  · refine ⟨_, _, rfl, ?_, ?_, ?_, ?_, ?_, (by exact hG)⟩ <;> try simp (disch := first | omega | decide) only [go_sem, F, aIndex_map]
    all_goals first | rfl | (simp; done)
  · clear F f0 f1 hG
    rintro k σ hk ⟨s, m, rfl, f0, f1, f7, f8, mo0, hG⟩
    have F := (And.intro f0 (And.intro f1 (And.intro f7 (And.intro f8 hG))))
    refine AW.seq ?_
    refine AW.region (cfg := cfg) ?_
    refine stp (fun _ h => s0 h) ?_
    refine aops_nil ?_
    refine AW.seq ?_
    refine cnd (fun hb => ?ht1) (fun hb => ?hf1)
    case hf1 => (simp at hb; omega)
    case ht1 =>
    have hbt9 := hb
    refine AW.skip ?_
    refine AW.seq ?_
    refine AW.block ?_
    refine AW.seq ?_
    refine AW.region (cfg := cfg) ?_
    iterate 2 refine stp (fun _ h => s0 h) ?_
    refine aops_nil ?_
    refine AW.seq ?_
    refine AW.region (cfg := cfg) ?_
    iterate 3 refine stp (fun _ h => s0 h) ?_
    refine stp (fun _ h => si h) ?_
    refine stp (fun _ h => sl h) ?_
    apply aops_step (by decide) rfl
    · intro K hK
      simp (disch := first | omega | decide) only [go_sem, F, aIndex_map, act_callv, List.map]
      apply mwp_call_sc hpu hxf hsc
      · intro Q hQ
        simp (disch := first | omega | decide) only [go_sem, F, aIndex_map, peekL, reifyL_nil, reifyL_cons, reify_v]
        exact hQ
      · exact hp l[k] (List.getElem_mem hk)
      · simp [noPtrL, noPtr, chA, hcn]
      · rfl
      · exact hK _
    refine aops_nil ?_
    refine cnd (fun hb => ?ht2) (fun hb => ?hf2)
    case ht2 =>
      have hw16 := hb
      try simp only [bo1, bo2, bo3, bo4, bo5, bo6] at hb
      have hbt16 := hb
      refine AW.seq ?_
      refine AW.region (cfg := cfg) ?_
      iterate 2 refine stp (fun _ h => s0 h) ?_
      refine aops_nil ?_
      refine AW.ret ?_
      refine ⟨.inr rfl, ?_⟩
      refine leaves_tmp1 4 rfl ?_ (by exact hG)
      simp (disch := first | omega | decide) only [go_sem, F, aIndex_map]
      all_goals (rw [findI_at hk mo0 hb]; done)
    case hf2 =>
      have hw16 := hb
      try simp only [bo1, bo2, bo3, bo4, bo5, bo6] at hb
      have hbt16 := hb
      refine AW.skip ?_
      refine AW.region (cfg := cfg) ?_
      refine stp (fun _ h => sd h) ?_
      refine stp (fun _ h => s0 h) ?_
      refine aops_nil ?_
      refine ⟨_, _, rfl, ?_, ?_, ?_, ?_, ?_, (by exact hG)⟩ <;> try simp (disch := first | omega | decide) only [go_sem, F, aIndex_map]
      all_goals first | rfl | skip
      all_goals (intro x hx; rw [List.take_succ_eq_append_getElem hk] at hx; rcases List.mem_append.1 hx with h | h; exact mo0 x h; rw [List.mem_singleton.1 h]; exact hb)
  · clear F f0 f1 hG
    rintro σ ⟨s, m, rfl, f0, f1, f7, f8, mo0, hG⟩
    have F := (And.intro f0 (And.intro f1 (And.intro f7 (And.intro f8 hG))))
    refine AW.seq ?_
    refine AW.region (cfg := cfg) ?_
    refine stp (fun _ h => s0 h) ?_
    refine aops_nil ?_
    refine AW.seq ?_
    refine cnd (fun hb => ?ht3) (fun hb => ?hf3)
    case ht3 => (simp at hb; done)
    case hf3 =>
    have hbt9 := hb
    refine AW.exit ?_
    refine AW.seq ?_
    refine AW.region (cfg := cfg) ?_
    refine stp (fun _ h => s0 h) ?_
    refine aops_nil ?_
    refine AW.ret ?_
    refine ⟨.inr rfl, ?_⟩
    refine leaves_tmp1 4 rfl ?_ (by exact hG)
    simp (disch := first | omega | decide) only [go_sem, F, aIndex_map]
    all_goals (rw [findI_none (by simpa using mo0)]; done)
theorem good_ContainsFuncCh (nil : Bool) (l : List Ch) (f : FuncId) (caps : List AV) (p : Ch → Bool) (hl : l.length ≤ 9223372036854775807) (hcn : noPtrL caps = true) (hpu : cfg.pure f = true) (hsc : cfg.scalar f = true) (hxf : cfg.xfer f = false) (hp : ∀ x ∈ l, Good Try.prog f (([chA x] ++ caps).map fun a => (a, false)) [] [(.b (p x), false)] []) : Good Try.prog 24 [(.sl 6 nil (l.map chA), false), (.clo f caps, false)] [] [(.b (l.any p), false)] [] := by
  refine good_of_body2 9 Try.func24 rfl rfl rfl (by simp) ?_
  intro s m ha hr hv hG
  have f0 : s 0 = .v (.sl 6 nil (l.map chA)) := ha 0 _ rfl
  have f1 : s 1 = .v (.clo f caps) := ha 1 _ rfl
  clear ha
  have hc : True := trivial
  have F := (And.intro f0 (And.intro f1 hG))
  have F := And.intro hcn F
  refine AW.seq ?_
  refine AW.region (cfg := cfg) ?_
  refine stp (fun _ h => s0 h) ?_
  refine aops_nil ?_
  refine AW.seq ?_
  refine AW.region (cfg := cfg) ?_
  iterate 2 refine stp (fun _ h => s0 h) ?_
  refine stp (fun _ h => cs (w := good_IndexFuncCh nil l f caps p hl hcn hpu hsc hxf hp) (x := h)) ?_
  iterate 2 refine stp (fun _ h => s0 h) ?_
  refine aops_nil ?_
  refine AW.ret ?_
  refine ⟨.inr rfl, ?_⟩
  refine leaves_tmp1 4 rfl ?_ (by exact hG)
  simp (disch := first | omega | decide) only [go_sem, F, aIndex_map]
  all_goals (rw [findI_any]; done)
theorem chE_not (c : Ch) : decide (chE c ≠ 0) = !chOK c := by cases h : chOK c <;> simp [chE, h]
theorem good_ap1 (c : Ch) (pc : fit c.l) : Good Try.prog 25 [(chA c, false)] [] [(.b (!chOK c), false)] [] := by
  refine good_of_body2 6 Try.func25 rfl rfl rfl (by simp) ?_
  intro s m ha hr hv hG
  have f0 : s 0 = .v (.agg [i64 c.kind, i64 c.l.o, i64 c.l.s, .sl 2 c.l.nil (c.l.ls.map linkA), i64 c.n, i64 c.of]) := ha 0 _ rfl
  clear ha
  have hc : True := trivial
  have F := (And.intro f0 hG)
  refine AW.seq ?_
  refine AW.region (cfg := cfg) ?_
  refine stp (fun _ h => sb h) ?_
  refine stp (fun _ h => s0 h) ?_
  refine aops_nil ?_
  refine AW.seq ?_
  refine AW.region (cfg := cfg) ?_
  refine stp (fun _ h => sl h) ?_
  refine stp (fun _ h => cs (w := C.good_CheckC c (by have := pc.1; omega)) (x := h)) ?_
  iterate 2 refine stp (fun _ h => s0 h) ?_
  refine aops_nil ?_
  refine AW.ret ?_
  refine ⟨.inr rfl, ?_⟩
  refine leaves_tmp1 2 rfl ?_ (by exact hG)
  simp (disch := first | omega | decide) only [go_sem, F, aIndex_map]
  all_goals (rw [chE_not]; done)
theorem good_ApplyB (a : Sta) (ha1 : a.db.length ≤ 1000000) (ha2 : a.ep.length ≤ 1000000) (pa : ∀ x ∈ a.db, fit x) (z1 : a.n1 = true → a.db = []) (z2 : a.n2 = true → a.ep = []) (nl : Bool) (l : List Ch) (hl : l.length ≤ 1000000) (pl : ∀ c ∈ l, fit c.l) : Good Try.prog 10 [(staA a, false), (.sl 6 nl (l.map chA), false)] [] [(staA (applyR a l).1, false), (i64 (applyR a l).2, false)] [] := by
  refine good_of_body2 31 Try.func10 rfl rfl rfl (by simp) ?_
  intro s m ha hr hv hG
  have f0 : s 0 = .v (.agg [.sl 3 a.n1 (a.db.map lsaA), i64 a.up, i64 a.bo, .sl 2 a.n2 (a.ep.map itA)]) := ha 0 _ rfl
  have f1 : s 1 = .v (.sl 6 nl (l.map chA)) := ha 1 _ rfl
  clear ha
  have hc : True := trivial
  have F := (And.intro f0 (And.intro f1 hG))
  refine AW.seq ?_
  refine AW.region (cfg := cfg) ?_
  refine stp (fun _ h => sb h) ?_
  refine stp (fun _ h => sd h) ?_
  refine stp (fun _ h => s0 h) ?_
  refine aops_nil ?_
  refine AW.seq ?_
  refine AW.seq ?_
  refine AW.region (cfg := cfg) ?_
  refine stp (fun _ h => sl h) ?_
  refine stp (fun _ h => cs (w := good_CheckB a (by omega) (by omega) (fun x hx => by have := (pa x hx).1; omega)) (x := h)) ?_
  iterate 2 refine stp (fun _ h => s0 h) ?_
  refine mrg wa (fun hc _ h => s0 h) ?_
  refine mrg wa (fun hc _ h => cs (w := good_ContainsFuncCh nl l 25 [] (fun c => !chOK c) (by omega) rfl rfl rfl rfl (fun c hc => good_ap1 c (pl c hc))) (x := h)) ?_
  refine stp (fun _ h => s0 h) ?_
  refine aops_nil ?_
  refine cnd (fun hb => ?ht1) (fun hb => ?hf1)
  case ht1 =>
    have hw15 := hb
    try simp only [bo1, bo2, bo3, bo4, bo5, bo6] at hb
    have hbt15 := hb
    refine AW.seq ?_
    refine AW.region (cfg := cfg) ?_
    refine stp (fun _ h => su h) ?_
    refine stp0 (fun _ h => ss h) ?_
    refine stp (fun _ h => s0 h) ?_
    refine aops_nil ?_
    refine AW.ret ?_
    refine ⟨.inr rfl, ?_⟩
    refine leaves_mwp2 (rs := [.cell 4 25, .tmp 5]) rfl ?_
    simp (config := {failIfUnchanged := false}) [giveL, srcOne, rehome, freezeN, sub, ti25, upd, opn, aLoad, loadL, giveOne, reify, reifyL, readL, readOne, Mwp, M.bind, Mem.set, setAt, cellsL, hG, f0, f1]
    all_goals (rw [applyR_bad hbt15]; exact ⟨rfl, rfl⟩)
  case hf1 =>
    have hw15 := hb
    try simp only [bo1, bo2, bo3, bo4, bo5, bo6] at hb
    have hbt15 := hb
    refine AW.skip ?_
    refine AW.seq ?_
    have ok1 := staE_0 hbt15.1
    have ok2 := allCh_yes hbt15.2
    refine AW.region (cfg := cfg) ?_
    refine stp (fun _ h => sl h) ?_
    refine hst (hg_copy _ (by simp only [mset_G, hG]) a (by omega) (by omega) pa z1 z2) (by (simp (disch := first | omega | decide) only [go_sem, F, aIndex_map, List.map]; done)) ?_
    refine stp (fun _ h => sd h) ?_
    refine stp0 (fun _ h => ss h) ?_
    refine aops_nil ?_
    refine AW.seq ?_
    refine AW.seq ?_
    refine AW.region (cfg := cfg) ?_
    refine stp (fun _ h => s0 h) ?_
    refine stp (fun _ h => sd h) ?_
    refine stp (fun _ h => s0 h) ?_
    refine aops_nil ?_
    refine AW.block ?_
    refine AW.forN (fun k σ => ∃ (s : Nat → LV) (m : Mem) (z : Sta), σ = ⟨31, s, m⟩ ∧ s 4 = .lptr (.tmp 4 0) (m.objs (.tmp 4 0)).1 0 ∧ (m.objs (.tmp 4 0)).2 = .box [.v (.sl 3 true []), .v (i64 0), .v (i64 0), .v (.sl 2 true [])] ∧ s 6 = .lptr (.tmp 6 0) (m.objs (.tmp 6 0)).1 0 ∧ (m.objs (.tmp 6 0)).2 = .box [.own (.cell 6 0) (m.objs (.cell 6 0)).1 0 z.db.length, .v (i64 z.up), .v (i64 z.bo), .own (.cell 6 3) (m.objs (.cell 6 3)).1 0 z.ep.length] ∧ (m.objs (.cell 6 0)).2 = .arr z.n1 3 (z.db.map lsaA) ∧ (m.objs (.cell 6 3)).2 = .arr z.n2 2 (z.ep.map itA) ∧ s 19 = .v (.sl 6 nl (l.map chA)) ∧ s 20 = .v (i64 (l.length : Int)) ∧ s 21 = .v (i64 (k : Int)) ∧ (foldS a (l.take k) = some z) ∧ (staOK z = true) ∧ (∀ x ∈ z.db, fit x) ∧ (z.n1 = true → z.db = []) ∧ (z.n2 = true → z.ep = []) ∧ (∀ i, (m.objs (.res i)).2 = .dead) ∧ m.G = []) (l.length) ?_ ?_ ?_
    · refine ⟨_, _, a, rfl, ?_, ?_, ?_, ?_, ?_, ?_, ?_, ?_, ?_, ?_, ?_, ?_, ?_, ?_, (by intro i; simp [Mem.set, hr]), (by exact hG)⟩ <;> try simp (disch := first | omega | decide) only [go_sem, F, aIndex_map]
      all_goals first | rfl | assumption
    · clear F f0 f1 hr hG
      rintro k σ hk ⟨s, m, z, rfl, f4, o4, f6, o6, o6c0, o6c3, f19, f20, f21, mo0, mo1, mo2, mo3, mo4, hr, hG⟩
      obtain ⟨g4, o4⟩ : ∃ g, m.objs (.tmp 4 0) = (g, .box [.v (.sl 3 true []), .v (i64 0), .v (i64 0), .v (.sl 2 true [])]) := ⟨_, Prod.ext rfl o4⟩
      rw [o4] at f4
      obtain ⟨g6c0, o6c0⟩ : ∃ g, m.objs (.cell 6 0) = (g, .arr z.n1 3 (z.db.map lsaA)) := ⟨_, Prod.ext rfl o6c0⟩
      rw [o6c0] at o6
      obtain ⟨g6c3, o6c3⟩ : ∃ g, m.objs (.cell 6 3) = (g, .arr z.n2 2 (z.ep.map itA)) := ⟨_, Prod.ext rfl o6c3⟩
      rw [o6c3] at o6
      simp only at o6
      obtain ⟨g6, o6⟩ : ∃ g, m.objs (.tmp 6 0) = (g, .box [.own (.cell 6 0) g6c0 0 z.db.length, .v (i64 z.up), .v (i64 z.bo), .own (.cell 6 3) g6c3 0 z.ep.length]) := ⟨_, Prod.ext rfl o6⟩
      rw [o6] at f6
      have F := (And.intro f4 (And.intro f6 (And.intro f19 (And.intro f20 (And.intro f21 (And.intro o4 (And.intro o6 (And.intro o6c0 (And.intro o6c3 hG)))))))))
      refine AW.seq ?_
      refine AW.region (cfg := cfg) ?_
      refine stp (fun _ h => s0 h) ?_
      refine aops_nil ?_
      refine AW.seq ?_
      refine cnd (fun hb => ?ht2) (fun hb => ?hf2)
      case hf2 => (simp at hb; omega)
      case ht2 =>
      have hbt22 := hb
      refine AW.skip ?_
      refine AW.seq ?_
      refine AW.block ?_
      refine AW.seq ?_
      have hkl : k < l.length := by assumption
      refine AW.region (cfg := cfg) ?_
      refine stp (fun _ h => si h) ?_
      refine stp (fun _ h => sl h) ?_
      refine stp (fun _ h => sd h) ?_
      refine stp0 (fun _ h => ss h) ?_
      refine aops_nil ?_
      refine AW.seq ?_
      have pk := pl l[k] (List.getElem_mem hkl)
      have okk := allCh_at ok2 hkl
      have zl := sta_lens mo1
      refine AW.region (cfg := cfg) ?_
      refine stp (fun _ h => sl h) ?_
      refine hst (hg_do _ (by simp only [mset_G, hG]) g6 g6c0 g6c3 z ⟨(by simp (disch := first | omega | decide) only [go_sem, F]; done), (by simp (disch := first | omega | decide) only [go_sem, F]; done), (by simp (disch := first | omega | decide) only [go_sem, F]; done)⟩ mo1 mo2 mo3 mo4 l[k] pk okk) (by (simp (disch := first | omega | decide) only [go_sem, F, aIndex_map, List.map]; rfl)) ?_
      refine stp (fun _ h => s0 h) ?_
      refine aops_nil ?_
      refine cnd (fun hb => ?ht3) (fun hb => ?hf3)
      case ht3 =>
        have hw27 := hb
        try simp only [bo1, bo2, bo3, bo4, bo5, bo6] at hb
        have hbt27 := hb
        refine AW.seq ?_
        refine AW.region (cfg := cfg) ?_
        refine stp (fun _ h => su h) ?_
        refine stp0 (fun _ h => ss h) ?_
        refine stp (fun _ h => s0 h) ?_
        refine aops_nil ?_
        refine AW.ret ?_
        refine ⟨.inr rfl, ?_⟩
        refine leaves_mwp2 (rs := [.cell 4 25, .tmp 5]) rfl ?_
        simp (config := {failIfUnchanged := false}) [giveL, srcOne, rehome, freezeN, sub, ti25, upd, opn, aLoad, loadL, giveOne, reify, reifyL, readL, readOne, Mwp, M.bind, Mem.set, setAt, cellsL, hG, f4, f6, f19, f20, f21, o4, o6, o6c0, o6c3]
        all_goals (rw [applyR_old ok1 ok2 (foldS_none hkl mo0 (doB_none (by simpa using hbt27)))]; exact ⟨rfl, rfl⟩)
      case hf3 =>
        have hw27 := hb
        try simp only [bo1, bo2, bo3, bo4, bo5, bo6] at hb
        have hbt27 := hb
        refine AW.skip ?_
        refine AW.region (cfg := cfg) ?_
        refine stp (fun _ h => sd h) ?_
        refine stp (fun _ h => s0 h) ?_
        refine aops_nil ?_
        refine ⟨_, _, (doB z l[k]).2.1, rfl, ?_, ?_, ?_, ?_, ?_, ?_, ?_, ?_, ?_, ?_, ?_, ?_, ?_, ?_, (by intro i; simp [Mem.set, hr]), (by exact hG)⟩ <;> try simp (disch := first | omega | decide) only [go_sem, F, aIndex_map]
        all_goals first | rfl | (rw [foldS_take hkl mo0]; exact doB_some (by simpa using hbt27)) | exact doS_ok mo1 okk (doB_some (by simpa using hbt27)) | exact doB_fit mo2 pk | exact doB_n1 mo3 | exact doB_n2 mo4
    · clear F f0 f1 hr hG
      rintro σ ⟨s, m, z, rfl, f4, o4, f6, o6, o6c0, o6c3, f19, f20, f21, mo0, mo1, mo2, mo3, mo4, hr, hG⟩
      obtain ⟨g4, o4⟩ : ∃ g, m.objs (.tmp 4 0) = (g, .box [.v (.sl 3 true []), .v (i64 0), .v (i64 0), .v (.sl 2 true [])]) := ⟨_, Prod.ext rfl o4⟩
      rw [o4] at f4
      obtain ⟨g6c0, o6c0⟩ : ∃ g, m.objs (.cell 6 0) = (g, .arr z.n1 3 (z.db.map lsaA)) := ⟨_, Prod.ext rfl o6c0⟩
      rw [o6c0] at o6
      obtain ⟨g6c3, o6c3⟩ : ∃ g, m.objs (.cell 6 3) = (g, .arr z.n2 2 (z.ep.map itA)) := ⟨_, Prod.ext rfl o6c3⟩
      rw [o6c3] at o6
      simp only at o6
      obtain ⟨g6, o6⟩ : ∃ g, m.objs (.tmp 6 0) = (g, .box [.own (.cell 6 0) g6c0 0 z.db.length, .v (i64 z.up), .v (i64 z.bo), .own (.cell 6 3) g6c3 0 z.ep.length]) := ⟨_, Prod.ext rfl o6⟩
      rw [o6] at f6
      have F := (And.intro f4 (And.intro f6 (And.intro f19 (And.intro f20 (And.intro f21 (And.intro o4 (And.intro o6 (And.intro o6c0 (And.intro o6c3 hG)))))))))
      refine AW.seq ?_
      refine AW.region (cfg := cfg) ?_
      refine stp (fun _ h => s0 h) ?_
      refine aops_nil ?_
      refine AW.seq ?_
      refine cnd (fun hb => ?ht4) (fun hb => ?hf4)
      case ht4 => (simp at hb; done)
      case hf4 =>
      have hbt22 := hb
      refine AW.exit ?_
      refine AW.seq ?_
      refine AW.region (cfg := cfg) ?_
      refine stp (fun _ h => sl h) ?_
      refine stp0 (fun _ h => ss h) ?_
      refine stp (fun _ h => s0 h) ?_
      refine aops_nil ?_
      refine AW.ret ?_
      refine ⟨.inr rfl, ?_⟩
      refine leaves_mwp2 (rs := [.cell 4 25, .tmp 5]) rfl ?_
      simp (config := {failIfUnchanged := false}) [giveL, srcOne, rehome, freezeN, sub, ti25, upd, opn, aLoad, loadL, giveOne, reify, reifyL, readL, readOne, Mwp, M.bind, Mem.set, setAt, cellsL, hG, f4, f6, f19, f20, f21, o4, o6, o6c0, o6c3]
      all_goals (rw [List.take_length] at mo0; rw [applyR_ok ok1 ok2 mo0]; simp only [staA]; (simp [List.take_of_length_le, sub]; done))
end Go.Vai.BA
set_option linter.unusedSimpArgs false
set_option linter.unusedVariables false
namespace Go.Vai.D
open Go.Vai.I Go.Vai.L
def nz (x : Lsa) : Lsa := ⟨x.o, x.s, true, x.ls⟩
theorem lsaEq_nz {x y : Lsa} : lsaEq x y = true ↔ nz x = nz y := by
 simp [lsaEq, nz]
theorem eqAll_cons {x y : Lsa} {l m : List Lsa} : eqAll lsaEq (x :: l) (y :: m) = (lsaEq x y && eqAll lsaEq l m) := by
 simp only [eqAll, List.length_cons, List.zip_cons_cons, List.all_cons]
 rw [show decide (l.length + 1 = m.length + 1) = decide (l.length = m.length) from by congr 1; simp]
 cases decide (l.length = m.length) <;> cases lsaEq x y <;> rfl
theorem eqAll_nz : ∀ {l m : List Lsa}, eqAll lsaEq l m = true ↔ l.map nz = m.map nz
 | [], [] => by simp [eqAll]
 | [], y :: m => by simp [eqAll]
 | x :: l, [] => by simp [eqAll]
 | x :: l, y :: m => by
  rw [eqAll_cons, Bool.and_eq_true, lsaEq_nz, eqAll_nz, List.map_cons, List.map_cons, List.cons.injEq]
theorem gK_nz {l : List Lsa} {t : Int} : gK Lsa.o (l.map nz) t = (gK Lsa.o l t).map nz := by
 unfold gK; rw [List.find?_map]; rfl
theorem srt_nz {l : List Lsa} (h : Srt Lsa.o l) : Srt Lsa.o (l.map nz) := by
 unfold Srt at h ⊢; rw [List.pairwise_map]; exact h
theorem nz_ext {l m : List Lsa} (h1 : Srt Lsa.o l) (h2 : Srt Lsa.o m) (h : ∀ t, (gK Lsa.o l t).map nz = (gK Lsa.o m t).map nz) : eqAll lsaEq l m = true := by
 rw [eqAll_nz]
 refine srt_ext (srt_nz h1) (srt_nz h2) fun t => ?_
 rw [gK_nz, gK_nz, h]
theorem gK_flt {l : List Lsa} {p : Lsa → Bool} {t : Int} (h : Srt Lsa.o l) : gK Lsa.o (l.filter p) t = (gK Lsa.o l t).filter p := by
 cases hg : gK Lsa.o l t with
 | none =>
  rw [gK_none] at hg
  rw [Option.filter_none, gK_none]
  exact fun x hx => hg x (List.mem_filter.1 hx).1
 | some x =>
  have hm := gK_mem hg
  cases hp : p x with
  | true => rw [Option.filter_some_pos hp]; exact gK_of h.filter (List.mem_filter.2 ⟨hm.1, hp⟩) hm.2
  | false =>
   rw [Option.filter_some_neg (by simp [hp]), gK_none]
   intro y hy e
   obtain ⟨h1, h2⟩ := List.mem_filter.1 hy
   have := srt_inj h h1 hm.1 (e.trans hm.2.symm)
   rw [this, hp] at h2; cases h2
theorem gd_way {l : List Lsa} (h : dbOK l = true) (t : Int) : (gK Lsa.o l t = none ∧ isK Lsa.o l t = false ∧ sqL l t = 0) ∨ ∃ x, gK Lsa.o l t = some x ∧ isK Lsa.o l t = true ∧ sqL l t = x.s ∧ x.o = t ∧ (1 ≤ t ∧ t ≤ 64) ∧ 1 ≤ x.s ∧ x ∈ l := by
 rw [isK_gK]
 cases hg : gK Lsa.o l t with
 | none => exact .inl ⟨rfl, rfl, sqL_none hg⟩
 | some x =>
  have hm := gK_mem hg
  have hb := lsa_bd (db_mem h x hm.1)
  refine .inr ⟨x, rfl, rfl, sqL_some hg, hm.2, ?_, hb.2.1.1, hm.1⟩
  rw [← hm.2]; exact hb.1
theorem toN {t : Int} (h : 1 ≤ t) : (((t - 1).toNat : Nat) : Int) + 1 = t := by omega
end Go.Vai.D
namespace Go.Vai.D
open Go.Vai.I Go.Vai.L
theorem nw_way {a : List Lsa} {y : Lsa} (ha : dbOK a = true) (hy : 1 ≤ y.s) : nwP a y = decide (sqL a y.o < y.s) := by
 rw [nwP]
 rcases gd_way ha y.o with ⟨g, i, s⟩ | ⟨x, g, i, s, o, _⟩
 ·rw [i, s]; simp; omega
 ·rw [i, g, s]
  simp [newer, o]
theorem gn_mem {a b : List Lsa} {x : Lsa} (ha : dbOK a = true) (hx : x ∈ a) : hasN (gnL a b) x.o = gnP b x := by
 rw [Bool.eq_iff_iff, hasN, List.any_eq_true]
 constructor
 ·rintro ⟨z, hz, e⟩
  obtain ⟨w, hw, rfl⟩ := List.mem_map.1 hz
  obtain ⟨h1, h2⟩ := List.mem_filter.1 hw
  have := srt_inj (db_srt ha) hx h1 (of_decide_eq_true e)
  rw [this]; exact h2
 ·intro h
  exact ⟨x.o, List.mem_map.2 ⟨x, List.mem_filter.2 ⟨hx, h⟩, rfl⟩, by simp⟩
theorem dl_ok {a b : List Lsa} (hb : dbOK b = true) : ∀ y ∈ mo (dlR a b), lsaOK y = true := fun y hy => by
 rcases List.mem_append.1 hy with h | h <;> exact db_mem hb y (List.mem_filter.1 h).1
theorem back {a b : List Lsa} (ha : dbOK a = true) (hb : dbOK b = true) : eqAll lsaEq (xS (apA a (dlR a b)) (mo (dlR a b)) (mo (dlR a b)).length) b = true := by
 have hA : dbOK (apA a (dlR a b)) = true := db_filter ha
 have hX : dbOK (xS (apA a (dlR a b)) (mo (dlR a b)) (mo (dlR a b)).length) = true := xS_ok hA (dl_ok (a := a) hb) (mo (dlR a b)).length
 have hs := db_srt hb
 refine nz_ext (db_srt hX) hs fun t => ?_
 have e : xS (apA a (dlR a b)) (mo (dlR a b)) (mo (dlR a b)).length = xS (xS (apA a (dlR a b)) (olL a b) (olL a b).length) (nwL a b) (nwL a b).length := xS_app.symm
 have k1 : Srt Lsa.o (nwL a b) := hs.filter
 have k2 : Srt Lsa.o (olL a b) := hs.filter
 rw [e, xS_gK k1 t _ (Nat.le_refl _), List.take_length, xS_gK k2 t _ (Nat.le_refl _), List.take_length]
 show ((gK Lsa.o (b.filter (nwP a)) t).or ((gK Lsa.o (b.filter (olP a)) t).or (gK Lsa.o (a.filter (kp (dlR a b))) t))).map nz = _
 rw [gK_flt hs, gK_flt hs, gK_flt (db_srt ha)]
 rcases gd_way hb t with ⟨gb, ib, sb⟩ | ⟨y, gb, ib, sb, ob, tb, pb, mb⟩
 ·rw [gb]
  rcases gd_way ha t with ⟨ga, _, _⟩ | ⟨x, ga, _, _, oa, _, _, ma⟩
  ·rw [ga]; rfl
  ·rw [ga]
   have : kp (dlR a b) x = false := by
    show (!hasN (gnL a b) x.o) = false
    rw [gn_mem ha ma, gnP, oa, ib]; rfl
   simp [Option.filter, this]
 ·rw [gb]
  cases h1 : nwP a y with
  | true => simp [Option.filter, h1]
  | false =>
   cases h2 : olP a y with
   | true => simp [Option.filter, h1, h2]
   | false =>
    rcases gd_way ha t with ⟨ga, ia, sa⟩ | ⟨x, ga, ia, sa, oa, _, _, ma⟩
    ·rw [nw_way ha pb, ob, sa] at h1
     simp at h1; omega
    ·have h3 : kp (dlR a b) x = true := by
      show (!hasN (gnL a b) x.o) = true
      rw [gn_mem ha ma, gnP, oa, ib]; rfl
     have h4 : lsaEq y x = true := by
      rw [olP, h1, ob, ga] at h2
      simpa using h2
     rw [ga]
     simp [Option.filter, h1, h2, h3, (lsaEq_nz.1 h4).symm]
end Go.Vai.D
namespace Go.Vai.D
open Go.Vai.I Go.Vai.L
theorem ext_rg {α : Type} {ky : α → Int} {l : List α} {f : Nat → Option α} (hl : Srt ky l) (hr : ∀ x ∈ l, 1 ≤ ky x ∧ ky x ≤ 64) (h : ∀ t, 1 ≤ t → f (t - 1).toNat = gK ky l t) : l = rgF f 64 := by
 obtain ⟨h1, h2⟩ := gK_range (ky := ky) (f := f) (fun i x hx => by
  have := h ((i : Int) + 1) (by omega)
  rw [show ((i : Int) + 1 - 1).toNat = i by omega, hx] at this
  exact (gK_mem this.symm).2) 64
 refine srt_ext hl h1 fun t => ?_
 have h4 : gK ky (rgF f 64) t = if 1 ≤ t ∧ t ≤ (64 : Nat) then f (t - 1).toNat else none := h2 t
 rw [h4]
 split
 ·rename_i h3; exact (h t h3.1).symm
 ·rename_i h3
  rw [gK_none]
  intro x hx e
  have := hr x hx
  omega
end Go.Vai.D
set_option linter.unusedSimpArgs false
set_option linter.unusedVariables false
namespace Go.Vai.BA
open Go.Vai.L Go.Vai.D Go.Vai.I Go.Vai.G Go.Vai.C
def epN (l : List It) (e : It) (i : Nat) : Int := if (i : Int) + 1 = e.o then e.s else qK l ((i : Int) + 1)
def epI (l : List It) (e : It) (i : Nat) : Option It := if epN l e i > 0 then some ⟨(i : Int) + 1, epN l e i⟩ else none
theorem epN_t {l : List It} {e : It} {i : Nat} (h : (i : Int) + 1 = e.o) : epN l e i = e.s := by rw [epN, if_pos h]
theorem epN_f {l : List It} {e : It} {i : Nat} (h : ¬ (i : Int) + 1 = e.o) : epN l e i = qK l ((i : Int) + 1) := by rw [epN, if_neg h]
theorem epI_y {l : List It} {e : It} {i : Nat} (h : epN l e i > 0) : epI l e i = some ⟨(i : Int) + 1, epN l e i⟩ := by rw [epI, if_pos h]
theorem epI_n {l : List It} {e : It} {i : Nat} (h : ¬ epN l e i > 0) : epI l e i = none := by rw [epI, if_neg h]
theorem ep_at {l : List It} (h : epOK l = true) {x : It} (hx : x ∈ l) : epV x = true ∧ 0 < x.o := chn_ok h x hx
theorem epV_bd {x : It} (h : epV x = true) : x.o ≤ 64 ∧ 1 ≤ x.s ∧ x.s ≤ 1073741824 := by
 simp only [epV, Bool.and_eq_true, decide_eq_true_eq] at h; omega
theorem qK_some {l : List It} {t : Int} {x : It} (h : gK It.o l t = some x) : qK l t = x.s := by rw [qK, h]; rfl
theorem epochs_ref {l : List It} {e : It} (h : epOK l = true) (h1 : epV e = true) (h2 : 0 < e.o) : insP It.o l e = rgF (epI l e) 64 := by
 have hb := epV_bd h1
 refine ext_rg (insP_srt (ep_srt h) e) (fun x hx => ?_) fun t ht => ?_
 ·rcases insP_mem hx with rfl | hx
  ·omega
  ·have := ep_at h hx; have := epV_bd this.1; omega
 ·rw [insP_gK, epI]
  have et := toN ht
  by_cases q : t = e.o
  ·rw [if_pos q, epN_t (by omega), if_pos (by omega), et, q]
  ·rw [if_neg q, epN_f (by omega), et]
   cases hg : gK It.o l t with
   | none => rw [qK_none hg]; rfl
   | some x =>
    have hm := gK_mem hg
    have := epV_bd (ep_at h hm.1).1
    rw [qK_some hg, if_pos (by omega), ← hm.2]
def W (a z : Sta) : Prop := (∀ t, sqL a.db t < sqL z.db t ∨ gK Lsa.o z.db t = gK Lsa.o a.db t) ∧ (∀ t, qK a.ep t ≤ qK z.ep t) ∧ a.up ≤ z.up ∧ a.bo ≤ z.bo
theorem W.refl (a : Sta) : W a a := ⟨fun _ => .inr rfl, fun _ => Int.le_refl _, Int.le_refl _, Int.le_refl _⟩
theorem W.trans {a b c : Sta} (h : W a b) (k : W b c) : W a c := by
 obtain ⟨h1, h2, h3, h4⟩ := h
 obtain ⟨k1, k2, k3, k4⟩ := k
 refine ⟨fun t => ?_, fun t => by have := h2 t; have := k2 t; omega, by omega, by omega⟩
 rcases h1 t with h | h
 ·rcases k1 t with k | k
  ·left; omega
  ·left; rw [show sqL c.db t = sqL b.db t by rw [sqL, sqL, k]]; exact h
 ·rcases k1 t with k | k
  ·left; rw [show sqL a.db t = sqL b.db t by rw [sqL, sqL, h]]; exact k
  ·right; exact k.trans h
theorem doS_W {a z : Sta} {c : Ch} (h : doS a c = some z) : W a z := by
 rw [doS] at h
 split at h
 ·split at h
  ·cases h
  ·simp only [Option.some.injEq] at h; subst h
   rename_i hlt
   refine ⟨fun t => ?_, fun _ => Int.le_refl _, Int.le_refl _, Int.le_refl _⟩
   show sqL a.db t < sqL (insP Lsa.o a.db c.l) t ∨ gK Lsa.o (insP Lsa.o a.db c.l) t = _
   rw [sqL, sqL, insP_gK]
   by_cases q : t = c.l.o
   ·left
    rw [if_pos q, ← sqL, q]
    show _ < c.l.s
    omega
   ·right; rw [if_neg q]
 ·split at h
  ·split at h
   ·cases h
   ·simp only [Option.some.injEq] at h; subst h
    exact ⟨fun _ => .inr rfl, fun _ => Int.le_refl _, by show a.up ≤ c.n; omega, Int.le_refl _⟩
  ·split at h
   ·split at h
    ·cases h
    ·simp only [Option.some.injEq] at h; subst h
     exact ⟨fun _ => .inr rfl, fun _ => Int.le_refl _, Int.le_refl _, by show a.bo ≤ c.n; omega⟩
   ·split at h
    ·cases h
    ·simp only [Option.some.injEq] at h; subst h
     refine ⟨fun _ => .inr rfl, fun t => ?_, Int.le_refl _, Int.le_refl _⟩
     show qK a.ep t ≤ qK (insP It.o a.ep ⟨c.of, c.n⟩) t
     rw [qK_ins]
     split
     ·rename_i q; subst q; show qK a.ep c.of ≤ c.n; omega
     ·exact Int.le_refl _
theorem foldS_W : ∀ {l : List Ch} {a z : Sta}, foldS a l = some z → W a z
 | [], a, z, h => by simp only [foldS, Option.some.injEq] at h; subst h; exact W.refl _
 | c :: l, a, z, h => by
  simp only [foldS] at h
  cases hd : doS a c with
  | none => rw [hd] at h; cases h
  | some y => rw [hd] at h; exact (doS_W hd).trans (foldS_W h)
theorem foldS_ok : ∀ {l : List Ch} {a z : Sta}, staOK a = true → allCh l = true → foldS a l = some z → staOK z = true
 | [], a, z, ha, _, h => by simp only [foldS, Option.some.injEq] at h; subst h; exact ha
 | c :: l, a, z, ha, hl, h => by
  simp only [foldS] at h
  simp only [allCh, List.all_cons, Bool.and_eq_true] at hl
  cases hd : doS a c with
  | none => rw [hd] at h; cases h
  | some y => rw [hd] at h; exact foldS_ok (doS_ok ha hl.1 hd) hl.2 h
def wiD (b : List Lsa) (x : Lsa) : Bool := decide (((gK Lsa.o b x.o).getD default).s < x.s) || (decide (((gK Lsa.o b x.o).getD default).s = x.s) && !lsaEq ((gK Lsa.o b x.o).getD default) x)
def wiE (b : List It) (x : It) : Bool := decide (qK b x.o < x.s)
def withinS (a b : Sta) : Bool := (!(a.db.any (wiD b.db)) && !(a.ep.any (wiE b.ep))) && (decide (a.up ≤ b.up) && decide (a.bo ≤ b.bo))
theorem W_within {a b : Sta} (ha : staOK a = true) (h : W a b) : withinS a b = true := by
 obtain ⟨h1, h2, h3, h4⟩ := h
 obtain ⟨p1, p2, p3⟩ := sta_parts ha
 have e1 : a.db.any (wiD b.db) = false := by
  rw [List.any_eq_false]
  intro x hx
  have hg := gK_of (db_srt p2) hx rfl
  have hs : sqL a.db x.o = x.s := sqL_some hg
  simp only [wiD, Bool.or_eq_true, Bool.and_eq_true, decide_eq_true_eq, not_or, not_and]
  rcases h1 x.o with h | h
  ·have : ((gK Lsa.o b.db x.o).getD default).s = sqL b.db x.o := by
    rw [sqL]; cases gK Lsa.o b.db x.o <;> rfl
   exact ⟨by omega, fun e => by omega⟩
  ·rw [h, hg]
   exact ⟨by simp, fun _ => by simp [lsaEq]⟩
 have e2 : a.ep.any (wiE b.ep) = false := by
  rw [List.any_eq_false]
  intro x hx
  have hq : qK a.ep x.o = x.s := qK_some (gK_of (ep_srt p3) hx rfl)
  have := h2 x.o
  simp only [wiE, decide_eq_true_eq]
  omega
 rw [withinS, e1, e2, decide_eq_true h3, decide_eq_true h4]; rfl
theorem wi_no1 {a b : Sta} {k : Nat} (hk : k < a.db.length) (h : wiD b.db a.db[k] = true) : withinS a b = false := by
 have : a.db.any (wiD b.db) = true := List.any_eq_true.2 ⟨_, List.getElem_mem hk, h⟩
 rw [withinS, this]; rfl
theorem wi_no2 {a b : Sta} {k : Nat} (hk : k < a.ep.length) (h : wiE b.ep a.ep[k] = true) : withinS a b = false := by
 have : a.ep.any (wiE b.ep) = true := List.any_eq_true.2 ⟨_, List.getElem_mem hk, h⟩
 rw [withinS, this]; simp
theorem any_go {α : Type} {p : α → Bool} {l : List α} {k : Nat} (hk : k < l.length) (h0 : (l.take k).any p = false) (h : p l[k] = false) : (l.take (k + 1)).any p = false := by
 rw [List.take_succ_eq_append_getElem hk, List.any_append, h0]; simp [h]
theorem wi_end {a b : Sta} (h1 : (a.db.take a.db.length).any (wiD b.db) = false) (h2 : (a.ep.take a.ep.length).any (wiE b.ep) = false) : withinS a b = (decide (a.up ≤ b.up) && decide (a.bo ≤ b.bo)) := by
 rw [List.take_length] at h1 h2
 rw [withinS, h1, h2]; rfl
theorem wiD_t {b : List Lsa} {x : Lsa} (h : ((gK Lsa.o b x.o).getD default).s < x.s ∨ (((gK Lsa.o b x.o).getD default).s = x.s ∧ (!lsaEq ((gK Lsa.o b x.o).getD default) x) = true)) : wiD b x = true := by
 rw [wiD]; simpa using h
theorem wiD_f {b : List Lsa} {x : Lsa} (h : ¬ ((gK Lsa.o b x.o).getD default).s < x.s ∧ (¬ ((gK Lsa.o b x.o).getD default).s = x.s ∨ (!lsaEq ((gK Lsa.o b x.o).getD default) x) = false)) : wiD b x = false := by
 cases e : wiD b x with
 | false => rfl
 | true =>
  simp only [wiD, Bool.or_eq_true, Bool.and_eq_true, decide_eq_true_eq] at e
  rcases e with e | ⟨e1, e2⟩
  ·exact absurd e h.1
  ·rcases h.2 with h2 | h2
   ·exact absurd e1 h2
   ·rw [e2] at h2; cases h2
theorem wiE_t {b : List It} {x : It} (h : qK b x.o < x.s) : wiE b x = true := decide_eq_true h
theorem wiE_f {b : List It} {x : It} (h : ¬ qK b x.o < x.s) : wiE b x = false := decide_eq_false h
theorem is_getD {α : Type} {o : Option α} {d : α} (h : o.isSome = true) : o = some (o.getD d) := by cases o <;> simp_all
theorem not_is {α : Type} {o : Option α} (h : o.isSome = false) : o = none := by cases o <;> simp_all
theorem allCh_nat {l : List Ch} {k : Nat} (hk : k < l.length) (h : chOK l[k] = false) : allCh l = false := by
 rw [allCh, List.all_eq_false]; exact ⟨_, List.getElem_mem hk, by simp [h]⟩
theorem allCh_fin {l : List Ch} (h : (l.take l.length).all chOK = true) : allCh l = true := by rw [List.take_length] at h; exact h
theorem ch_k4 {c : Ch} (h : chOK c = true) (h1 : ¬ c.kind = 1) (h2 : ¬ c.kind = 2) (h3 : ¬ c.kind = 3) : c.kind = 4 := by
 rcases ch_kind h with h | h | h | h <;> omega
theorem doS_ok2 {s : Sta} {c : Ch} (hs : staOK s = true) (hc : chOK c = true) : staOK ((doS s c).getD s) = true := by
 cases h : doS s c with
 | none => exact hs
 | some z => exact doS_ok hs hc h
theorem doS_fit2 {s : Sta} {c : Ch} (pa : ∀ x ∈ s.db, fitL x) (pc : fitL c.l) : ∀ x ∈ ((doS s c).getD s).db, fitL x := by
 cases h : (doB s c).1 with
 | true => rw [doB_some h]; exact doB_fit pa pc
 | false => rw [doB_none h]; exact pa
theorem applyR_way (a : Sta) (l : List Ch) : ((applyR a l).2 = 0 ∧ staOK a = true ∧ allCh l = true ∧ foldS a l = some (applyR a l).1 ∧ staOK (applyR a l).1 = true) ∨ ((applyR a l).2 ≠ 0 ∧ (applyR a l).1 = sta0) := by
 cases h1 : staOK a with
 | false => right; rw [applyR_s h1]; exact ⟨by decide, rfl⟩
 | true =>
  cases h2 : allCh l with
  | false => right; rw [applyR_l h2]; exact ⟨by decide, rfl⟩
  | true =>
   cases h3 : foldS a l with
   | none => right; rw [applyR_old h1 h2 h3]; exact ⟨by decide, rfl⟩
   | some z => left; rw [applyR_ok h1 h2 h3]; exact ⟨rfl, rfl, rfl, rfl, foldS_ok h1 h2 h3⟩
theorem foldS_fit : ∀ {l : List Ch} {a z : Sta}, (∀ x ∈ a.db, fitL x) → (a.n1 = true → a.db = []) → (a.n2 = true → a.ep = []) → (∀ c ∈ l, fitL c.l) → foldS a l = some z → (∀ x ∈ z.db, fitL x) ∧ (z.n1 = true → z.db = []) ∧ (z.n2 = true → z.ep = [])
 | [], a, z, h1, h2, h3, _, h => by simp only [foldS, Option.some.injEq] at h; subst h; exact ⟨h1, h2, h3⟩
 | c :: l, a, z, h1, h2, h3, hl, h => by
  simp only [foldS] at h
  cases hd : doS a c with
  | none => rw [hd] at h; cases h
  | some y =>
   rw [hd] at h
   have hb : (doB a c).1 = true := by
    cases e : (doB a c).1 with
    | true => rfl
    | false => rw [doB_none e] at hd; cases hd
   have : y = (doB a c).2.1 := by rw [doB_some hb] at hd; simpa using hd.symm
   subst this
   exact foldS_fit (doB_fit h1 (hl c (by simp))) (doB_n1 h2) (doB_n2 h3) (fun c hc => hl c (by simp [hc])) h
theorem applyR_fit {a : Sta} {l : List Ch} (h1 : ∀ x ∈ a.db, fitL x) (h2 : a.n1 = true → a.db = []) (h3 : a.n2 = true → a.ep = []) (hl : ∀ c ∈ l, fitL c.l) :
  ((applyR a l).1.db.length ≤ 64 ∧ (applyR a l).1.ep.length ≤ 64) ∧ (∀ x ∈ (applyR a l).1.db, fitL x) ∧ ((applyR a l).1.n1 = true → (applyR a l).1.db = []) ∧ ((applyR a l).1.n2 = true → (applyR a l).1.ep = []) := by
 rcases applyR_way a l with ⟨_, _, _, h, ho⟩ | ⟨_, h⟩
 ·exact ⟨sta_lens ho, foldS_fit h1 h2 h3 hl h⟩
 ·rw [h]; exact ⟨⟨by decide, by decide⟩, ⟨fun x (hx : x ∈ ([] : List Lsa)) => absurd hx (by simp), fun _ => rfl, fun _ => rfl⟩⟩
theorem apply_keeps {a : Sta} {l : List Ch} (h : (applyR a l).2 = 0) : staE (applyR a l).1 = 0 ∧ staOK (applyR a l).1 = true ∧ withinS a (applyR a l).1 = true := by
 rcases applyR_way a l with ⟨_, h1, _, h3, h4⟩ | ⟨h1, _⟩
 ·exact ⟨by rw [staE, h4]; rfl, h4, W_within h1 (foldS_W h3)⟩
 ·exact absurd h h1
theorem ne_same (x : Int) : decide (x ≠ x) = false := by simp
theorem ap_fin {a : Sta} {l : List Ch} : (decide ((applyR a l).2 ≠ 0) || ((decide (staE (applyR a l).1 = 0) && staOK (applyR a l).1) && withinS a (applyR a l).1)) = true := by
 by_cases h : (applyR a l).2 = 0
 ·obtain ⟨h1, h2, h3⟩ := apply_keeps h
  rw [h1, h2, h3]; simp
 ·simp [h]
end Go.Vai.BA
namespace Go.Vai.BA
open Go.Proofs Go.Vai Go.Vai.C Go.Vai.D Go.Vai.DB Go.Vai.G Go.Vai.I Go.Vai.L Go.Vai.N Go.Vai.O
set_option linter.unusedSimpArgs false
set_option linter.unusedVariables false
set_option maxHeartbeats 4000000
set_option maxRecDepth 100000
theorem good_refEpoch (nil : Bool) (l : List It) (hl : l.length ≤ 1000000) (t : Int) : Good Try.prog 35 [(.sl 2 nil (l.map itA), false), (i64 t, false)] [] [(i64 (qK l t), false)] [] := by
  refine good_of_body2 24 Try.func35 rfl rfl rfl (by simp) ?_
  intro s m ha hr hv hG
  have f0 : s 0 = .v (.sl 2 nil (l.map itA)) := ha 0 _ rfl
  have f1 : s 1 = .v (i64 t) := ha 1 _ rfl
  clear ha
  have hc : True := trivial
  have F := (And.intro f0 (And.intro f1 hG))
  refine AW.seq ?_
  refine AW.region (cfg := cfg) ?_
  refine stp (fun _ h => s0 h) ?_
  refine aops_nil ?_
  refine AW.seq ?_
  refine AW.seq ?_
  refine AW.region (cfg := cfg) ?_
  refine stp (fun _ h => s0 h) ?_
  refine aops_nil ?_
  refine AW.block ?_
  refine AW.forN (fun k σ => ∃ s m, σ = ⟨24, s, m⟩ ∧ s 0 = .v (.sl 2 nil (l.map itA)) ∧ s 1 = .v (i64 t) ∧ s 5 = .v (i64 (k : Int)) ∧ (gK It.o (l.take k) t = none) ∧ (∀ i, (m.objs (.res i)).2 = .dead) ∧ m.G = []) (l.length) ?_ ?_ ?_
  · refine ⟨_, _, rfl, ?_, ?_, ?_, ?_, (by intro i; simp [Mem.set, hr]), (by exact hG)⟩ <;> try simp (disch := first | omega | decide) only [go_sem, F, aIndex_map]
    all_goals rfl
  · clear F f0 f1 hr hG
    rintro k σ hk ⟨s, m, rfl, f0, f1, f5, mo0, hr, hG⟩
    have F := (And.intro f0 (And.intro f1 (And.intro f5 hG)))
    refine AW.seq ?_
    refine AW.seq ?_
    refine AW.region (cfg := cfg) ?_
    iterate 2 refine stp (fun _ h => s0 h) ?_
    refine stp (fun _ h => sd h) ?_
    refine stp (fun _ h => s0 h) ?_
    refine aops_nil ?_
    refine cnd (fun hb => ?ht1) (fun hb => ?hf1)
    case hf1 => (simp at hb; omega)
    case ht1 =>
    have hbt9 := hb
    refine AW.skip ?_
    refine AW.seq ?_
    refine AW.block ?_
    refine AW.seq ?_
    refine AW.region (cfg := cfg) ?_
    iterate 2 refine stp (fun _ h => s0 h) ?_
    refine stp (fun _ h => si h) ?_
    refine stp (fun _ h => sx h) ?_
    refine stp (fun _ h => sl h) ?_
    iterate 2 refine stp (fun _ h => s0 h) ?_
    refine aops_nil ?_
    refine cnd (fun hb => ?ht2) (fun hb => ?hf2)
    case ht2 =>
      have hw18 := hb
      try simp only [bo1, bo2, bo3, bo4, bo5, bo6] at hb
      have hbt18 := hb
      refine AW.seq ?_
      refine AW.region (cfg := cfg) ?_
      iterate 2 refine stp (fun _ h => s0 h) ?_
      refine stp (fun _ h => si h) ?_
      refine stp (fun _ h => sx h) ?_
      refine stp (fun _ h => sl h) ?_
      refine stp (fun _ h => s0 h) ?_
      refine aops_nil ?_
      refine AW.ret ?_
      refine ⟨.inr rfl, ?_⟩
      refine leaves_tmp1 4 rfl ?_ (by exact hG)
      simp (disch := first | omega | decide) only [go_sem, F, aIndex_map]
      all_goals (rw [qK_hit hk mo0 hbt18]; done)
    case hf2 =>
      have hw18 := hb
      try simp only [bo1, bo2, bo3, bo4, bo5, bo6] at hb
      have hbt18 := hb
      refine AW.skip ?_
      refine AW.region (cfg := cfg) ?_
      refine stp (fun _ h => s0 h) ?_
      refine stp (fun _ h => sd h) ?_
      refine stp (fun _ h => s0 h) ?_
      refine aops_nil ?_
      refine ⟨_, _, rfl, ?_, ?_, ?_, ?_, (by intro i; simp [Mem.set, hr]), (by exact hG)⟩ <;> try simp (disch := first | omega | decide) only [go_sem, F, aIndex_map]
      all_goals first | rfl | (rw [List.take_succ_eq_append_getElem hk, gK_append, mo0, gK_cons, if_neg hbt18, gK_nil]; rfl)
  · clear F f0 f1 hr hG
    rintro σ ⟨s, m, rfl, f0, f1, f5, mo0, hr, hG⟩
    have F := (And.intro f0 (And.intro f1 (And.intro f5 hG)))
    refine AW.seq ?_
    refine AW.seq ?_
    refine AW.region (cfg := cfg) ?_
    iterate 2 refine stp (fun _ h => s0 h) ?_
    refine stp (fun _ h => sd h) ?_
    refine stp (fun _ h => s0 h) ?_
    refine aops_nil ?_
    refine cnd (fun hb => ?ht3) (fun hb => ?hf3)
    case ht3 => (simp at hb; done)
    case hf3 =>
    have hbt9 := hb
    refine AW.exit ?_
    refine AW.seq ?_
    refine AW.region (cfg := cfg) ?_
    refine stp (fun _ h => s0 h) ?_
    refine aops_nil ?_
    refine AW.ret ?_
    refine ⟨.inr rfl, ?_⟩
    refine leaves_tmp1 4 rfl ?_ (by exact hG)
    simp (disch := first | omega | decide) only [go_sem, F, aIndex_map]
    all_goals (rw [List.take_length] at mo0; rw [qK_none mo0]; done)
theorem good_refEpochs (nil : Bool) (l : List It) (hl : l.length ≤ 1000000) (x : It) : Good Try.prog 60 [(.sl 2 nil (l.map itA), false), (itA x, false)] [] [(.sl 2 false ((rgF (epI l x) 64).map itA), false)] [] := by
  refine good_of_body2 31 Try.func60 rfl rfl rfl (by simp) ?_
  intro s m ha hr hv hG
  have f0 : s 0 = .v (.sl 2 nil (l.map itA)) := ha 0 _ rfl
  have f1 : s 1 = .v (.agg [i64 x.o, i64 x.s]) := ha 1 _ rfl
  clear ha
  have hc : True := trivial
  have F := (And.intro f0 (And.intro f1 hG))
  refine AW.seq ?_
  refine AW.region (cfg := cfg) ?_
  refine stp (fun _ h => sb h) ?_
  refine stp (fun _ h => s0 h) ?_
  refine aops_nil ?_
  refine AW.seq ?_
  refine AW.region (cfg := cfg) ?_
  refine stp (fun _ h => sq h) ?_
  refine stp (fun _ h => st h) ?_
  refine aops_nil ?_
  refine AW.seq ?_
  refine AW.seq ?_
  refine AW.region (cfg := cfg) ?_
  refine stp (fun _ h => s0 h) ?_
  refine aops_nil ?_
  refine AW.block ?_
  refine AW.forN (fun k σ => ∃ s m, σ = ⟨31, s, m⟩ ∧ s 0 = .v (.sl 2 nil (l.map itA)) ∧ s 3 = .lptr (.tmp 3 0) (m.objs (.tmp 3 0)).1 0 ∧ (m.objs (.tmp 3 0)).2 = .box [.v (i64 x.o), .v (i64 x.s)] ∧ s 5 = .own (.var 5) (m.objs (.var 5)).1 0 ((rgF (epI l x) k).length) ∧ (m.objs (.var 5)).2 = .arr false 2 ((rgF (epI l x) k).map itA) ∧ s 6 = .v (i64 ((k : Int) + 1)) ∧ (∀ i, (m.objs (.res i)).2 = .dead) ∧ m.G = []) (64) ?_ ?_ ?_
  · refine ⟨_, _, rfl, ?_, ?_, ?_, ?_, ?_, ?_, (by intro i; simp [Mem.set, hr]), (by exact hG)⟩ <;> try simp (disch := first | omega | decide) only [go_sem, F, aIndex_map]
    all_goals rfl
  · clear F f0 f1 hr hG
    rintro k σ hk ⟨s, m, rfl, f0, f3, o3, f5, o5, f6, hr, hG⟩
    obtain ⟨g3, o3⟩ : ∃ g, m.objs (.tmp 3 0) = (g, .box [.v (i64 x.o), .v (i64 x.s)]) := ⟨_, Prod.ext rfl o3⟩
    rw [o3] at f3
    obtain ⟨g5, o5⟩ : ∃ g, m.objs (.var 5) = (g, .arr false 2 ((rgF (epI l x) k).map itA)) := ⟨_, Prod.ext rfl o5⟩
    rw [o5] at f5
    have F := (And.intro f0 (And.intro f3 (And.intro f5 (And.intro f6 (And.intro o3 (And.intro o5 hG))))))
    refine AW.seq ?_
    refine AW.seq ?_
    refine AW.region (cfg := cfg) ?_
    iterate 2 refine stp (fun _ h => s0 h) ?_
    refine aops_nil ?_
    refine cnd (fun hb => ?ht1) (fun hb => ?hf1)
    case hf1 => (simp at hb; omega)
    case ht1 =>
    have hbt10 := hb
    refine AW.skip ?_
    refine AW.seq ?_
    refine AW.block ?_
    refine AW.seq ?_
    have w0 := fm_len (epI l x) k
    have hk64 : k < 64 := by assumption
    refine AW.region (cfg := cfg) ?_
    iterate 2 refine stp (fun _ h => s0 h) ?_
    refine stp (fun _ h => cs (w := good_refEpoch nil l (by omega) ((k : Int) + 1)) (x := h)) ?_
    refine stp (fun _ h => s0 h) ?_
    refine aops_nil ?_
    refine AW.seq ?_
    refine AW.seq ?_
    refine AW.region (cfg := cfg) ?_
    refine stp (fun _ h => s0 h) ?_
    refine stp (fun _ h => sx h) ?_
    refine stp (fun _ h => sl h) ?_
    refine stp (fun _ h => s0 h) ?_
    refine aops_nil ?_
    refine cnd (fun hb => ?ht2) (fun hb => ?hf2)
    case ht2 =>
      have hw19 := hb
      try simp only [bo1, bo2, bo3, bo4, bo5, bo6] at hb
      have hbt19 := hb
      refine AW.region (cfg := cfg) ?_
      refine stp (fun _ h => sx h) ?_
      refine stp (fun _ h => sl h) ?_
      refine stp (fun _ h => s0 h) ?_
      refine aops_nil ?_
      refine AW.seq ?_
      refine AW.region (cfg := cfg) ?_
      iterate 2 refine stp (fun _ h => s0 h) ?_
      refine aops_nil ?_
      refine cnd (fun hb => ?ht3) (fun hb => ?hf3)
      case ht3 =>
        have hw23 := hb
        try simp only [bo1, bo2, bo3, bo4, bo5, bo6] at hb
        have hbt23 := hb
        refine AW.region (cfg := cfg) ?_
        iterate 3 refine stp (fun _ h => s0 h) ?_
        refine stp (fun _ h => su h) ?_
        refine stp (fun _ h => sq h) ?_
        refine stp (fun _ h => sp h) ?_
        refine stp (fun _ h => st h) ?_
        refine aops_nil ?_
        refine AW.region (cfg := cfg) ?_
        refine stp (fun _ h => s0 h) ?_
        refine stp (fun _ h => sd h) ?_
        refine stp (fun _ h => s0 h) ?_
        refine aops_nil ?_
        refine ⟨_, _, rfl, ?_, ?_, ?_, ?_, ?_, ?_, (by intro i; simp [Mem.set, hr]), (by exact hG)⟩ <;> try simp (disch := first | omega | decide) only [go_sem, F, aIndex_map]
        all_goals first | rfl | (rw [fm_yes (f := epI l x) (epI_y (by rw [epN_t hbt19]; exact hbt23)), epN_t hbt19]; first | (simp; done) | (simp [itA]; done))
      case hf3 =>
        have hw23 := hb
        try simp only [bo1, bo2, bo3, bo4, bo5, bo6] at hb
        have hbt23 := hb
        refine AW.skip ?_
        refine AW.region (cfg := cfg) ?_
        refine stp (fun _ h => s0 h) ?_
        refine stp (fun _ h => sd h) ?_
        refine stp (fun _ h => s0 h) ?_
        refine aops_nil ?_
        refine ⟨_, _, rfl, ?_, ?_, ?_, ?_, ?_, ?_, (by intro i; simp [Mem.set, hr]), (by exact hG)⟩ <;> try simp (disch := first | omega | decide) only [go_sem, F, aIndex_map]
        all_goals first | rfl | (rw [fm_no (f := epI l x) (epI_n (by rw [epN_t hbt19]; exact hbt23))]; done)
    case hf2 =>
      have hw19 := hb
      try simp only [bo1, bo2, bo3, bo4, bo5, bo6] at hb
      have hbt19 := hb
      refine AW.skip ?_
      refine AW.seq ?_
      refine AW.region (cfg := cfg) ?_
      iterate 2 refine stp (fun _ h => s0 h) ?_
      refine aops_nil ?_
      refine cnd (fun hb => ?ht4) (fun hb => ?hf4)
      case ht4 =>
        have hw23 := hb
        try simp only [bo1, bo2, bo3, bo4, bo5, bo6] at hb
        have hbt23 := hb
        refine AW.region (cfg := cfg) ?_
        iterate 3 refine stp (fun _ h => s0 h) ?_
        refine stp (fun _ h => su h) ?_
        refine stp (fun _ h => sq h) ?_
        refine stp (fun _ h => sp h) ?_
        refine stp (fun _ h => st h) ?_
        refine aops_nil ?_
        refine AW.region (cfg := cfg) ?_
        refine stp (fun _ h => s0 h) ?_
        refine stp (fun _ h => sd h) ?_
        refine stp (fun _ h => s0 h) ?_
        refine aops_nil ?_
        refine ⟨_, _, rfl, ?_, ?_, ?_, ?_, ?_, ?_, (by intro i; simp [Mem.set, hr]), (by exact hG)⟩ <;> try simp (disch := first | omega | decide) only [go_sem, F, aIndex_map]
        all_goals first | rfl | (rw [fm_yes (f := epI l x) (epI_y (by rw [epN_f hbt19]; exact hbt23)), epN_f hbt19]; first | (simp; done) | (simp [itA]; done))
      case hf4 =>
        have hw23 := hb
        try simp only [bo1, bo2, bo3, bo4, bo5, bo6] at hb
        have hbt23 := hb
        refine AW.skip ?_
        refine AW.region (cfg := cfg) ?_
        refine stp (fun _ h => s0 h) ?_
        refine stp (fun _ h => sd h) ?_
        refine stp (fun _ h => s0 h) ?_
        refine aops_nil ?_
        refine ⟨_, _, rfl, ?_, ?_, ?_, ?_, ?_, ?_, (by intro i; simp [Mem.set, hr]), (by exact hG)⟩ <;> try simp (disch := first | omega | decide) only [go_sem, F, aIndex_map]
        all_goals first | rfl | (rw [fm_no (f := epI l x) (epI_n (by rw [epN_f hbt19]; exact hbt23))]; done)
  · clear F f0 f1 hr hG
    rintro σ ⟨s, m, rfl, f0, f3, o3, f5, o5, f6, hr, hG⟩
    obtain ⟨g3, o3⟩ : ∃ g, m.objs (.tmp 3 0) = (g, .box [.v (i64 x.o), .v (i64 x.s)]) := ⟨_, Prod.ext rfl o3⟩
    rw [o3] at f3
    obtain ⟨g5, o5⟩ : ∃ g, m.objs (.var 5) = (g, .arr false 2 ((rgF (epI l x) 64).map itA)) := ⟨_, Prod.ext rfl o5⟩
    rw [o5] at f5
    have F := (And.intro f0 (And.intro f3 (And.intro f5 (And.intro f6 (And.intro o3 (And.intro o5 hG))))))
    refine AW.seq ?_
    refine AW.seq ?_
    refine AW.region (cfg := cfg) ?_
    iterate 2 refine stp (fun _ h => s0 h) ?_
    refine aops_nil ?_
    refine cnd (fun hb => ?ht5) (fun hb => ?hf5)
    case ht5 => (simp at hb; done)
    case hf5 =>
    have hbt10 := hb
    refine AW.exit ?_
    refine AW.seq ?_
    refine AW.region (cfg := cfg) ?_
    refine stp (fun _ h => s0 h) ?_
    refine stp (fun _ h => sm h) ?_
    refine aops_nil ?_
    refine AW.ret ?_
    refine ⟨.inr rfl, ?_⟩
    refine leaves_tmp1 4 rfl ?_ (by exact hG)
    simp (disch := first | omega | decide) only [go_sem, F, aIndex_map]
    all_goals (rw [sub_full (by simp)]; done)
theorem good_refDo (a : Sta) (ha1 : a.db.length ≤ 1000000) (ha2 : a.ep.length ≤ 1000000) (pa : ∀ x ∈ a.db, fit x) (ok : staOK a = true) (c : Ch) (pc : fit c.l) (okc : chOK c = true) : Good Try.prog 29 [(staA a, false), (chA c, false)] [] [(staA ((doS a c).getD a), false), (.b (doS a c).isSome, false)] [] := by
  refine good_of_body2 70 Try.func29 rfl rfl rfl (by simp) ?_
  intro s m ha hr hv hG
  have f0 : s 0 = .v (.agg [.sl 3 a.n1 (a.db.map lsaA), i64 a.up, i64 a.bo, .sl 2 a.n2 (a.ep.map itA)]) := ha 0 _ rfl
  have f1 : s 1 = .v (.agg [i64 c.kind, i64 c.l.o, i64 c.l.s, .sl 2 c.l.nil (c.l.ls.map linkA), i64 c.n, i64 c.of]) := ha 1 _ rfl
  clear ha
  have hc : True := trivial
  have F := (And.intro f0 (And.intro f1 hG))
  have hle := sta_lens ok
  have hsr := db_srt (sta_parts ok).2.1
  refine AW.seq ?_
  refine AW.region (cfg := cfg) ?_
  iterate 2 refine stp (fun _ h => sb h) ?_
  refine stp (fun _ h => sd h) ?_
  refine stp (fun _ h => s0 h) ?_
  refine aops_nil ?_
  refine AW.seq ?_
  refine AW.seq ?_
  refine AW.region (cfg := cfg) ?_
  refine stp (fun _ h => sx h) ?_
  refine stp (fun _ h => sl h) ?_
  refine aops_nil ?_
  refine AW.block ?_
  refine AW.seq ?_
  refine AW.region (cfg := cfg) ?_
  iterate 2 refine stp (fun _ h => s0 h) ?_
  refine aops_nil ?_
  refine cnd (fun hb => ?ht1) (fun hb => ?hf1)
  case ht1 =>
    have hw8 := hb
    try simp only [bo1, bo2, bo3, bo4, bo5, bo6] at hb
    have hbt8 := hb
    refine AW.seq ?_
    refine AW.seq ?_
    refine AW.draw (cfg := cfg) (by kernel_rfl) (by kernel_rfl) (by kernel_rfl) ?_
    refine dstp (fun _ h => sx h) ?_
    refine dstp (fun _ h => sl h) ?_
    iterate 2 refine dstp (fun _ h => sx h) ?_
    refine dstp (fun _ h => sl h) ?_
    refine dstp (fun _ h => cs (w := good_Seq11 a.n1 a.db (by omega) c.l.o) (x := h)) ?_
    iterate 2 refine dstp (fun _ h => sx h) ?_
    refine dstp (fun _ h => sl h) ?_
    refine dstp (fun _ h => s0 h) ?_
    refine adraw_nil (by kernel_rfl) ?_
    refine cnd (fun hb => ?ht2) (fun hb => ?hf2)
    case ht2 =>
      have hw19 := hb
      try simp only [bo1, bo2, bo3, bo4, bo5, bo6] at hb
      have hbt19 := hb
      refine AW.seq ?_
      refine AW.region (cfg := cfg) ?_
      refine stp (fun _ h => sl h) ?_
      refine stp0 (fun _ h => ss h) ?_
      refine stp (fun _ h => s0 h) ?_
      refine aops_nil ?_
      refine AW.ret ?_
      refine ⟨.inr rfl, ?_⟩
      refine leaves_mwp2 (rs := [.cell 4 25, .tmp 5]) rfl ?_
      simp (config := {failIfUnchanged := false}) [giveL, srcOne, rehome, freezeN, sub, ti25, upd, opn, aLoad, loadL, giveOne, reify, reifyL, readL, readOne, Mwp, M.bind, Mem.set, setAt, cellsL, hG, f0, f1]
      all_goals (rw [doS, if_pos hbt8, if_pos hbt19]; exact ⟨rfl, rfl⟩)
    case hf2 =>
      have hw19 := hb
      try simp only [bo1, bo2, bo3, bo4, bo5, bo6] at hb
      have hbt19 := hb
      refine AW.skip ?_
      have er := refPut_eq hsr c.l
      have F := And.intro er F
      refine AW.region (cfg := cfg) ?_
      refine stp (fun _ h => sx h) ?_
      refine stp (fun _ h => sl h) ?_
      refine stp (fun _ h => sx h) ?_
      refine stp (fun _ h => sl h) ?_
      refine stp (fun _ h => cr (w := good_Put11 a.n1 a.db (by omega) c.l) (x := h)) ?_
      refine stp (fun _ h => sx h) ?_
      refine stp0 (fun _ h => ss h) ?_
      refine aops_nil ?_
      refine AW.seq ?_
      refine AW.region (cfg := cfg) ?_
      refine stp (fun _ h => sl h) ?_
      refine stp0 (fun _ h => ss h) ?_
      refine stp (fun _ h => s0 h) ?_
      refine aops_nil ?_
      refine AW.ret ?_
      refine ⟨.inr rfl, ?_⟩
      refine leaves_mwp2 (rs := [.cell 4 25, .tmp 5]) rfl ?_
      simp (config := {failIfUnchanged := false}) [giveL, srcOne, rehome, freezeN, sub, ti25, upd, opn, aLoad, loadL, giveOne, reify, reifyL, readL, readOne, Mwp, M.bind, Mem.set, setAt, cellsL, hG, f0, f1, er]
      all_goals (rw [doS, if_pos hbt8, if_neg hbt19]; exact ⟨rfl, rfl⟩)
  case hf1 =>
    have hw8 := hb
    try simp only [bo1, bo2, bo3, bo4, bo5, bo6] at hb
    have hbt8 := hb
    refine AW.seq ?_
    refine AW.region (cfg := cfg) ?_
    iterate 2 refine stp (fun _ h => s0 h) ?_
    refine aops_nil ?_
    refine cnd (fun hb => ?ht3) (fun hb => ?hf3)
    case ht3 =>
      have hw27 := hb
      try simp only [bo1, bo2, bo3, bo4, bo5, bo6] at hb
      have hbt27 := hb
      refine AW.seq ?_
      refine AW.seq ?_
      refine AW.region (cfg := cfg) ?_
      refine stp (fun _ h => sx h) ?_
      refine stp (fun _ h => sl h) ?_
      refine stp (fun _ h => sx h) ?_
      refine stp (fun _ h => sl h) ?_
      refine stp (fun _ h => s0 h) ?_
      refine aops_nil ?_
      refine cnd (fun hb => ?ht4) (fun hb => ?hf4)
      case ht4 =>
        have hw33 := hb
        try simp only [bo1, bo2, bo3, bo4, bo5, bo6] at hb
        have hbt33 := hb
        refine AW.seq ?_
        refine AW.region (cfg := cfg) ?_
        refine stp (fun _ h => sl h) ?_
        refine stp0 (fun _ h => ss h) ?_
        refine stp (fun _ h => s0 h) ?_
        refine aops_nil ?_
        refine AW.ret ?_
        refine ⟨.inr rfl, ?_⟩
        refine leaves_mwp2 (rs := [.cell 4 25, .tmp 5]) rfl ?_
        simp (config := {failIfUnchanged := false}) [giveL, srcOne, rehome, freezeN, sub, ti25, upd, opn, aLoad, loadL, giveOne, reify, reifyL, readL, readOne, Mwp, M.bind, Mem.set, setAt, cellsL, hG, f0, f1]
        all_goals (rw [doS, if_neg hbt8, if_pos hbt27, if_pos hbt33]; exact ⟨rfl, rfl⟩)
      case hf4 =>
        have hw33 := hb
        try simp only [bo1, bo2, bo3, bo4, bo5, bo6] at hb
        have hbt33 := hb
        refine AW.skip ?_
        refine AW.region (cfg := cfg) ?_
        refine stp (fun _ h => sx h) ?_
        refine stp (fun _ h => sl h) ?_
        refine stp (fun _ h => sx h) ?_
        refine stp0 (fun _ h => ss h) ?_
        refine aops_nil ?_
        refine AW.seq ?_
        refine AW.region (cfg := cfg) ?_
        refine stp (fun _ h => sl h) ?_
        refine stp0 (fun _ h => ss h) ?_
        refine stp (fun _ h => s0 h) ?_
        refine aops_nil ?_
        refine AW.ret ?_
        refine ⟨.inr rfl, ?_⟩
        refine leaves_mwp2 (rs := [.cell 4 25, .tmp 5]) rfl ?_
        simp (config := {failIfUnchanged := false}) [giveL, srcOne, rehome, freezeN, sub, ti25, upd, opn, aLoad, loadL, giveOne, reify, reifyL, readL, readOne, Mwp, M.bind, Mem.set, setAt, cellsL, hG, f0, f1]
        all_goals (rw [doS, if_neg hbt8, if_pos hbt27, if_neg hbt33]; exact ⟨rfl, rfl⟩)
    case hf3 =>
      have hw27 := hb
      try simp only [bo1, bo2, bo3, bo4, bo5, bo6] at hb
      have hbt27 := hb
      refine AW.seq ?_
      refine AW.region (cfg := cfg) ?_
      iterate 2 refine stp (fun _ h => s0 h) ?_
      refine aops_nil ?_
      refine cnd (fun hb => ?ht5) (fun hb => ?hf5)
      case ht5 =>
        have hw38 := hb
        try simp only [bo1, bo2, bo3, bo4, bo5, bo6] at hb
        have hbt38 := hb
        refine AW.seq ?_
        refine AW.seq ?_
        refine AW.region (cfg := cfg) ?_
        refine stp (fun _ h => sx h) ?_
        refine stp (fun _ h => sl h) ?_
        refine stp (fun _ h => sx h) ?_
        refine stp (fun _ h => sl h) ?_
        refine stp (fun _ h => s0 h) ?_
        refine aops_nil ?_
        refine cnd (fun hb => ?ht6) (fun hb => ?hf6)
        case ht6 =>
          have hw44 := hb
          try simp only [bo1, bo2, bo3, bo4, bo5, bo6] at hb
          have hbt44 := hb
          refine AW.seq ?_
          refine AW.region (cfg := cfg) ?_
          refine stp (fun _ h => sl h) ?_
          refine stp0 (fun _ h => ss h) ?_
          refine stp (fun _ h => s0 h) ?_
          refine aops_nil ?_
          refine AW.ret ?_
          refine ⟨.inr rfl, ?_⟩
          refine leaves_mwp2 (rs := [.cell 4 25, .tmp 5]) rfl ?_
          simp (config := {failIfUnchanged := false}) [giveL, srcOne, rehome, freezeN, sub, ti25, upd, opn, aLoad, loadL, giveOne, reify, reifyL, readL, readOne, Mwp, M.bind, Mem.set, setAt, cellsL, hG, f0, f1]
          all_goals (rw [doS, if_neg hbt8, if_neg hbt27, if_pos hbt38, if_pos hbt44]; exact ⟨rfl, rfl⟩)
        case hf6 =>
          have hw44 := hb
          try simp only [bo1, bo2, bo3, bo4, bo5, bo6] at hb
          have hbt44 := hb
          refine AW.skip ?_
          refine AW.region (cfg := cfg) ?_
          refine stp (fun _ h => sx h) ?_
          refine stp (fun _ h => sl h) ?_
          refine stp (fun _ h => sx h) ?_
          refine stp0 (fun _ h => ss h) ?_
          refine aops_nil ?_
          refine AW.seq ?_
          refine AW.region (cfg := cfg) ?_
          refine stp (fun _ h => sl h) ?_
          refine stp0 (fun _ h => ss h) ?_
          refine stp (fun _ h => s0 h) ?_
          refine aops_nil ?_
          refine AW.ret ?_
          refine ⟨.inr rfl, ?_⟩
          refine leaves_mwp2 (rs := [.cell 4 25, .tmp 5]) rfl ?_
          simp (config := {failIfUnchanged := false}) [giveL, srcOne, rehome, freezeN, sub, ti25, upd, opn, aLoad, loadL, giveOne, reify, reifyL, readL, readOne, Mwp, M.bind, Mem.set, setAt, cellsL, hG, f0, f1]
          all_goals (rw [doS, if_neg hbt8, if_neg hbt27, if_pos hbt38, if_neg hbt44]; exact ⟨rfl, rfl⟩)
      case hf5 =>
        have hw38 := hb
        try simp only [bo1, bo2, bo3, bo4, bo5, bo6] at hb
        have hbt38 := hb
        refine AW.seq ?_
        refine AW.region (cfg := cfg) ?_
        iterate 2 refine stp (fun _ h => s0 h) ?_
        refine aops_nil ?_
        refine cnd (fun hb => ?ht7) (fun hb => ?hf7)
        case ht7 =>
          have hw49 := hb
          try simp only [bo1, bo2, bo3, bo4, bo5, bo6] at hb
          have hbt49 := hb
          refine AW.seq ?_
          refine AW.seq ?_
          refine AW.draw (cfg := cfg) (by kernel_rfl) (by kernel_rfl) (by kernel_rfl) ?_
          refine dstp (fun _ h => sx h) ?_
          refine dstp (fun _ h => sl h) ?_
          refine dstp (fun _ h => sx h) ?_
          refine dstp (fun _ h => sl h) ?_
          refine dstp (fun _ h => cs (w := good_refEpoch a.n2 a.ep (by omega) c.of) (x := h)) ?_
          refine dstp (fun _ h => sx h) ?_
          refine dstp (fun _ h => sl h) ?_
          refine dstp (fun _ h => s0 h) ?_
          refine adraw_nil (by kernel_rfl) ?_
          refine cnd (fun hb => ?ht8) (fun hb => ?hf8)
          case ht8 =>
            have hw58 := hb
            try simp only [bo1, bo2, bo3, bo4, bo5, bo6] at hb
            have hbt58 := hb
            refine AW.seq ?_
            refine AW.region (cfg := cfg) ?_
            refine stp (fun _ h => sl h) ?_
            refine stp0 (fun _ h => ss h) ?_
            refine stp (fun _ h => s0 h) ?_
            refine aops_nil ?_
            refine AW.ret ?_
            refine ⟨.inr rfl, ?_⟩
            refine leaves_mwp2 (rs := [.cell 4 25, .tmp 5]) rfl ?_
            simp (config := {failIfUnchanged := false}) [giveL, srcOne, rehome, freezeN, sub, ti25, upd, opn, aLoad, loadL, giveOne, reify, reifyL, readL, readOne, Mwp, M.bind, Mem.set, setAt, cellsL, hG, f0, f1]
            all_goals (rw [doS, if_neg hbt8, if_neg hbt27, if_neg hbt38, if_pos hbt58]; exact ⟨rfl, rfl⟩)
          case hf8 =>
            have hw58 := hb
            try simp only [bo1, bo2, bo3, bo4, bo5, bo6] at hb
            have hbt58 := hb
            refine AW.skip ?_
            have hv := epV_ch okc hbt49
            have er := (epochs_ref (sta_parts ok).2.2 hv.1 hv.2).symm
            have F := And.intro er F
            refine AW.region (cfg := cfg) ?_
            refine stp (fun _ h => sx h) ?_
            refine stp (fun _ h => sl h) ?_
            refine stp (fun _ h => sx h) ?_
            refine stp (fun _ h => sl h) ?_
            refine stp (fun _ h => sx h) ?_
            refine stp (fun _ h => sl h) ?_
            refine stp (fun _ h => su h) ?_
            refine stp (fun _ h => cr (w := good_refEpochs a.n2 a.ep (by omega) ⟨c.of, c.n⟩) (x := h)) ?_
            refine stp (fun _ h => sx h) ?_
            refine stp0 (fun _ h => ss h) ?_
            refine aops_nil ?_
            refine AW.seq ?_
            refine AW.region (cfg := cfg) ?_
            refine stp (fun _ h => sl h) ?_
            refine stp0 (fun _ h => ss h) ?_
            refine stp (fun _ h => s0 h) ?_
            refine aops_nil ?_
            refine AW.ret ?_
            refine ⟨.inr rfl, ?_⟩
            refine leaves_mwp2 (rs := [.cell 4 25, .tmp 5]) rfl ?_
            simp (config := {failIfUnchanged := false}) [giveL, srcOne, rehome, freezeN, sub, ti25, upd, opn, aLoad, loadL, giveOne, reify, reifyL, readL, readOne, Mwp, M.bind, Mem.set, setAt, cellsL, hG, f0, f1, er]
            all_goals (rw [doS, if_neg hbt8, if_neg hbt27, if_neg hbt38, if_neg hbt58]; exact ⟨rfl, rfl⟩)
        case hf7 =>
          have hw49 := hb
          try simp only [bo1, bo2, bo3, bo4, bo5, bo6] at hb
          have hbt49 := hb
          refine AW.skip ?_
          refine AW.seq ?_
          refine AW.region (cfg := cfg) ?_
          refine stp (fun _ h => sl h) ?_
          refine stp0 (fun _ h => ss h) ?_
          refine stp (fun _ h => s0 h) ?_
          refine aops_nil ?_
          refine AW.ret ?_
          refine ⟨.inr rfl, ?_⟩
          refine leaves_mwp2 (rs := [.cell 4 25, .tmp 5]) rfl ?_
          simp (config := {failIfUnchanged := false}) [giveL, srcOne, rehome, freezeN, sub, ti25, upd, opn, aLoad, loadL, giveOne, reify, reifyL, readL, readOne, Mwp, M.bind, Mem.set, setAt, cellsL, hG, f0, f1]
          all_goals (exact absurd (ch_k4 okc hbt8 hbt27 hbt38) hbt49)
end Go.Vai.BA
namespace Go.Vai.BA
open Go.Proofs Go.Vai Go.Vai.C Go.Vai.D Go.Vai.DB Go.Vai.G Go.Vai.I Go.Vai.L Go.Vai.N Go.Vai.O
set_option linter.unusedSimpArgs false
set_option linter.unusedVariables false
set_option maxHeartbeats 4000000
set_option maxRecDepth 100000
theorem good_refApplyB (a : Sta) (ha1 : a.db.length ≤ 1000000) (ha2 : a.ep.length ≤ 1000000) (pa : ∀ x ∈ a.db, fit x) (z1 : a.n1 = true → a.db = []) (z2 : a.n2 = true → a.ep = []) (nl : Bool) (l : List Ch) (hl : l.length ≤ 1000000) (pl : ∀ c ∈ l, fit c.l) : Good Try.prog 11 [(staA a, false), (.sl 6 nl (l.map chA), false)] [] [(staA (applyR a l).1, false), (i64 (applyR a l).2, false)] [] := by
  refine good_of_body2 47 Try.func11 rfl rfl rfl (by simp) ?_
  intro s m ha hr hv hG
  have f0 : s 0 = .v (.agg [.sl 3 a.n1 (a.db.map lsaA), i64 a.up, i64 a.bo, .sl 2 a.n2 (a.ep.map itA)]) := ha 0 _ rfl
  have f1 : s 1 = .v (.sl 6 nl (l.map chA)) := ha 1 _ rfl
  clear ha
  have hc : True := trivial
  have F := (And.intro f0 (And.intro f1 hG))
  refine AW.seq ?_
  refine AW.region (cfg := cfg) ?_
  refine stp (fun _ h => sb h) ?_
  refine stp (fun _ h => sd h) ?_
  refine stp (fun _ h => s0 h) ?_
  refine aops_nil ?_
  refine AW.seq ?_
  refine AW.seq ?_
  refine AW.region (cfg := cfg) ?_
  refine stp (fun _ h => sl h) ?_
  refine stp (fun _ h => cs (w := good_MayB a (by omega) (by omega) (fun x hx => by have := (pa x hx).1; omega)) (x := h)) ?_
  refine stp (fun _ h => s0 h) ?_
  refine aops_nil ?_
  refine cnd (fun hb => ?ht1) (fun hb => ?hf1)
  case ht1 =>
    have hw12 := hb
    try simp only [bo1, bo2, bo3, bo4, bo5, bo6] at hb
    have hbt12 := hb
    refine AW.seq ?_
    refine AW.region (cfg := cfg) ?_
    refine stp (fun _ h => su h) ?_
    refine stp0 (fun _ h => ss h) ?_
    refine stp (fun _ h => s0 h) ?_
    refine aops_nil ?_
    refine AW.ret ?_
    refine ⟨.inr rfl, ?_⟩
    refine leaves_mwp2 (rs := [.cell 4 25, .tmp 5]) rfl ?_
    simp (config := {failIfUnchanged := false}) [giveL, srcOne, rehome, freezeN, sub, ti25, upd, opn, aLoad, loadL, giveOne, reify, reifyL, readL, readOne, Mwp, M.bind, Mem.set, setAt, cellsL, hG, f0, f1]
    all_goals (rw [applyR_s (by simpa using hbt12)]; exact ⟨rfl, rfl⟩)
  case hf1 =>
    have hw12 := hb
    try simp only [bo1, bo2, bo3, bo4, bo5, bo6] at hb
    have hbt12 := hb
    refine AW.skip ?_
    refine AW.seq ?_
    refine AW.seq ?_
    have ok1 : staOK a = true := by simpa using hbt12
    refine AW.region (cfg := cfg) ?_
    refine stp (fun _ h => s0 h) ?_
    refine aops_nil ?_
    refine AW.block ?_
    refine AW.forN (fun k σ => ∃ s m, σ = ⟨47, s, m⟩ ∧ s 1 = .v (.sl 6 nl (l.map chA)) ∧ s 2 = .lptr (.tmp 2 0) (m.objs (.tmp 2 0)).1 0 ∧ (m.objs (.tmp 2 0)).2 = .box [.v (.sl 3 a.n1 (a.db.map lsaA)), .v (i64 a.up), .v (i64 a.bo), .v (.sl 2 a.n2 (a.ep.map itA))] ∧ s 4 = .lptr (.tmp 4 0) (m.objs (.tmp 4 0)).1 0 ∧ (m.objs (.tmp 4 0)).2 = .box [.v (.sl 3 true []), .v (i64 0), .v (i64 0), .v (.sl 2 true [])] ∧ s 6 = .v (i64 (k : Int)) ∧ ((l.take k).all chOK = true) ∧ (∀ i, (m.objs (.res i)).2 = .dead) ∧ m.G = []) (l.length) ?_ ?_ ?_
    · refine ⟨_, _, rfl, ?_, ?_, ?_, ?_, ?_, ?_, ?_, (by intro i; simp [Mem.set, hr]), (by exact hG)⟩ <;> try simp (disch := first | omega | decide) only [go_sem, F, aIndex_map]
      all_goals rfl
    · clear F f0 f1 hr hG
      rintro k σ hk ⟨s, m, rfl, f1, f2, o2, f4, o4, f6, mo0, hr, hG⟩
      obtain ⟨g2, o2⟩ : ∃ g, m.objs (.tmp 2 0) = (g, .box [.v (.sl 3 a.n1 (a.db.map lsaA)), .v (i64 a.up), .v (i64 a.bo), .v (.sl 2 a.n2 (a.ep.map itA))]) := ⟨_, Prod.ext rfl o2⟩
      rw [o2] at f2
      obtain ⟨g4, o4⟩ : ∃ g, m.objs (.tmp 4 0) = (g, .box [.v (.sl 3 true []), .v (i64 0), .v (i64 0), .v (.sl 2 true [])]) := ⟨_, Prod.ext rfl o4⟩
      rw [o4] at f4
      have F := (And.intro f1 (And.intro f2 (And.intro f4 (And.intro f6 (And.intro o2 (And.intro o4 hG))))))
      refine AW.seq ?_
      refine AW.seq ?_
      refine AW.region (cfg := cfg) ?_
      iterate 2 refine stp (fun _ h => s0 h) ?_
      refine stp (fun _ h => sd h) ?_
      refine stp (fun _ h => s0 h) ?_
      refine aops_nil ?_
      refine cnd (fun hb => ?ht2) (fun hb => ?hf2)
      case hf2 => (simp at hb; omega)
      case ht2 =>
      have hbt17 := hb
      refine AW.skip ?_
      refine AW.seq ?_
      refine AW.block ?_
      refine AW.seq ?_
      have hkl : k < l.length := by assumption
      have pk := pl l[k] (List.getElem_mem hkl)
      refine AW.region (cfg := cfg) ?_
      iterate 2 refine stp (fun _ h => s0 h) ?_
      refine stp (fun _ h => si h) ?_
      refine stp (fun _ h => sl h) ?_
      refine stp (fun _ h => cs (w := C.good_refMayC l[k] (by have := pk.1; omega)) (x := h)) ?_
      refine stp (fun _ h => s0 h) ?_
      refine aops_nil ?_
      refine cnd (fun hb => ?ht3) (fun hb => ?hf3)
      case ht3 =>
        have hw25 := hb
        try simp only [bo1, bo2, bo3, bo4, bo5, bo6] at hb
        have hbt25 := hb
        refine AW.seq ?_
        refine AW.region (cfg := cfg) ?_
        refine stp (fun _ h => su h) ?_
        refine stp0 (fun _ h => ss h) ?_
        refine stp (fun _ h => s0 h) ?_
        refine aops_nil ?_
        refine AW.ret ?_
        refine ⟨.inr rfl, ?_⟩
        refine leaves_mwp2 (rs := [.cell 4 25, .tmp 5]) rfl ?_
        simp (config := {failIfUnchanged := false}) [giveL, srcOne, rehome, freezeN, sub, ti25, upd, opn, aLoad, loadL, giveOne, reify, reifyL, readL, readOne, Mwp, M.bind, Mem.set, setAt, cellsL, hG, f1, f2, f4, f6, o2, o4]
        all_goals (rw [applyR_l (allCh_nat hkl (by simpa using hbt25))]; exact ⟨rfl, rfl⟩)
      case hf3 =>
        have hw25 := hb
        try simp only [bo1, bo2, bo3, bo4, bo5, bo6] at hb
        have hbt25 := hb
        refine AW.skip ?_
        refine AW.region (cfg := cfg) ?_
        refine stp (fun _ h => s0 h) ?_
        refine stp (fun _ h => sd h) ?_
        refine stp (fun _ h => s0 h) ?_
        refine aops_nil ?_
        refine ⟨_, _, rfl, ?_, ?_, ?_, ?_, ?_, ?_, ?_, (by intro i; simp [Mem.set, hr]), (by exact hG)⟩ <;> try simp (disch := first | omega | decide) only [go_sem, F, aIndex_map]
        all_goals first | rfl | exact all_step hkl mo0 hbt25
    · clear F f0 f1 hr hG
      rintro σ ⟨s, m, rfl, f1, f2, o2, f4, o4, f6, mo0, hr, hG⟩
      obtain ⟨g2, o2⟩ : ∃ g, m.objs (.tmp 2 0) = (g, .box [.v (.sl 3 a.n1 (a.db.map lsaA)), .v (i64 a.up), .v (i64 a.bo), .v (.sl 2 a.n2 (a.ep.map itA))]) := ⟨_, Prod.ext rfl o2⟩
      rw [o2] at f2
      obtain ⟨g4, o4⟩ : ∃ g, m.objs (.tmp 4 0) = (g, .box [.v (.sl 3 true []), .v (i64 0), .v (i64 0), .v (.sl 2 true [])]) := ⟨_, Prod.ext rfl o4⟩
      rw [o4] at f4
      have F := (And.intro f1 (And.intro f2 (And.intro f4 (And.intro f6 (And.intro o2 (And.intro o4 hG))))))
      refine AW.seq ?_
      refine AW.seq ?_
      refine AW.region (cfg := cfg) ?_
      iterate 2 refine stp (fun _ h => s0 h) ?_
      refine stp (fun _ h => sd h) ?_
      refine stp (fun _ h => s0 h) ?_
      refine aops_nil ?_
      refine cnd (fun hb => ?ht4) (fun hb => ?hf4)
      case ht4 => (simp at hb; done)
      case hf4 =>
      have hbt17 := hb
      refine AW.exit ?_
      refine AW.seq ?_
      refine AW.seq ?_
      refine AW.region (cfg := cfg) ?_
      refine stp (fun _ h => s0 h) ?_
      refine aops_nil ?_
      refine AW.block ?_
      refine AW.forN (fun k σ => ∃ (s : Nat → LV) (m : Mem) (z : Sta), σ = ⟨47, s, m⟩ ∧ s 1 = .v (.sl 6 nl (l.map chA)) ∧ s 2 = .lptr (.tmp 2 0) (m.objs (.tmp 2 0)).1 0 ∧ (m.objs (.tmp 2 0)).2 = .box [.v (.sl 3 z.n1 (z.db.map lsaA)), .v (i64 z.up), .v (i64 z.bo), .v (.sl 2 z.n2 (z.ep.map itA))] ∧ s 4 = .lptr (.tmp 4 0) (m.objs (.tmp 4 0)).1 0 ∧ (m.objs (.tmp 4 0)).2 = .box [.v (.sl 3 true []), .v (i64 0), .v (i64 0), .v (.sl 2 true [])] ∧ s 7 = .v (i64 (k : Int)) ∧ (allCh l = true) ∧ (foldS a (l.take k) = some z) ∧ (staOK z = true) ∧ (∀ x ∈ z.db, fit x) ∧ (∀ i, (m.objs (.res i)).2 = .dead) ∧ m.G = []) (l.length) ?_ ?_ ?_
      · refine ⟨_, _, a, rfl, ?_, ?_, ?_, ?_, ?_, ?_, ?_, ?_, ?_, ?_, (by intro i; simp [Mem.set, hr]), (by exact hG)⟩ <;> try simp (disch := first | omega | decide) only [go_sem, F, aIndex_map]
        all_goals first | rfl | assumption | exact allCh_fin mo0
      · clear F f1 f2 f4 f6 o2 o4 hr hG
        rintro k σ hk ⟨s, m, z, rfl, f1, f2, o2, f4, o4, f7, mo0, mo1, mo2, mo3, hr, hG⟩
        obtain ⟨g2, o2⟩ : ∃ g, m.objs (.tmp 2 0) = (g, .box [.v (.sl 3 z.n1 (z.db.map lsaA)), .v (i64 z.up), .v (i64 z.bo), .v (.sl 2 z.n2 (z.ep.map itA))]) := ⟨_, Prod.ext rfl o2⟩
        rw [o2] at f2
        obtain ⟨g4, o4⟩ : ∃ g, m.objs (.tmp 4 0) = (g, .box [.v (.sl 3 true []), .v (i64 0), .v (i64 0), .v (.sl 2 true [])]) := ⟨_, Prod.ext rfl o4⟩
        rw [o4] at f4
        have F := (And.intro f1 (And.intro f2 (And.intro f4 (And.intro f7 (And.intro o2 (And.intro o4 hG))))))
        refine AW.seq ?_
        refine AW.seq ?_
        refine AW.region (cfg := cfg) ?_
        iterate 2 refine stp (fun _ h => s0 h) ?_
        refine stp (fun _ h => sd h) ?_
        refine stp (fun _ h => s0 h) ?_
        refine aops_nil ?_
        refine cnd (fun hb => ?ht5) (fun hb => ?hf5)
        case hf5 => (simp at hb; omega)
        case ht5 =>
        have hbt30 := hb
        refine AW.skip ?_
        refine AW.seq ?_
        refine AW.block ?_
        refine AW.seq ?_
        have hkl : k < l.length := by assumption
        have pk := pl l[k] (List.getElem_mem hkl)
        have okk := allCh_at mo0 hkl
        have zl := sta_lens mo2
        refine AW.draw (cfg := cfg) (by kernel_rfl) (by kernel_rfl) (by kernel_rfl) ?_
        refine dstp (fun _ h => sl h) ?_
        iterate 2 refine dstp (fun _ h => s0 h) ?_
        refine dstp (fun _ h => si h) ?_
        refine dstp (fun _ h => sl h) ?_
        refine dstp (fun _ h => cr (w := good_refDo z (by omega) (by omega) mo3 mo2 l[k] pk okk) (x := h)) ?_
        iterate 3 refine dstp (fun _ h => s0 h) ?_
        refine dstp (fun _ h => sd h) ?_
        refine dstp0 (fun _ h => ss h) ?_
        refine dstp (fun _ h => s0 h) ?_
        refine adraw_nil (by kernel_rfl) ?_
        refine AW.seq ?_
        refine AW.seq ?_
        refine AW.region (cfg := cfg) ?_
        iterate 2 refine stp (fun _ h => s0 h) ?_
        refine aops_nil ?_
        refine cnd (fun hb => ?ht6) (fun hb => ?hf6)
        case ht6 =>
          have hw43 := hb
          try simp only [bo1, bo2, bo3, bo4, bo5, bo6] at hb
          have hbt43 := hb
          refine AW.seq ?_
          refine AW.region (cfg := cfg) ?_
          refine stp (fun _ h => su h) ?_
          refine stp0 (fun _ h => ss h) ?_
          refine stp (fun _ h => s0 h) ?_
          refine aops_nil ?_
          refine AW.ret ?_
          refine ⟨.inr rfl, ?_⟩
          refine leaves_mwp2 (rs := [.cell 4 25, .tmp 5]) rfl ?_
          simp (config := {failIfUnchanged := false}) [giveL, srcOne, rehome, freezeN, sub, ti25, upd, opn, aLoad, loadL, giveOne, reify, reifyL, readL, readOne, Mwp, M.bind, Mem.set, setAt, cellsL, hG, f1, f2, f4, f7, o2, o4]
          all_goals (rw [applyR_old ok1 mo0 (foldS_none hkl mo1 (not_is (by simpa using hbt43)))]; exact ⟨rfl, rfl⟩)
        case hf6 =>
          have hw43 := hb
          try simp only [bo1, bo2, bo3, bo4, bo5, bo6] at hb
          have hbt43 := hb
          refine AW.skip ?_
          refine AW.region (cfg := cfg) ?_
          refine stp (fun _ h => sl h) ?_
          refine stp0 (fun _ h => ss h) ?_
          refine aops_nil ?_
          refine AW.region (cfg := cfg) ?_
          refine stp (fun _ h => s0 h) ?_
          refine stp (fun _ h => sd h) ?_
          refine stp (fun _ h => s0 h) ?_
          refine aops_nil ?_
          refine ⟨_, _, (doS z l[k]).getD z, rfl, ?_, ?_, ?_, ?_, ?_, ?_, ?_, ?_, ?_, ?_, (by intro i; simp [Mem.set, hr]), (by exact hG)⟩ <;> try simp (disch := first | omega | decide) only [go_sem, F, aIndex_map]
          all_goals first | rfl | assumption | (rw [foldS_take hkl mo1]; exact is_getD (by simpa using hbt43)) | exact doS_ok2 mo2 okk | exact doS_fit2 mo3 pk
      · clear F f1 f2 f4 f6 o2 o4 hr hG
        rintro σ ⟨s, m, z, rfl, f1, f2, o2, f4, o4, f7, mo0, mo1, mo2, mo3, hr, hG⟩
        obtain ⟨g2, o2⟩ : ∃ g, m.objs (.tmp 2 0) = (g, .box [.v (.sl 3 z.n1 (z.db.map lsaA)), .v (i64 z.up), .v (i64 z.bo), .v (.sl 2 z.n2 (z.ep.map itA))]) := ⟨_, Prod.ext rfl o2⟩
        rw [o2] at f2
        obtain ⟨g4, o4⟩ : ∃ g, m.objs (.tmp 4 0) = (g, .box [.v (.sl 3 true []), .v (i64 0), .v (i64 0), .v (.sl 2 true [])]) := ⟨_, Prod.ext rfl o4⟩
        rw [o4] at f4
        have F := (And.intro f1 (And.intro f2 (And.intro f4 (And.intro f7 (And.intro o2 (And.intro o4 hG))))))
        refine AW.seq ?_
        refine AW.seq ?_
        refine AW.region (cfg := cfg) ?_
        iterate 2 refine stp (fun _ h => s0 h) ?_
        refine stp (fun _ h => sd h) ?_
        refine stp (fun _ h => s0 h) ?_
        refine aops_nil ?_
        refine cnd (fun hb => ?ht7) (fun hb => ?hf7)
        case ht7 => (simp at hb; done)
        case hf7 =>
        have hbt30 := hb
        refine AW.exit ?_
        refine AW.seq ?_
        refine AW.region (cfg := cfg) ?_
        refine stp (fun _ h => sl h) ?_
        refine stp0 (fun _ h => ss h) ?_
        refine stp (fun _ h => s0 h) ?_
        refine aops_nil ?_
        refine AW.ret ?_
        refine ⟨.inr rfl, ?_⟩
        refine leaves_mwp2 (rs := [.cell 4 25, .tmp 5]) rfl ?_
        simp (config := {failIfUnchanged := false}) [giveL, srcOne, rehome, freezeN, sub, ti25, upd, opn, aLoad, loadL, giveOne, reify, reifyL, readL, readOne, Mwp, M.bind, Mem.set, setAt, cellsL, hG, f1, f2, f4, f7, o2, o4]
        all_goals (rw [List.take_length] at mo1; rw [applyR_ok ok1 mo0 mo1]; simp only [staA]; (simp; done))
theorem good_WithinB (a : Sta) (ha1 : a.db.length ≤ 1000000) (ha2 : a.ep.length ≤ 1000000) (pa : ∀ x ∈ a.db, fit x) (b : Sta) (hb1 : b.db.length ≤ 1000000) (hb2 : b.ep.length ≤ 1000000) (pb : ∀ x ∈ b.db, fit x) : Good Try.prog 15 [(staA a, false), (staA b, false)] [] [(.b (withinS a b), false)] [] := by
  refine good_of_body2 89 Try.func15 rfl rfl rfl (by simp) ?_
  intro s m ha hr hv hG
  have f0 : s 0 = .v (.agg [.sl 3 a.n1 (a.db.map lsaA), i64 a.up, i64 a.bo, .sl 2 a.n2 (a.ep.map itA)]) := ha 0 _ rfl
  have f1 : s 1 = .v (.agg [.sl 3 b.n1 (b.db.map lsaA), i64 b.up, i64 b.bo, .sl 2 b.n2 (b.ep.map itA)]) := ha 1 _ rfl
  clear ha
  have hc : True := trivial
  have F := (And.intro f0 (And.intro f1 hG))
  refine AW.seq ?_
  refine AW.region (cfg := cfg) ?_
  iterate 2 refine stp (fun _ h => sb h) ?_
  refine stp (fun _ h => s0 h) ?_
  refine aops_nil ?_
  refine AW.seq ?_
  refine AW.seq ?_
  refine AW.region (cfg := cfg) ?_
  refine stp (fun _ h => s0 h) ?_
  refine aops_nil ?_
  refine AW.block ?_
  refine AW.forN (fun k σ => ∃ s m, σ = ⟨89, s, m⟩ ∧ s 2 = .lptr (.tmp 2 0) (m.objs (.tmp 2 0)).1 0 ∧ (m.objs (.tmp 2 0)).2 = .box [.v (.sl 3 a.n1 (a.db.map lsaA)), .v (i64 a.up), .v (i64 a.bo), .v (.sl 2 a.n2 (a.ep.map itA))] ∧ s 3 = .lptr (.tmp 3 0) (m.objs (.tmp 3 0)).1 0 ∧ (m.objs (.tmp 3 0)).2 = .box [.v (.sl 3 b.n1 (b.db.map lsaA)), .v (i64 b.up), .v (i64 b.bo), .v (.sl 2 b.n2 (b.ep.map itA))] ∧ s 5 = .v (i64 (k : Int)) ∧ ((a.db.take k).any (wiD b.db) = false) ∧ (∀ i, (m.objs (.res i)).2 = .dead) ∧ m.G = []) (a.db.length) ?_ ?_ ?_
  · refine ⟨_, _, rfl, ?_, ?_, ?_, ?_, ?_, ?_, (by intro i; simp [Mem.set, hr]), (by exact hG)⟩ <;> try simp (disch := first | omega | decide) only [go_sem, F, aIndex_map]
    all_goals rfl
  · clear F f0 f1 hr hG
    rintro k σ hk ⟨s, m, rfl, f2, o2, f3, o3, f5, mo0, hr, hG⟩
    obtain ⟨g2, o2⟩ : ∃ g, m.objs (.tmp 2 0) = (g, .box [.v (.sl 3 a.n1 (a.db.map lsaA)), .v (i64 a.up), .v (i64 a.bo), .v (.sl 2 a.n2 (a.ep.map itA))]) := ⟨_, Prod.ext rfl o2⟩
    rw [o2] at f2
    obtain ⟨g3, o3⟩ : ∃ g, m.objs (.tmp 3 0) = (g, .box [.v (.sl 3 b.n1 (b.db.map lsaA)), .v (i64 b.up), .v (i64 b.bo), .v (.sl 2 b.n2 (b.ep.map itA))]) := ⟨_, Prod.ext rfl o3⟩
    rw [o3] at f3
    have F := (And.intro f2 (And.intro f3 (And.intro f5 (And.intro o2 (And.intro o3 hG)))))
    refine AW.seq ?_
    refine AW.seq ?_
    refine AW.region (cfg := cfg) ?_
    refine stp (fun _ h => s0 h) ?_
    refine stp (fun _ h => sx h) ?_
    refine stp (fun _ h => sl h) ?_
    refine stp (fun _ h => sd h) ?_
    refine stp (fun _ h => s0 h) ?_
    refine aops_nil ?_
    refine cnd (fun hb => ?ht1) (fun hb => ?hf1)
    case hf1 => (simp at hb; omega)
    case ht1 =>
    have hbt12 := hb
    refine AW.skip ?_
    refine AW.seq ?_
    refine AW.block ?_
    refine AW.seq ?_
    have hkl : k < a.db.length := by assumption
    have pk := pa a.db[k] (List.getElem_mem hkl)
    have pg := gd_fit (t := a.db[k].o) pb
    refine AW.draw (cfg := cfg) (by kernel_rfl) (by kernel_rfl) (by kernel_rfl) ?_
    refine dstp (fun _ h => sx h) ?_
    refine dstp (fun _ h => sl h) ?_
    refine dstp (fun _ h => sx h) ?_
    refine dstp (fun _ h => sl h) ?_
    refine dstp (fun _ h => s0 h) ?_
    refine dstp (fun _ h => si h) ?_
    refine dstp (fun _ h => sx h) ?_
    refine dstp (fun _ h => sl h) ?_
    refine dstp (fun _ h => cr (w := good_Get11 b.n1 b.db (by omega) a.db[k].o) (x := h)) ?_
    refine dstp (fun _ h => sd h) ?_
    refine dstp0 (fun _ h => ss h) ?_
    refine adraw_nil (by kernel_rfl) ?_
    refine AW.seq ?_
    refine AW.draw (cfg := cfg) (by kernel_rfl) (by kernel_rfl) (by kernel_rfl) ?_
    refine dstp (fun _ h => sx h) ?_
    refine dstp (fun _ h => sl h) ?_
    refine dstp (fun _ h => sx h) ?_
    refine dstp (fun _ h => sl h) ?_
    refine dstp (fun _ h => s0 h) ?_
    refine dstp (fun _ h => si h) ?_
    refine dstp (fun _ h => sx h) ?_
    refine dstp (fun _ h => sl h) ?_
    iterate 2 refine dstp (fun _ h => s0 h) ?_
    refine dmrg wa (fun hc _ h => sx h) ?_
    refine dmrg wa (fun hc _ h => sl h) ?_
    refine dmrg wa (fun hc _ h => sx h) ?_
    refine dmrg wa (fun hc _ h => sl h) ?_
    refine dmrg wa (fun hc _ h => s0 h) ?_
    refine dmrg wa (fun hc _ h => si h) ?_
    refine dmrg wa (fun hc _ h => sx h) ?_
    refine dmrg wa (fun hc _ h => sl h) ?_
    iterate 2 refine dmrg wa (fun hc _ h => s0 h) ?_
    refine dmrg wa (fun hc _ h => sl h) ?_
    refine dmrg wa (fun hc _ h => sx h) ?_
    refine dmrg wa (fun hc _ h => sl h) ?_
    refine dmrg wa (fun hc _ h => s0 h) ?_
    refine dmrg wa (fun hc _ h => si h) ?_
    refine dmrg wa (fun hc _ h => sl h) ?_
    refine dmrg wa (fun hc _ h => cs (w := L.good_refSame ((gK Lsa.o b.db a.db[k].o).getD default) (by have := pg.1; omega) a.db[k] (by have := pk.1; omega)) (x := h)) ?_
    iterate 2 refine dmrg wa (fun hc _ h => s0 h) ?_
    refine dstp (fun _ h => s0 h) ?_
    refine adraw_nil (by kernel_rfl) ?_
    refine cnd (fun hb => ?ht2) (fun hb => ?hf2)
    case ht2 =>
      have hw53 := hb
      try simp only [bo1, bo2, bo3, bo4, bo5, bo6] at hb
      have hbt53 := hb
      refine AW.seq ?_
      refine AW.region (cfg := cfg) ?_
      refine stp (fun _ h => s0 h) ?_
      refine aops_nil ?_
      refine AW.ret ?_
      refine ⟨.inr rfl, ?_⟩
      refine leaves_tmp1 4 rfl ?_ (by exact hG)
      simp (disch := first | omega | decide) only [go_sem, F, aIndex_map]
      all_goals (rw [wi_no1 hkl (wiD_t hbt53)]; done)
    case hf2 =>
      have hw53 := hb
      try simp only [bo1, bo2, bo3, bo4, bo5, bo6] at hb
      have hbt53 := hb
      refine AW.skip ?_
      refine AW.region (cfg := cfg) ?_
      refine stp (fun _ h => s0 h) ?_
      refine stp (fun _ h => sd h) ?_
      refine stp (fun _ h => s0 h) ?_
      refine aops_nil ?_
      refine ⟨_, _, rfl, ?_, ?_, ?_, ?_, ?_, ?_, (by intro i; simp [Mem.set, hr]), (by exact hG)⟩ <;> try simp (disch := first | omega | decide) only [go_sem, F, aIndex_map]
      all_goals first | rfl | exact any_go hkl mo0 (wiD_f hbt53)
  · clear F f0 f1 hr hG
    rintro σ ⟨s, m, rfl, f2, o2, f3, o3, f5, mo0, hr, hG⟩
    obtain ⟨g2, o2⟩ : ∃ g, m.objs (.tmp 2 0) = (g, .box [.v (.sl 3 a.n1 (a.db.map lsaA)), .v (i64 a.up), .v (i64 a.bo), .v (.sl 2 a.n2 (a.ep.map itA))]) := ⟨_, Prod.ext rfl o2⟩
    rw [o2] at f2
    obtain ⟨g3, o3⟩ : ∃ g, m.objs (.tmp 3 0) = (g, .box [.v (.sl 3 b.n1 (b.db.map lsaA)), .v (i64 b.up), .v (i64 b.bo), .v (.sl 2 b.n2 (b.ep.map itA))]) := ⟨_, Prod.ext rfl o3⟩
    rw [o3] at f3
    have F := (And.intro f2 (And.intro f3 (And.intro f5 (And.intro o2 (And.intro o3 hG)))))
    refine AW.seq ?_
    refine AW.seq ?_
    refine AW.region (cfg := cfg) ?_
    refine stp (fun _ h => s0 h) ?_
    refine stp (fun _ h => sx h) ?_
    refine stp (fun _ h => sl h) ?_
    refine stp (fun _ h => sd h) ?_
    refine stp (fun _ h => s0 h) ?_
    refine aops_nil ?_
    refine cnd (fun hb => ?ht3) (fun hb => ?hf3)
    case ht3 => (simp at hb; done)
    case hf3 =>
    have hbt12 := hb
    refine AW.exit ?_
    refine AW.seq ?_
    refine AW.seq ?_
    refine AW.region (cfg := cfg) ?_
    refine stp (fun _ h => s0 h) ?_
    refine aops_nil ?_
    refine AW.block ?_
    refine AW.forN (fun k σ => ∃ s m, σ = ⟨89, s, m⟩ ∧ s 2 = .lptr (.tmp 2 0) (m.objs (.tmp 2 0)).1 0 ∧ (m.objs (.tmp 2 0)).2 = .box [.v (.sl 3 a.n1 (a.db.map lsaA)), .v (i64 a.up), .v (i64 a.bo), .v (.sl 2 a.n2 (a.ep.map itA))] ∧ s 3 = .lptr (.tmp 3 0) (m.objs (.tmp 3 0)).1 0 ∧ (m.objs (.tmp 3 0)).2 = .box [.v (.sl 3 b.n1 (b.db.map lsaA)), .v (i64 b.up), .v (i64 b.bo), .v (.sl 2 b.n2 (b.ep.map itA))] ∧ s 7 = .v (i64 (k : Int)) ∧ ((a.db.take a.db.length).any (wiD b.db) = false) ∧ ((a.ep.take k).any (wiE b.ep) = false) ∧ (∀ i, (m.objs (.res i)).2 = .dead) ∧ m.G = []) (a.ep.length) ?_ ?_ ?_
    · refine ⟨_, _, rfl, ?_, ?_, ?_, ?_, ?_, ?_, ?_, (by intro i; simp [Mem.set, hr]), (by exact hG)⟩ <;> try simp (disch := first | omega | decide) only [go_sem, F, aIndex_map]
      all_goals first | rfl | (rw [List.take_length] at mo0; exact mo0)
    · clear F f2 f3 f5 o2 o3 hr hG
      rintro k σ hk ⟨s, m, rfl, f2, o2, f3, o3, f7, mo0, mo1, hr, hG⟩
      obtain ⟨g2, o2⟩ : ∃ g, m.objs (.tmp 2 0) = (g, .box [.v (.sl 3 a.n1 (a.db.map lsaA)), .v (i64 a.up), .v (i64 a.bo), .v (.sl 2 a.n2 (a.ep.map itA))]) := ⟨_, Prod.ext rfl o2⟩
      rw [o2] at f2
      obtain ⟨g3, o3⟩ : ∃ g, m.objs (.tmp 3 0) = (g, .box [.v (.sl 3 b.n1 (b.db.map lsaA)), .v (i64 b.up), .v (i64 b.bo), .v (.sl 2 b.n2 (b.ep.map itA))]) := ⟨_, Prod.ext rfl o3⟩
      rw [o3] at f3
      have F := (And.intro f2 (And.intro f3 (And.intro f7 (And.intro o2 (And.intro o3 hG)))))
      refine AW.seq ?_
      refine AW.seq ?_
      refine AW.region (cfg := cfg) ?_
      refine stp (fun _ h => s0 h) ?_
      refine stp (fun _ h => sx h) ?_
      refine stp (fun _ h => sl h) ?_
      refine stp (fun _ h => sd h) ?_
      refine stp (fun _ h => s0 h) ?_
      refine aops_nil ?_
      refine cnd (fun hb => ?ht4) (fun hb => ?hf4)
      case hf4 => (simp at hb; omega)
      case ht4 =>
      have hbt58 := hb
      refine AW.skip ?_
      refine AW.seq ?_
      refine AW.block ?_
      refine AW.seq ?_
      have hkl : k < a.ep.length := by assumption
      refine AW.draw (cfg := cfg) (by kernel_rfl) (by kernel_rfl) (by kernel_rfl) ?_
      refine dstp (fun _ h => sx h) ?_
      refine dstp (fun _ h => sl h) ?_
      refine dstp (fun _ h => sx h) ?_
      refine dstp (fun _ h => sl h) ?_
      refine dstp (fun _ h => s0 h) ?_
      refine dstp (fun _ h => si h) ?_
      refine dstp (fun _ h => sx h) ?_
      refine dstp (fun _ h => sl h) ?_
      refine dstp (fun _ h => cs (w := good_refEpoch b.n2 b.ep (by omega) a.ep[k].o) (x := h)) ?_
      refine dstp (fun _ h => sx h) ?_
      refine dstp (fun _ h => sl h) ?_
      refine dstp (fun _ h => s0 h) ?_
      refine dstp (fun _ h => si h) ?_
      refine dstp (fun _ h => sx h) ?_
      refine dstp (fun _ h => sl h) ?_
      refine dstp (fun _ h => s0 h) ?_
      refine adraw_nil (by kernel_rfl) ?_
      refine cnd (fun hb => ?ht5) (fun hb => ?hf5)
      case ht5 =>
        have hw76 := hb
        try simp only [bo1, bo2, bo3, bo4, bo5, bo6] at hb
        have hbt76 := hb
        refine AW.seq ?_
        refine AW.region (cfg := cfg) ?_
        refine stp (fun _ h => s0 h) ?_
        refine aops_nil ?_
        refine AW.ret ?_
        refine ⟨.inr rfl, ?_⟩
        refine leaves_tmp1 4 rfl ?_ (by exact hG)
        simp (disch := first | omega | decide) only [go_sem, F, aIndex_map]
        all_goals (rw [wi_no2 hkl (wiE_t hbt76)]; done)
      case hf5 =>
        have hw76 := hb
        try simp only [bo1, bo2, bo3, bo4, bo5, bo6] at hb
        have hbt76 := hb
        refine AW.skip ?_
        refine AW.region (cfg := cfg) ?_
        refine stp (fun _ h => s0 h) ?_
        refine stp (fun _ h => sd h) ?_
        refine stp (fun _ h => s0 h) ?_
        refine aops_nil ?_
        refine ⟨_, _, rfl, ?_, ?_, ?_, ?_, ?_, ?_, ?_, (by intro i; simp [Mem.set, hr]), (by exact hG)⟩ <;> try simp (disch := first | omega | decide) only [go_sem, F, aIndex_map]
        all_goals first | rfl | exact any_go hkl mo1 (wiE_f hbt76) | (rw [List.take_length] at mo0; exact mo0)
    · clear F f2 f3 f5 o2 o3 hr hG
      rintro σ ⟨s, m, rfl, f2, o2, f3, o3, f7, mo0, mo1, hr, hG⟩
      obtain ⟨g2, o2⟩ : ∃ g, m.objs (.tmp 2 0) = (g, .box [.v (.sl 3 a.n1 (a.db.map lsaA)), .v (i64 a.up), .v (i64 a.bo), .v (.sl 2 a.n2 (a.ep.map itA))]) := ⟨_, Prod.ext rfl o2⟩
      rw [o2] at f2
      obtain ⟨g3, o3⟩ : ∃ g, m.objs (.tmp 3 0) = (g, .box [.v (.sl 3 b.n1 (b.db.map lsaA)), .v (i64 b.up), .v (i64 b.bo), .v (.sl 2 b.n2 (b.ep.map itA))]) := ⟨_, Prod.ext rfl o3⟩
      rw [o3] at f3
      have F := (And.intro f2 (And.intro f3 (And.intro f7 (And.intro o2 (And.intro o3 hG)))))
      refine AW.seq ?_
      refine AW.seq ?_
      refine AW.region (cfg := cfg) ?_
      refine stp (fun _ h => s0 h) ?_
      refine stp (fun _ h => sx h) ?_
      refine stp (fun _ h => sl h) ?_
      refine stp (fun _ h => sd h) ?_
      refine stp (fun _ h => s0 h) ?_
      refine aops_nil ?_
      refine cnd (fun hb => ?ht6) (fun hb => ?hf6)
      case ht6 => (simp at hb; done)
      case hf6 =>
      have hbt58 := hb
      refine AW.exit ?_
      refine AW.seq ?_
      refine AW.region (cfg := cfg) ?_
      refine stp (fun _ h => sx h) ?_
      refine stp (fun _ h => sl h) ?_
      refine stp (fun _ h => sx h) ?_
      refine stp (fun _ h => sl h) ?_
      iterate 2 refine stp (fun _ h => s0 h) ?_
      refine mrg wa (fun hc _ h => sx h) ?_
      refine mrg wa (fun hc _ h => sl h) ?_
      refine mrg wa (fun hc _ h => sx h) ?_
      refine mrg wa (fun hc _ h => sl h) ?_
      refine mrg wa (fun hc _ h => s0 h) ?_
      iterate 2 refine stp (fun _ h => s0 h) ?_
      refine aops_nil ?_
      refine AW.ret ?_
      refine ⟨.inr rfl, ?_⟩
      refine leaves_tmp1 4 rfl ?_ (by exact hG)
      simp (disch := first | omega | decide) only [go_sem, F, aIndex_map]
      all_goals (rw [wi_end mo0 mo1]; done)
end Go.Vai.BA
set_option linter.unusedSimpArgs false
set_option linter.unusedVariables false
namespace Go.Vai.BA
open Go.Vai.O Go.Vai.L Go.Vai.D Go.Vai.I Go.Vai.G Go.Vai.C
def dbB (l : List Lsa) : List (BitVec 8) := l.flatMap lsaB
def epoB (x : It) : List (BitVec 8) := numR x.o 1 ++ numR x.s 4
def epsB (l : List It) : List (BitVec 8) := l.flatMap epoB
def staB (a : Sta) : List (BitVec 8) := numR a.up 8 ++ (numR a.bo 4 ++ (numR (a.db.length : Int) 1 ++ (dbB a.db ++ (numR (a.ep.length : Int) 1 ++ epsB a.ep))))
def staS (a : Sta) : List (BitVec 8) := if staOK a then staB a else []
theorem dbB_take {l : List Lsa} {k : Nat} (h : k < l.length) : dbB (l.take (k + 1)) = dbB (l.take k) ++ lsaB l[k] := by
 rw [List.take_succ_eq_append_getElem h]; simp only [dbB, List.flatMap_append, List.flatMap_cons, List.flatMap_nil, List.append_nil]
theorem epsB_take {l : List It} {k : Nat} (h : k < l.length) : epsB (l.take (k + 1)) = epsB (l.take k) ++ epoB l[k] := by
 rw [List.take_succ_eq_append_getElem h]; simp only [epsB, List.flatMap_append, List.flatMap_cons, List.flatMap_nil, List.append_nil]
theorem epsB_len : ∀ (l : List It), (epsB l).length = 5 * l.length
 | [] => rfl
 | x :: l => by
  have := epsB_len l
  simp only [epsB, List.flatMap_cons, List.length_append, epoB, numR_length, List.length_cons] at this ⊢
  omega
theorem dbB_le : ∀ {l : List Lsa}, (∀ x ∈ l, lsaOK x = true) → (dbB l).length ≤ 90 * l.length
 | [], _ => Nat.le_refl _
 | x :: l, h => by
  have h1 := dbB_le (l := l) fun y hy => h y (by simp [hy])
  have h2 := (lsa_bd (h x (by simp))).2.2.1
  simp only [dbB, List.flatMap_cons, List.length_append, List.length_cons, lsaB_len] at h1 ⊢
  omega
theorem staS_no {a : Sta} (h : staE a ≠ 0) : staS a = [] ∧ staOK a = false ∧ staE a = 1 := by
 have := staE_1 h
 exact ⟨by rw [staS, this.1]; rfl, this.1, this.2⟩
theorem staS_yes {a : Sta} (h : staOK a = true) : staS a = staB a ∧ staE a = 0 := ⟨by rw [staS, h]; rfl, by rw [staE, h]; rfl⟩
theorem nu_bd {a : Sta} (h : staOK a = true) : (0 ≤ a.up ∧ a.up ≤ 4611686018427387904) ∧ (0 ≤ a.bo ∧ a.bo ≤ 1073741824) := by
 have := (sta_parts h).1
 simp only [nuOK, Bool.and_eq_true, decide_eq_true_eq] at this
 omega
theorem sta_list {a : Sta} (h : staOK a = true) : (∀ x ∈ a.db, lsaOK x = true) ∧ ∀ x ∈ a.ep, (0 < x.o ∧ x.o ≤ 64) ∧ (1 ≤ x.s ∧ x.s ≤ 1073741824) := by
 obtain ⟨_, h2, h3⟩ := sta_parts h
 refine ⟨db_mem h2, fun x hx => ?_⟩
 have := ep_at h3 hx
 have := epV_bd this.1
 omega
end Go.Vai.BA
