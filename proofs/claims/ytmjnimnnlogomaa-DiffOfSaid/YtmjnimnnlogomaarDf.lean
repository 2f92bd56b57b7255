import Derived.Test.YtmjnimnnlogomaarDb8
import Derived.Test.YtmjnimnnlogomaaDfPl
namespace Go.Vai.DB
open Go.Proofs Go.Vai Go.Vai.D Go.Vai.I Go.Vai.L Go.Vai.N Go.Vai.O
set_option linter.unusedSimpArgs false
set_option linter.unusedVariables false
set_option maxHeartbeats 4000000
set_option maxRecDepth 100000
open Go.Vai.L Go.Vai.D Go.Vai.I
@[simp] theorem noPtrL_ints (l : List Int) : noPtrL (l.map i64) = true := noPtrL_map (fun _ => rfl) _
theorem lsaE_dec (x : Lsa) : decide (lsaE x ≠ 0) = !lsaOK x := by
  rw [lsaE]; cases lsaOK x <;> rfl
theorem good_IndexN (nil : Bool) (l : List Int) (hl : l.length ≤ 9223372036854775807) (x : Int) : Good Try.prog 45 [(.sl 1 nil (l.map i64), false), (i64 x, false)] [] [(i64 (findI (fun z => decide (x = z)) l), false)] [] := by
  refine good_of_body2 19 Try.func45 rfl rfl rfl (by simp) ?_
  intro s m ha hr hv hG
  have f0 : s 0 = .v (.sl 1 nil (l.map i64)) := ha 0 _ rfl
  have f1 : s 1 = .v (i64 x) := ha 1 _ rfl
  clear ha
  have hc : True := trivial
  have F := (And.intro f0 (And.intro f1 hG))
  refine AW.seq ?_
  refine AW.region (cfg := cfg) ?_
  refine stp (fun _ h => s0 h) ?_
  refine aops_nil ?_
  refine AW.seq ?_
  refine AW.seq ?_
  refine AW.region (cfg := cfg) ?_
  refine stp (fun _ h => s0 h) ?_
  refine stp (fun _ h => sd h) ?_
  refine stp (fun _ h => s0 h) ?_
  refine aops_nil ?_
  refine AW.block ?_
  refine AW.forN (fun k σ => ∃ s m, σ = ⟨19, s, m⟩ ∧ s 0 = .v (.sl 1 nil (l.map i64)) ∧ s 1 = .v (i64 x) ∧ s 7 = .v (i64 (l.length : Int)) ∧ s 8 = .v (i64 (k : Int)) ∧ (∀ z ∈ l.take k, decide (x = z) = false) ∧ (∀ i, (m.objs (.res i)).2 = .dead) ∧ m.G = []) (l.length) ?_ ?_ ?_
  · refine ⟨_, _, rfl, ?_, ?_, ?_, ?_, ?_, (by intro i; simp [Mem.set, hr]), (by exact hG)⟩ <;> try simp (disch := first | omega | decide) only [go_sem, F, aIndex_map]
    all_goals first | rfl | (simp; done)
  · clear F f0 f1 hr hG
    rintro k σ hk ⟨s, m, rfl, f0, f1, f7, f8, mo0, hr, hG⟩
    have F := (And.intro f0 (And.intro f1 (And.intro f7 (And.intro f8 hG))))
    refine AW.seq ?_
    refine AW.region (cfg := cfg) ?_
    refine stp (fun _ h => s0 h) ?_
    refine aops_nil ?_
    refine AW.seq ?_
    refine cnd (fun hb => ?ht1) (fun hb => ?hf1)
    case hf1 => (simp at hb; omega)
    case ht1 =>
    have hbt9 := hb
    refine AW.skip ?_
    refine AW.seq ?_
    refine AW.block ?_
    refine AW.seq ?_
    refine AW.region (cfg := cfg) ?_
    iterate 2 refine stp (fun _ h => s0 h) ?_
    refine aops_nil ?_
    refine AW.seq ?_
    refine AW.region (cfg := cfg) ?_
    iterate 3 refine stp (fun _ h => s0 h) ?_
    refine stp (fun _ h => si h) ?_
    refine stp (fun _ h => sl h) ?_
    refine stp (fun _ h => s0 h) ?_
    refine aops_nil ?_
    refine cnd (fun hb => ?ht2) (fun hb => ?hf2)
    case ht2 =>
      have hw16 := hb
      try simp only [bo1, bo2, bo3, bo4, bo5, bo6] at hb
      have hbt16 := hb
      refine AW.seq ?_
      refine AW.region (cfg := cfg) ?_
      iterate 2 refine stp (fun _ h => s0 h) ?_
      refine aops_nil ?_
      refine AW.ret ?_
      refine ⟨.inr rfl, ?_⟩
      refine leaves_tmp1 4 rfl ?_ (by exact hG)
      simp (disch := first | omega | decide) only [go_sem, F, aIndex_map]
      all_goals (rw [findI_at hk mo0 hw16]; done)
    case hf2 =>
      have hw16 := hb
      try simp only [bo1, bo2, bo3, bo4, bo5, bo6] at hb
      have hbt16 := hb
      refine AW.skip ?_
      refine AW.region (cfg := cfg) ?_
      refine stp (fun _ h => sd h) ?_
      refine stp (fun _ h => s0 h) ?_
      refine aops_nil ?_
      refine ⟨_, _, rfl, ?_, ?_, ?_, ?_, ?_, (by intro i; simp [Mem.set, hr]), (by exact hG)⟩ <;> try simp (disch := first | omega | decide) only [go_sem, F, aIndex_map]
      all_goals first | rfl | (intro z hz; rw [List.take_succ_eq_append_getElem hk] at hz; rcases List.mem_append.1 hz with h | h; exact mo0 z h; rw [List.mem_singleton.1 h]; exact hw16)
  · clear F f0 f1 hr hG
    rintro σ ⟨s, m, rfl, f0, f1, f7, f8, mo0, hr, hG⟩
    have F := (And.intro f0 (And.intro f1 (And.intro f7 (And.intro f8 hG))))
    refine AW.seq ?_
    refine AW.region (cfg := cfg) ?_
    refine stp (fun _ h => s0 h) ?_
    refine aops_nil ?_
    refine AW.seq ?_
    refine cnd (fun hb => ?ht3) (fun hb => ?hf3)
    case ht3 => (simp at hb; done)
    case hf3 =>
    have hbt9 := hb
    refine AW.exit ?_
    refine AW.seq ?_
    refine AW.region (cfg := cfg) ?_
    refine stp (fun _ h => s0 h) ?_
    refine aops_nil ?_
    refine AW.ret ?_
    refine ⟨.inr rfl, ?_⟩
    refine leaves_tmp1 4 rfl ?_ (by exact hG)
    simp (disch := first | omega | decide) only [go_sem, F, aIndex_map]
    all_goals (rw [findI_none (by simpa using mo0)]; done)
theorem good_ContainsN (nil : Bool) (l : List Int) (hl : l.length ≤ 9223372036854775807) (x : Int) : Good Try.prog 32 [(.sl 1 nil (l.map i64), false), (i64 x, false)] [] [(.b (hasN l x), false)] [] := by
  refine good_of_body2 9 Try.func32 rfl rfl rfl (by simp) ?_
  intro s m ha hr hv hG
  have f0 : s 0 = .v (.sl 1 nil (l.map i64)) := ha 0 _ rfl
  have f1 : s 1 = .v (i64 x) := ha 1 _ rfl
  clear ha
  have hc : True := trivial
  have F := (And.intro f0 (And.intro f1 hG))
  refine AW.seq ?_
  refine AW.region (cfg := cfg) ?_
  refine stp (fun _ h => s0 h) ?_
  refine aops_nil ?_
  refine AW.seq ?_
  refine AW.region (cfg := cfg) ?_
  iterate 2 refine stp (fun _ h => s0 h) ?_
  refine stp (fun _ h => cs (w := good_IndexN nil l hl x) (x := h)) ?_
  iterate 2 refine stp (fun _ h => s0 h) ?_
  refine aops_nil ?_
  refine AW.ret ?_
  refine ⟨.inr rfl, ?_⟩
  refine leaves_tmp1 4 rfl ?_ (by exact hG)
  simp (disch := first | omega | decide) only [go_sem, F, aIndex_map]
  all_goals (rw [findI_any]; rfl)
theorem good_IntsN (na nb : Bool) (a b : List Int) (ha : a.length ≤ 1000000) (hb : b.length ≤ 1000000) : Good Try.prog 34 [(.sl 1 na (a.map i64), false), (.sl 1 nb (b.map i64), false)] [] [(.b (decide (a = b)), false)] [] := by
  refine good_of_body2 26 Try.func34 rfl rfl rfl (by simp) ?_
  intro s m ha hr hv hG
  have f0 : s 0 = .v (.sl 1 na (a.map i64)) := ha 0 _ rfl
  have f1 : s 1 = .v (.sl 1 nb (b.map i64)) := ha 1 _ rfl
  clear ha
  have hc : True := trivial
  have F := (And.intro f0 (And.intro f1 hG))
  refine AW.seq ?_
  refine AW.region (cfg := cfg) ?_
  refine stp (fun _ h => s0 h) ?_
  refine aops_nil ?_
  refine AW.seq ?_
  refine AW.seq ?_
  refine AW.region (cfg := cfg) ?_
  refine stp (fun _ h => s0 h) ?_
  refine stp (fun _ h => sd h) ?_
  refine stp (fun _ h => s0 h) ?_
  refine stp (fun _ h => sd h) ?_
  refine stp (fun _ h => s0 h) ?_
  refine aops_nil ?_
  refine cnd (fun hb => ?ht1) (fun hb => ?hf1)
  case ht1 =>
    have hw10 := hb
    try simp only [bo1, bo2, bo3, bo4, bo5, bo6] at hb
    have hbt10 := hb
    refine AW.seq ?_
    refine AW.region (cfg := cfg) ?_
    refine stp (fun _ h => s0 h) ?_
    refine aops_nil ?_
    refine AW.ret ?_
    refine ⟨.inr rfl, ?_⟩
    refine leaves_tmp1 4 rfl ?_ (by exact hG)
    simp (disch := first | omega | decide) only [go_sem, F, aIndex_map]
    all_goals (rw [decide_eq_false (fun e => by have := congrArg List.length e; omega)]; done)
  case hf1 =>
    have hw10 := hb
    try simp only [bo1, bo2, bo3, bo4, bo5, bo6] at hb
    have hbt10 := hb
    refine AW.skip ?_
    refine AW.seq ?_
    refine AW.seq ?_
    refine AW.region (cfg := cfg) ?_
    refine stp (fun _ h => s0 h) ?_
    refine aops_nil ?_
    refine AW.block ?_
    refine AW.forN (fun k σ => ∃ s m, σ = ⟨26, s, m⟩ ∧ s 0 = .v (.sl 1 na (a.map i64)) ∧ s 1 = .v (.sl 1 nb (b.map i64)) ∧ s 5 = .v (i64 (k : Int)) ∧ (a.length = b.length) ∧ (a.take k = b.take k) ∧ (∀ i, (m.objs (.res i)).2 = .dead) ∧ m.G = []) (a.length) ?_ ?_ ?_
    · refine ⟨_, _, rfl, ?_, ?_, ?_, ?_, ?_, (by intro i; simp [Mem.set, hr]), (by exact hG)⟩ <;> try simp (disch := first | omega | decide) only [go_sem, F, aIndex_map]
      all_goals first | rfl | omega
    · clear F f0 f1 hr hG
      rintro k σ hk ⟨s, m, rfl, f0, f1, f5, mo0, mo1, hr, hG⟩
      have F := (And.intro f0 (And.intro f1 (And.intro f5 hG)))
      refine AW.seq ?_
      refine AW.seq ?_
      refine AW.region (cfg := cfg) ?_
      iterate 2 refine stp (fun _ h => s0 h) ?_
      refine stp (fun _ h => sd h) ?_
      refine stp (fun _ h => s0 h) ?_
      refine aops_nil ?_
      refine cnd (fun hb => ?ht2) (fun hb => ?hf2)
      case hf2 => (simp at hb; omega)
      case ht2 =>
      have hbt14 := hb
      refine AW.skip ?_
      refine AW.seq ?_
      refine AW.block ?_
      refine AW.seq ?_
      refine AW.draw (cfg := cfg) (by kernel_rfl) (by kernel_rfl) (by kernel_rfl) ?_
      iterate 2 refine dstp (fun _ h => s0 h) ?_
      refine dstp (fun _ h => si h) ?_
      refine dstp (fun _ h => sl h) ?_
      iterate 2 refine dstp (fun _ h => s0 h) ?_
      refine dstp (fun _ h => si h) ?_
      refine dstp (fun _ h => sl h) ?_
      refine dstp (fun _ h => s0 h) ?_
      refine adraw_nil (by kernel_rfl) ?_
      refine cnd (fun hb => ?ht3) (fun hb => ?hf3)
      case ht3 =>
        have hw25 := hb
        try simp only [bo1, bo2, bo3, bo4, bo5, bo6] at hb
        have hbt25 := hb
        refine AW.seq ?_
        refine AW.region (cfg := cfg) ?_
        refine stp (fun _ h => s0 h) ?_
        refine aops_nil ?_
        refine AW.ret ?_
        refine ⟨.inr rfl, ?_⟩
        refine leaves_tmp1 4 rfl ?_ (by exact hG)
        simp (disch := first | omega | decide) only [go_sem, F, aIndex_map]
        all_goals (rw [decide_eq_false (fun e => by subst e; exact hbt25 rfl)]; done)
      case hf3 =>
        have hw25 := hb
        try simp only [bo1, bo2, bo3, bo4, bo5, bo6] at hb
        have hbt25 := hb
        refine AW.skip ?_
        refine AW.region (cfg := cfg) ?_
        refine stp (fun _ h => s0 h) ?_
        refine stp (fun _ h => sd h) ?_
        refine stp (fun _ h => s0 h) ?_
        refine aops_nil ?_
        refine ⟨_, _, rfl, ?_, ?_, ?_, ?_, ?_, (by intro i; simp [Mem.set, hr]), (by exact hG)⟩ <;> try simp (disch := first | omega | decide) only [go_sem, F, aIndex_map]
        all_goals first | rfl | assumption | exact take_eq hk mo0 mo1 (Decidable.not_not.1 hbt25)
    · clear F f0 f1 hr hG
      rintro σ ⟨s, m, rfl, f0, f1, f5, mo0, mo1, hr, hG⟩
      have F := (And.intro f0 (And.intro f1 (And.intro f5 hG)))
      refine AW.seq ?_
      refine AW.seq ?_
      refine AW.region (cfg := cfg) ?_
      iterate 2 refine stp (fun _ h => s0 h) ?_
      refine stp (fun _ h => sd h) ?_
      refine stp (fun _ h => s0 h) ?_
      refine aops_nil ?_
      refine cnd (fun hb => ?ht4) (fun hb => ?hf4)
      case ht4 => (simp at hb; done)
      case hf4 =>
      have hbt14 := hb
      refine AW.exit ?_
      refine AW.seq ?_
      refine AW.region (cfg := cfg) ?_
      refine stp (fun _ h => s0 h) ?_
      refine aops_nil ?_
      refine AW.ret ?_
      refine ⟨.inr rfl, ?_⟩
      refine leaves_tmp1 4 rfl ?_ (by exact hG)
      simp (disch := first | omega | decide) only [go_sem, F, aIndex_map]
      all_goals (rw [decide_eq_true (by rw [List.take_length, mo0, List.take_length] at mo1; exact mo1)]; done)
theorem good_apply1 (x : Lsa) (px : fit x) : Good Try.prog 30 [(lsaA x, false)] [] [(.b (!lsaOK x), false)] [] := by
  refine good_of_body2 6 Try.func30 rfl rfl rfl (by simp) ?_
  intro s m ha hr hv hG
  have f0 : s 0 = .v (.agg [i64 x.o, i64 x.s, .sl 2 x.nil (x.ls.map linkA)]) := ha 0 _ rfl
  clear ha
  have hc : True := trivial
  have F := (And.intro f0 hG)
  refine AW.seq ?_
  refine AW.region (cfg := cfg) ?_
  refine stp (fun _ h => sb h) ?_
  refine stp (fun _ h => s0 h) ?_
  refine aops_nil ?_
  refine AW.seq ?_
  refine AW.region (cfg := cfg) ?_
  refine stp (fun _ h => sl h) ?_
  refine stp (fun _ h => cs (w := good_CheckX x (by have := px.1; omega)) (x := h)) ?_
  iterate 2 refine stp (fun _ h => s0 h) ?_
  refine aops_nil ?_
  refine AW.ret ?_
  refine ⟨.inr rfl, ?_⟩
  refine leaves_tmp1 2 rfl ?_ (by exact hG)
  simp (disch := first | omega | decide) only [go_sem, F, aIndex_map]
  all_goals (rw [lsaE_dec]; done)
theorem good_IndexFuncLsa (nil : Bool) (l : List Lsa) (f : FuncId) (caps : List AV) (p : Lsa → Bool) (hl : l.length ≤ 9223372036854775807) (hcn : noPtrL caps = true) (hpu : cfg.pure f = true) (hsc : cfg.scalar f = true) (hxf : cfg.xfer f = false) (hp : ∀ x ∈ l, Good Try.prog f (([lsaA x] ++ caps).map fun a => (a, false)) [] [(.b (p x), false)] []) : Good Try.prog 43 [(.sl 3 nil (l.map lsaA), false), (.clo f caps, false)] [] [(i64 (findI p l), false)] [] := by
  refine good_of_body2 19 Try.func43 rfl rfl rfl (by simp) ?_
  intro s m ha hr hv hG
  have f0 : s 0 = .v (.sl 3 nil (l.map lsaA)) := ha 0 _ rfl
  have f1 : s 1 = .v (.clo f caps) := ha 1 _ rfl
  clear ha
  have hc : True := trivial
  have F := (And.intro f0 (And.intro f1 hG))
  refine AW.seq ?_
  refine AW.region (cfg := cfg) ?_
  refine stp (fun _ h => s0 h) ?_
  refine aops_nil ?_
  refine AW.seq ?_
  refine AW.seq ?_
  refine AW.region (cfg := cfg) ?_
  refine stp (fun _ h => s0 h) ?_
  refine stp (fun _ h => sd h) ?_
  refine stp (fun _ h => s0 h) ?_
  refine aops_nil ?_
  refine AW.block ?_
  refine AW.forN (fun k σ => ∃ s m, σ = ⟨19, s, m⟩ ∧ s 0 = .v (.sl 3 nil (l.map lsaA)) ∧ s 1 = .v (.clo f caps) ∧ s 7 = .v (i64 (l.length : Int)) ∧ s 8 = .v (i64 (k : Int)) ∧ (∀ x ∈ l.take k, p x = false) ∧ m.G = []) (l.length) ?_ ?_ ?_
  · refine ⟨_, _, rfl, ?_, ?_, ?_, ?_, ?_, (by exact hG)⟩ <;> try simp (disch := first | omega | decide) only [go_sem, F, aIndex_map]
    all_goals first | rfl | (simp; done)
  · clear F f0 f1 hG
    rintro k σ hk ⟨s, m, rfl, f0, f1, f7, f8, mo0, hG⟩
    have F := (And.intro f0 (And.intro f1 (And.intro f7 (And.intro f8 hG))))
    refine AW.seq ?_
    refine AW.region (cfg := cfg) ?_
    refine stp (fun _ h => s0 h) ?_
    refine aops_nil ?_
    refine AW.seq ?_
    refine cnd (fun hb => ?ht1) (fun hb => ?hf1)
    case hf1 => (simp at hb; omega)
    case ht1 =>
    have hbt9 := hb
    refine AW.skip ?_
    refine AW.seq ?_
    refine AW.block ?_
    refine AW.seq ?_
    refine AW.region (cfg := cfg) ?_
    iterate 2 refine stp (fun _ h => s0 h) ?_
    refine aops_nil ?_
    refine AW.seq ?_
    refine AW.region (cfg := cfg) ?_
    iterate 3 refine stp (fun _ h => s0 h) ?_
    refine stp (fun _ h => si h) ?_
    refine stp (fun _ h => sl h) ?_
    apply aops_step (by decide) rfl
    · intro K hK
      simp (disch := first | omega | decide) only [go_sem, F, aIndex_map, act_callv, List.map]
      apply mwp_call_sc hpu hxf hsc
      · intro Q hQ
        simp (disch := first | omega | decide) only [go_sem, F, aIndex_map, peekL, reifyL_nil, reifyL_cons, reify_v]
        exact hQ
      · exact hp l[k] (List.getElem_mem hk)
      · simp [noPtrL, noPtr, lsaA, hcn]
      · rfl
      · exact hK _
    refine aops_nil ?_
    refine cnd (fun hb => ?ht2) (fun hb => ?hf2)
    case ht2 =>
      have hw16 := hb
      try simp only [bo1, bo2, bo3, bo4, bo5, bo6] at hb
      have hbt16 := hb
      refine AW.seq ?_
      refine AW.region (cfg := cfg) ?_
      iterate 2 refine stp (fun _ h => s0 h) ?_
      refine aops_nil ?_
      refine AW.ret ?_
      refine ⟨.inr rfl, ?_⟩
      refine leaves_tmp1 4 rfl ?_ (by exact hG)
      simp (disch := first | omega | decide) only [go_sem, F, aIndex_map]
      all_goals (rw [findI_at hk mo0 hb]; done)
    case hf2 =>
      have hw16 := hb
      try simp only [bo1, bo2, bo3, bo4, bo5, bo6] at hb
      have hbt16 := hb
      refine AW.skip ?_
      refine AW.region (cfg := cfg) ?_
      refine stp (fun _ h => sd h) ?_
      refine stp (fun _ h => s0 h) ?_
      refine aops_nil ?_
      refine ⟨_, _, rfl, ?_, ?_, ?_, ?_, ?_, (by exact hG)⟩ <;> try simp (disch := first | omega | decide) only [go_sem, F, aIndex_map]
      all_goals first | rfl | skip
      all_goals (intro x hx; rw [List.take_succ_eq_append_getElem hk] at hx; rcases List.mem_append.1 hx with h | h; exact mo0 x h; rw [List.mem_singleton.1 h]; exact hb)
  · clear F f0 f1 hG
    rintro σ ⟨s, m, rfl, f0, f1, f7, f8, mo0, hG⟩
    have F := (And.intro f0 (And.intro f1 (And.intro f7 (And.intro f8 hG))))
    refine AW.seq ?_
    refine AW.region (cfg := cfg) ?_
    refine stp (fun _ h => s0 h) ?_
    refine aops_nil ?_
    refine AW.seq ?_
    refine cnd (fun hb => ?ht3) (fun hb => ?hf3)
    case ht3 => (simp at hb; done)
    case hf3 =>
    have hbt9 := hb
    refine AW.exit ?_
    refine AW.seq ?_
    refine AW.region (cfg := cfg) ?_
    refine stp (fun _ h => s0 h) ?_
    refine aops_nil ?_
    refine AW.ret ?_
    refine ⟨.inr rfl, ?_⟩
    refine leaves_tmp1 4 rfl ?_ (by exact hG)
    simp (disch := first | omega | decide) only [go_sem, F, aIndex_map]
    all_goals (rw [findI_none (by simpa using mo0)]; done)
theorem good_ContainsFuncLsa (nil : Bool) (l : List Lsa) (f : FuncId) (caps : List AV) (p : Lsa → Bool) (hl : l.length ≤ 9223372036854775807) (hcn : noPtrL caps = true) (hpu : cfg.pure f = true) (hsc : cfg.scalar f = true) (hxf : cfg.xfer f = false) (hp : ∀ x ∈ l, Good Try.prog f (([lsaA x] ++ caps).map fun a => (a, false)) [] [(.b (p x), false)] []) : Good Try.prog 29 [(.sl 3 nil (l.map lsaA), false), (.clo f caps, false)] [] [(.b (l.any p), false)] [] := by
  refine good_of_body2 9 Try.func29 rfl rfl rfl (by simp) ?_
  intro s m ha hr hv hG
  have f0 : s 0 = .v (.sl 3 nil (l.map lsaA)) := ha 0 _ rfl
  have f1 : s 1 = .v (.clo f caps) := ha 1 _ rfl
  clear ha
  have hc : True := trivial
  have F := (And.intro f0 (And.intro f1 hG))
  have F := And.intro hcn F
  refine AW.seq ?_
  refine AW.region (cfg := cfg) ?_
  refine stp (fun _ h => s0 h) ?_
  refine aops_nil ?_
  refine AW.seq ?_
  refine AW.region (cfg := cfg) ?_
  iterate 2 refine stp (fun _ h => s0 h) ?_
  refine stp (fun _ h => cs (w := good_IndexFuncLsa nil l f caps p hl hcn hpu hsc hxf hp) (x := h)) ?_
  iterate 2 refine stp (fun _ h => s0 h) ?_
  refine aops_nil ?_
  refine AW.ret ?_
  refine ⟨.inr rfl, ?_⟩
  refine leaves_tmp1 4 rfl ?_ (by exact hG)
  simp (disch := first | omega | decide) only [go_sem, F, aIndex_map]
  all_goals (rw [findI_any]; done)
theorem good_cmpPut (x : Lsa) (t : Int) : Good Try.prog 47 [(lsaA x, false), (i64 t, false)] [] [(i64 (cmpI (Lsa.o x) t), false)] [] := by
  refine good_of_body2 9 Try.func47 rfl rfl rfl (by simp) ?_
  intro s m ha hr hv hG
  have f0 : s 0 = .v (.agg [i64 x.o, i64 x.s, .sl 2 x.nil (x.ls.map linkA)]) := ha 0 _ rfl
  have f1 : s 1 = .v (i64 t) := ha 1 _ rfl
  clear ha
  have hc : True := trivial
  have F := (And.intro f0 (And.intro f1 hG))
  refine AW.seq ?_
  refine AW.region (cfg := cfg) ?_
  refine stp (fun _ h => sb h) ?_
  refine stp (fun _ h => s0 h) ?_
  refine aops_nil ?_
  refine AW.seq ?_
  refine AW.region (cfg := cfg) ?_
  refine stp (fun _ h => sx h) ?_
  refine stp (fun _ h => sl h) ?_
  refine stp (fun _ h => s0 h) ?_
  refine stp (fun _ h => cs (w := good_cmpInt (Lsa.o x) t) (x := h)) ?_
  refine stp (fun _ h => s0 h) ?_
  refine aops_nil ?_
  refine AW.ret ?_
  refine ⟨.inr rfl, ?_⟩
  refine leaves_tmp1 4 rfl ?_ (by exact hG)
  simp (disch := first | omega | decide) only [go_sem, F, aIndex_map]
  all_goals first | done | rfl | trace_state
end Go.Vai.DB
