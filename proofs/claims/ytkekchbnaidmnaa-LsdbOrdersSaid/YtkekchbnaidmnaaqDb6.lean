import Derived.Test.YtkekchbnaidmnaaqDb5
namespace Go.Vai.DB
open Go.Proofs Go.Vai Go.Vai.D Go.Vai.I Go.Vai.L Go.Vai.N Go.Vai.O
set_option linter.unusedSimpArgs false
set_option linter.unusedVariables false
set_option maxHeartbeats 4000000
set_option maxRecDepth 100000
theorem good_IndexFuncIt (nil : Bool) (l : List It) (f : FuncId) (caps : List AV) (p : It → Bool) (hl : l.length ≤ 9223372036854775807) (hcn : noPtrL caps = true) (hpu : cfg.pure f = true) (hsc : cfg.scalar f = true) (hxf : cfg.xfer f = false) (hp : ∀ x ∈ l, Good Try.prog f (([itA x] ++ caps).map fun a => (a, false)) [] [(.b (p x), false)] []) : Good Try.prog 44 [(.sl 2 nil (l.map itA), false), (.clo f caps, false)] [] [(i64 (findI p l), false)] [] := by
  refine good_of_body2 19 Try.func44 rfl rfl rfl (by simp) ?_
  intro s m ha hr hv hG
  have f0 : s 0 = .v (.sl 2 nil (l.map itA)) := ha 0 _ rfl
  have f1 : s 1 = .v (.clo f caps) := ha 1 _ rfl
  clear ha
  have hc : True := trivial
  have F := (And.intro f0 (And.intro f1 hG))
  refine AW.seq ?_
  refine AW.region (cfg := cfg) ?_
  refine stp (fun _ h => s0 h) ?_
  refine aops_nil ?_
  refine AW.seq ?_
  refine AW.seq ?_
  refine AW.region (cfg := cfg) ?_
  refine stp (fun _ h => s0 h) ?_
  refine stp (fun _ h => sd h) ?_
  refine stp (fun _ h => s0 h) ?_
  refine aops_nil ?_
  refine AW.block ?_
  refine AW.forN (fun k σ => ∃ s m, σ = ⟨19, s, m⟩ ∧ s 0 = .v (.sl 2 nil (l.map itA)) ∧ s 1 = .v (.clo f caps) ∧ s 7 = .v (i64 (l.length : Int)) ∧ s 8 = .v (i64 (k : Int)) ∧ (∀ x ∈ l.take k, p x = false) ∧ m.G = []) (l.length) ?_ ?_ ?_
  · refine ⟨_, _, rfl, ?_, ?_, ?_, ?_, ?_, (by exact hG)⟩ <;> try simp (disch := first | omega | decide) only [go_sem, F, aIndex_map]
    all_goals first | rfl | (simp; done)
  · clear F f0 f1 hG
    rintro k σ hk ⟨s, m, rfl, f0, f1, f7, f8, mo0, hG⟩
    have F := (And.intro f0 (And.intro f1 (And.intro f7 (And.intro f8 hG))))
    refine AW.seq ?_
    refine AW.region (cfg := cfg) ?_
    refine stp (fun _ h => s0 h) ?_
    refine aops_nil ?_
    refine AW.seq ?_
    refine cnd (fun hb => ?ht1) (fun hb => ?hf1)
    case hf1 => (simp at hb; omega)
    case ht1 =>
    have hbt9 := hb
    refine AW.skip ?_
    refine AW.seq ?_
    refine AW.block ?_
    refine AW.seq ?_
    refine AW.region (cfg := cfg) ?_
    iterate 2 refine stp (fun _ h => s0 h) ?_
    refine aops_nil ?_
    refine AW.seq ?_
    refine AW.region (cfg := cfg) ?_
    iterate 3 refine stp (fun _ h => s0 h) ?_
    refine stp (fun _ h => si h) ?_
    refine stp (fun _ h => sl h) ?_
    apply aops_step (by decide) rfl
    · intro K hK
      simp (disch := first | omega | decide) only [go_sem, F, aIndex_map, act_callv, List.map]
      apply mwp_call_sc hpu hxf hsc
      · intro Q hQ
        simp (disch := first | omega | decide) only [go_sem, F, aIndex_map, peekL, reifyL_nil, reifyL_cons, reify_v]
        exact hQ
      · exact hp l[k] (List.getElem_mem hk)
      · simp [noPtrL, noPtr, itA, hcn]
      · rfl
      · exact hK _
    refine aops_nil ?_
    refine cnd (fun hb => ?ht2) (fun hb => ?hf2)
    case ht2 =>
      have hw16 := hb
      try simp only [bo1, bo2, bo3, bo4, bo5, bo6] at hb
      have hbt16 := hb
      refine AW.seq ?_
      refine AW.region (cfg := cfg) ?_
      iterate 2 refine stp (fun _ h => s0 h) ?_
      refine aops_nil ?_
      refine AW.ret ?_
      refine ⟨.inr rfl, ?_⟩
      refine leaves_tmp1 4 rfl ?_ (by exact hG)
      simp (disch := first | omega | decide) only [go_sem, F, aIndex_map]
      all_goals (rw [findI_at hk mo0 hb]; done)
    case hf2 =>
      have hw16 := hb
      try simp only [bo1, bo2, bo3, bo4, bo5, bo6] at hb
      have hbt16 := hb
      refine AW.skip ?_
      refine AW.region (cfg := cfg) ?_
      refine stp (fun _ h => sd h) ?_
      refine stp (fun _ h => s0 h) ?_
      refine aops_nil ?_
      refine ⟨_, _, rfl, ?_, ?_, ?_, ?_, ?_, (by exact hG)⟩ <;> try simp (disch := first | omega | decide) only [go_sem, F, aIndex_map]
      all_goals first | rfl | skip
      all_goals (intro x hx; rw [List.take_succ_eq_append_getElem hk] at hx; rcases List.mem_append.1 hx with h | h; exact mo0 x h; rw [List.mem_singleton.1 h]; exact hb)
  · clear F f0 f1 hG
    rintro σ ⟨s, m, rfl, f0, f1, f7, f8, mo0, hG⟩
    have F := (And.intro f0 (And.intro f1 (And.intro f7 (And.intro f8 hG))))
    refine AW.seq ?_
    refine AW.region (cfg := cfg) ?_
    refine stp (fun _ h => s0 h) ?_
    refine aops_nil ?_
    refine AW.seq ?_
    refine cnd (fun hb => ?ht3) (fun hb => ?hf3)
    case ht3 => (simp at hb; done)
    case hf3 =>
    have hbt9 := hb
    refine AW.exit ?_
    refine AW.seq ?_
    refine AW.region (cfg := cfg) ?_
    refine stp (fun _ h => s0 h) ?_
    refine aops_nil ?_
    refine AW.ret ?_
    refine ⟨.inr rfl, ?_⟩
    refine leaves_tmp1 4 rfl ?_ (by exact hG)
    simp (disch := first | omega | decide) only [go_sem, F, aIndex_map]
    all_goals (rw [findI_none (by simpa using mo0)]; done)
theorem good_ContainsFuncIt (nil : Bool) (l : List It) (f : FuncId) (caps : List AV) (p : It → Bool) (hl : l.length ≤ 9223372036854775807) (hcn : noPtrL caps = true) (hpu : cfg.pure f = true) (hsc : cfg.scalar f = true) (hxf : cfg.xfer f = false) (hp : ∀ x ∈ l, Good Try.prog f (([itA x] ++ caps).map fun a => (a, false)) [] [(.b (p x), false)] []) : Good Try.prog 35 [(.sl 2 nil (l.map itA), false), (.clo f caps, false)] [] [(.b (l.any p), false)] [] := by
  refine good_of_body2 9 Try.func35 rfl rfl rfl (by simp) ?_
  intro s m ha hr hv hG
  have f0 : s 0 = .v (.sl 2 nil (l.map itA)) := ha 0 _ rfl
  have f1 : s 1 = .v (.clo f caps) := ha 1 _ rfl
  clear ha
  have hc : True := trivial
  have F := (And.intro f0 (And.intro f1 hG))
  have F := And.intro hcn F
  refine AW.seq ?_
  refine AW.region (cfg := cfg) ?_
  refine stp (fun _ h => s0 h) ?_
  refine aops_nil ?_
  refine AW.seq ?_
  refine AW.region (cfg := cfg) ?_
  iterate 2 refine stp (fun _ h => s0 h) ?_
  refine stp (fun _ h => cs (w := good_IndexFuncIt nil l f caps p hl hcn hpu hsc hxf hp) (x := h)) ?_
  iterate 2 refine stp (fun _ h => s0 h) ?_
  refine aops_nil ?_
  refine AW.ret ?_
  refine ⟨.inr rfl, ?_⟩
  refine leaves_tmp1 4 rfl ?_ (by exact hG)
  simp (disch := first | omega | decide) only [go_sem, F, aIndex_map]
  all_goals (rw [findI_any]; done)
theorem dfS_len {p : It → Bool} {l : List It} {a k : Nat} : (dfS p l a k).1.length = l.length := (df_len p l a k).1
attribute [simp] dfS_len
attribute [go_sem] dfS_len
theorem df_cut {X : List AV} {i r : Nat} {z : AV} {Y : List AV} (h : i ≤ X.length) : (X.take i ++ List.replicate r z ++ Y).take i = X.take i := by
  rw [List.append_assoc, List.take_append_of_le_length (by rw [List.length_take]; omega), List.take_take, Nat.min_self]
theorem find_wayIt (p : It → Bool) (l : List It) : findI p l = -1 ∧ (∀ x ∈ l, p x = false) ∨ ∃ a, ∃ ha : a < l.length, findI p l = (a : Int) ∧ (∀ x ∈ l.take a, p x = false) ∧ p l[a] = true := by
  unfold findI
  split
  · rename_i i hi
    obtain ⟨h1, h2, h3⟩ := List.findIdx?_eq_some_iff_getElem.1 hi
    refine .inr ⟨i, h1, rfl, fun x hx => ?_, by simpa using h2⟩
    obtain ⟨j, hj, rfl⟩ := List.mem_take_iff_getElem.1 hx
    simpa using h3 j (by omega)
  · rename_i hi
    exact .inl ⟨rfl, fun x hx => by simpa using List.findIdx?_eq_none_iff.1 hi x hx⟩
theorem good_DeleteFuncIt (nil : Bool) (l : List It) (hl : l.length ≤ 1000000) (hz : nil = true → l = []) (f : FuncId) (caps : List AV) (p : It → Bool) (hcn : noPtrL caps = true) (hpu : cfg.pure f = true) (hsc : cfg.scalar f = true) (hxf : cfg.xfer f = false) (hp : ∀ x ∈ l, Good Try.prog f (([itA x] ++ caps).map fun a => (a, false)) [] [(.b (p x), false)] []) : Good Try.prog 33 [(.sl 2 nil (l.map itA), true), (.clo f caps, false)] [] [(.sl 2 nil ((l.filter fun x => !p x).map itA), false)] [] := by
  refine good_of_body2 42 Try.func33 rfl rfl rfl (by simp) ?_
  intro s m ha hr hv hG
  have f0 : s 0 = .own (.var 0) 1 0 ((l.map itA).length) := ha 0 _ rfl
  have o0 : m.objs (.var 0) = (1, .arr nil 2 (l.map itA)) := hv 0 _ rfl
  have f1 : s 1 = .v (.clo f caps) := ha 1 _ rfl
  clear ha
  have hc : True := trivial
  have F := (And.intro f0 (And.intro f1 (And.intro o0 hG)))
  have F := And.intro hcn F
  refine AW.seq ?_
  refine AW.region (cfg := cfg) ?_
  refine stp (fun _ h => s0 h) ?_
  refine aops_nil ?_
  refine AW.seq ?_
  refine AW.region (cfg := cfg) ?_
  iterate 2 refine stp (fun _ h => s0 h) ?_
  refine stp (fun _ h => cs (w := good_IndexFuncIt nil l f caps p (by omega) hcn hpu hsc hxf hp) (x := h)) ?_
  refine stp (fun _ h => s0 h) ?_
  refine aops_nil ?_
  refine AW.seq ?_
  refine AW.seq ?_
  rcases find_wayIt p l with ⟨hf, hall⟩ | ⟨a, hal, hf, hat, hap⟩
  · skip
    have hfd : decide (findI p l = -1) = true := decide_eq_true hf
    have F := And.intro hf F
    have F := And.intro hfd F
    refine AW.region (cfg := cfg) ?_
    iterate 2 refine stp (fun _ h => s0 h) ?_
    refine aops_nil ?_
    refine cnd (fun hb => ?ht1) (fun hb => ?hf1)
    case hf1 => (simp at hb; done)
    case ht1 =>
    have hbt12 := hb
    refine AW.seq ?_
    refine AW.region (cfg := cfg) ?_
    refine stp (fun _ h => s0 h) ?_
    refine stp (fun _ h => sm h) ?_
    refine aops_nil ?_
    refine AW.ret ?_
    refine ⟨.inr rfl, ?_⟩
    refine leaves_tmp1 4 rfl ?_ (by exact hG)
    simp (disch := first | omega | decide) only [go_sem, F, aIndex_map]
    all_goals (rw [sub_full (by simp), List.filter_eq_self.2 (fun x hx => by rw [hall x hx]; rfl)]; done)
  · skip
    have hfd : decide (((a : Nat) : Int) = -1) = false := decide_eq_false (by omega)
    obtain rfl : nil = false := by (cases nil; rfl; rw [hz rfl] at hal; cases hal)
    have F := And.intro hf F
    have F := And.intro hfd F
    refine AW.region (cfg := cfg) ?_
    iterate 2 refine stp (fun _ h => s0 h) ?_
    refine aops_nil ?_
    refine cnd (fun hb => ?ht2) (fun hb => ?hf2)
    case ht2 => (simp at hb; done)
    case hf2 =>
    have hbt12 := hb
    refine AW.skip ?_
    refine AW.seq ?_
    refine AW.seq ?_
    refine AW.region (cfg := cfg) ?_
    refine stp (fun _ h => s0 h) ?_
    refine stp (fun _ h => sd h) ?_
    refine stp (fun _ h => s0 h) ?_
    refine aops_nil ?_
    refine AW.block ?_
    refine AW.forN (fun k σ => ∃ s m, σ = ⟨42, s, m⟩ ∧ s 0 = .own (.var 0) (m.objs (.var 0)).1 0 (l.length) ∧ (m.objs (.var 0)).2 = .arr false 2 ((dfS p l a k).1.map itA) ∧ s 1 = .v (.clo f caps) ∧ s 5 = .v (i64 ((dfS p l a k).2 : Int)) ∧ s 6 = .v (i64 ((a + 1 + k : Nat) : Int)) ∧ (∀ i, (m.objs (.res i)).2 = .dead) ∧ m.G = []) (l.length - (a + 1)) ?_ ?_ ?_
    · refine ⟨_, _, rfl, ?_, ?_, ?_, ?_, ?_, (by intro i; simp [Mem.set, hr]), (by exact hG)⟩ <;> try simp (disch := first | omega | decide) only [go_sem, F, aIndex_map]
      all_goals rfl
    · clear F f0 f1 o0 hr hG
      rintro k σ hk ⟨s, m, rfl, f0, o0, f1, f5, f6, hr, hG⟩
      obtain ⟨g0, o0⟩ : ∃ g, m.objs (.var 0) = (g, .arr false 2 ((dfS p l a k).1.map itA)) := ⟨_, Prod.ext rfl o0⟩
      rw [o0] at f0
      have F := (And.intro f0 (And.intro f1 (And.intro f5 (And.intro f6 (And.intro o0 (And.intro hf (And.intro hfd hG)))))))
      refine AW.seq ?_
      refine AW.seq ?_
      refine AW.region (cfg := cfg) ?_
      iterate 2 refine stp (fun _ h => s0 h) ?_
      refine stp (fun _ h => sn h) ?_
      refine stp (fun _ h => s0 h) ?_
      refine aops_nil ?_
      refine cnd (fun hb => ?ht3) (fun hb => ?hf3)
      case hf3 => (simp at hb; omega)
      case ht3 =>
      have hbt19 := hb
      refine AW.skip ?_
      refine AW.seq ?_
      refine AW.block ?_
      refine AW.seq ?_
      have hj : a + 1 + k < l.length := by omega
      have dl := df_len p l a k
      have hgd := getD_at hj
      have hfe : ((dfS p l a k).1)[a + 1 + k]'(by (rw [dl.1]; omega)) = l[a + 1 + k] := by (have := df_far p l a k (a + 1 + k) (by omega); rw [List.getElem?_eq_getElem hj, List.getElem?_eq_getElem (by rw [dl.1]; omega)] at this; exact Option.some.inj this)
      have hel := itA_eq (l[a + 1 + k])
      have F := And.intro hfe F
      refine AW.region (cfg := cfg) ?_
      iterate 2 refine stp (fun _ h => s0 h) ?_
      refine stp (fun _ h => si h) ?_
      refine stp (fun _ h => sel h) ?_
      refine stp (fun _ h => sd h) ?_
      refine stp0 (fun _ h => ss h) ?_
      refine aops_nil ?_
      refine AW.seq ?_
      refine AW.region (cfg := cfg) ?_
      refine stp (fun _ h => s0 h) ?_
      refine stp (fun _ h => sl h) ?_
      apply aops_step (by decide) rfl
      · intro K hK
        simp (disch := first | omega | decide) only [go_sem, F, aIndex_map, act_callv, List.map]
        apply mwp_call_sc hpu hxf hsc
        · intro Q hQ
          simp (disch := first | omega | decide) only [go_sem, F, aIndex_map, peekL, reifyL_nil, reifyL_cons, reify_v]
          exact hQ
        · exact hp l[a + 1 + k] (List.getElem_mem hj)
        · simp [noPtrL, noPtr, itA, hcn]
        · rfl
        · exact hK _
      refine stp (fun _ h => s0 h) ?_
      refine aops_nil ?_
      refine cnd (fun hb => ?ht4) (fun hb => ?hf4)
      case ht4 =>
        have hw29 := hb
        try simp only [bo1, bo2, bo3, bo4, bo5, bo6] at hb
        have hbt29 := hb
        refine AW.seq ?_
        refine AW.region (cfg := cfg) ?_
        iterate 2 refine stp (fun _ h => s0 h) ?_
        refine stp (fun _ h => sl h) ?_
        refine stp (fun _ h => si h) ?_
        refine stp0 (fun _ h => se2 (w := hel) (x := h)) ?_
        refine aops_nil ?_
        refine AW.region (cfg := cfg) ?_
        refine stp (fun _ h => s0 h) ?_
        refine stp (fun _ h => sd h) ?_
        refine stp (fun _ h => s0 h) ?_
        refine aops_nil ?_
        refine AW.region (cfg := cfg) ?_
        refine stp (fun _ h => s0 h) ?_
        refine stp (fun _ h => sd h) ?_
        refine stp (fun _ h => s0 h) ?_
        refine aops_nil ?_
        refine ⟨_, _, rfl, ?_, ?_, ?_, ?_, ?_, (by intro i; simp [Mem.set, hr]), (by exact hG)⟩ <;> try simp (disch := first | omega | decide) only [go_sem, F, aIndex_map]
        all_goals first | rfl | (rw [df_no (by rw [hgd]; exact bnot_t hw29), hgd, Nat.zero_add]; done) | (rw [df_no (by rw [hgd]; exact bnot_t hw29)]; simp; done)
      case hf4 =>
        have hw29 := hb
        try simp only [bo1, bo2, bo3, bo4, bo5, bo6] at hb
        have hbt29 := hb
        refine AW.skip ?_
        refine AW.region (cfg := cfg) ?_
        refine stp (fun _ h => s0 h) ?_
        refine stp (fun _ h => sd h) ?_
        refine stp (fun _ h => s0 h) ?_
        refine aops_nil ?_
        refine ⟨_, _, rfl, ?_, ?_, ?_, ?_, ?_, (by intro i; simp [Mem.set, hr]), (by exact hG)⟩ <;> try simp (disch := first | omega | decide) only [go_sem, F, aIndex_map]
        all_goals first | rfl | (rw [df_yes (by rw [hgd]; exact bnot_f hw29)]; done)
    · clear F f0 f1 o0 hr hG
      rintro σ ⟨s, m, rfl, f0, o0, f1, f5, f6, hr, hG⟩
      obtain ⟨g0, o0⟩ : ∃ g, m.objs (.var 0) = (g, .arr false 2 ((dfS p l a (l.length - (a + 1))).1.map itA)) := ⟨_, Prod.ext rfl o0⟩
      rw [o0] at f0
      have F := (And.intro f0 (And.intro f1 (And.intro f5 (And.intro f6 (And.intro o0 (And.intro hf (And.intro hfd hG)))))))
      refine AW.seq ?_
      refine AW.seq ?_
      refine AW.region (cfg := cfg) ?_
      iterate 2 refine stp (fun _ h => s0 h) ?_
      refine stp (fun _ h => sn h) ?_
      refine stp (fun _ h => s0 h) ?_
      refine aops_nil ?_
      refine cnd (fun hb => ?ht5) (fun hb => ?hf5)
      case ht5 => (simp at hb; omega)
      case hf5 =>
      have hbt19 := hb
      refine AW.exit ?_
      refine AW.seq ?_
      have dl := df_len p l a (l.length - (a + 1))
      have dall := df_all hal hat hap
      refine AW.region (cfg := cfg) ?_
      iterate 2 refine stp (fun _ h => s0 h) ?_
      refine stp (fun _ h => kus h) ?_
      refine stp0 (fun _ h => kcl h) ?_
      refine aops_nil ?_
      refine AW.seq ?_
      refine AW.region (cfg := cfg) ?_
      iterate 2 refine stp (fun _ h => s0 h) ?_
      refine stp (fun _ h => kus h) ?_
      refine stp (fun _ h => sm h) ?_
      refine aops_nil ?_
      refine AW.ret ?_
      refine ⟨.inr rfl, ?_⟩
      refine leaves_tmp1 4 rfl ?_ (by exact hG)
      simp (disch := first | omega | decide) only [go_sem, F, aIndex_map]
      all_goals (rw [sub, List.drop_zero, df_cut (by rw [List.length_map, dl.1]; omega), ← List.map_take, dall]; done)
theorem good_lacks11 (y x : It) : Good Try.prog 36 [(itA y, false), (.iptr [i64 x.o, i64 x.s] 0, false)] [] [(.b (decide (y.o = x.o) && decide (y.s ≥ x.s)), false)] [] := by
  refine good_of_body2 16 Try.func36 rfl rfl rfl (by simp) ?_
  intro s m ha hr hv hG
  have f0 : s 0 = .v (.agg [i64 y.o, i64 y.s]) := ha 0 _ rfl
  have f1 : s 1 = .v (.iptr [i64 x.o, i64 x.s] 0) := ha 1 _ rfl
  clear ha
  have hc : True := trivial
  have F := (And.intro f0 (And.intro f1 hG))
  refine AW.seq ?_
  refine AW.region (cfg := cfg) ?_
  refine stp (fun _ h => sb h) ?_
  refine stp (fun _ h => s0 h) ?_
  refine aops_nil ?_
  refine AW.seq ?_
  refine AW.region (cfg := cfg) ?_
  refine stp (fun _ h => sx h) ?_
  refine stp (fun _ h => sl h) ?_
  refine stp (fun _ h => sx h) ?_
  refine stp (fun _ h => sl h) ?_
  iterate 2 refine stp (fun _ h => s0 h) ?_
  refine mrg wa (fun hc _ h => sx h) ?_
  refine mrg wa (fun hc _ h => sl h) ?_
  refine mrg wa (fun hc _ h => sx h) ?_
  refine mrg wa (fun hc _ h => sl h) ?_
  refine mrg wa (fun hc _ h => s0 h) ?_
  iterate 2 refine stp (fun _ h => s0 h) ?_
  refine aops_nil ?_
  refine AW.ret ?_
  refine ⟨.inr rfl, ?_⟩
  refine leaves_tmp1 3 rfl ?_ (by exact hG)
  simp (disch := first | omega | decide) only [go_sem, F, aIndex_map]
  all_goals first | done | rfl | trace_state
theorem good_lacks1 (y : It) (nx : Bool) (x : List It) (hx : x.length ≤ 1000000) : Good Try.prog 34 [(itA y, false), (.iptr [.sl 2 nx (x.map itA)] 0, false)] [] [(.b (hasI x y), false)] [] := by
  refine good_of_body2 7 Try.func34 rfl rfl rfl (by simp) ?_
  intro s m ha hr hv hG
  have f0 : s 0 = .v (.agg [i64 y.o, i64 y.s]) := ha 0 _ rfl
  have f1 : s 1 = .v (.iptr [.sl 2 nx (x.map itA)] 0) := ha 1 _ rfl
  clear ha
  have hc : True := trivial
  have F := (And.intro f0 (And.intro f1 hG))
  refine AW.seq ?_
  refine AW.region (cfg := cfg) ?_
  refine stp (fun _ h => sb h) ?_
  refine stp (fun _ h => s0 h) ?_
  refine aops_nil ?_
  refine AW.seq ?_
  refine AW.region (cfg := cfg) ?_
  refine stp (fun _ h => sl h) ?_
  refine stp (fun _ h => sv h) ?_
  refine stp (fun _ h => cs (w := good_ContainsFuncIt nx x 36 [.iptr [i64 y.o, i64 y.s] 0] (fun z => decide (z.o = y.o) && decide (z.s ≥ y.s)) (by omega) rfl rfl rfl rfl (fun z _ => good_lacks11 z y)) (x := h)) ?_
  refine stp (fun _ h => s0 h) ?_
  refine aops_nil ?_
  refine AW.ret ?_
  refine ⟨.inr rfl, ?_⟩
  refine leaves_tmp1 3 rfl ?_ (by exact hG)
  simp (disch := first | omega | decide) only [go_sem, F, aIndex_map]
  all_goals rfl
theorem items_len {l : List Lsa} : (itemsR l).length ≤ l.length := by
  rw [itemsR]; split <;> simp
theorem emp_nil {α : Type} {l : List α} (h : l.isEmpty = true) : l = [] := List.isEmpty_iff.1 h
theorem good_LacksDb (nil : Bool) (l : List Lsa) (hl : l.length ≤ 1000000) (pl : ∀ x ∈ l, fit x) (nx : Bool) (x : List It) (hx : x.length ≤ 1000000) : Good Try.prog 22 [(.sl 3 nil (l.map lsaA), false), (.sl 2 nx (x.map itA), false)] [] [(.sl 2 (itemsR l).isEmpty ((lacksR l x).map itA), false)] [] := by
  refine good_of_body2 9 Try.func22 rfl rfl rfl (by simp) ?_
  intro s m ha hr hv hG
  have f0 : s 0 = .v (.sl 3 nil (l.map lsaA)) := ha 0 _ rfl
  have f1 : s 1 = .v (.sl 2 nx (x.map itA)) := ha 1 _ rfl
  clear ha
  have hc : True := trivial
  have F := (And.intro f0 (And.intro f1 hG))
  refine AW.seq ?_
  refine AW.region (cfg := cfg) ?_
  refine stp (fun _ h => sb h) ?_
  refine stp (fun _ h => s0 h) ?_
  refine aops_nil ?_
  refine AW.seq ?_
  have wi := items_len (l := l)
  refine AW.region (cfg := cfg) ?_
  refine stp (fun _ h => s0 h) ?_
  refine stp (fun _ h => co1 (w := good_ItemsDb nil l (by omega) pl) (x := h)) ?_
  refine stp (fun _ h => sv h) ?_
  refine stp (fun _ h => cx (w := good_DeleteFuncIt (itemsR l).isEmpty (itemsR l) (by omega) emp_nil 34 [.iptr [.sl 2 nx (x.map itA)] 0] (hasI x) (by simp [noPtrL, noPtr]) rfl rfl rfl (fun y _ => good_lacks1 y nx x hx)) (x := h)) ?_
  refine stp (fun _ h => s0 h) ?_
  refine aops_nil ?_
  refine AW.ret ?_
  refine ⟨.inr rfl, ?_⟩
  refine leaves_mwp2 (rs := [.tmp 4]) rfl ?_
  simp (config := {failIfUnchanged := false}) [giveL, srcOne, rehome, freezeN, sub, upd, opn, aLoad, loadL, giveOne, reify, reifyL, readL, readOne, Mwp, M.bind, Mem.set, setAt, cellsL, hG, f0, f1]
  all_goals rfl
end Go.Vai.DB
