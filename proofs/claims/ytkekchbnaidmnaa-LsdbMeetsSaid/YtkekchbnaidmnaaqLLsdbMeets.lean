import Derived.Test.YtkekchbnaidmnaaqDb9
namespace Go.Vai.DB
open Go.Proofs Go.Vai Go.Vai.D Go.Vai.I Go.Vai.L Go.Vai.N Go.Vai.O
set_option linter.unusedSimpArgs false
set_option linter.unusedVariables false
set_option maxHeartbeats 4000000
set_option maxRecDepth 100000
theorem good_LsdbMeets (na : Bool) (a : List Lsa) (ha : a.length ≤ 9223372036854775807) (hza : na = true → a = []) (pa : ∀ x ∈ a, x.ls.length ≤ 9223372036854775807 ∧ (x.nil = true → x.ls = [])) (nb : Bool) (b : List Lsa) (hb : b.length ≤ 9223372036854775807) (hzb : nb = true → b = []) (pb : ∀ x ∈ b, x.ls.length ≤ 9223372036854775807 ∧ (x.nil = true → x.ls = [])) : Good Try.prog 6 [(.sl 3 na (a.map lsaA), false), (.sl 3 nb (b.map lsaA), false)] [] [(.b true, false)] [] := by
  refine good_of_body2 110 Try.func6 rfl rfl rfl (by simp) ?_
  intro s m ha hr hv hG
  have f0 : s 0 = .v (.sl 3 na (a.map lsaA)) := ha 0 _ rfl
  have f1 : s 1 = .v (.sl 3 nb (b.map lsaA)) := ha 1 _ rfl
  clear ha
  have hc : True := trivial
  have F := (And.intro f0 (And.intro f1 hG))
  refine AW.seq ?_
  refine AW.region (cfg := cfg) ?_
  refine stp (fun _ h => s0 h) ?_
  refine aops_nil ?_
  refine AW.seq ?_
  refine AW.seq ?_
  refine AW.region (cfg := cfg) ?_
  refine stp (fun _ h => s0 h) ?_
  refine stp (fun _ h => cs (w := good_LightDb na a (by omega) (fun x hx => (pa x hx).1)) (x := h)) ?_
  iterate 2 refine stp (fun _ h => s0 h) ?_
  refine mrg wa (fun hc _ h => s0 h) ?_
  refine mrg wa (fun hc _ h => cs (w := good_LightDb nb b (by omega) (fun x hx => (pb x hx).1)) (x := h)) ?_
  refine mrg wa (fun hc _ h => s0 h) ?_
  iterate 2 refine stp (fun _ h => s0 h) ?_
  refine mrg wa (fun hc _ h => s0 h) ?_
  refine mrg wa (fun hc _ h => cs (w := good_MayDb na a (by omega) (fun x hx => (pa x hx).1)) (x := h)) ?_
  refine mrg wa (fun hc _ h => s0 h) ?_
  iterate 2 refine stp (fun _ h => s0 h) ?_
  refine mrg wa (fun hc _ h => s0 h) ?_
  refine mrg wa (fun hc _ h => cs (w := good_MayDb nb b (by omega) (fun x hx => (pb x hx).1)) (x := h)) ?_
  refine mrg wa (fun hc _ h => s0 h) ?_
  refine stp (fun _ h => s0 h) ?_
  refine aops_nil ?_
  refine cnd (fun hb => ?ht1) (fun hb => ?hf1)
  case ht1 =>
    have hw32 := hb
    try simp only [bo1, bo2, bo3, bo4, bo5, bo6] at hb
    have hbt32 := hb
    refine AW.seq ?_
    refine AW.region (cfg := cfg) ?_
    refine stp (fun _ h => cs (w := good_awakeDb) (x := h)) ?_
    refine stp (fun _ h => s0 h) ?_
    refine aops_nil ?_
    refine AW.ret ?_
    refine ⟨.inr rfl, ?_⟩
    refine leaves_tmp1 4 rfl ?_ (by exact hG)
    simp (disch := first | omega | decide) only [go_sem, F, aIndex_map]
    all_goals first | done | rfl | (simp; done) | trace_state
  case hf1 =>
    have hw32 := hb
    try simp only [bo1, bo2, bo3, bo4, bo5, bo6] at hb
    have hbt32 := hb
    refine AW.skip ?_
    refine AW.seq ?_
    have hLa : lightD a = true := by simpa using hbt32.1.1.1
    have hLb : lightD b = true := by simpa using hbt32.1.1.2
    have h0a : dbOK a = true := by simpa using hbt32.1.2
    have h0b : dbOK b = true := by simpa using hbt32.2
    obtain ⟨ha2, pa2⟩ := light_of hLa (fun x hx => (pa x hx).2)
    obtain ⟨hb2, pb2⟩ := light_of hLb (fun x hx => (pb x hx).2)
    have wia := items_len (l := a)
    have wib := items_len (l := b)
    have lfa := fA_lle h0a h0b
    have lfb := fA_lle h0b h0a
    have w1 := fA_len a b
    have w2 := fA_len b a
    refine AW.region (cfg := cfg) ?_
    iterate 4 refine stp (fun _ h => s0 h) ?_
    refine aops_nil ?_
    refine AW.seq ?_
    refine AW.region (cfg := cfg) ?_
    iterate 2 refine stp (fun _ h => s0 h) ?_
    refine stp (fun _ h => co1 (w := good_ItemsDb na a (by omega) pa2) (x := h)) ?_
    refine stp (fun _ h => cr (w := good_LacksDb nb b (by omega) pb2 _ (itemsR a) (by omega)) (x := h)) ?_
    iterate 2 refine stp (fun _ h => s0 h) ?_
    refine stp (fun _ h => co1 (w := good_ItemsDb nb b (by omega) pb2) (x := h)) ?_
    refine stp (fun _ h => cr (w := good_LacksDb na a (by omega) pa2 _ (itemsR b) (by omega)) (x := h)) ?_
    iterate 2 refine stp (fun _ h => s0 h) ?_
    refine aops_nil ?_
    refine AW.seq ?_
    refine AW.seq ?_
    refine AW.region (cfg := cfg) ?_
    refine stp (fun _ h => s0 h) ?_
    refine aops_nil ?_
    refine AW.block ?_
    refine AW.forN (fun k σ => ∃ s m, σ = ⟨110, s, m⟩ ∧ s 0 = .v (.sl 3 na (a.map lsaA)) ∧ s 1 = .v (.sl 3 nb (b.map lsaA)) ∧ s 5 = .v (.sl 3 (na && decide (k = 0)) ((xS a (fA a b) k).map lsaA)) ∧ s 6 = .v (.sl 3 nb (b.map lsaA)) ∧ s 7 = .v (.sl 2 (itemsR b).isEmpty ((lacksR b (itemsR a)).map itA)) ∧ s 8 = .v (.sl 2 (itemsR a).isEmpty ((lacksR a (itemsR b)).map itA)) ∧ s 9 = .v (i64 (k : Int)) ∧ (∀ i, (m.objs (.res i)).2 = .dead) ∧ m.G = []) ((lacksR b (itemsR a)).length) ?_ ?_ ?_
    · refine ⟨_, _, rfl, ?_, ?_, ?_, ?_, ?_, ?_, ?_, (by intro i; simp [Mem.set, hr]), (by exact hG)⟩ <;> try simp (disch := first | omega | decide) only [go_sem, F, aIndex_map]
      all_goals first | rfl | (simp [xS]; done)
    · clear F f0 f1 hr hG
      rintro k σ hk ⟨s, m, rfl, f0, f1, f5, f6, f7, f8, f9, hr, hG⟩
      have F := (And.intro f0 (And.intro f1 (And.intro f5 (And.intro f6 (And.intro f7 (And.intro f8 (And.intro f9 hG)))))))
      refine AW.seq ?_
      refine AW.seq ?_
      refine AW.region (cfg := cfg) ?_
      iterate 2 refine stp (fun _ h => s0 h) ?_
      refine stp (fun _ h => sd h) ?_
      refine stp (fun _ h => s0 h) ?_
      refine aops_nil ?_
      refine cnd (fun hb => ?ht2) (fun hb => ?hf2)
      case hf2 => (simp at hb; omega)
      case ht2 =>
      have hbt47 := hb
      refine AW.skip ?_
      refine AW.seq ?_
      refine AW.block ?_
      refine AW.seq ?_
      have hkl : k < (lacksR b (itemsR a)).length := by assumption
      have hkz : k < (fA a b).length := by (rw [← lfa]; exact hkl)
      have eg := fA_get (a := a) h0b hkz
      have ep := xS_put h0a h0b hkz
      have pf := xS_fit (k := k) pa2 pb2
      have px := fA_fit pb2 hkz
      have wl := xS_len h0a h0b k
      have em := fA_at h0a h0b hkl hkz
      have F := And.intro eg F
      have F := And.intro ep F
      have F := And.intro em F
      refine AW.region (cfg := cfg) ?_
      iterate 4 refine stp (fun _ h => s0 h) ?_
      refine stp (fun _ h => si h) ?_
      refine stp (fun _ h => sx h) ?_
      refine stp (fun _ h => sl h) ?_
      refine stp (fun _ h => cr (w := good_Get11 nb b (by omega) (fA a b)[k].o) (x := h)) ?_
      refine stp (fun _ h => cr (w := good_PutDb (na && decide (k = 0)) (xS a (fA a b) k) (by omega) pf (xS_nil hza) (fA a b)[k] px) (x := h)) ?_
      iterate 5 refine stp (fun _ h => s0 h) ?_
      refine aops_nil ?_
      refine AW.seq ?_
      refine AW.seq ?_
      refine AW.region (cfg := cfg) ?_
      iterate 2 refine stp (fun _ h => s0 h) ?_
      refine aops_nil ?_
      refine cnd (fun hb => ?ht3) (fun hb => ?hf3)
      case ht3 => simp at hb
      case hf3 =>
      have hbt63 := hb
      refine AW.skip ?_
      refine AW.region (cfg := cfg) ?_
      iterate 2 refine stp (fun _ h => s0 h) ?_
      refine aops_nil ?_
      refine AW.region (cfg := cfg) ?_
      refine stp (fun _ h => s0 h) ?_
      refine stp (fun _ h => sd h) ?_
      refine stp (fun _ h => s0 h) ?_
      refine aops_nil ?_
      refine ⟨_, _, rfl, ?_, ?_, ?_, ?_, ?_, ?_, ?_, (by intro i; simp [Mem.set, hr]), (by exact hG)⟩ <;> try simp (disch := first | omega | decide) only [go_sem, F, aIndex_map]
      all_goals first | rfl | (simp; done)
    · clear F f0 f1 hr hG
      rintro σ ⟨s, m, rfl, f0, f1, f5, f6, f7, f8, f9, hr, hG⟩
      have F := (And.intro f0 (And.intro f1 (And.intro f5 (And.intro f6 (And.intro f7 (And.intro f8 (And.intro f9 hG)))))))
      refine AW.seq ?_
      refine AW.seq ?_
      refine AW.region (cfg := cfg) ?_
      iterate 2 refine stp (fun _ h => s0 h) ?_
      refine stp (fun _ h => sd h) ?_
      refine stp (fun _ h => s0 h) ?_
      refine aops_nil ?_
      refine cnd (fun hb => ?ht4) (fun hb => ?hf4)
      case ht4 => (simp at hb; done)
      case hf4 =>
      have hbt47 := hb
      refine AW.exit ?_
      refine AW.seq ?_
      refine AW.seq ?_
      refine AW.region (cfg := cfg) ?_
      refine stp (fun _ h => s0 h) ?_
      refine aops_nil ?_
      refine AW.block ?_
      refine AW.forN (fun k σ => ∃ s m, σ = ⟨110, s, m⟩ ∧ s 5 = .v (.sl 3 (na && decide ((lacksR b (itemsR a)).length = 0)) ((xS a (fA a b) (lacksR b (itemsR a)).length).map lsaA)) ∧ s 0 = .v (.sl 3 na (a.map lsaA)) ∧ s 6 = .v (.sl 3 (nb && decide (k = 0)) ((xS b (fA b a) k).map lsaA)) ∧ s 8 = .v (.sl 2 (itemsR a).isEmpty ((lacksR a (itemsR b)).map itA)) ∧ s 12 = .v (i64 (k : Int)) ∧ (∀ i, (m.objs (.res i)).2 = .dead) ∧ m.G = []) ((lacksR a (itemsR b)).length) ?_ ?_ ?_
      · refine ⟨_, _, rfl, ?_, ?_, ?_, ?_, ?_, (by intro i; simp [Mem.set, hr]), (by exact hG)⟩ <;> try simp (disch := first | omega | decide) only [go_sem, F, aIndex_map]
        all_goals first | rfl | (simp [xS]; done)
      · clear F f0 f1 f5 f6 f7 f8 f9 hr hG
        rintro k σ hk ⟨s, m, rfl, f5, f0, f6, f8, f12, hr, hG⟩
        have F := (And.intro f5 (And.intro f0 (And.intro f6 (And.intro f8 (And.intro f12 hG)))))
        refine AW.seq ?_
        refine AW.seq ?_
        refine AW.region (cfg := cfg) ?_
        iterate 2 refine stp (fun _ h => s0 h) ?_
        refine stp (fun _ h => sd h) ?_
        refine stp (fun _ h => s0 h) ?_
        refine aops_nil ?_
        refine cnd (fun hb => ?ht5) (fun hb => ?hf5)
        case hf5 => (simp at hb; omega)
        case ht5 =>
        have hbt68 := hb
        refine AW.skip ?_
        refine AW.seq ?_
        refine AW.block ?_
        refine AW.seq ?_
        have hkl : k < (lacksR a (itemsR b)).length := by assumption
        have hkz : k < (fA b a).length := by (rw [← lfb]; exact hkl)
        have eg := fA_get (a := b) h0a hkz
        have ep := xS_put h0b h0a hkz
        have pf := xS_fit (k := k) pb2 pa2
        have px := fA_fit pa2 hkz
        have wl := xS_len h0b h0a k
        have em := fA_at h0b h0a hkl hkz
        have F := And.intro eg F
        have F := And.intro ep F
        have F := And.intro em F
        refine AW.region (cfg := cfg) ?_
        iterate 4 refine stp (fun _ h => s0 h) ?_
        refine stp (fun _ h => si h) ?_
        refine stp (fun _ h => sx h) ?_
        refine stp (fun _ h => sl h) ?_
        refine stp (fun _ h => cr (w := good_Get11 na a (by omega) (fA b a)[k].o) (x := h)) ?_
        refine stp (fun _ h => cr (w := good_PutDb (nb && decide (k = 0)) (xS b (fA b a) k) (by omega) pf (xS_nil hzb) (fA b a)[k] px) (x := h)) ?_
        iterate 5 refine stp (fun _ h => s0 h) ?_
        refine aops_nil ?_
        refine AW.seq ?_
        refine AW.seq ?_
        refine AW.region (cfg := cfg) ?_
        iterate 2 refine stp (fun _ h => s0 h) ?_
        refine aops_nil ?_
        refine cnd (fun hb => ?ht6) (fun hb => ?hf6)
        case ht6 => simp at hb
        case hf6 =>
        have hbt84 := hb
        refine AW.skip ?_
        refine AW.region (cfg := cfg) ?_
        iterate 2 refine stp (fun _ h => s0 h) ?_
        refine aops_nil ?_
        refine AW.region (cfg := cfg) ?_
        refine stp (fun _ h => s0 h) ?_
        refine stp (fun _ h => sd h) ?_
        refine stp (fun _ h => s0 h) ?_
        refine aops_nil ?_
        refine ⟨_, _, rfl, ?_, ?_, ?_, ?_, ?_, (by intro i; simp [Mem.set, hr]), (by exact hG)⟩ <;> try simp (disch := first | omega | decide) only [go_sem, F, aIndex_map]
        all_goals first | rfl | (simp; done)
      · clear F f0 f1 f5 f6 f7 f8 f9 hr hG
        rintro σ ⟨s, m, rfl, f5, f0, f6, f8, f12, hr, hG⟩
        have F := (And.intro f5 (And.intro f0 (And.intro f6 (And.intro f8 (And.intro f12 hG)))))
        refine AW.seq ?_
        refine AW.seq ?_
        refine AW.region (cfg := cfg) ?_
        iterate 2 refine stp (fun _ h => s0 h) ?_
        refine stp (fun _ h => sd h) ?_
        refine stp (fun _ h => s0 h) ?_
        refine aops_nil ?_
        refine cnd (fun hb => ?ht7) (fun hb => ?hf7)
        case ht7 => (simp at hb; done)
        case hf7 =>
        have hbt68 := hb
        refine AW.exit ?_
        refine AW.seq ?_
        have hX := xS_ok h0a (fun y hy => (fA_mem h0a h0b hy).2.1) (lacksR b (itemsR a)).length
        have hY := xS_ok h0b (fun y hy => (fA_mem h0b h0a hy).2.1) (lacksR a (itemsR b)).length
        have hm := meet h0a h0b
        rw [← lfa, ← lfb] at hm
        have pX := xS_fit (k := (lacksR b (itemsR a)).length) pa2 pb2
        have pY := xS_fit (k := (lacksR a (itemsR b)).length) pb2 pa2
        have wX := xS_len h0a h0b (lacksR b (itemsR a)).length
        have wY := xS_len h0b h0a (lacksR a (itemsR b)).length
        have e5 := itemsR_is hX
        have e6 := itemsR_is hY
        rw [← hm] at e6
        have e7 := lacks_self hX
        have e8 := more_self hX
        have F := And.intro e5 F
        have F := And.intro e6 F
        have F := And.intro e7 F
        have F := And.intro e8 F
        refine AW.region (cfg := cfg) ?_
        refine stp (fun _ h => s0 h) ?_
        refine stp (fun _ h => co1 (w := good_ItemsDb _ (xS a (fA a b) (lacksR b (itemsR a)).length) (by omega) pX) (x := h)) ?_
        refine stp (fun _ h => s0 h) ?_
        refine stp (fun _ h => co1 (w := good_ItemsDb _ (xS b (fA b a) (lacksR a (itemsR b)).length) (by omega) pY) (x := h)) ?_
        refine stp (fun _ h => cs (w := good_sameI _ _ ((xS a (fA a b) (lacksR b (itemsR a)).length).map itm) ((xS a (fA a b) (lacksR b (itemsR a)).length).map itm) (by rw [List.length_map]; omega) (by rw [List.length_map]; omega)) (x := h)) ?_
        iterate 3 refine stp (fun _ h => s0 h) ?_
        refine stp (fun _ h => co1 (w := good_ItemsDb _ (xS b (fA b a) (lacksR a (itemsR b)).length) (by omega) pY) (x := h)) ?_
        refine stp (fun _ h => cr (w := good_LacksDb _ (xS a (fA a b) (lacksR b (itemsR a)).length) (by omega) pX _ ((xS a (fA a b) (lacksR b (itemsR a)).length).map itm) (by rw [List.length_map]; omega)) (x := h)) ?_
        refine stp (fun _ h => sd h) ?_
        iterate 5 refine stp (fun _ h => s0 h) ?_
        refine stp (fun _ h => co1 (w := good_ItemsDb _ (xS b (fA b a) (lacksR a (itemsR b)).length) (by omega) pY) (x := h)) ?_
        refine stp (fun _ h => cr (w := good_MoreDb _ (xS a (fA a b) (lacksR b (itemsR a)).length) (by omega) pX _ ((xS a (fA a b) (lacksR b (itemsR a)).length).map itm) (by rw [List.length_map]; omega)) (x := h)) ?_
        refine stp (fun _ h => sd h) ?_
        iterate 3 refine stp (fun _ h => s0 h) ?_
        refine stp (fun _ h => cs (w := good_awakeDb) (x := h)) ?_
        iterate 2 refine stp (fun _ h => s0 h) ?_
        refine aops_nil ?_
        refine AW.ret ?_
        refine ⟨.inr rfl, ?_⟩
        refine leaves_tmp1 4 rfl ?_ (by exact hG)
        simp (disch := first | omega | decide) only [go_sem, F, aIndex_map]
        all_goals rfl
end Go.Vai.DB
