import Derived.Test.YtkekchbnaidmnaaqDb9
namespace Go.Vai.DB
open Go.Proofs Go.Vai Go.Vai.D Go.Vai.I Go.Vai.L Go.Vai.N Go.Vai.O
set_option linter.unusedSimpArgs false
set_option linter.unusedVariables false
set_option maxHeartbeats 4000000
set_option maxRecDepth 100000
theorem good_LsdbOrders (nil : Bool) (l : List Lsa) (hl : l.length ≤ 9223372036854775807) (hz : nil = true → l = []) (pl : ∀ x ∈ l, x.ls.length ≤ 9223372036854775807 ∧ (x.nil = true → x.ls = [])) (nt : Bool) (ts : List (BitVec 8)) (ht : ts.length ≤ 9223372036854775807) : Good Try.prog 3 [(.sl 3 nil (l.map lsaA), false), (.sl 1 nt (bsl ts), false)] [] [(.b true, false)] [] := by
  refine good_of_body2 97 Try.func3 rfl rfl rfl (by simp) ?_
  intro s m ha hr hv hG
  have f0 : s 0 = .v (.sl 3 nil (l.map lsaA)) := ha 0 _ rfl
  have f1 : s 1 = .v (.sl 1 nt (bsl ts)) := ha 1 _ rfl
  clear ha
  have hc : True := trivial
  have F := (And.intro f0 (And.intro f1 hG))
  refine AW.seq ?_
  refine AW.region (cfg := cfg) ?_
  refine stp (fun _ h => s0 h) ?_
  refine aops_nil ?_
  refine AW.seq ?_
  refine AW.seq ?_
  refine AW.region (cfg := cfg) ?_
  refine stp (fun _ h => s0 h) ?_
  refine stp (fun _ h => cs (w := good_LightDb nil l (by omega) (fun x hx => (pl x hx).1)) (x := h)) ?_
  iterate 2 refine stp (fun _ h => s0 h) ?_
  refine mrg wa (fun hc _ h => s0 h) ?_
  refine mrg wa (fun hc _ h => sd h) ?_
  refine mrg wa (fun hc _ h => s0 h) ?_
  refine stp (fun _ h => s0 h) ?_
  refine aops_nil ?_
  refine cnd (fun hb => ?ht1) (fun hb => ?hf1)
  case ht1 =>
    have hw21 := hb
    try simp only [bo1, bo2, bo3, bo4, bo5, bo6] at hb
    have hbt21 := hb
    refine AW.seq ?_
    refine AW.region (cfg := cfg) ?_
    refine stp (fun _ h => cs (w := good_awakeDb) (x := h)) ?_
    refine stp (fun _ h => s0 h) ?_
    refine aops_nil ?_
    refine AW.ret ?_
    refine ⟨.inr rfl, ?_⟩
    refine leaves_tmp1 4 rfl ?_ (by exact hG)
    simp (disch := first | omega | decide) only [go_sem, F, aIndex_map]
    all_goals first | done | rfl | (simp; done) | trace_state
  case hf1 =>
    have hw21 := hb
    try simp only [bo1, bo2, bo3, bo4, bo5, bo6] at hb
    have hbt21 := hb
    refine AW.skip ?_
    refine AW.seq ?_
    have hL : lightD l = true := by simpa using hbt21.1
    obtain ⟨hl2, pl2⟩ := light_of hL (fun x hx => (pl x hx).2)
    have ht2 : ts.length ≤ 100 := by omega
    refine AW.region (cfg := cfg) ?_
    iterate 2 refine stp (fun _ h => sq h) ?_
    iterate 2 refine stp (fun _ h => st h) ?_
    refine aops_nil ?_
    refine AW.seq ?_
    refine AW.seq ?_
    refine AW.frzVar 5 (by simp (disch := first | omega | decide) only [go_sem, F]; rfl) (by simp (disch := first | omega | decide) only [go_sem, F]; rfl) ?_
    refine AW.frzVar 6 (by simp (disch := first | omega | decide) only [go_sem, F]; rfl) (by simp (disch := first | omega | decide) only [go_sem, F]; rfl) ?_
    refine AW.region (cfg := cfg) ?_
    refine stp (fun _ h => s0 h) ?_
    refine aops_nil ?_
    refine AW.block ?_
    refine AW.forN (fun k σ => ∃ s m, σ = ⟨97, s, m⟩ ∧ s 0 = .v (.sl 3 nil (l.map lsaA)) ∧ s 1 = .v (.sl 1 nt (bsl ts)) ∧ s 5 = .v (.sl 3 false ((ordS l k).map lsaA)) ∧ s 6 = .v (.sl 3 false []) ∧ s 7 = .v (i64 (k : Int)) ∧ (∀ i, (m.objs (.res i)).2 = .dead) ∧ m.G = []) (l.length) ?_ ?_ ?_
    · refine ⟨_, _, rfl, ?_, ?_, ?_, ?_, ?_, (by intro i; simp [Mem.set, hr]), (by exact hG)⟩ <;> try simp (disch := first | omega | decide) only [go_sem, F, aIndex_map]
      all_goals rfl
    · clear F f0 f1 hr hG
      rintro k σ hk ⟨s, m, rfl, f0, f1, f5, f6, f7, hr, hG⟩
      have F := (And.intro f0 (And.intro f1 (And.intro f5 (And.intro f6 (And.intro f7 hG)))))
      refine AW.seq ?_
      refine AW.seq ?_
      refine AW.region (cfg := cfg) ?_
      iterate 2 refine stp (fun _ h => s0 h) ?_
      refine stp (fun _ h => sd h) ?_
      refine stp (fun _ h => s0 h) ?_
      refine aops_nil ?_
      refine cnd (fun hb => ?ht2) (fun hb => ?hf2)
      case hf2 => (simp at hb; omega)
      case ht2 =>
      have hbt28 := hb
      refine AW.skip ?_
      refine AW.seq ?_
      refine AW.block ?_
      refine AW.seq ?_
      have hkl : k < l.length := by assumption
      have pk := pl2 l[k] (List.getElem_mem hkl)
      have hok := ordS_ok l k
      have hle := db_len hok
      have pf : ∀ y ∈ ordS l k, fit y := fun y hy => pl2 y (ordS_mem hy)
      refine AW.region (cfg := cfg) ?_
      iterate 3 refine stp (fun _ h => s0 h) ?_
      refine stp (fun _ h => si h) ?_
      refine stp (fun _ h => sl h) ?_
      refine stp (fun _ h => cr (w := good_PutDb false (ordS l k) (by omega) pf (by simp) l[k] pk) (x := h)) ?_
      iterate 5 refine stp (fun _ h => s0 h) ?_
      refine aops_nil ?_
      refine AW.seq ?_
      refine AW.region (cfg := cfg) ?_
      iterate 2 refine stp (fun _ h => s0 h) ?_
      refine aops_nil ?_
      refine cnd (fun hb => ?ht3) (fun hb => ?hf3)
      case ht3 =>
        have hw41 := hb
        try simp only [bo1, bo2, bo3, bo4, bo5, bo6] at hb
        have hbt41 := hb
        refine AW.region (cfg := cfg) ?_
        iterate 2 refine stp (fun _ h => s0 h) ?_
        refine aops_nil ?_
        refine AW.region (cfg := cfg) ?_
        refine stp (fun _ h => s0 h) ?_
        refine stp (fun _ h => sd h) ?_
        refine stp (fun _ h => s0 h) ?_
        refine aops_nil ?_
        refine ⟨_, _, rfl, ?_, ?_, ?_, ?_, ?_, (by intro i; simp [Mem.set, hr]), (by exact hG)⟩ <;> try simp (disch := first | omega | decide) only [go_sem, F, aIndex_map]
        all_goals first | rfl | (simp [ordS_succ hkl, (ord_y hok hbt41).1, (ord_y hok hbt41).2]; done)
      case hf3 =>
        have hw41 := hb
        try simp only [bo1, bo2, bo3, bo4, bo5, bo6] at hb
        have hbt41 := hb
        refine AW.skip ?_
        refine AW.region (cfg := cfg) ?_
        refine stp (fun _ h => s0 h) ?_
        refine stp (fun _ h => sd h) ?_
        refine stp (fun _ h => s0 h) ?_
        refine aops_nil ?_
        refine ⟨_, _, rfl, ?_, ?_, ?_, ?_, ?_, (by intro i; simp [Mem.set, hr]), (by exact hG)⟩ <;> try simp (disch := first | omega | decide) only [go_sem, F, aIndex_map]
        all_goals first | rfl | (rw [ordS_succ hkl, ord_n hbt41]; done)
    · clear F f0 f1 hr hG
      rintro σ ⟨s, m, rfl, f0, f1, f5, f6, f7, hr, hG⟩
      have F := (And.intro f0 (And.intro f1 (And.intro f5 (And.intro f6 (And.intro f7 hG)))))
      refine AW.seq ?_
      refine AW.seq ?_
      refine AW.region (cfg := cfg) ?_
      iterate 2 refine stp (fun _ h => s0 h) ?_
      refine stp (fun _ h => sd h) ?_
      refine stp (fun _ h => s0 h) ?_
      refine aops_nil ?_
      refine cnd (fun hb => ?ht4) (fun hb => ?hf4)
      case ht4 => (simp at hb; done)
      case hf4 =>
      have hbt28 := hb
      refine AW.exit ?_
      refine AW.seq ?_
      refine AW.seq ?_
      refine AW.region (cfg := cfg) ?_
      refine stp (fun _ h => s0 h) ?_
      refine aops_nil ?_
      refine AW.block ?_
      refine AW.forN (fun k σ => ∃ s m, σ = ⟨97, s, m⟩ ∧ s 0 = .v (.sl 3 nil (l.map lsaA)) ∧ s 1 = .v (.sl 1 nt (bsl ts)) ∧ s 5 = .v (.sl 3 false ((ordS l l.length).map lsaA)) ∧ s 6 = .v (.sl 3 false ((ordS (zsG l ts) k).map lsaA)) ∧ s 10 = .v (i64 (k : Int)) ∧ (∀ i, (m.objs (.res i)).2 = .dead) ∧ m.G = []) ((if 0 < l.length then ts.length + l.length else 0)) ?_ ?_ ?_
      · refine ⟨_, _, rfl, ?_, ?_, ?_, ?_, ?_, (by intro i; simp [Mem.set, hr]), (by exact hG)⟩ <;> try simp (disch := first | omega | decide) only [go_sem, F, aIndex_map]
        all_goals rfl
      · clear F f0 f1 f5 f6 f7 hr hG
        rintro k σ hk ⟨s, m, rfl, f0, f1, f5, f6, f10, hr, hG⟩
        have F := (And.intro f0 (And.intro f1 (And.intro f5 (And.intro f6 (And.intro f10 hG)))))
        refine AW.seq ?_
        refine AW.seq ?_
        refine AW.region (cfg := cfg) ?_
        iterate 2 refine stp (fun _ h => s0 h) ?_
        refine stp (fun _ h => sd h) ?_
        refine stp (fun _ h => s0 h) ?_
        iterate 2 refine stp (fun _ h => sd h) ?_
        iterate 2 refine stp (fun _ h => s0 h) ?_
        refine mrg wa (fun hc _ h => s0 h) ?_
        refine mrg wa (fun hc _ h => sd h) ?_
        refine mrg wa (fun hc _ h => s0 h) ?_
        refine stp (fun _ h => s0 h) ?_
        refine aops_nil ?_
        refine cnd (fun hb => ?ht5) (fun hb => ?hf5)
        case hf5 => (simp only [Bool.and_eq_false_iff, decide_eq_false_iff_not] at hb; split at hk <;> omega)
        case ht5 =>
        have hbt54 := hb
        refine AW.skip ?_
        refine AW.seq ?_
        refine AW.block ?_
        refine AW.seq ?_
        have hkz : k < (if 0 < l.length then ts.length + l.length else 0) := by assumption
        have hx0 : 0 < l.length := by (split at hkz; assumption; omega)
        have hkn : k < ts.length + l.length := by (rw [if_pos hx0] at hkz; exact hkz)
        have hzl : k < (zsG l ts).length := by (rw [zsG_len]; exact hkz)
        refine AW.region (cfg := cfg) ?_
        refine stp (fun _ h => s0 h) ?_
        iterate 2 refine stp (fun _ h => sd h) ?_
        iterate 2 refine stp (fun _ h => s0 h) ?_
        iterate 3 refine stp (fun _ h => sd h) ?_
        refine stp (fun _ h => s0 h) ?_
        refine aops_nil ?_
        refine AW.join (fun σ => ∃ s m, σ = ⟨97, s, m⟩ ∧ s 0 = .v (.sl 3 nil (l.map lsaA)) ∧ s 1 = .v (.sl 1 nt (bsl ts)) ∧ s 5 = .v (.sl 3 false ((ordS l l.length).map lsaA)) ∧ s 6 = .v (.sl 3 false ((ordS (zsG l ts) k).map lsaA)) ∧ s 10 = .v (i64 (k : Int)) ∧ s 11 = .v (i64 (idxG l ts k)) ∧ (∀ i, (m.objs (.res i)).2 = .dead) ∧ m.G = []) ?_ ?_
        · skip
          refine AW.seq ?_
          refine AW.region (cfg := cfg) ?_
          iterate 2 refine stp (fun _ h => s0 h) ?_
          refine stp (fun _ h => sd h) ?_
          refine stp (fun _ h => s0 h) ?_
          refine aops_nil ?_
          refine cnd (fun hb => ?ht6) (fun hb => ?hf6)
          case ht6 =>
            have hw68 := hb
            try simp only [bo1, bo2, bo3, bo4, bo5, bo6] at hb
            have hbt68 := hb
            have hbt := i64_byte (ts[k]'(by omega))
            have hmod := Int.emod_lt_of_pos ((ts[k]'(by omega)).toNat : Int) (show (0 : Int) < (l.length : Int) by omega)
            have F := And.intro hbt F
            refine AW.region (cfg := cfg) ?_
            iterate 2 refine stp (fun _ h => s0 h) ?_
            refine stp (fun _ h => si h) ?_
            refine stp (fun _ h => sl h) ?_
            refine stp (fun _ h => sd h) ?_
            refine stp (fun _ h => s0 h) ?_
            iterate 2 refine stp (fun _ h => sd h) ?_
            refine stp (fun _ h => s0 h) ?_
            refine aops_nil ?_
            refine ⟨_, _, rfl, ?_, ?_, ?_, ?_, ?_, ?_, (by intro i; simp [Mem.set, hr]), (by exact hG)⟩ <;> try simp (disch := first | omega | decide) only [go_sem, F, aIndex_map]
            all_goals (rw [idxG_low (by omega)]; done)
          case hf6 =>
            have hw68 := hb
            try simp only [bo1, bo2, bo3, bo4, bo5, bo6] at hb
            have hbt68 := hb
            refine AW.skip ?_
            refine ⟨_, _, rfl, ?_, ?_, ?_, ?_, ?_, ?_, (by intro i; simp [Mem.set, hr]), (by exact hG)⟩ <;> try simp (disch := first | omega | decide) only [go_sem, F, aIndex_map]
            all_goals (rw [idxG_high (by omega)]; done)
        · clear F f0 f1 f5 f6 f10 hr hG
          rintro σ ⟨s, m, rfl, f0, f1, f5, f6, f10, f11, hr, hG⟩
          have F := (And.intro f0 (And.intro f1 (And.intro f5 (And.intro f6 (And.intro f10 (And.intro f11 hG))))))
          refine AW.seq ?_
          obtain ⟨hz1, hz2⟩ := zsG_at hzl
          have hin := idxG_in (ts := ts) hx0 hkn
          have hok := ordS_ok (zsG l ts) k
          have hle := db_len hok
          have pf : ∀ y ∈ ordS (zsG l ts) k, fit y := fun y hy => pl2 y ((zsG_mem l ts y).1 (ordS_mem hy))
          have pk := pl2 l[(idxG l ts k).toNat] (List.getElem_mem hz1)
          refine AW.region (cfg := cfg) ?_
          iterate 3 refine stp (fun _ h => s0 h) ?_
          refine stp (fun _ h => si h) ?_
          refine stp (fun _ h => sl h) ?_
          refine stp (fun _ h => cr (w := good_PutDb false (ordS (zsG l ts) k) (by omega) pf (by simp) l[(idxG l ts k).toNat] pk) (x := h)) ?_
          iterate 5 refine stp (fun _ h => s0 h) ?_
          refine aops_nil ?_
          refine AW.seq ?_
          refine AW.region (cfg := cfg) ?_
          iterate 2 refine stp (fun _ h => s0 h) ?_
          refine aops_nil ?_
          refine cnd (fun hb => ?ht7) (fun hb => ?hf7)
          case ht7 =>
            have hw87 := hb
            try simp only [bo1, bo2, bo3, bo4, bo5, bo6] at hb
            have hbt87 := hb
            refine AW.region (cfg := cfg) ?_
            iterate 2 refine stp (fun _ h => s0 h) ?_
            refine aops_nil ?_
            refine AW.region (cfg := cfg) ?_
            refine stp (fun _ h => s0 h) ?_
            refine stp (fun _ h => sd h) ?_
            refine stp (fun _ h => s0 h) ?_
            refine aops_nil ?_
            refine ⟨_, _, rfl, ?_, ?_, ?_, ?_, ?_, (by intro i; simp [Mem.set, hr]), (by exact hG)⟩ <;> try simp (disch := first | omega | decide) only [go_sem, F, aIndex_map]
            all_goals first | rfl | (simp [ordS_succ hzl, hz2, (ord_y hok hbt87).1, (ord_y hok hbt87).2]; done)
          case hf7 =>
            have hw87 := hb
            try simp only [bo1, bo2, bo3, bo4, bo5, bo6] at hb
            have hbt87 := hb
            refine AW.skip ?_
            refine AW.region (cfg := cfg) ?_
            refine stp (fun _ h => s0 h) ?_
            refine stp (fun _ h => sd h) ?_
            refine stp (fun _ h => s0 h) ?_
            refine aops_nil ?_
            refine ⟨_, _, rfl, ?_, ?_, ?_, ?_, ?_, (by intro i; simp [Mem.set, hr]), (by exact hG)⟩ <;> try simp (disch := first | omega | decide) only [go_sem, F, aIndex_map]
            all_goals first | rfl | (rw [ordS_succ hzl, hz2, ord_n hbt87]; done)
      · clear F f0 f1 f5 f6 f7 hr hG
        rintro σ ⟨s, m, rfl, f0, f1, f5, f6, f10, hr, hG⟩
        have F := (And.intro f0 (And.intro f1 (And.intro f5 (And.intro f6 (And.intro f10 hG)))))
        refine AW.seq ?_
        refine AW.seq ?_
        refine AW.region (cfg := cfg) ?_
        iterate 2 refine stp (fun _ h => s0 h) ?_
        refine stp (fun _ h => sd h) ?_
        refine stp (fun _ h => s0 h) ?_
        iterate 2 refine stp (fun _ h => sd h) ?_
        iterate 2 refine stp (fun _ h => s0 h) ?_
        refine mrg wa (fun hc _ h => s0 h) ?_
        refine mrg wa (fun hc _ h => sd h) ?_
        refine mrg wa (fun hc _ h => s0 h) ?_
        refine stp (fun _ h => s0 h) ?_
        refine aops_nil ?_
        refine cnd (fun hb => ?ht8) (fun hb => ?hf8)
        case ht8 => (simp only [Bool.and_eq_true, decide_eq_true_eq] at hb; split at hb <;> omega)
        case hf8 =>
        have hbt54 := hb
        refine AW.exit ?_
        refine AW.seq ?_
        have hA := ordS_ok l l.length
        have hB := ordS_ok (zsG l ts) (zsG l ts).length
        have wA := db_len hA
        have wB := db_len hB
        have pA : ∀ y ∈ ordS l l.length, fit y := fun y hy => pl2 y (ordS_mem hy)
        have pB : ∀ y ∈ ordS (zsG l ts) (zsG l ts).length, fit y := fun y hy => pl2 y ((zsG_mem l ts y).1 (ordS_mem hy))
        have hnn : (zsG l ts).length = (if 0 < l.length then ts.length + l.length else 0) := zsG_len l ts
        have ho := ordersG l ts
        have e1 := itemsR_is hA
        have e2 := itemsR_is hB
        rw [ho] at e2
        rw [hnn] at e2 pB wB
        have F := And.intro e1 F
        have F := And.intro e2 F
        refine AW.region (cfg := cfg) ?_
        refine stp (fun _ h => s0 h) ?_
        refine stp (fun _ h => co1 (w := good_ItemsDb _ (ordS l l.length) (by omega) pA) (x := h)) ?_
        refine stp (fun _ h => s0 h) ?_
        refine stp (fun _ h => co1 (w := good_ItemsDb _ (ordS (zsG l ts) (if 0 < l.length then ts.length + l.length else 0)) (by omega) pB) (x := h)) ?_
        refine stp (fun _ h => cs (w := good_sameI _ _ ((ordS l l.length).map itm) ((ordS l l.length).map itm) (by rw [List.length_map]; omega) (by rw [List.length_map]; omega)) (x := h)) ?_
        refine stp (fun _ h => s0 h) ?_
        refine stp (fun _ h => cs (w := good_awakeDb) (x := h)) ?_
        iterate 2 refine stp (fun _ h => s0 h) ?_
        refine aops_nil ?_
        refine AW.ret ?_
        refine ⟨.inr rfl, ?_⟩
        refine leaves_tmp1 4 rfl ?_ (by exact hG)
        simp (disch := first | omega | decide) only [go_sem, F, aIndex_map]
        all_goals rfl
end Go.Vai.DB
