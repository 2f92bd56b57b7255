import Derived.Test.YtencjgkeflibdaaGreatM6
namespace Go.Vai.WK
open Go.Proofs Go.Vai Go.Vai.DK Go.Vai.G Go.Vai.L Go.Vai.MP Go.Vai.O Go.Vai.RC Go.Vai.S7 Go.Vai.U Go.Vai.V Go.Vai.W8 Go.Vai.Z
set_option linter.unusedSimpArgs false
set_option linter.unusedVariables false
set_option maxHeartbeats 4000000
set_option maxRecDepth 100000
open Go.Vai.DK Go.Vai.U Go.Vai.V Go.Vai.S7 Go.Vai.RC Go.Vai.G Go.Vai.W8
attribute [simp] noPtr_ps noPtrL_ps
def cfgC : Cfg := { cfg with glob := fun d => d == 138 || d == 189 }
theorem glC0 : cfgC.glob 138 = true := rfl
theorem glC1 : cfgC.glob 189 = true := rfl
def wz0 : List AV := [.base (.pointer none), i64 0, i64 0, i64 0, i64 0, i64 0, i64 0, .b false]
def gW (G : List (List AV)) (k : Nat) : List (List AV) := if k = 2 then G ++ [wz0] else G
theorem wz0_has (G : List (List AV)) : HasW (G ++ [wz0]) G.length (.base (.pointer none)) ⟨0, 0, 0, 0, 0, 0, false⟩ := ⟨by rw [List.getElem?_append_right (Nat.le_refl _), Nat.sub_self]; rfl⟩
attribute [go_sem] glC0 glC1
theorem good_WalCorrupt (nil : Bool) (l : List (BitVec 8)) (hl : l.length ≤ 9223372036854775807) (X : BitVec 8) : Good Tryz.prog 3 [(.sl 1 nil (bsl l), false), (u8 X, false)] [] [(.b true, false)] [] := by
  refine good_of_body4 219 Tryz.func3 rfl rfl rfl (by simp) (by simp) (by simp [noPtrL, noPtr]) (by rfl) ?_
  intro s m ha hr hv hG
  have f0 : s 0 = .v (.sl 1 nil (bsl l)) := ha 0 _ rfl
  have f1 : s 1 = .v (u8 X) := ha 1 _ rfl
  clear ha
  have hc : True := trivial
  have F := (And.intro f0 (And.intro f1 hG))
  refine AW.seq ?_
  refine AW.region (cfg := cfgC) ?_
  refine stp (fun _ h => s0 h) ?_
  refine aops_nil ?_
  refine AW.seq ?_
  refine AW.region (cfg := cfgC) ?_
  refine stp (fun _ h => cg (w := (DK.good_NewG [] 20 (by decide) : Good _ _ _ [] [(.gp 2 0, false), (i64 0, false)] _)) (x := h)) ?_
  iterate 5 refine stp (fun _ h => s0 h) ?_
  refine aops_nil ?_
  refine AW.seq ?_
  refine AW.seq ?_
  refine AW.region (cfg := cfgC) ?_
  iterate 3 refine stp (fun _ h => s0 h) ?_
  iterate 2 refine mrg wa (fun hc _ h => s0 h) ?_
  iterate 2 refine stp (fun _ h => s0 h) ?_
  refine mrg wa (fun hc _ h => s0 h) ?_
  refine mrg wa (fun hc _ h => sd h) ?_
  refine mrg wa (fun hc _ h => s0 h) ?_
  refine stp (fun _ h => s0 h) ?_
  refine aops_nil ?_
  refine cnd (fun hb => ?ht1) (fun hb => ?hf1)
  case ht1 =>
    have hw50 := hb
    try simp only [bo1, bo2, bo3, bo4, bo5, bo6] at hb
    have hbt50 := hb
    refine AW.seq ?_
    refine AW.region (cfg := cfgC) ?_
    iterate 3 refine stp (fun _ h => s0 h) ?_
    iterate 2 refine mrg wa (fun hc _ h => s0 h) ?_
    iterate 2 refine stp (fun _ h => s0 h) ?_
    refine mrg wa (fun hc _ h => cs (w := good_awake8) (x := h)) ?_
    iterate 2 refine stp (fun _ h => s0 h) ?_
    refine aops_nil ?_
    refine AW.ret ?_
    refine ⟨.inr rfl, ?_⟩
    apply Exists.intro
    refine leaves_tmp1 4 rfl ?_ (by rfl)
    simp (disch := first | omega | decide) only [go_sem, F, aIndex_map]
    all_goals rfl
  case hf1 =>
    have hw50 := hb
    try simp only [bo1, bo2, bo3, bo4, bo5, bo6] at hb
    have hbt50 := hb
    refine AW.skip ?_
    refine AW.seq ?_
    obtain ⟨y0, hy0⟩ : ∃ y0, y0 = newD 20 := ⟨_, rfl⟩
    have hD1 : HasD (DK.newG [] 20) 2 0 1 y0 := by rw [hy0]; exact new_has [] 20
    have hF1 : Fine y0 := by rw [hy0]; exact new_fine (n := 20) (by decide)
    obtain ⟨a1, a2, a3, a4, a5, a6, a7, a8, a9, a10⟩ := aw_1 hy0
    obtain ⟨x1, y1, G2, hB2, hI1, hn1, ha1, hg1, hx1, hm1, hop⟩ : ∃ x1 y1 G2, HasB G2 3 2 0 1 x1 y1 ∧ WInv x1 y1 [] [] ∧ y1.n = 20 ∧ y1.armed = -1 ∧ x1.gen = 1 ∧ x1.next = 0 ∧ x1.mark = 1 ∧ Good Tryz.prog 9 [(.gp 2 0, false)] (DK.newG [] 20) [(.gp 3 0, false), (.sl 1 true ([] : List AV), false), (.sl 1 true ([] : List AV), false), (i64 0, false)] G2 := ⟨_, _, _, out_has hD1 a1, a5, a6, a7, a8, a9, a10, by (have q := good_OpenW (DK.newG [] 20) 2 0 1 y0 hD1 hF1; rw [a2, a3, a4] at q; exact q)⟩
    obtain ⟨l1, l2, _⟩ := aw_l hI1 hn1
    obtain ⟨c1, c2, c3, c4, c5, c6, c7⟩ := com_one (c := 1#8) hI1 (by omega) (by omega)
    obtain ⟨x2, y2, G3, R2, hB3, hI2, hn2, ha2, hg2, hm2, hcm⟩ : ∃ x2 y2 G3 R2, HasB G3 3 2 0 1 x2 y2 ∧ WInv x2 y2 [] R2 ∧ y2.n = 20 ∧ y2.armed = -1 ∧ x2.gen = 1 ∧ x2.mark = 1 ∧ Good Tryz.prog 10 [(.gp 3 0, false), (.sl 1 false (bsl [1#8]), false)] G2 [(i64 0, false)] G3 := ⟨_, _, _, _, wb_has hB2, c2, c6.trans hn1, c7.trans ha1, c4.trans hg1, c5.trans hm1, by (have q := good_CommitW G2 3 2 0 1 x1 y1 hB2 hI1.f hI1.ok false [1#8] (by decide) (fun h => by cases h); rw [c1] at q; exact q)⟩
    obtain ⟨d1, d2, d3, d4, d5, d6⟩ := tur_one (c := 2#8) hI2 (by omega) (by omega)
    obtain ⟨x3, y3, G4, B3, R3, hB4, hI3, hn3, ha3, hm3, htu⟩ : ∃ x3 y3 G4 B3 R3, HasB G4 3 2 0 1 x3 y3 ∧ WInv x3 y3 B3 R3 ∧ y3.n = 20 ∧ y3.armed = -1 ∧ x3.mark = 1 ∧ Good Tryz.prog 11 [(.gp 3 0, false), (.sl 1 false (bsl [2#8]), false)] G3 [(i64 0, false)] G4 := ⟨_, _, _, _, _, wb_has hB3, d2, d5.trans hn2, d6.trans ha2, d4.trans hm2, by (have q := good_TurnW G3 3 2 0 1 x2 y2 hB3 hI2.f hI2.ok false [2#8] (by decide) (fun h => by cases h); rw [d1] at q; exact q)⟩
    obtain ⟨e1, e2⟩ := spo_S X l (by omega)
    have hD4 : HasD G4 2 0 1 y3 := hB4.hD
    obtain ⟨S, hSl, hS1, hfi⟩ : ∃ S : List (BitVec 8), S.length = 512 ∧ S[0]? = some 1#8 ∧ Good Tryz.prog 12 [(.sl 1 false (bsl ([1#8, X] ++ l)), false)] [] [(.sl 1 false (bsl S), false)] [] := ⟨_, e1, e2, DK.good_Fill false ([1#8, X] ++ l) (by simp; omega)⟩
    obtain ⟨s1, s2, s3, s4, s5⟩ := spoilt hI3 ha3 hn3 hm3 hSl hS1
    have hw1 : Good Tryz.prog 13 [(.gp 2 0, false), (i64 0, false), (.sl 1 false (bsl S), false)] G4 [(i64 0, false)] (wrD G4 2 0 1 (wriX y3 0 S)) := by (have q := DK.good_WriteG G4 2 0 1 y3 hD4 (by omega) 0 false S (by omega) (fun h => by cases h); rw [s1] at q; exact q)
    have hFa : Fine (wriX y3 0 S) := wri_fine hI3.f
    have hw2 : Good Tryz.prog 13 [(.gp 2 0, false), (i64 5, false), (.sl 1 false (bsl S), false)] (wrD G4 2 0 1 (wriX y3 0 S)) [(i64 0, false)] (wrD G4 2 0 1 (wriX (wriX y3 0 S) 5 S)) := by (have q := DK.good_WriteG (wrD G4 2 0 1 (wriX y3 0 S)) 2 0 1 (wriX y3 0 S) (wr_has hD4) hFa.a 5 false S (by omega) (fun h => by cases h); rw [s2, wr_wr hD4] at q; exact q)
    have hFb : Fine (wriX (wriX y3 0 S) 5 S) := wri_fine hFa
    obtain ⟨z, hz⟩ : ∃ z, z = spW y3 S := ⟨_, rfl⟩
    have hw3 : Good Tryz.prog 14 [(.gp 2 0, false)] (wrD G4 2 0 1 (wriX (wriX y3 0 S) 5 S)) [(i64 0, false)] (wrD G4 2 0 1 z) := by (have q := DK.good_FlushG (wrD G4 2 0 1 (wriX (wriX y3 0 S) 5 S)) 2 0 1 (wriX (wriX y3 0 S) 5 S) (wr_has hD4) hFb; rw [s3, wr_wr hD4] at q; rw [hz]; exact q)
    rw [← hz] at s4 s5
    have hDz : HasD (wrD G4 2 0 1 z) 2 0 1 z := wr_has hD4
    obtain ⟨Ga, hDa, hoa⟩ : ∃ Ga, HasD Ga 2 0 1 z ∧ Good Tryz.prog 9 [(.gp 2 0, false)] (wrD G4 2 0 1 z) [(.base (.pointer none), false), (.sl 1 true ([] : List AV), false), (.sl 1 true ([] : List AV), false), (i64 8, false)] Ga := ⟨_, (by have q := out_hasD hDz; rw [s5] at q; exact q), (by have q := good_OpenW (wrD G4 2 0 1 z) 2 0 1 z hDz s4; rw [s5] at q; exact q)⟩
    obtain ⟨Gb, hob⟩ : ∃ Gb, Good Tryz.prog 9 [(.gp 2 0, false)] Ga [(.base (.pointer none), false), (.sl 1 true ([] : List AV), false), (.sl 1 true ([] : List AV), false), (i64 8, false)] Gb := ⟨_, (by have q := good_OpenW Ga 2 0 1 z hDa s4; rw [s5] at q; exact q)⟩
    obtain ⟨y5, hy5⟩ : ∃ y5, y5 = newD 5 := ⟨_, rfl⟩
    have hF5 : Fine y5 := by rw [hy5]; exact new_fine (n := 5) (by decide)
    have hn5 : y5.n = 5 := by rw [hy5]; rfl
    have o5 := open_small hn5
    obtain ⟨Gc, dc, hDc, hnc⟩ : ∃ Gc dc, HasD Gc dc Gb.length (Gb.length + 1) y5 ∧ Good Tryz.prog 7 [(i64 5, false)] Gb [(.gp dc 0, false), (i64 0, false)] Gc := ⟨_, _, (by rw [hy5]; exact new_has Gb 5), DK.good_NewG Gb 5 (by decide)⟩
    have hoc : Good Tryz.prog 9 [(.gp dc 0, false)] Gc [(.base (.pointer none), false), (.sl 1 true ([] : List AV), false), (.sl 1 true ([] : List AV), false), (i64 1, false)] Gc := by (have q := good_OpenW Gc dc Gb.length (Gb.length + 1) y5 hDc hF5; rw [out_no (by rw [o5]), o5] at q; exact q)
    have hod : Good Tryz.prog 9 [(.gp Gc.length 0, false)] (Gc ++ [[i64 0, .base (.map none), .base (.map none), i64 0, .b false]]) [(.base (.pointer none), false), (.sl 1 true ([] : List AV), false), (.sl 1 true ([] : List AV), false), (i64 1, false)] (Gc ++ [[i64 0, .base (.map none), .base (.map none), i64 0, .b false]]) := good_OpenWz _ _ (by rw [List.getElem?_append_right (Nat.le_refl _), Nat.sub_self]; rfl)
    refine AW.region (cfg := cfgC) ?_
    refine stp (fun _ h => s0 h) ?_
    refine stp (fun _ h => cg (w := hop) (x := h)) ?_
    iterate 9 refine stp (fun _ h => s0 h) ?_
    refine aops_nil ?_
    refine AW.seq ?_
    refine AW.seq ?_
    refine AW.region (cfg := cfgC) ?_
    iterate 8 refine stp (fun _ h => s0 h) ?_
    refine stp (fun _ h => sq h) ?_
    refine stp (fun _ h => cg (w := hcm) (x := h)) ?_
    iterate 4 refine stp (fun _ h => s0 h) ?_
    refine stp (fun _ h => sq h) ?_
    refine stp (fun _ h => cg (w := htu) (x := h)) ?_
    iterate 2 refine stp (fun _ h => s0 h) ?_
    refine aops_nil ?_
    refine cnd (fun hb => ?ht2) (fun hb => ?hf2)
    case ht2 => (simp at hb; done)
    case hf2 =>
    have hbt84 := hb
    refine AW.skip ?_
    refine AW.seq ?_
    refine AW.region (cfg := cfgC) ?_
    refine stp (fun _ h => s0 h) ?_
    refine stp (fun _ h => sq h) ?_
    refine stp (fun _ h => s0 h) ?_
    refine stp (fun _ h => sp h) ?_
    refine stp (fun _ h => cr (w := hfi) (x := h)) ?_
    refine stp (fun _ h => s0 h) ?_
    refine aops_nil ?_
    refine AW.seq ?_
    refine AW.seq ?_
    refine AW.region (cfg := cfgC) ?_
    iterate 2 refine stp (fun _ h => s0 h) ?_
    refine stp (fun _ h => cg (w := hw1) (x := h)) ?_
    iterate 4 refine stp (fun _ h => s0 h) ?_
    refine stp (fun _ h => cg (w := hw2) (x := h)) ?_
    iterate 4 refine stp (fun _ h => s0 h) ?_
    refine stp (fun _ h => cg (w := hw3) (x := h)) ?_
    iterate 2 refine stp (fun _ h => s0 h) ?_
    refine aops_nil ?_
    refine cnd (fun hb => ?ht3) (fun hb => ?hf3)
    case ht3 => (simp at hb; done)
    case hf3 =>
    have hbt104 := hb
    refine AW.skip ?_
    refine AW.seq ?_
    refine AW.region (cfg := cfgC) ?_
    refine stp (fun _ h => s0 h) ?_
    refine stp (fun _ h => cg (w := hoa) (x := h)) ?_
    iterate 9 refine stp (fun _ h => s0 h) ?_
    refine aops_nil ?_
    refine AW.seq ?_
    refine AW.region (cfg := cfgC) ?_
    refine stp (fun _ h => s0 h) ?_
    refine stp (fun _ h => cg (w := hob) (x := h)) ?_
    iterate 9 refine stp (fun _ h => s0 h) ?_
    refine aops_nil ?_
    refine AW.seq ?_
    refine AW.region (cfg := cfgC) ?_
    refine stp (fun _ h => cg (w := hnc) (x := h)) ?_
    iterate 5 refine stp (fun _ h => s0 h) ?_
    refine aops_nil ?_
    refine AW.seq ?_
    refine AW.region (cfg := cfgC) ?_
    refine stp (fun _ h => s0 h) ?_
    refine stp (fun _ h => cg (w := hoc) (x := h)) ?_
    iterate 9 refine stp (fun _ h => s0 h) ?_
    refine aops_nil ?_
    refine AW.seq ?_
    refine AW.region (cfg := cfgC) ?_
    refine stp (fun _ h => cg (w := good_OpenW0 Gc) (x := h)) ?_
    iterate 9 refine stp (fun _ h => s0 h) ?_
    refine aops_nil ?_
    refine AW.seq ?_
    refine AW.region (cfg := cfgC) ?_
    refine stp (fun _ h => su h) ?_
    refine stp (fun _ h => sbg h) ?_
    refine stp (fun _ h => cg (w := hod) (x := h)) ?_
    iterate 9 refine stp (fun _ h => s0 h) ?_
    refine aops_nil ?_
    refine AW.seq ?_
    refine AW.seq ?_
    refine AW.region (cfg := cfgC) ?_
    iterate 3 refine stp (fun _ h => s0 h) ?_
    iterate 2 refine mrg wa (fun hc _ h => s0 h) ?_
    iterate 2 refine stp (fun _ h => s0 h) ?_
    iterate 2 refine mrg wa (fun hc _ h => s0 h) ?_
    iterate 2 refine stp (fun _ h => s0 h) ?_
    iterate 2 refine mrg wa (fun hc _ h => s0 h) ?_
    iterate 2 refine stp (fun _ h => s0 h) ?_
    iterate 2 refine mrg wa (fun hc _ h => s0 h) ?_
    iterate 2 refine stp (fun _ h => s0 h) ?_
    iterate 2 refine mrg wa (fun hc _ h => s0 h) ?_
    iterate 2 refine stp (fun _ h => s0 h) ?_
    iterate 2 refine mrg wa (fun hc _ h => s0 h) ?_
    iterate 2 refine stp (fun _ h => s0 h) ?_
    iterate 2 refine mrg wa (fun hc _ h => s0 h) ?_
    iterate 2 refine stp (fun _ h => s0 h) ?_
    iterate 2 refine mrg wa (fun hc _ h => s0 h) ?_
    iterate 2 refine stp (fun _ h => s0 h) ?_
    iterate 2 refine mrg wa (fun hc _ h => s0 h) ?_
    refine stp (fun _ h => s0 h) ?_
    refine aops_nil ?_
    refine cnd (fun hb => ?ht4) (fun hb => ?hf4)
    case ht4 => (simp at hb; done)
    case hf4 =>
    have hbt181 := hb
    refine AW.skip ?_
    refine AW.seq ?_
    refine AW.seq ?_
    refine AW.region (cfg := cfgC) ?_
    refine stp (fun _ h => s0 h) ?_
    refine aops_nil ?_
    refine AW.block ?_
    refine AW.forN (fun k σ => ∃ s m, σ = ⟨219, s, m⟩ ∧ s 34 = .v (i64 (k : Int)) ∧ (∀ i, (m.objs (.res i)).2 = .dead) ∧ m.G = (gW (Gc ++ [[i64 0, .base (.map none), .base (.map none), i64 0, .b false]]) k)) (2) ?_ ?_ ?_
    · refine ⟨_, _, rfl, ?_, (by intro i; simp [Mem.set, hr]), (by rfl)⟩ <;> try simp (disch := first | omega | decide) only [go_sem, F, aIndex_map]
      all_goals rfl
    · clear F f0 f1 hr hG
      rintro k σ hk ⟨s, m, rfl, f34, hr, hG⟩
      have F := (And.intro f34 hG)
      refine AW.seq ?_
      refine AW.seq ?_
      refine AW.region (cfg := cfgC) ?_
      iterate 2 refine stp (fun _ h => s0 h) ?_
      refine aops_nil ?_
      refine cnd (fun hb => ?ht5) (fun hb => ?hf5)
      case hf5 => (simp at hb; omega)
      case ht5 =>
      have hbt183 := hb
      refine AW.skip ?_
      refine AW.seq ?_
      refine AW.block ?_
      refine AW.seq ?_
      refine AW.region (cfg := cfgC) ?_
      refine stp (fun _ h => s0 h) ?_
      refine aops_nil ?_
      refine AW.seq ?_
      refine AW.seq ?_
      refine AW.region (cfg := cfgC) ?_
      iterate 2 refine stp (fun _ h => s0 h) ?_
      refine aops_nil ?_
      refine cnd (fun hb => ?ht6) (fun hb => ?hf6)
      case ht6 =>
        have hw187 := hb
        try simp only [bo1, bo2, bo3, bo4, bo5, bo6] at hb
        have hbt187 := hb
        refine AW.region (cfg := cfgC) ?_
        refine stp (fun _ h => su h) ?_
        refine stp (fun _ h => sbg h) ?_
        refine stp (fun _ h => s0 h) ?_
        refine aops_nil ?_
        refine AW.seq ?_
        (have hk1 : k = 1 := (by omega); subst hk1; have hWz := wz0_has (gW (Gc ++ [[i64 0, .base (.map none), .base (.map none), i64 0, .b false]]) 1); have q1 : Good Tryz.prog 10 [(.gp (gW (Gc ++ [[i64 0, .base (.map none), .base (.map none), i64 0, .b false]]) 1).length 0, false), (.sl 0 true ([] : List AV), false)] ((gW (Gc ++ [[i64 0, .base (.map none), .base (.map none), i64 0, .b false]]) 1) ++ [[.base (.pointer none), i64 0, i64 0, i64 0, i64 0, i64 0, i64 0, .b false]]) [(i64 6, false)] ((gW (Gc ++ [[i64 0, .base (.map none), .base (.map none), i64 0, .b false]]) 1) ++ [[.base (.pointer none), i64 0, i64 0, i64 0, i64 0, i64 0, i64 0, .b false]]) := (good_CommitWz ((gW (Gc ++ [[i64 0, .base (.map none), .base (.map none), i64 0, .b false]]) 1) ++ [[.base (.pointer none), i64 0, i64 0, i64 0, i64 0, i64 0, i64 0, .b false]]) (gW (Gc ++ [[i64 0, .base (.map none), .base (.map none), i64 0, .b false]]) 1).length _ hWz true []).nil1 (s' := 0); have q2 : Good Tryz.prog 11 [(.gp (gW (Gc ++ [[i64 0, .base (.map none), .base (.map none), i64 0, .b false]]) 1).length 0, false), (.sl 0 true ([] : List AV), false)] ((gW (Gc ++ [[i64 0, .base (.map none), .base (.map none), i64 0, .b false]]) 1) ++ [[.base (.pointer none), i64 0, i64 0, i64 0, i64 0, i64 0, i64 0, .b false]]) [(i64 6, false)] ((gW (Gc ++ [[i64 0, .base (.map none), .base (.map none), i64 0, .b false]]) 1) ++ [[.base (.pointer none), i64 0, i64 0, i64 0, i64 0, i64 0, i64 0, .b false]]) := (good_TurnWz ((gW (Gc ++ [[i64 0, .base (.map none), .base (.map none), i64 0, .b false]]) 1) ++ [[.base (.pointer none), i64 0, i64 0, i64 0, i64 0, i64 0, i64 0, .b false]]) (gW (Gc ++ [[i64 0, .base (.map none), .base (.map none), i64 0, .b false]]) 1).length _ hWz true []).nil1 (s' := 0); have q3 : Good Tryz.prog 15 [(.gp (gW (Gc ++ [[i64 0, .base (.map none), .base (.map none), i64 0, .b false]]) 1).length 0, false)] ((gW (Gc ++ [[i64 0, .base (.map none), .base (.map none), i64 0, .b false]]) 1) ++ [[.base (.pointer none), i64 0, i64 0, i64 0, i64 0, i64 0, i64 0, .b false]]) [(i64 0, false)] ((gW (Gc ++ [[i64 0, .base (.map none), .base (.map none), i64 0, .b false]]) 1) ++ [[.base (.pointer none), i64 0, i64 0, i64 0, i64 0, i64 0, i64 0, .b false]]) := good_GenWz ((gW (Gc ++ [[i64 0, .base (.map none), .base (.map none), i64 0, .b false]]) 1) ++ [[.base (.pointer none), i64 0, i64 0, i64 0, i64 0, i64 0, i64 0, .b false]]) (gW (Gc ++ [[i64 0, .base (.map none), .base (.map none), i64 0, .b false]]) 1).length _ hWz; have q4 : Good Tryz.prog 16 [(.gp (gW (Gc ++ [[i64 0, .base (.map none), .base (.map none), i64 0, .b false]]) 1).length 0, false)] ((gW (Gc ++ [[i64 0, .base (.map none), .base (.map none), i64 0, .b false]]) 1) ++ [[.base (.pointer none), i64 0, i64 0, i64 0, i64 0, i64 0, i64 0, .b false]]) [(i64 0, false)] ((gW (Gc ++ [[i64 0, .base (.map none), .base (.map none), i64 0, .b false]]) 1) ++ [[.base (.pointer none), i64 0, i64 0, i64 0, i64 0, i64 0, i64 0, .b false]]) := good_FreeWz ((gW (Gc ++ [[i64 0, .base (.map none), .base (.map none), i64 0, .b false]]) 1) ++ [[.base (.pointer none), i64 0, i64 0, i64 0, i64 0, i64 0, i64 0, .b false]]) (gW (Gc ++ [[i64 0, .base (.map none), .base (.map none), i64 0, .b false]]) 1).length _ hWz (by decide); have q5 : Good Tryz.prog 17 [(.gp (gW (Gc ++ [[i64 0, .base (.map none), .base (.map none), i64 0, .b false]]) 1).length 0, false)] ((gW (Gc ++ [[i64 0, .base (.map none), .base (.map none), i64 0, .b false]]) 1) ++ [[.base (.pointer none), i64 0, i64 0, i64 0, i64 0, i64 0, i64 0, .b false]]) [(i64 0, false)] ((gW (Gc ++ [[i64 0, .base (.map none), .base (.map none), i64 0, .b false]]) 1) ++ [[.base (.pointer none), i64 0, i64 0, i64 0, i64 0, i64 0, i64 0, .b false]]) := good_RoomWz ((gW (Gc ++ [[i64 0, .base (.map none), .base (.map none), i64 0, .b false]]) 1) ++ [[.base (.pointer none), i64 0, i64 0, i64 0, i64 0, i64 0, i64 0, .b false]]) (gW (Gc ++ [[i64 0, .base (.map none), .base (.map none), i64 0, .b false]]) 1).length _ hWz; have q6 : Good Tryz.prog 18 [(.gp (gW (Gc ++ [[i64 0, .base (.map none), .base (.map none), i64 0, .b false]]) 1).length 0, false)] ((gW (Gc ++ [[i64 0, .base (.map none), .base (.map none), i64 0, .b false]]) 1) ++ [[.base (.pointer none), i64 0, i64 0, i64 0, i64 0, i64 0, i64 0, .b false]]) [(.b true, false)] ((gW (Gc ++ [[i64 0, .base (.map none), .base (.map none), i64 0, .b false]]) 1) ++ [[.base (.pointer none), i64 0, i64 0, i64 0, i64 0, i64 0, i64 0, .b false]]) := good_BrokenWz ((gW (Gc ++ [[i64 0, .base (.map none), .base (.map none), i64 0, .b false]]) 1) ++ [[.base (.pointer none), i64 0, i64 0, i64 0, i64 0, i64 0, i64 0, .b false]]) (gW (Gc ++ [[i64 0, .base (.map none), .base (.map none), i64 0, .b false]]) 1).length _ hWz)
        refine AW.region (cfg := cfgC) ?_
        refine stp (fun _ h => s0 h) ?_
        refine stp (fun _ h => cg (w := q1) (x := h)) ?_
        iterate 2 refine stp (fun _ h => s0 h) ?_
        refine mrg wa (fun hc _ h => s0 h) ?_
        refine mrg wa (fun hc _ h => cgn (w := q2) (x := h)) ?_
        refine mrg wa (fun hc _ h => s0 h) ?_
        iterate 2 refine stp (fun _ h => s0 h) ?_
        refine mrg wa (fun hc _ h => s0 h) ?_
        refine mrg wa (fun hc _ h => cgn (w := q3) (x := h)) ?_
        refine mrg wa (fun hc _ h => s0 h) ?_
        iterate 2 refine stp (fun _ h => s0 h) ?_
        refine mrg wa (fun hc _ h => s0 h) ?_
        refine mrg wa (fun hc _ h => cgn (w := q4) (x := h)) ?_
        refine mrg wa (fun hc _ h => s0 h) ?_
        iterate 2 refine stp (fun _ h => s0 h) ?_
        refine mrg wa (fun hc _ h => s0 h) ?_
        refine mrg wa (fun hc _ h => cgn (w := q5) (x := h)) ?_
        refine mrg wa (fun hc _ h => s0 h) ?_
        iterate 2 refine stp (fun _ h => s0 h) ?_
        refine mrg wa (fun hc _ h => s0 h) ?_
        refine mrg wa (fun hc _ h => cgn (w := q6) (x := h)) ?_
        refine mrg wa (fun hc _ h => s0 h) ?_
        refine stp (fun _ h => s0 h) ?_
        refine aops_nil ?_
        refine cnd (fun hb => ?ht7) (fun hb => ?hf7)
        case ht7 => (simp at hb; done)
        case hf7 =>
        have hbt217 := hb
        refine AW.skip ?_
        refine AW.region (cfg := cfgC) ?_
        refine stp (fun _ h => s0 h) ?_
        refine stp (fun _ h => sd h) ?_
        refine stp (fun _ h => s0 h) ?_
        refine aops_nil ?_
        refine ⟨_, _, rfl, ?_, (by intro i; simp [Mem.set, hr]), (by rfl)⟩ <;> try simp (disch := first | omega | decide) only [go_sem, F, aIndex_map]
        all_goals rfl
      case hf6 =>
        have hw187 := hb
        try simp only [bo1, bo2, bo3, bo4, bo5, bo6] at hb
        have hbt187 := hb
        refine AW.skip ?_
        refine AW.seq ?_
        (have hk1 : k = 0 := (by omega); subst hk1; have hmo : ∃ mo, m = ⟨mo, gW (Gc ++ [[i64 0, .base (.map none), .base (.map none), i64 0, .b false]]) 0⟩ := ⟨m.objs, by (cases m; simp only at hG; rw [hG])⟩; obtain ⟨mo, hmo2⟩ := hmo; subst hmo2; simp only at hr; have q1 : Good Tryz.prog 10 [(.base (.pointer none), false), (.sl 0 true ([] : List AV), false)] (gW (Gc ++ [[i64 0, .base (.map none), .base (.map none), i64 0, .b false]]) 0) [(i64 6, false)] (gW (Gc ++ [[i64 0, .base (.map none), .base (.map none), i64 0, .b false]]) 0) := (good_CommitW0 (gW (Gc ++ [[i64 0, .base (.map none), .base (.map none), i64 0, .b false]]) 0) true []).nil1 (s' := 0); have q2 : Good Tryz.prog 11 [(.base (.pointer none), false), (.sl 0 true ([] : List AV), false)] (gW (Gc ++ [[i64 0, .base (.map none), .base (.map none), i64 0, .b false]]) 0) [(i64 6, false)] (gW (Gc ++ [[i64 0, .base (.map none), .base (.map none), i64 0, .b false]]) 0) := (good_TurnW0 (gW (Gc ++ [[i64 0, .base (.map none), .base (.map none), i64 0, .b false]]) 0) true []).nil1 (s' := 0); have q3 : Good Tryz.prog 15 [(.base (.pointer none), false)] (gW (Gc ++ [[i64 0, .base (.map none), .base (.map none), i64 0, .b false]]) 0) [(i64 0, false)] (gW (Gc ++ [[i64 0, .base (.map none), .base (.map none), i64 0, .b false]]) 0) := good_GenW0 (gW (Gc ++ [[i64 0, .base (.map none), .base (.map none), i64 0, .b false]]) 0); have q4 : Good Tryz.prog 16 [(.base (.pointer none), false)] (gW (Gc ++ [[i64 0, .base (.map none), .base (.map none), i64 0, .b false]]) 0) [(i64 0, false)] (gW (Gc ++ [[i64 0, .base (.map none), .base (.map none), i64 0, .b false]]) 0) := good_FreeW0 (gW (Gc ++ [[i64 0, .base (.map none), .base (.map none), i64 0, .b false]]) 0); have q5 : Good Tryz.prog 17 [(.base (.pointer none), false)] (gW (Gc ++ [[i64 0, .base (.map none), .base (.map none), i64 0, .b false]]) 0) [(i64 0, false)] (gW (Gc ++ [[i64 0, .base (.map none), .base (.map none), i64 0, .b false]]) 0) := good_RoomW0 (gW (Gc ++ [[i64 0, .base (.map none), .base (.map none), i64 0, .b false]]) 0); have q6 : Good Tryz.prog 18 [(.base (.pointer none), false)] (gW (Gc ++ [[i64 0, .base (.map none), .base (.map none), i64 0, .b false]]) 0) [(.b true, false)] (gW (Gc ++ [[i64 0, .base (.map none), .base (.map none), i64 0, .b false]]) 0) := good_BrokenW0 (gW (Gc ++ [[i64 0, .base (.map none), .base (.map none), i64 0, .b false]]) 0))
        refine AW.region (cfg := cfgC) ?_
        refine stp (fun _ h => s0 h) ?_
        refine stp (fun _ h => cg (w := q1) (x := h)) ?_
        iterate 2 refine stp (fun _ h => s0 h) ?_
        refine mrg wa (fun hc _ h => s0 h) ?_
        refine mrg wa (fun hc _ h => cgn (w := q2) (x := h)) ?_
        refine mrg wa (fun hc _ h => s0 h) ?_
        iterate 2 refine stp (fun _ h => s0 h) ?_
        refine mrg wa (fun hc _ h => s0 h) ?_
        refine mrg wa (fun hc _ h => cgn (w := q3) (x := h)) ?_
        refine mrg wa (fun hc _ h => s0 h) ?_
        iterate 2 refine stp (fun _ h => s0 h) ?_
        refine mrg wa (fun hc _ h => s0 h) ?_
        refine mrg wa (fun hc _ h => cgn (w := q4) (x := h)) ?_
        refine mrg wa (fun hc _ h => s0 h) ?_
        iterate 2 refine stp (fun _ h => s0 h) ?_
        refine mrg wa (fun hc _ h => s0 h) ?_
        refine mrg wa (fun hc _ h => cgn (w := q5) (x := h)) ?_
        refine mrg wa (fun hc _ h => s0 h) ?_
        iterate 2 refine stp (fun _ h => s0 h) ?_
        refine mrg wa (fun hc _ h => s0 h) ?_
        refine mrg wa (fun hc _ h => cgn (w := q6) (x := h)) ?_
        refine mrg wa (fun hc _ h => s0 h) ?_
        refine stp (fun _ h => s0 h) ?_
        refine aops_nil ?_
        refine cnd (fun hb => ?ht8) (fun hb => ?hf8)
        case ht8 => (simp at hb; done)
        case hf8 =>
        have hbt217 := hb
        refine AW.skip ?_
        refine AW.region (cfg := cfgC) ?_
        refine stp (fun _ h => s0 h) ?_
        refine stp (fun _ h => sd h) ?_
        refine stp (fun _ h => s0 h) ?_
        refine aops_nil ?_
        refine ⟨_, _, rfl, ?_, (by intro i; simp [Mem.set, hr]), (by exact hG)⟩ <;> try simp (disch := first | omega | decide) only [go_sem, F, aIndex_map]
        all_goals rfl
    · clear F f0 f1 hr hG
      rintro σ ⟨s, m, rfl, f34, hr, hG⟩
      have F := (And.intro f34 hG)
      refine AW.seq ?_
      refine AW.seq ?_
      refine AW.region (cfg := cfgC) ?_
      iterate 2 refine stp (fun _ h => s0 h) ?_
      refine aops_nil ?_
      refine cnd (fun hb => ?ht9) (fun hb => ?hf9)
      case ht9 => (simp at hb; done)
      case hf9 =>
      have hbt183 := hb
      refine AW.exit ?_
      refine AW.seq ?_
      refine AW.region (cfg := cfgC) ?_
      refine stp (fun _ h => cs (w := good_awake8) (x := h)) ?_
      refine stp (fun _ h => s0 h) ?_
      refine aops_nil ?_
      refine AW.ret ?_
      refine ⟨.inr rfl, ?_⟩
      apply Exists.intro
      refine leaves_tmp1 4 rfl ?_ (by rfl)
      simp (disch := first | omega | decide) only [go_sem, F, aIndex_map]
      all_goals first | done | rfl | trace_state
end Go.Vai.WK
