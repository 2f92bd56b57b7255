import Derived.Test.YtencjgkeflibdaaGreatM6
import Derived.Test.YtencjgkeflibdaaGreatM4
namespace Go.Vai.WK
open Go.Proofs Go.Vai Go.Vai.DK Go.Vai.G Go.Vai.L Go.Vai.MP Go.Vai.O Go.Vai.RC Go.Vai.S7 Go.Vai.U Go.Vai.V Go.Vai.Z
set_option linter.unusedSimpArgs false
set_option linter.unusedVariables false
set_option maxHeartbeats 4000000
set_option maxRecDepth 100000
open Go.Vai.DK Go.Vai.U Go.Vai.V Go.Vai.S7 Go.Vai.RC Go.Vai.G
theorem good_awake8  : Good Tryz.prog 8 [] [] [(.b true, false)] [] := by
  refine good_of_body4 99 Tryz.func8 rfl rfl rfl (by simp) (by simp) (by simp [noPtrL, noPtr]) (by rfl) ?_
  intro s m ha hr hv hG
  clear ha
  have hc : True := trivial
  have F := hG
  refine AW.seq ?_
  refine AW.region (cfg := cfg) ?_
  refine stp (fun _ h => s0 h) ?_
  refine aops_nil ?_
  refine AW.seq ?_
  refine AW.region (cfg := cfg) ?_
  refine stp (fun _ h => cg (w := (DK.good_NewG [] 20 (by decide) : Good _ _ _ [] [(.gp 2 0, false), (i64 0, false)] _)) (x := h)) ?_
  iterate 5 refine stp (fun _ h => s0 h) ?_
  refine aops_nil ?_
  refine AW.seq ?_
  refine AW.seq ?_
  obtain ⟨y0, hy0⟩ : ∃ y0, y0 = newD 20 := ⟨_, rfl⟩
  have hD1 : HasD (DK.newG [] 20) 2 0 1 y0 := by rw [hy0]; exact new_has [] 20
  obtain ⟨a1, a2, a3, a4, a5, a6, a7, a8, a9, a10⟩ := aw_1 hy0
  obtain ⟨l1, l2, _⟩ := aw_l a5 a6
  refine AW.region (cfg := cfg) ?_
  iterate 3 refine stp (fun _ h => s0 h) ?_
  iterate 2 refine mrg wa (fun hc _ h => s0 h) ?_
  refine stp (fun _ h => s0 h) ?_
  refine aops_nil ?_
  refine cnd (fun hb => ?ht1) (fun hb => ?hf1)
  case ht1 => (simp at hb; done)
  case hf1 =>
  have hbt21 := hb
  refine AW.skip ?_
  refine AW.seq ?_
  have hF1 : Fine y0 := by rw [hy0]; exact new_fine (n := 20) (by decide)
  refine AW.region (cfg := cfg) ?_
  refine stp (fun _ h => s0 h) ?_
  refine stp (fun _ h => cg (w := good_OpenW (DK.newG [] 20) 2 0 1 y0 hD1 hF1) (x := h)) ?_
  iterate 9 refine stp (fun _ h => s0 h) ?_
  refine aops_nil ?_
  refine AW.seq ?_
  refine AW.seq ?_
  have hB2 : HasB (outG (DK.newG [] 20) 2 0 1 y0) 3 2 0 1 (openX y0).x (openX y0).y := out_has hD1 a1
  have hx2 := hB2.hx
  have F := And.intro a2 F
  have F := And.intro a3 F
  have F := And.intro a4 F
  have F := And.intro a8 F
  have F := And.intro a9 F
  have F := And.intro l1 F
  have F := And.intro l2 F
  refine AW.region (cfg := cfg) ?_
  iterate 3 refine stp (fun _ h => s0 h) ?_
  iterate 2 refine mrg wa (fun hc _ h => s0 h) ?_
  iterate 2 refine stp (fun _ h => s0 h) ?_
  refine mrg wa (fun hc _ h => s0 h) ?_
  refine mrg wa (fun hc _ h => sd h) ?_
  refine mrg wa (fun hc _ h => s0 h) ?_
  iterate 2 refine stp (fun _ h => s0 h) ?_
  refine mrg wa (fun hc _ h => s0 h) ?_
  refine mrg wa (fun hc _ h => sd h) ?_
  refine mrg wa (fun hc _ h => s0 h) ?_
  iterate 2 refine stp (fun _ h => s0 h) ?_
  refine mrg wa (fun hc _ h => s0 h) ?_
  refine mrg wa (fun hc _ h => cgn (w := good_GenW (outG (DK.newG [] 20) 2 0 1 y0) 3 2 (openX y0).x hB2.hW) (x := h)) ?_
  refine mrg wa (fun hc _ h => s0 h) ?_
  iterate 2 refine stp (fun _ h => s0 h) ?_
  refine mrg wa (fun hc _ h => s0 h) ?_
  refine mrg wa (fun hc _ h => cgn (w := good_FreeW (outG (DK.newG [] 20) 2 0 1 y0) 3 2 (openX y0).x hB2.hW (by omega)) (x := h)) ?_
  refine mrg wa (fun hc _ h => s0 h) ?_
  iterate 2 refine stp (fun _ h => s0 h) ?_
  refine mrg wa (fun hc _ h => s0 h) ?_
  refine mrg wa (fun hc _ h => cgn (w := good_RoomW (outG (DK.newG [] 20) 2 0 1 y0) 3 2 (openX y0).x hB2.hW) (x := h)) ?_
  refine mrg wa (fun hc _ h => s0 h) ?_
  refine stp (fun _ h => s0 h) ?_
  refine aops_nil ?_
  refine cnd (fun hb => ?ht2) (fun hb => ?hf2)
  case ht2 => (simp at hb; done)
  case hf2 =>
  have hbt59 := hb
  refine AW.skip ?_
  refine AW.seq ?_
  obtain ⟨c1, c2, c3, c4, c5, c6, c7⟩ := com_one (c := 7#8) a5 (by omega) (by omega)
  refine AW.region (cfg := cfg) ?_
  refine stp (fun _ h => s0 h) ?_
  refine stp (fun _ h => sq h) ?_
  refine stp (fun _ h => cg (w := good_CommitW (outG (DK.newG [] 20) 2 0 1 y0) 3 2 0 1 (openX y0).x (openX y0).y hB2 a5.f a5.ok false [7#8] (by decide) (fun h => by cases h)) (x := h)) ?_
  refine stp (fun _ h => s0 h) ?_
  refine aops_nil ?_
  refine AW.seq ?_
  have hB3 : HasB (wrB (outG (DK.newG [] 20) 2 0 1 y0) 3 2 0 1 (comX (openX y0).x (openX y0).y [7#8]).1 (comX (openX y0).x (openX y0).y [7#8]).2.1) 3 2 0 1 (comX (openX y0).x (openX y0).y [7#8]).1 (comX (openX y0).x (openX y0).y [7#8]).2.1 := wb_has hB2
  have F := And.intro c1 F
  refine AW.region (cfg := cfg) ?_
  refine stp (fun _ h => s0 h) ?_
  refine stp (fun _ h => cg (w := (DK.good_CrashG (wrB (outG (DK.newG [] 20) 2 0 1 y0) 3 2 0 1 (comX (openX y0).x (openX y0).y [7#8]).1 (comX (openX y0).x (openX y0).y [7#8]).2.1) 2 0 1 (comX (openX y0).x (openX y0).y [7#8]).2.1 hB3.hD c2.f true [] (by decide) (fun t h => by cases h)).nil1 (s' := 0)) (x := h)) ?_
  refine aops_nil ?_
  refine AW.seq ?_
  have hB4 : HasB (wrD (wrB (outG (DK.newG [] 20) 2 0 1 y0) 3 2 0 1 (comX (openX y0).x (openX y0).y [7#8]).1 (comX (openX y0).x (openX y0).y [7#8]).2.1) 2 0 1 (crashD (comX (openX y0).x (openX y0).y [7#8]).2.1 [])) 3 2 0 1 (comX (openX y0).x (openX y0).y [7#8]).1 (crashD (comX (openX y0).x (openX y0).y [7#8]).2.1 []) := hasB_D hB3
  have hF4 : Fine (crashD (comX (openX y0).x (openX y0).y [7#8]).2.1 []) := crash_fine c2.f
  obtain ⟨o1, o2, o3, o4, o5, o6⟩ := aw_3 c2 (c6.trans a6) (by omega) (c4.trans a8) (c5.trans a10)
  refine AW.region (cfg := cfg) ?_
  refine stp (fun _ h => s0 h) ?_
  refine stp (fun _ h => cg (w := good_OpenW (wrD (wrB (outG (DK.newG [] 20) 2 0 1 y0) 3 2 0 1 (comX (openX y0).x (openX y0).y [7#8]).1 (comX (openX y0).x (openX y0).y [7#8]).2.1) 2 0 1 (crashD (comX (openX y0).x (openX y0).y [7#8]).2.1 [])) 2 0 1 (crashD (comX (openX y0).x (openX y0).y [7#8]).2.1 []) hB4.hD hF4) (x := h)) ?_
  iterate 9 refine stp (fun _ h => s0 h) ?_
  refine aops_nil ?_
  refine AW.seq ?_
  have hB5 := out_has hB4.hD o2
  have hx5 := hB5.hx
  have F := And.intro o1 F
  have F := And.intro o3 F
  have F := And.intro o4 F
  have F := And.intro o5 F
  refine AW.region (cfg := cfg) ?_
  iterate 3 refine stp (fun _ h => s0 h) ?_
  iterate 2 refine mrg wa (fun hc _ h => s0 h) ?_
  iterate 2 refine stp (fun _ h => s0 h) ?_
  iterate 2 refine mrg wa (fun hc _ h => s0 h) ?_
  iterate 2 refine stp (fun _ h => s0 h) ?_
  refine mrg wa (fun hc _ h => s0 h) ?_
  refine mrg wa (fun hc _ h => sd h) ?_
  refine mrg wa (fun hc _ h => s0 h) ?_
  iterate 2 refine stp (fun _ h => s0 h) ?_
  refine mrg wa (fun hc _ h => s0 h) ?_
  refine mrg wa (fun hc _ h => si h) ?_
  refine mrg wa (fun hc _ h => sl h) ?_
  refine mrg wa (fun hc _ h => sd h) ?_
  refine mrg wa (fun hc _ h => s0 h) ?_
  iterate 2 refine stp (fun _ h => s0 h) ?_
  refine mrg wa (fun hc _ h => s0 h) ?_
  refine mrg wa (fun hc _ h => cgn (w := good_FreeW (outG (wrD (wrB (outG (DK.newG [] 20) 2 0 1 y0) 3 2 0 1 (comX (openX y0).x (openX y0).y [7#8]).1 (comX (openX y0).x (openX y0).y [7#8]).2.1) 2 0 1 (crashD (comX (openX y0).x (openX y0).y [7#8]).2.1 [])) 2 0 1 (crashD (comX (openX y0).x (openX y0).y [7#8]).2.1 [])) ((wrD (wrB (outG (DK.newG [] 20) 2 0 1 y0) 3 2 0 1 (comX (openX y0).x (openX y0).y [7#8]).1 (comX (openX y0).x (openX y0).y [7#8]).2.1) 2 0 1 (crashD (comX (openX y0).x (openX y0).y [7#8]).2.1 []))).length 2 (openX (crashD (comX (openX y0).x (openX y0).y [7#8]).2.1 [])).x hB5.hW (by omega)) (x := h)) ?_
  refine mrg wa (fun hc _ h => s0 h) ?_
  iterate 2 refine stp (fun _ h => s0 h) ?_
  refine aops_nil ?_
  refine AW.ret ?_
  refine ⟨.inr rfl, ?_⟩
  apply Exists.intro
  refine leaves_tmp1 0 rfl ?_ (by rfl)
  simp (disch := first | omega | decide) only [go_sem, F, aIndex_map]
  all_goals rfl
end Go.Vai.WK
namespace Go.Vai.WK
open Go.Proofs Go.Vai Go.Vai.DK Go.Vai.G Go.Vai.L Go.Vai.MP Go.Vai.O Go.Vai.RC Go.Vai.S7 Go.Vai.U Go.Vai.V Go.Vai.W8 Go.Vai.Z
set_option linter.unusedSimpArgs false
set_option linter.unusedVariables false
set_option maxHeartbeats 4000000
set_option maxRecDepth 100000
open Go.Vai.DK Go.Vai.U Go.Vai.V Go.Vai.S7 Go.Vai.RC Go.Vai.G Go.Vai.W8
attribute [simp] noPtr_ps noPtrL_ps noPtrL_act8 noPtrL_tear
theorem good_WalTwice (X : BitVec 8) (nil : Bool) (l : List Act8) (hl : l.length ≤ 9223372036854775807) (htb : ∀ a ∈ l, a.ts.length ≤ 9223372036854775807 ∧ ∀ t ∈ a.ts, t.b.length ≤ 9223372036854775807) : Good Tryz.prog 4 [(u8 X, false), (.sl 4 nil (l.map act8A), false)] [] [(.b true, false)] [] := by
  refine good_of_body4 184 Tryz.func4 rfl rfl rfl (by simp) (by simp) (by simp [noPtrL, noPtr]) (by rfl) ?_
  intro s m ha hr hv hG
  have f0 : s 0 = .v (u8 X) := ha 0 _ rfl
  have f1 : s 1 = .v (.sl 4 nil (l.map act8A)) := ha 1 _ rfl
  clear ha
  have hc : True := trivial
  have F := (And.intro f0 (And.intro f1 hG))
  obtain ⟨N, eN⟩ : ∃ N, N = l.length := ⟨_, rfl⟩
  refine AW.seq ?_
  refine AW.region (cfg := cfg) ?_
  refine stp (fun _ h => s0 h) ?_
  refine aops_nil ?_
  refine AW.seq ?_
  refine AW.seq ?_
  refine AW.region (cfg := cfg) ?_
  refine stp (fun _ h => s0 h) ?_
  refine stp (fun _ h => cs (w := good_Light8 nil l hl htb) (x := h)) ?_
  refine stp (fun _ h => s0 h) ?_
  refine aops_nil ?_
  refine cnd (fun hb => ?ht1) (fun hb => ?hf1)
  case ht1 =>
    have hw26 := hb
    try simp only [bo1, bo2, bo3, bo4, bo5, bo6] at hb
    have hbt26 := hb
    refine AW.seq ?_
    refine AW.region (cfg := cfg) ?_
    refine stp (fun _ h => cs (w := good_awake8) (x := h)) ?_
    refine stp (fun _ h => s0 h) ?_
    refine aops_nil ?_
    refine AW.ret ?_
    refine ⟨.inr rfl, ?_⟩
    apply Exists.intro
    refine leaves_tmp1 4 rfl ?_ (by rfl)
    simp (disch := first | omega | decide) only [go_sem, F, aIndex_map]
    all_goals first | done | rfl | trace_state
  case hf1 =>
    have hw26 := hb
    try simp only [bo1, bo2, bo3, bo4, bo5, bo6] at hb
    have hbt26 := hb
    refine AW.skip ?_
    refine AW.seq ?_
    have hpn : 6 ≤ placeS X ∧ placeS X ≤ 41 := by (rw [placeS]; omega)
    have hl8 := l8_bd (l := l) (by simpa using hbt26)
    refine AW.region (cfg := cfg) ?_
    refine stp (fun _ h => s0 h) ?_
    refine stp (fun _ h => cs (w := good_place X) (x := h)) ?_
    refine stp (fun _ h => cg (w := (DK.good_NewG [] (placeS X) (by omega) : Good _ _ _ [] [(.gp 2 0, false), (i64 0, false)] _)) (x := h)) ?_
    iterate 5 refine stp (fun _ h => s0 h) ?_
    refine aops_nil ?_
    refine AW.seq ?_
    refine AW.seq ?_
    obtain ⟨y0, hy0⟩ : ∃ y0, y0 = newD (placeS X) := ⟨_, rfl⟩
    have hD1 : HasD (DK.newG [] (placeS X)) 2 0 1 y0 := by rw [hy0]; exact new_has [] _
    have hF1 : Fine y0 := by rw [hy0]; exact new_fine (by omega)
    refine AW.region (cfg := cfg) ?_
    iterate 3 refine stp (fun _ h => s0 h) ?_
    iterate 2 refine mrg wa (fun hc _ h => s0 h) ?_
    refine stp (fun _ h => s0 h) ?_
    refine aops_nil ?_
    refine cnd (fun hb => ?ht2) (fun hb => ?hf2)
    case ht2 => (simp at hb; done)
    case hf2 =>
    have hbt39 := hb
    refine AW.skip ?_
    refine AW.seq ?_
    refine AW.region (cfg := cfg) ?_
    refine stp (fun _ h => s0 h) ?_
    refine stp (fun _ h => cg (w := good_OpenW (DK.newG [] (placeS X)) 2 0 1 y0 hD1 hF1) (x := h)) ?_
    iterate 9 refine stp (fun _ h => s0 h) ?_
    refine aops_nil ?_
    refine AW.seq ?_
    refine AW.seq ?_
    obtain ⟨a1, a2, a3, a4, a5, a6, a7, a8, a9, a10⟩ : (openX y0).made = true ∧ (openX y0).e = 0 ∧ (openX y0).b = [] ∧ (openX y0).rs = [] ∧ WInv (openX y0).x (openX y0).y [] [] ∧ (openX y0).y.n = placeS X ∧ (openX y0).y.armed = -1 ∧ (openX y0).x.gen = 1 ∧ (openX y0).x.next = 0 ∧ (openX y0).x.mark = 1 := by rw [hy0]; exact open_new (by omega)
    obtain ⟨zt0, hs0⟩ : ∃ zt0 : ST, zt0 = ⟨outG (DK.newG [] (placeS X)) 2 0 1 y0, (openX y0).y, some (3, (openX y0).x)⟩ := ⟨_, rfl⟩
    have hB2 : HasB (outG (DK.newG [] (placeS X)) 2 0 1 y0) 3 2 0 1 (openX y0).x (openX y0).y := out_has hD1 a1
    have hT0 := t_of a5
    rw [a6] at hT0
    have hS0 : STok (placeS X) zt0 := by (rw [hs0]; exact ⟨hB2.hD, ⟨_, hT0⟩, fun w' x' e => by (obtain ⟨rfl, rfl⟩ := Prod.mk.inj (Option.some.inj e); exact ⟨hB2, (by rw [← a6]; exact a5.ok), hT0⟩)⟩)
    have p0 : outP (DK.newG [] (placeS X)).length (openX y0).e = wAV zt0.w := by rw [a2, hs0]; exact outP_0 _
    have F := And.intro p0 F
    refine AW.region (cfg := cfg) ?_
    refine stp (fun _ h => s0 h) ?_
    refine aops_nil ?_
    refine AW.block ?_
    refine AW.forN (fun N σ => ∃ s m, σ = ⟨184, s, m⟩ ∧ s 1 = .v (.sl 4 nil (l.map act8A)) ∧ s 5 = .v (.gp 2 0) ∧ s 7 = .v (wAV (stS zt0 l N).w) ∧ s 11 = .v (i64 (N : Int)) ∧ (STok (placeS X) (stS zt0 l N)) ∧ (∀ i, (m.objs (.res i)).2 = .dead) ∧ m.G = (stS zt0 l N).G) (N) ?_ ?_ ?_
    · refine ⟨_, _, rfl, ?_, ?_, ?_, ?_, ?_, (by intro i; simp [Mem.set, hr]), (by (rw [hs0]; rfl))⟩ <;> try simp (disch := first | omega | decide) only [go_sem, F, aIndex_map]
      all_goals first | rfl | exact hS0
    · clear F f0 f1 hr hG
      rintro N σ hN ⟨s, m, rfl, f1, f5, f7, f11, mo0, hr, hG⟩
      have F := (And.intro f1 (And.intro f5 (And.intro f7 (And.intro f11 (And.intro p0 hG)))))
      refine AW.seq ?_
      refine AW.seq ?_
      obtain ⟨hD, ⟨p, hT⟩, hW⟩ := mo0
      rcases h9 : (stS zt0 l N).w with _ | ⟨w, x⟩
      · skip
        have F := And.intro h9 F
        refine AW.region (cfg := cfg) ?_
        iterate 2 refine stp (fun _ h => s0 h) ?_
        refine stp (fun _ h => sd h) ?_
        iterate 2 refine stp (fun _ h => s0 h) ?_
        iterate 2 refine mrg wa (fun hc _ h => s0 h) ?_
        refine stp (fun _ h => s0 h) ?_
        refine aops_nil ?_
        refine cnd (fun hb => ?ht3) (fun hb => ?hf3)
        case ht3 => (simp at hb; done)
        case hf3 =>
        have hbt54 := hb
        refine AW.exit ?_
        refine AW.seq ?_
        obtain ⟨zst, hok, hG2⟩ : ∃ zst, STok (placeS X) zst ∧ m.G = zst.G := by exact ⟨_, stS_ok hS0 _, hG⟩
        clear hG F
        have hG := hG2
        try rw [hG2] at f5
        obtain ⟨hD, ⟨p, hT⟩, _⟩ := hok
        obtain ⟨z, hz⟩ : ∃ z, z = crashD zst.y [] := ⟨_, rfl⟩
        have hTz : TInv (placeS X) z p := by rw [hz]; exact t_crash hT []
        have hzo : offD z = false := by rw [hz]; exact crash_off [] hT.f
        have hzw : ∀ i, z.waits i = none := by rw [hz]; exact fun _ => rfl
        obtain ⟨o1, o2⟩ := t_open hTz hzo hzw
        have hDz : HasD (wrD zst.G 2 0 1 z) 2 0 1 z := wr_has hD
        have hcr : Good Tryz.prog 23 [(.gp 2 0, false), (.sl 0 true [], false)] zst.G [] (wrD zst.G 2 0 1 z) := by (rw [hz]; exact (DK.good_CrashG zst.G 2 0 1 zst.y hD hT.f true [] (by decide) (fun t h => by cases h)).nil1 (s' := 0))
        have F := (And.intro f1 (And.intro f5 (And.intro f7 (And.intro f11 (And.intro p0 (And.intro h9 hG))))))
        refine AW.region (cfg := cfg) ?_
        refine stp (fun _ h => s0 h) ?_
        refine stp (fun _ h => cg (w := hcr) (x := h)) ?_
        refine aops_nil ?_
        refine AW.seq ?_
        refine AW.region (cfg := cfg) ?_
        refine stp (fun _ h => s0 h) ?_
        refine stp (fun _ h => cg (w := good_OpenW (wrD zst.G 2 0 1 z) 2 0 1 z hDz hTz.f) (x := h)) ?_
        iterate 9 refine stp (fun _ h => s0 h) ?_
        refine aops_nil ?_
        refine AW.seq ?_
        refine AW.seq ?_
        have hD2 : HasD (outG (wrD zst.G 2 0 1 z) 2 0 1 z) 2 0 1 z := by (have := out_hasD hDz; rw [o1] at this; exact this)
        refine AW.region (cfg := cfg) ?_
        iterate 2 refine stp (fun _ h => s0 h) ?_
        refine aops_nil ?_
        refine cnd (fun hb => ?ht4) (fun hb => ?hf4)
        case ht4 =>
          have hw116 := hb
          try simp only [bo1, bo2, bo3, bo4, bo5, bo6] at hb
          have hbt116 := hb
          refine AW.seq ?_
          refine AW.region (cfg := cfg) ?_
          refine stp (fun _ h => s0 h) ?_
          refine stp (fun _ h => cg (w := good_OpenW (outG (wrD zst.G 2 0 1 z) 2 0 1 z) 2 0 1 z hD2 hTz.f) (x := h)) ?_
          iterate 9 refine stp (fun _ h => s0 h) ?_
          refine aops_nil ?_
          refine AW.seq ?_
          have p1 : ∀ q, outP q (openX z).e = .base (.pointer none) := fun q => outP_n hbt116
          have F := And.intro p1 F
          refine AW.region (cfg := cfg) ?_
          iterate 4 refine stp (fun _ h => s0 h) ?_
          iterate 2 refine mrg wa (fun hc _ h => s0 h) ?_
          iterate 2 refine stp (fun _ h => s0 h) ?_
          refine mrg wa (fun hc _ h => cs (w := good_awake8) (x := h)) ?_
          iterate 2 refine stp (fun _ h => s0 h) ?_
          refine aops_nil ?_
          refine AW.ret ?_
          refine ⟨.inr rfl, ?_⟩
          apply Exists.intro
          refine leaves_tmp1 4 rfl ?_ (by rfl)
          simp (disch := first | omega | decide) only [go_sem, F, aIndex_map]
          all_goals rfl
        case hf4 =>
          have hw116 := hb
          try simp only [bo1, bo2, bo3, bo4, bo5, bo6] at hb
          have hbt116 := hb
          refine AW.skip ?_
          refine AW.seq ?_
          have hez : (openX z).e = 0 := Decidable.not_not.1 hbt116
          obtain ⟨q1, q2, q3⟩ := o2 hez
          have hB3 := out_has hDz q3
          have hnx := q1.nx
          have hpb := pl_bd hTz.hn
          have hxl := q1.l
          refine AW.region (cfg := cfg) ?_
          refine stp (fun _ h => s0 h) ?_
          refine stp (fun _ h => cg (w := good_OpenW (outG (wrD zst.G 2 0 1 z) 2 0 1 z) 2 0 1 z hD2 hTz.f) (x := h)) ?_
          iterate 9 refine stp (fun _ h => s0 h) ?_
          refine aops_nil ?_
          refine AW.seq ?_
          have hB4 := out_has hD2 q3
          have hW4 := out_keep hB3.hW hD2 hB3.ne.1 hB3.ne.2.1 hB3.ne.2.2
          have hD3 : HasD (outG (outG (wrD zst.G 2 0 1 z) 2 0 1 z) 2 0 1 z) 2 0 1 z := by (have := out_hasD hD2; rw [o1] at this; exact this)
          have hwl : waitL z = [] := by (rw [waitL, List.filter_eq_nil_iff]; intro i _; rw [hzw]; decide)
          have hbb := open_bl hTz.f hzo
          obtain ⟨hrr1, hrr2⟩ := open_rl hTz.f hzo
          have htx : txts (openX z).rs (openX z).rs = true := decide_eq_true rfl
          have F := And.intro hez F
          have F := And.intro hwl F
          have F := And.intro htx F
          refine AW.region (cfg := cfg) ?_
          iterate 3 refine stp (fun _ h => s0 h) ?_
          iterate 2 refine mrg wa (fun hc _ h => s0 h) ?_
          iterate 2 refine stp (fun _ h => s0 h) ?_
          iterate 2 refine mrg wa (fun hc _ h => s0 h) ?_
          iterate 2 refine stp (fun _ h => s0 h) ?_
          iterate 2 refine mrg wa (fun hc _ h => s0 h) ?_
          refine mrg wa (fun hc _ h => cs (w := O.good_Same _ _ (openX z).b (openX z).b hbb hbb) (x := h)) ?_
          iterate 2 refine stp (fun _ h => s0 h) ?_
          iterate 2 refine mrg wa (fun hc _ h => s0 h) ?_
          refine mrg wa (fun hc _ h => cs (w := W8.good_texts _ _ (openX z).rs (openX z).rs hrr1 hrr1 hrr2 hrr2) (x := h)) ?_
          iterate 2 refine stp (fun _ h => s0 h) ?_
          refine mrg wa (fun hc _ h => s0 h) ?_
          refine mrg wa (fun hc _ h => cgn (w := good_GenW (outG (outG (wrD zst.G 2 0 1 z) 2 0 1 z) 2 0 1 z) (wrD zst.G 2 0 1 z).length 2 (openX z).x hW4) (x := h)) ?_
          refine mrg wa (fun hc _ h => s0 h) ?_
          refine mrg wa (fun hc _ h => cgn (w := good_GenW (outG (outG (wrD zst.G 2 0 1 z) 2 0 1 z) 2 0 1 z) (outG (wrD zst.G 2 0 1 z) 2 0 1 z).length 2 (openX z).x hB4.hW) (x := h)) ?_
          refine mrg wa (fun hc _ h => s0 h) ?_
          iterate 2 refine stp (fun _ h => s0 h) ?_
          refine mrg wa (fun hc _ h => s0 h) ?_
          refine mrg wa (fun hc _ h => cgn (w := good_FreeW (outG (outG (wrD zst.G 2 0 1 z) 2 0 1 z) 2 0 1 z) (wrD zst.G 2 0 1 z).length 2 (openX z).x hW4 (by omega)) (x := h)) ?_
          refine mrg wa (fun hc _ h => s0 h) ?_
          refine mrg wa (fun hc _ h => cgn (w := good_FreeW (outG (outG (wrD zst.G 2 0 1 z) 2 0 1 z) 2 0 1 z) (outG (wrD zst.G 2 0 1 z) 2 0 1 z).length 2 (openX z).x hB4.hW (by omega)) (x := h)) ?_
          refine mrg wa (fun hc _ h => s0 h) ?_
          iterate 2 refine stp (fun _ h => s0 h) ?_
          refine mrg wa (fun hc _ h => s0 h) ?_
          refine mrg wa (fun hc _ h => cgn (w := MP.good_WaitsG (outG (outG (wrD zst.G 2 0 1 z) 2 0 1 z) 2 0 1 z) 2 0 1 z hD3 (small_w hTz.f) (waitL z) (wait_sorted z) (wait_mem hTz.f)) (x := h)) ?_
          refine mrg wa (fun hc _ h => sd h) ?_
          refine mrg wa (fun hc _ h => s0 h) ?_
          iterate 2 refine stp (fun _ h => s0 h) ?_
          refine mrg wa (fun hc _ h => cs (w := good_awake8) (x := h)) ?_
          iterate 2 refine stp (fun _ h => s0 h) ?_
          refine aops_nil ?_
          refine AW.ret ?_
          refine ⟨.inr rfl, ?_⟩
          apply Exists.intro
          refine leaves_tmp1 4 rfl ?_ (by rfl)
          simp (disch := first | omega | decide) only [go_sem, F, aIndex_map]
          all_goals rfl
      · skip
        have F := And.intro h9 F
        refine AW.region (cfg := cfg) ?_
        iterate 2 refine stp (fun _ h => s0 h) ?_
        refine stp (fun _ h => sd h) ?_
        iterate 2 refine stp (fun _ h => s0 h) ?_
        iterate 2 refine mrg wa (fun hc _ h => s0 h) ?_
        refine stp (fun _ h => s0 h) ?_
        refine aops_nil ?_
        refine cnd (fun hb => ?ht5) (fun hb => ?hf5)
        case hf5 => (simp at hb; omega)
        case ht5 =>
        have hbt54 := hb
        refine AW.skip ?_
        refine AW.seq ?_
        refine AW.block ?_
        refine AW.seq ?_
        obtain ⟨hB, hO, hT2⟩ := hW w x h9
        have hkl : N < l.length := by omega
        have eS := stS_next (s := zt0) hkl
        obtain ⟨hlk1, hlk2⟩ := hl8.2 _ (List.getElem_mem hkl)
        have h9m := mod9 l[N].n
        have hyn := hT.yn
        have hOy : WOK x (stS zt0 l N).y.n := by rw [hyn]; exact hO
        have hsa := hT.f.a
        refine AW.region (cfg := cfg) ?_
        iterate 2 refine stp (fun _ h => s0 h) ?_
        refine stp (fun _ h => si h) ?_
        refine stp (fun _ h => sx h) ?_
        refine stp (fun _ h => sl h) ?_
        refine aops_nil ?_
        refine AW.block ?_
        refine AW.seq ?_
        refine AW.region (cfg := cfg) ?_
        iterate 2 refine stp (fun _ h => s0 h) ?_
        refine aops_nil ?_
        refine cnd (fun hb => ?ht6) (fun hb => ?hf6)
        case ht6 =>
          have hw62 := hb
          try simp only [bo1, bo2, bo3, bo4, bo5, bo6] at hb
          have hbt62 := hb
          have e8 := eS.trans (step_0 h9 hbt62)
          have hbl := byS_len l[N].n l[N].c
          refine AW.region (cfg := cfg) ?_
          iterate 3 refine stp (fun _ h => s0 h) ?_
          refine stp (fun _ h => si h) ?_
          refine stp (fun _ h => sl h) ?_
          refine stp (fun _ h => cr (w := good_bytes8 l[N].d l[N].n l[N].c l[N].tn (l[N].ts.map tearA) (noPtrL_tear _)) (x := h)) ?_
          refine stp (fun _ h => cg (w := good_CommitW (stS zt0 l N).G w 2 0 1 x (stS zt0 l N).y hB hT.f hOy false (byS l[N].n l[N].c) (by omega) (fun h => by cases h)) (x := h)) ?_
          refine aops_nil ?_
          refine AW.region (cfg := cfg) ?_
          refine stp (fun _ h => s0 h) ?_
          refine stp (fun _ h => sd h) ?_
          refine stp (fun _ h => s0 h) ?_
          refine aops_nil ?_
          refine ⟨_, _, rfl, ?_, ?_, ?_, ?_, ?_, (by intro i; simp [Mem.set, hr]), (by (simp only [mset_G, hG]; rw [e8]))⟩ <;> try simp (disch := first | omega | decide) only [go_sem, F, aIndex_map]
          all_goals first | rfl | exact stS_ok hS0 _ | (rw [e8]; rfl)
        case hf6 =>
          have hw62 := hb
          try simp only [bo1, bo2, bo3, bo4, bo5, bo6] at hb
          have hbt62 := hb
          refine AW.seq ?_
          refine AW.region (cfg := cfg) ?_
          iterate 2 refine stp (fun _ h => s0 h) ?_
          refine aops_nil ?_
          refine cnd (fun hb => ?ht7) (fun hb => ?hf7)
          case ht7 =>
            have hw71 := hb
            try simp only [bo1, bo2, bo3, bo4, bo5, bo6] at hb
            have hbt71 := hb
            have e8 := eS.trans (step_1 h9 hbt62 hbt71)
            have hbl := byS_len l[N].n l[N].c
            refine AW.region (cfg := cfg) ?_
            iterate 3 refine stp (fun _ h => s0 h) ?_
            refine stp (fun _ h => si h) ?_
            refine stp (fun _ h => sl h) ?_
            refine stp (fun _ h => cr (w := good_bytes8 l[N].d l[N].n l[N].c l[N].tn (l[N].ts.map tearA) (noPtrL_tear _)) (x := h)) ?_
            refine stp (fun _ h => cg (w := good_TurnW (stS zt0 l N).G w 2 0 1 x (stS zt0 l N).y hB hT.f hOy false (byS l[N].n l[N].c) (by omega) (fun h => by cases h)) (x := h)) ?_
            refine aops_nil ?_
            refine AW.region (cfg := cfg) ?_
            refine stp (fun _ h => s0 h) ?_
            refine stp (fun _ h => sd h) ?_
            refine stp (fun _ h => s0 h) ?_
            refine aops_nil ?_
            refine ⟨_, _, rfl, ?_, ?_, ?_, ?_, ?_, (by intro i; simp [Mem.set, hr]), (by (simp only [mset_G, hG]; rw [e8]))⟩ <;> try simp (disch := first | omega | decide) only [go_sem, F, aIndex_map]
            all_goals first | rfl | exact stS_ok hS0 _ | (rw [e8]; rfl)
          case hf7 =>
            have hw71 := hb
            try simp only [bo1, bo2, bo3, bo4, bo5, bo6] at hb
            have hbt71 := hb
            refine AW.seq ?_
            refine AW.region (cfg := cfg) ?_
            iterate 2 refine stp (fun _ h => s0 h) ?_
            refine aops_nil ?_
            refine cnd (fun hb => ?ht8) (fun hb => ?hf8)
            case ht8 =>
              have hw80 := hb
              try simp only [bo1, bo2, bo3, bo4, bo5, bo6] at hb
              have hbt80 := hb
              have e8 := eS.trans (step_2 h9 hbt62 hbt71 hbt80)
              refine AW.region (cfg := cfg) ?_
              iterate 3 refine stp (fun _ h => s0 h) ?_
              refine stp (fun _ h => si h) ?_
              refine stp (fun _ h => sx h) ?_
              refine stp (fun _ h => sl h) ?_
              refine stp (fun _ h => sd h) ?_
              refine stp (fun _ h => cg (w := DK.good_ArmG (stS zt0 l N).G 2 0 1 (stS zt0 l N).y hD (l[N].n.tmod 9)) (x := h)) ?_
              refine aops_nil ?_
              refine AW.region (cfg := cfg) ?_
              refine stp (fun _ h => s0 h) ?_
              refine stp (fun _ h => sd h) ?_
              refine stp (fun _ h => s0 h) ?_
              refine aops_nil ?_
              refine ⟨_, _, rfl, ?_, ?_, ?_, ?_, ?_, (by intro i; simp [Mem.set, hr]), (by (simp only [mset_G, hG]; rw [e8]))⟩ <;> try simp (disch := first | omega | decide) only [go_sem, F, aIndex_map]
              all_goals first | rfl | exact stS_ok hS0 _ | (rw [e8]; rfl)
            case hf8 =>
              have hw80 := hb
              try simp only [bo1, bo2, bo3, bo4, bo5, bo6] at hb
              have hbt80 := hb
              refine AW.seq ?_
              refine AW.region (cfg := cfg) ?_
              iterate 2 refine stp (fun _ h => s0 h) ?_
              refine aops_nil ?_
              refine cnd (fun hb => ?ht9) (fun hb => ?hf9)
              case ht9 =>
                have hw90 := hb
                try simp only [bo1, bo2, bo3, bo4, bo5, bo6] at hb
                have hbt90 := hb
                refine AW.seq ?_
                have e8 := eS.trans (step_3 h9 hbt62 hbt71 hbt80 hbt90)
                obtain ⟨zc, hzc⟩ : ∃ zc, zc = crashD (stS zt0 l N).y l[N].ts := ⟨_, rfl⟩
                rw [← hzc] at e8
                have hc5 : Good Tryz.prog 23 [(.gp 2 0, false), (.sl 2 l[N].tn (l[N].ts.map tearA), false)] (stS zt0 l N).G [] (wrD (stS zt0 l N).G 2 0 1 zc) := by (rw [hzc]; exact DK.good_CrashG (stS zt0 l N).G 2 0 1 (stS zt0 l N).y hD hT.f l[N].tn l[N].ts (by omega) (fun t ht => by have := hlk2 t ht; omega))
                refine AW.region (cfg := cfg) ?_
                iterate 3 refine stp (fun _ h => s0 h) ?_
                refine stp (fun _ h => si h) ?_
                refine stp (fun _ h => sx h) ?_
                refine stp (fun _ h => sl h) ?_
                refine stp (fun _ h => cg (w := hc5) (x := h)) ?_
                refine aops_nil ?_
                have hD5 := wr_has (y := zc) hD
                have hF5 : Fine zc := by rw [hzc]; exact crash_fine hT.f
                have p5 : outP (wrD (stS zt0 l N).G 2 0 1 zc).length (openX zc).e = wAV (stS zt0 l (N + 1)).w := by (rw [e8, wr_len]; exact outP_wAV _ _ _)
                have F := And.intro p5 F
                refine AW.region (cfg := cfg) ?_
                refine stp (fun _ h => s0 h) ?_
                refine stp (fun _ h => cg (w := good_OpenW (wrD (stS zt0 l N).G 2 0 1 zc) 2 0 1 zc hD5 hF5) (x := h)) ?_
                iterate 6 refine stp (fun _ h => s0 h) ?_
                refine aops_nil ?_
                refine AW.region (cfg := cfg) ?_
                refine stp (fun _ h => s0 h) ?_
                refine stp (fun _ h => sd h) ?_
                refine stp (fun _ h => s0 h) ?_
                refine aops_nil ?_
                refine ⟨_, _, rfl, ?_, ?_, ?_, ?_, ?_, (by intro i; simp [Mem.set, hr]), (by (simp only [mset_G, hG]; rw [e8]))⟩ <;> try simp (disch := first | omega | decide) only [go_sem, F, aIndex_map]
                all_goals first | rfl | exact stS_ok hS0 _
              case hf9 =>
                have hw90 := hb
                try simp only [bo1, bo2, bo3, bo4, bo5, bo6] at hb
                have hbt90 := hb
                refine AW.skip ?_
                refine AW.region (cfg := cfg) ?_
                refine stp (fun _ h => s0 h) ?_
                refine stp (fun _ h => sd h) ?_
                refine stp (fun _ h => s0 h) ?_
                refine aops_nil ?_
                refine ⟨_, _, rfl, ?_, ?_, ?_, ?_, ?_, (by intro i; simp [Mem.set, hr]), (by (rw [eS, step_o h9 hbt62 hbt71 hbt80 hbt90]; exact hG))⟩ <;> try simp (disch := first | omega | decide) only [go_sem, F, aIndex_map]
                all_goals first | rfl | exact stS_ok hS0 _ | (rw [eS, step_o h9 hbt62 hbt71 hbt80 hbt90, h9]; rfl)
    · clear F f0 f1 hr hG
      rintro σ ⟨s, m, rfl, f1, f5, f7, f11, mo0, hr, hG⟩
      have F := (And.intro f1 (And.intro f5 (And.intro f7 (And.intro f11 (And.intro p0 hG)))))
      refine AW.seq ?_
      refine AW.seq ?_
      obtain ⟨hD, ⟨p, hT⟩, hW⟩ := mo0
      rcases h9 : (stS zt0 l N).w with _ | ⟨w, x⟩
      · skip
        have F := And.intro h9 F
        refine AW.region (cfg := cfg) ?_
        iterate 2 refine stp (fun _ h => s0 h) ?_
        refine stp (fun _ h => sd h) ?_
        iterate 2 refine stp (fun _ h => s0 h) ?_
        iterate 2 refine mrg wa (fun hc _ h => s0 h) ?_
        refine stp (fun _ h => s0 h) ?_
        refine aops_nil ?_
        refine cnd (fun hb => ?ht10) (fun hb => ?hf10)
        case ht10 => (simp at hb; done)
        case hf10 =>
        have hbt54 := hb
        refine AW.exit ?_
        refine AW.seq ?_
        obtain ⟨zst, hok, hG2⟩ : ∃ zst, STok (placeS X) zst ∧ m.G = zst.G := by exact ⟨_, stS_ok hS0 _, hG⟩
        clear hG F
        have hG := hG2
        try rw [hG2] at f5
        obtain ⟨hD, ⟨p, hT⟩, _⟩ := hok
        obtain ⟨z, hz⟩ : ∃ z, z = crashD zst.y [] := ⟨_, rfl⟩
        have hTz : TInv (placeS X) z p := by rw [hz]; exact t_crash hT []
        have hzo : offD z = false := by rw [hz]; exact crash_off [] hT.f
        have hzw : ∀ i, z.waits i = none := by rw [hz]; exact fun _ => rfl
        obtain ⟨o1, o2⟩ := t_open hTz hzo hzw
        have hDz : HasD (wrD zst.G 2 0 1 z) 2 0 1 z := wr_has hD
        have hcr : Good Tryz.prog 23 [(.gp 2 0, false), (.sl 0 true [], false)] zst.G [] (wrD zst.G 2 0 1 z) := by (rw [hz]; exact (DK.good_CrashG zst.G 2 0 1 zst.y hD hT.f true [] (by decide) (fun t h => by cases h)).nil1 (s' := 0))
        have F := (And.intro f1 (And.intro f5 (And.intro f7 (And.intro f11 (And.intro p0 (And.intro h9 hG))))))
        refine AW.region (cfg := cfg) ?_
        refine stp (fun _ h => s0 h) ?_
        refine stp (fun _ h => cg (w := hcr) (x := h)) ?_
        refine aops_nil ?_
        refine AW.seq ?_
        refine AW.region (cfg := cfg) ?_
        refine stp (fun _ h => s0 h) ?_
        refine stp (fun _ h => cg (w := good_OpenW (wrD zst.G 2 0 1 z) 2 0 1 z hDz hTz.f) (x := h)) ?_
        iterate 9 refine stp (fun _ h => s0 h) ?_
        refine aops_nil ?_
        refine AW.seq ?_
        refine AW.seq ?_
        have hD2 : HasD (outG (wrD zst.G 2 0 1 z) 2 0 1 z) 2 0 1 z := by (have := out_hasD hDz; rw [o1] at this; exact this)
        refine AW.region (cfg := cfg) ?_
        iterate 2 refine stp (fun _ h => s0 h) ?_
        refine aops_nil ?_
        refine cnd (fun hb => ?ht11) (fun hb => ?hf11)
        case ht11 =>
          have hw116 := hb
          try simp only [bo1, bo2, bo3, bo4, bo5, bo6] at hb
          have hbt116 := hb
          refine AW.seq ?_
          refine AW.region (cfg := cfg) ?_
          refine stp (fun _ h => s0 h) ?_
          refine stp (fun _ h => cg (w := good_OpenW (outG (wrD zst.G 2 0 1 z) 2 0 1 z) 2 0 1 z hD2 hTz.f) (x := h)) ?_
          iterate 9 refine stp (fun _ h => s0 h) ?_
          refine aops_nil ?_
          refine AW.seq ?_
          have p1 : ∀ q, outP q (openX z).e = .base (.pointer none) := fun q => outP_n hbt116
          have F := And.intro p1 F
          refine AW.region (cfg := cfg) ?_
          iterate 4 refine stp (fun _ h => s0 h) ?_
          iterate 2 refine mrg wa (fun hc _ h => s0 h) ?_
          iterate 2 refine stp (fun _ h => s0 h) ?_
          refine mrg wa (fun hc _ h => cs (w := good_awake8) (x := h)) ?_
          iterate 2 refine stp (fun _ h => s0 h) ?_
          refine aops_nil ?_
          refine AW.ret ?_
          refine ⟨.inr rfl, ?_⟩
          apply Exists.intro
          refine leaves_tmp1 4 rfl ?_ (by rfl)
          simp (disch := first | omega | decide) only [go_sem, F, aIndex_map]
          all_goals rfl
        case hf11 =>
          have hw116 := hb
          try simp only [bo1, bo2, bo3, bo4, bo5, bo6] at hb
          have hbt116 := hb
          refine AW.skip ?_
          refine AW.seq ?_
          have hez : (openX z).e = 0 := Decidable.not_not.1 hbt116
          obtain ⟨q1, q2, q3⟩ := o2 hez
          have hB3 := out_has hDz q3
          have hnx := q1.nx
          have hpb := pl_bd hTz.hn
          have hxl := q1.l
          refine AW.region (cfg := cfg) ?_
          refine stp (fun _ h => s0 h) ?_
          refine stp (fun _ h => cg (w := good_OpenW (outG (wrD zst.G 2 0 1 z) 2 0 1 z) 2 0 1 z hD2 hTz.f) (x := h)) ?_
          iterate 9 refine stp (fun _ h => s0 h) ?_
          refine aops_nil ?_
          refine AW.seq ?_
          have hB4 := out_has hD2 q3
          have hW4 := out_keep hB3.hW hD2 hB3.ne.1 hB3.ne.2.1 hB3.ne.2.2
          have hD3 : HasD (outG (outG (wrD zst.G 2 0 1 z) 2 0 1 z) 2 0 1 z) 2 0 1 z := by (have := out_hasD hD2; rw [o1] at this; exact this)
          have hwl : waitL z = [] := by (rw [waitL, List.filter_eq_nil_iff]; intro i _; rw [hzw]; decide)
          have hbb := open_bl hTz.f hzo
          obtain ⟨hrr1, hrr2⟩ := open_rl hTz.f hzo
          have htx : txts (openX z).rs (openX z).rs = true := decide_eq_true rfl
          have F := And.intro hez F
          have F := And.intro hwl F
          have F := And.intro htx F
          refine AW.region (cfg := cfg) ?_
          iterate 3 refine stp (fun _ h => s0 h) ?_
          iterate 2 refine mrg wa (fun hc _ h => s0 h) ?_
          iterate 2 refine stp (fun _ h => s0 h) ?_
          iterate 2 refine mrg wa (fun hc _ h => s0 h) ?_
          iterate 2 refine stp (fun _ h => s0 h) ?_
          iterate 2 refine mrg wa (fun hc _ h => s0 h) ?_
          refine mrg wa (fun hc _ h => cs (w := O.good_Same _ _ (openX z).b (openX z).b hbb hbb) (x := h)) ?_
          iterate 2 refine stp (fun _ h => s0 h) ?_
          iterate 2 refine mrg wa (fun hc _ h => s0 h) ?_
          refine mrg wa (fun hc _ h => cs (w := W8.good_texts _ _ (openX z).rs (openX z).rs hrr1 hrr1 hrr2 hrr2) (x := h)) ?_
          iterate 2 refine stp (fun _ h => s0 h) ?_
          refine mrg wa (fun hc _ h => s0 h) ?_
          refine mrg wa (fun hc _ h => cgn (w := good_GenW (outG (outG (wrD zst.G 2 0 1 z) 2 0 1 z) 2 0 1 z) (wrD zst.G 2 0 1 z).length 2 (openX z).x hW4) (x := h)) ?_
          refine mrg wa (fun hc _ h => s0 h) ?_
          refine mrg wa (fun hc _ h => cgn (w := good_GenW (outG (outG (wrD zst.G 2 0 1 z) 2 0 1 z) 2 0 1 z) (outG (wrD zst.G 2 0 1 z) 2 0 1 z).length 2 (openX z).x hB4.hW) (x := h)) ?_
          refine mrg wa (fun hc _ h => s0 h) ?_
          iterate 2 refine stp (fun _ h => s0 h) ?_
          refine mrg wa (fun hc _ h => s0 h) ?_
          refine mrg wa (fun hc _ h => cgn (w := good_FreeW (outG (outG (wrD zst.G 2 0 1 z) 2 0 1 z) 2 0 1 z) (wrD zst.G 2 0 1 z).length 2 (openX z).x hW4 (by omega)) (x := h)) ?_
          refine mrg wa (fun hc _ h => s0 h) ?_
          refine mrg wa (fun hc _ h => cgn (w := good_FreeW (outG (outG (wrD zst.G 2 0 1 z) 2 0 1 z) 2 0 1 z) (outG (wrD zst.G 2 0 1 z) 2 0 1 z).length 2 (openX z).x hB4.hW (by omega)) (x := h)) ?_
          refine mrg wa (fun hc _ h => s0 h) ?_
          iterate 2 refine stp (fun _ h => s0 h) ?_
          refine mrg wa (fun hc _ h => s0 h) ?_
          refine mrg wa (fun hc _ h => cgn (w := MP.good_WaitsG (outG (outG (wrD zst.G 2 0 1 z) 2 0 1 z) 2 0 1 z) 2 0 1 z hD3 (small_w hTz.f) (waitL z) (wait_sorted z) (wait_mem hTz.f)) (x := h)) ?_
          refine mrg wa (fun hc _ h => sd h) ?_
          refine mrg wa (fun hc _ h => s0 h) ?_
          iterate 2 refine stp (fun _ h => s0 h) ?_
          refine mrg wa (fun hc _ h => cs (w := good_awake8) (x := h)) ?_
          iterate 2 refine stp (fun _ h => s0 h) ?_
          refine aops_nil ?_
          refine AW.ret ?_
          refine ⟨.inr rfl, ?_⟩
          apply Exists.intro
          refine leaves_tmp1 4 rfl ?_ (by rfl)
          simp (disch := first | omega | decide) only [go_sem, F, aIndex_map]
          all_goals rfl
      · skip
        have F := And.intro h9 F
        refine AW.region (cfg := cfg) ?_
        iterate 2 refine stp (fun _ h => s0 h) ?_
        refine stp (fun _ h => sd h) ?_
        iterate 2 refine stp (fun _ h => s0 h) ?_
        iterate 2 refine mrg wa (fun hc _ h => s0 h) ?_
        refine stp (fun _ h => s0 h) ?_
        refine aops_nil ?_
        refine cnd (fun hb => ?ht12) (fun hb => ?hf12)
        case ht12 => (simp at hb; omega)
        case hf12 =>
        have hbt54 := hb
        refine AW.exit ?_
        refine AW.seq ?_
        obtain ⟨zst, hok, hG2⟩ : ∃ zst, STok (placeS X) zst ∧ m.G = zst.G := by exact ⟨_, stS_ok hS0 _, hG⟩
        clear hG F
        have hG := hG2
        try rw [hG2] at f5
        obtain ⟨hD, ⟨p, hT⟩, _⟩ := hok
        obtain ⟨z, hz⟩ : ∃ z, z = crashD zst.y [] := ⟨_, rfl⟩
        have hTz : TInv (placeS X) z p := by rw [hz]; exact t_crash hT []
        have hzo : offD z = false := by rw [hz]; exact crash_off [] hT.f
        have hzw : ∀ i, z.waits i = none := by rw [hz]; exact fun _ => rfl
        obtain ⟨o1, o2⟩ := t_open hTz hzo hzw
        have hDz : HasD (wrD zst.G 2 0 1 z) 2 0 1 z := wr_has hD
        have hcr : Good Tryz.prog 23 [(.gp 2 0, false), (.sl 0 true [], false)] zst.G [] (wrD zst.G 2 0 1 z) := by (rw [hz]; exact (DK.good_CrashG zst.G 2 0 1 zst.y hD hT.f true [] (by decide) (fun t h => by cases h)).nil1 (s' := 0))
        have F := (And.intro f1 (And.intro f5 (And.intro f7 (And.intro f11 (And.intro p0 (And.intro h9 hG))))))
        refine AW.region (cfg := cfg) ?_
        refine stp (fun _ h => s0 h) ?_
        refine stp (fun _ h => cg (w := hcr) (x := h)) ?_
        refine aops_nil ?_
        refine AW.seq ?_
        refine AW.region (cfg := cfg) ?_
        refine stp (fun _ h => s0 h) ?_
        refine stp (fun _ h => cg (w := good_OpenW (wrD zst.G 2 0 1 z) 2 0 1 z hDz hTz.f) (x := h)) ?_
        iterate 9 refine stp (fun _ h => s0 h) ?_
        refine aops_nil ?_
        refine AW.seq ?_
        refine AW.seq ?_
        have hD2 : HasD (outG (wrD zst.G 2 0 1 z) 2 0 1 z) 2 0 1 z := by (have := out_hasD hDz; rw [o1] at this; exact this)
        refine AW.region (cfg := cfg) ?_
        iterate 2 refine stp (fun _ h => s0 h) ?_
        refine aops_nil ?_
        refine cnd (fun hb => ?ht13) (fun hb => ?hf13)
        case ht13 =>
          have hw116 := hb
          try simp only [bo1, bo2, bo3, bo4, bo5, bo6] at hb
          have hbt116 := hb
          refine AW.seq ?_
          refine AW.region (cfg := cfg) ?_
          refine stp (fun _ h => s0 h) ?_
          refine stp (fun _ h => cg (w := good_OpenW (outG (wrD zst.G 2 0 1 z) 2 0 1 z) 2 0 1 z hD2 hTz.f) (x := h)) ?_
          iterate 9 refine stp (fun _ h => s0 h) ?_
          refine aops_nil ?_
          refine AW.seq ?_
          have p1 : ∀ q, outP q (openX z).e = .base (.pointer none) := fun q => outP_n hbt116
          have F := And.intro p1 F
          refine AW.region (cfg := cfg) ?_
          iterate 4 refine stp (fun _ h => s0 h) ?_
          iterate 2 refine mrg wa (fun hc _ h => s0 h) ?_
          iterate 2 refine stp (fun _ h => s0 h) ?_
          refine mrg wa (fun hc _ h => cs (w := good_awake8) (x := h)) ?_
          iterate 2 refine stp (fun _ h => s0 h) ?_
          refine aops_nil ?_
          refine AW.ret ?_
          refine ⟨.inr rfl, ?_⟩
          apply Exists.intro
          refine leaves_tmp1 4 rfl ?_ (by rfl)
          simp (disch := first | omega | decide) only [go_sem, F, aIndex_map]
          all_goals rfl
        case hf13 =>
          have hw116 := hb
          try simp only [bo1, bo2, bo3, bo4, bo5, bo6] at hb
          have hbt116 := hb
          refine AW.skip ?_
          refine AW.seq ?_
          have hez : (openX z).e = 0 := Decidable.not_not.1 hbt116
          obtain ⟨q1, q2, q3⟩ := o2 hez
          have hB3 := out_has hDz q3
          have hnx := q1.nx
          have hpb := pl_bd hTz.hn
          have hxl := q1.l
          refine AW.region (cfg := cfg) ?_
          refine stp (fun _ h => s0 h) ?_
          refine stp (fun _ h => cg (w := good_OpenW (outG (wrD zst.G 2 0 1 z) 2 0 1 z) 2 0 1 z hD2 hTz.f) (x := h)) ?_
          iterate 9 refine stp (fun _ h => s0 h) ?_
          refine aops_nil ?_
          refine AW.seq ?_
          have hB4 := out_has hD2 q3
          have hW4 := out_keep hB3.hW hD2 hB3.ne.1 hB3.ne.2.1 hB3.ne.2.2
          have hD3 : HasD (outG (outG (wrD zst.G 2 0 1 z) 2 0 1 z) 2 0 1 z) 2 0 1 z := by (have := out_hasD hD2; rw [o1] at this; exact this)
          have hwl : waitL z = [] := by (rw [waitL, List.filter_eq_nil_iff]; intro i _; rw [hzw]; decide)
          have hbb := open_bl hTz.f hzo
          obtain ⟨hrr1, hrr2⟩ := open_rl hTz.f hzo
          have htx : txts (openX z).rs (openX z).rs = true := decide_eq_true rfl
          have F := And.intro hez F
          have F := And.intro hwl F
          have F := And.intro htx F
          refine AW.region (cfg := cfg) ?_
          iterate 3 refine stp (fun _ h => s0 h) ?_
          iterate 2 refine mrg wa (fun hc _ h => s0 h) ?_
          iterate 2 refine stp (fun _ h => s0 h) ?_
          iterate 2 refine mrg wa (fun hc _ h => s0 h) ?_
          iterate 2 refine stp (fun _ h => s0 h) ?_
          iterate 2 refine mrg wa (fun hc _ h => s0 h) ?_
          refine mrg wa (fun hc _ h => cs (w := O.good_Same _ _ (openX z).b (openX z).b hbb hbb) (x := h)) ?_
          iterate 2 refine stp (fun _ h => s0 h) ?_
          iterate 2 refine mrg wa (fun hc _ h => s0 h) ?_
          refine mrg wa (fun hc _ h => cs (w := W8.good_texts _ _ (openX z).rs (openX z).rs hrr1 hrr1 hrr2 hrr2) (x := h)) ?_
          iterate 2 refine stp (fun _ h => s0 h) ?_
          refine mrg wa (fun hc _ h => s0 h) ?_
          refine mrg wa (fun hc _ h => cgn (w := good_GenW (outG (outG (wrD zst.G 2 0 1 z) 2 0 1 z) 2 0 1 z) (wrD zst.G 2 0 1 z).length 2 (openX z).x hW4) (x := h)) ?_
          refine mrg wa (fun hc _ h => s0 h) ?_
          refine mrg wa (fun hc _ h => cgn (w := good_GenW (outG (outG (wrD zst.G 2 0 1 z) 2 0 1 z) 2 0 1 z) (outG (wrD zst.G 2 0 1 z) 2 0 1 z).length 2 (openX z).x hB4.hW) (x := h)) ?_
          refine mrg wa (fun hc _ h => s0 h) ?_
          iterate 2 refine stp (fun _ h => s0 h) ?_
          refine mrg wa (fun hc _ h => s0 h) ?_
          refine mrg wa (fun hc _ h => cgn (w := good_FreeW (outG (outG (wrD zst.G 2 0 1 z) 2 0 1 z) 2 0 1 z) (wrD zst.G 2 0 1 z).length 2 (openX z).x hW4 (by omega)) (x := h)) ?_
          refine mrg wa (fun hc _ h => s0 h) ?_
          refine mrg wa (fun hc _ h => cgn (w := good_FreeW (outG (outG (wrD zst.G 2 0 1 z) 2 0 1 z) 2 0 1 z) (outG (wrD zst.G 2 0 1 z) 2 0 1 z).length 2 (openX z).x hB4.hW (by omega)) (x := h)) ?_
          refine mrg wa (fun hc _ h => s0 h) ?_
          iterate 2 refine stp (fun _ h => s0 h) ?_
          refine mrg wa (fun hc _ h => s0 h) ?_
          refine mrg wa (fun hc _ h => cgn (w := MP.good_WaitsG (outG (outG (wrD zst.G 2 0 1 z) 2 0 1 z) 2 0 1 z) 2 0 1 z hD3 (small_w hTz.f) (waitL z) (wait_sorted z) (wait_mem hTz.f)) (x := h)) ?_
          refine mrg wa (fun hc _ h => sd h) ?_
          refine mrg wa (fun hc _ h => s0 h) ?_
          iterate 2 refine stp (fun _ h => s0 h) ?_
          refine mrg wa (fun hc _ h => cs (w := good_awake8) (x := h)) ?_
          iterate 2 refine stp (fun _ h => s0 h) ?_
          refine aops_nil ?_
          refine AW.ret ?_
          refine ⟨.inr rfl, ?_⟩
          apply Exists.intro
          refine leaves_tmp1 4 rfl ?_ (by rfl)
          simp (disch := first | omega | decide) only [go_sem, F, aIndex_map]
          all_goals rfl
end Go.Vai.WK
