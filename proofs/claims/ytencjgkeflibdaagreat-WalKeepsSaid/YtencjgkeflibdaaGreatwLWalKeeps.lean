import Derived.Test.YtencjgkeflibdaaGreatM7
namespace Go.Vai.WK
open Go.Proofs Go.Vai Go.Vai.DK Go.Vai.G Go.Vai.L Go.Vai.MP Go.Vai.O Go.Vai.RC Go.Vai.S7 Go.Vai.U Go.Vai.V Go.Vai.W8 Go.Vai.Z
set_option linter.unusedSimpArgs false
set_option linter.unusedVariables false
set_option maxHeartbeats 4000000
set_option maxRecDepth 100000
open Go.Vai.DK Go.Vai.U Go.Vai.V Go.Vai.S7 Go.Vai.RC Go.Vai.G Go.Vai.W8
attribute [simp] noPtr_ps noPtrL_ps noPtrL_act8 noPtrL_tear
theorem npq (Q : PSl) (b : List (BitVec 8)) : noPtrL (Q.map pslice ++ [.sl 1 false (bsl b)]) = true := by
  have e : Q.map pslice ++ [AV.sl 1 false (bsl b)] = (Q ++ [(false, b)]).map pslice := by rw [List.map_append]; rfl
  rw [e]; exact noPtrL_ps _
attribute [simp] npq
def cfgK : Cfg := { cfg with move := fun t => t == 10 }
theorem glK (d : Tmp) : cfgK.glob d = false := rfl
attribute [go_sem] glK
theorem resOf_o4 {C : Contract} {d : Nat} {sz : Nat} {nil : Bool} {xs : List AV} {a b e : AV} {m : Mem} {fp : Fp} {K : LV → Mem → Fp → Prop} (h : (m.objs (.res 2)).2 = .dead) :
    Mwp C (resOf (some d) [(a, false), (b, false), (.sl sz nil xs, true), (e, false)]) m fp K = K (.tup [.v a, .v b, .own (.tmp d 2) ((m.objs (.tmp d 2)).1 + 1) 0 xs.length, .v e]) (m.set (.tmp d 2) ((m.objs (.tmp d 2)).1 + 1, .arr nil sz xs)) (((fp.addN (.res 2)).addN (.tmp d 2)).addW (.tmp d 2)) := by
  simp only [resOf, resL, resOne, if_true, mwp_bind, mwp_getO, h, newArr_eq, mwp_ret, Bool.false_eq_true, if_false]
theorem cgo4 {p q c : Prop} (h : c → p → q := by (intro gd hK; simp (disch := first | omega | decide) only [go_sem, F, opn_cond, hc, aIndex_map, act_call, List.map]; apply mwp_call_g rfl rfl rfl; (intro Q hQ; first | (simp only [go_sem, F, opn_cond, hc, aIndex_map, peekL, reifyL_nil, reifyL_cons, reify_v]; exact hQ) | (simp (disch := first | omega | decide) only [go_sem, F, opn_cond, hc, aIndex_map, peekL, reifyL_nil, reifyL_cons, reify_v]; (first | exact hQ | (((first | rw [peek_own (by simp (disch := first | omega | decide) only [go_sem, F, opn_cond, hc, aIndex_map, peekL, reifyL_nil, reifyL_cons, reify_v]; rfl)] | rw [mwp_reify_own (by simp (disch := first | omega | decide) only [go_sem, F, opn_cond, hc, aIndex_map, peekL, reifyL_nil, reifyL_cons, reify_v]; rfl)] | rw [peek_frz (by simp (disch := first | omega | decide) only [go_sem, F, opn_cond, hc, aIndex_map, peekL, reifyL_nil, reifyL_cons, reify_v]; rfl)] | rw [reify_frz (by simp (disch := first | omega | decide) only [go_sem, F, opn_cond, hc, aIndex_map, peekL, reifyL_nil, reifyL_cons, reify_v]; rfl)]); (try rw [sub_full (by first | rfl | (simp only [List.length_map, List.length_replicate]; done) | (simp; done) | (simp; omega))])); exact hQ) | (((first | rw [peek_own (by simp (disch := first | omega | decide) only [go_sem, F, opn_cond, hc, aIndex_map, peekL, reifyL_nil, reifyL_cons, reify_v]; rfl)] | rw [mwp_reify_own (by simp (disch := first | omega | decide) only [go_sem, F, opn_cond, hc, aIndex_map, peekL, reifyL_nil, reifyL_cons, reify_v]; rfl)] | rw [peek_frz (by simp (disch := first | omega | decide) only [go_sem, F, opn_cond, hc, aIndex_map, peekL, reifyL_nil, reifyL_cons, reify_v]; rfl)] | rw [reify_frz (by simp (disch := first | omega | decide) only [go_sem, F, opn_cond, hc, aIndex_map, peekL, reifyL_nil, reifyL_cons, reify_v]; rfl)]); (try rw [sub_full (by first | rfl | (simp only [List.length_map, List.length_replicate]; done) | (simp; done) | (simp; omega))])); (try simp (disch := first | omega | decide) only [go_sem, F, opn_cond, hc, aIndex_map, peekL, reifyL_nil, reifyL_cons, reify_v]); ((first | rw [peek_own (by simp (disch := first | omega | decide) only [go_sem, F, opn_cond, hc, aIndex_map, peekL, reifyL_nil, reifyL_cons, reify_v]; rfl)] | rw [mwp_reify_own (by simp (disch := first | omega | decide) only [go_sem, F, opn_cond, hc, aIndex_map, peekL, reifyL_nil, reifyL_cons, reify_v]; rfl)] | rw [peek_frz (by simp (disch := first | omega | decide) only [go_sem, F, opn_cond, hc, aIndex_map, peekL, reifyL_nil, reifyL_cons, reify_v]; rfl)] | rw [reify_frz (by simp (disch := first | omega | decide) only [go_sem, F, opn_cond, hc, aIndex_map, peekL, reifyL_nil, reifyL_cons, reify_v]; rfl)]); (try rw [sub_full (by first | rfl | (simp only [List.length_map, List.length_replicate]; done) | (simp; done) | (simp; omega))])); exact hQ) | (((first | rw [peek_own (by simp (disch := first | omega | decide) only [go_sem, F, opn_cond, hc, aIndex_map, peekL, reifyL_nil, reifyL_cons, reify_v]; rfl)] | rw [mwp_reify_own (by simp (disch := first | omega | decide) only [go_sem, F, opn_cond, hc, aIndex_map, peekL, reifyL_nil, reifyL_cons, reify_v]; rfl)] | rw [peek_frz (by simp (disch := first | omega | decide) only [go_sem, F, opn_cond, hc, aIndex_map, peekL, reifyL_nil, reifyL_cons, reify_v]; rfl)] | rw [reify_frz (by simp (disch := first | omega | decide) only [go_sem, F, opn_cond, hc, aIndex_map, peekL, reifyL_nil, reifyL_cons, reify_v]; rfl)]); (try rw [sub_full (by first | rfl | (simp only [List.length_map, List.length_replicate]; done) | (simp; done) | (simp; omega))])); simp (disch := first | omega | decide) only [go_sem, F, opn_cond, hc, aIndex_map, peekL, reifyL_nil, reifyL_cons, reify_v]; exact hQ))) | ((try simp only [opn_agg, opn_own, opn_v]); (try simp only [List.drop_zero, List.drop_succ_cons, List.take_succ_cons, List.take_zero]); (repeat (first | rw [mwp_peekL_agg] | rw [mwp_peekL_v] | rw [mwp_peekL_arr (by simp (disch := first | omega | decide) only [go_sem, F, opn_cond, hc, aIndex_map]; rfl)] | rw [mwp_peekL_frz (by simp (disch := first | omega | decide) only [go_sem, F, opn_cond, hc, aIndex_map]; rfl)] | rw [mwp_peekL_nil] | rw [mwp_reifyL_agg] | rw [mwp_reifyL_v] | rw [mwp_reifyL_arr (by simp (disch := first | omega | decide) only [go_sem, F, opn_cond, hc, aIndex_map]; rfl)] | rw [mwp_reifyL_frz (by simp (disch := first | omega | decide) only [go_sem, F, opn_cond, hc, aIndex_map]; rfl)] | rw [mwp_reifyL_nil])); (repeat (rw [sub_full (by first | rfl | (simp only [List.length_map, List.length_replicate]; done) | (simp; done) | (simp; omega))])); exact hQ)); (first | exact hG | rfl | (simp only [mset_G, hG]; rfl)); exact gd; (rw [resOf_o4 (by first | (simp (disch := decide) only [mset_ne, hr]; done) | simp [Mem.set, hr])]; (try rw [mem_eta (by first | exact hG | rfl | (simp only [mset_G, hG]; rfl))]); (simp (disch := first | omega | decide) only [go_sem, F, opn_cond, hc, aIndex_map]; first | exact hK _ | exact hK)))) (w : c) (x : p) : q := h w x
theorem back_open {N : Nat} {b : List (BitVec 8)} {z : Dk} {B : List (BitVec 8)} {Q : PSl} {may turned : Bool} {G : List (List AV)} (hD : HasD G 2 0 1 z) (h : Back N b z B Q may turned) : ∃ Gz wz x2 B2 Q2, HasB Gz wz 2 0 1 x2 z ∧ Good Tryz.prog 9 [(.gp 2 0, false)] G [(.gp wz 0, false), (.sl 1 B2.isEmpty (bsl B2), false), (.sl 1 Q2.isEmpty (Q2.map pslice), true), (i64 0, false)] Gz ∧
    (∃ R, KInv (N + 1) x2 z B2 R Q2) ∧ (∀ B' Q', B2 = B' → Q2.map Prod.snd = Q'.map Prod.snd → ∃ R, KInv (N + 1) x2 z B' R Q') ∧ ((B2 = B ∧ Q2.map Prod.snd = Q.map Prod.snd) ∨ (may = true ∧ turned = false ∧ B2 = B ∧ Q2.map Prod.snd = Q.map Prod.snd ++ [b]) ∨ (may = true ∧ turned = true ∧ B2 = b ∧ Q2 = [])) := by
  refine ⟨_, _, (openX z).x, (openX z).b, (openX z).rs, ?_, good_OpenO G 2 0 1 z hD h.f h.n h.off h.m h.bet, ⟨_, h.k⟩, fun B' Q' e1 e2 => back_k (y := z) h e1 e2, h.c⟩
  have q := out_has hD h.made
  rw [h.y] at q; exact q
theorem good_WalKeeps (nil : Bool) (l : List Act8) (hl : l.length ≤ 9223372036854775807) (htb : ∀ a ∈ l, a.ts.length ≤ 9223372036854775807 ∧ ∀ t ∈ a.ts, t.b.length ≤ 9223372036854775807) : Good Tryz.prog 6 [(.sl 4 nil (l.map act8A), false)] [] [(.b true, false)] [] := by
  refine good_of_body4 182 Tryz.func6 rfl rfl rfl (by simp) (by simp) (by simp [noPtrL, noPtr]) (by rfl) ?_
  intro s m ha hr hv hG
  have f0 : s 0 = .v (.sl 4 nil (l.map act8A)) := ha 0 _ rfl
  clear ha
  have hc : True := trivial
  have F := (And.intro f0 hG)
  refine AW.seq ?_
  refine AW.region (cfg := cfgK) ?_
  refine stp (fun _ h => s0 h) ?_
  refine aops_nil ?_
  refine AW.seq ?_
  refine AW.seq ?_
  refine AW.region (cfg := cfgK) ?_
  refine stp (fun _ h => s0 h) ?_
  refine stp (fun _ h => cs (w := good_Light8 nil l hl htb) (x := h)) ?_
  refine stp (fun _ h => s0 h) ?_
  refine aops_nil ?_
  refine cnd (fun hb => ?ht1) (fun hb => ?hf1)
  case ht1 =>
    have hw24 := hb
    try simp only [bo1, bo2, bo3, bo4, bo5, bo6] at hb
    have hbt24 := hb
    refine AW.seq ?_
    refine AW.region (cfg := cfgK) ?_
    refine stp (fun _ h => cs (w := good_awake8) (x := h)) ?_
    refine stp (fun _ h => s0 h) ?_
    refine aops_nil ?_
    refine AW.ret ?_
    refine ⟨.inr rfl, ?_⟩
    apply Exists.intro
    refine leaves_tmp1 2 rfl ?_ (by rfl)
    simp (disch := first | omega | decide) only [go_sem, F, aIndex_map]
    all_goals first | done | rfl | trace_state
  case hf1 =>
    have hw24 := hb
    try simp only [bo1, bo2, bo3, bo4, bo5, bo6] at hb
    have hbt24 := hb
    refine AW.skip ?_
    refine AW.seq ?_
    have hl8 := l8_bd (l := l) (by simpa using hbt24)
    obtain ⟨y0, hy0⟩ : ∃ y0, y0 = newD 30 := ⟨_, rfl⟩
    have hD1 : HasD (DK.newG [] 30) 2 0 1 y0 := by rw [hy0]; exact new_has [] _
    have hF1 : Fine y0 := by rw [hy0]; exact new_fine (by decide)
    obtain ⟨a1, a2, a3, a4, a5, a6, a7, a8, a9, a10⟩ : (openX y0).made = true ∧ (openX y0).e = 0 ∧ (openX y0).b = [] ∧ (openX y0).rs = [] ∧ WInv (openX y0).x (openX y0).y [] [] ∧ (openX y0).y.n = 30 ∧ (openX y0).y.armed = -1 ∧ (openX y0).x.gen = 1 ∧ (openX y0).x.next = 0 ∧ (openX y0).x.mark = 1 := by rw [hy0]; exact open_new (by decide)
    obtain ⟨z0, hz0, hop⟩ : ∃ z0 : KS, (KOK 0 z0 ∧ z0.B = [] ∧ z0.Q = [] ∧ z0.nB = false ∧ z0.nQ = false ∧ z0.w = 3) ∧ Good Tryz.prog 9 [(.gp 2 0, false)] (DK.newG [] 30) [(.gp 3 0, false), (.sl 1 true ([] : List AV), false), (.sl 1 true ([] : List AV), false), (i64 0, false)] z0.G := ⟨⟨outG (DK.newG [] 30) 2 0 1 y0, 3, (openX y0).x, (openX y0).y, false, [], false, [], false, false⟩, ⟨⟨out_has hD1 a1, [], a5, rfl, a6, by (show (openX y0).x.gen ≤ _; rw [a8]; decide), by (show (openX y0).x.mark ≤ _; rw [a10]; decide), Nat.le_refl _, fun p hp => (by cases hp), Nat.zero_le _⟩, rfl, rfl, rfl, rfl, rfl⟩, by (have q := good_OpenW (DK.newG [] 30) 2 0 1 y0 hD1 hF1; rw [a2, a3, a4] at q; exact q)⟩
    refine AW.region (cfg := cfgK) ?_
    refine stp (fun _ h => cg (w := (DK.good_NewG [] 30 (by decide) : Good _ _ _ [] [(.gp 2 0, false), (i64 0, false)] _)) (x := h)) ?_
    iterate 5 refine stp (fun _ h => s0 h) ?_
    refine aops_nil ?_
    refine AW.seq ?_
    refine AW.seq ?_
    refine AW.region (cfg := cfgK) ?_
    iterate 3 refine stp (fun _ h => s0 h) ?_
    iterate 2 refine mrg wa (fun hc _ h => s0 h) ?_
    refine stp (fun _ h => s0 h) ?_
    refine aops_nil ?_
    refine cnd (fun hb => ?ht2) (fun hb => ?hf2)
    case ht2 => (simp at hb; done)
    case hf2 =>
    have hbt35 := hb
    refine AW.skip ?_
    refine AW.seq ?_
    refine AW.region (cfg := cfgK) ?_
    refine stp (fun _ h => s0 h) ?_
    refine stp (fun _ h => cg (w := hop) (x := h)) ?_
    iterate 7 refine stp (fun _ h => s0 h) ?_
    iterate 2 refine stp (fun _ h => s0 h) ?_
    refine aops_nil ?_
    refine AW.seq ?_
    refine AW.seq ?_
    refine AW.region (cfg := cfgK) ?_
    iterate 3 refine stp (fun _ h => s0 h) ?_
    iterate 2 refine mrg wa (fun hc _ h => s0 h) ?_
    refine stp (fun _ h => s0 h) ?_
    refine aops_nil ?_
    refine cnd (fun hb => ?ht3) (fun hb => ?hf3)
    case ht3 => (simp at hb; done)
    case hf3 =>
    have hbt48 := hb
    refine AW.skip ?_
    refine AW.seq ?_
    refine AW.region (cfg := cfgK) ?_
    refine stp (fun _ h => sq h) ?_
    refine stp (fun _ h => st h) ?_
    refine aops_nil ?_
    refine AW.seq ?_
    refine AW.region (cfg := cfgK) ?_
    refine stp (fun _ h => sq h) ?_
    refine stp (fun _ h => st h) ?_
    refine aops_nil ?_
    refine AW.seq ?_
    refine AW.seq ?_
    refine AW.frzVar 9 (by simp (disch := first | omega | decide) only [go_sem, F]; rfl) (by simp (disch := first | omega | decide) only [go_sem, F]; rfl) ?_
    refine AW.region (cfg := cfgK) ?_
    refine stp (fun _ h => s0 h) ?_
    refine aops_nil ?_
    refine AW.block ?_
    refine AW.forN (fun k σ => ∃ (s : Nat → LV) (m : Mem) (zt : KS), σ = ⟨182, s, m⟩ ∧ s 0 = .v (.sl 4 nil (l.map act8A)) ∧ s 3 = .v (.gp 2 0) ∧ s 5 = .v (.gp zt.w 0) ∧ s 9 = .v (.sl 1 zt.nB (bsl zt.B)) ∧ s 10 = .own (.var 10) (m.objs (.var 10)).1 0 (zt.Q.length) ∧ (m.objs (.var 10)).2 = .arr zt.nQ 1 (zt.Q.map pslice) ∧ s 11 = .v (i64 (k : Int)) ∧ (KOK k zt) ∧ (∀ i, (m.objs (.res i)).2 = .dead) ∧ m.G = zt.G) (l.length) ?_ ?_ ?_
    · refine ⟨_, _, z0, rfl, ?_, ?_, ?_, ?_, ?_, ?_, ?_, ?_, (by intro i; simp [Mem.set, hr]), (by rfl)⟩ <;> try simp (disch := first | omega | decide) only [go_sem, F, aIndex_map]
      all_goals first | rfl | exact hz0.1 | (rw [hz0.2.2.2.2.2]; done) | (rw [hz0.2.1, hz0.2.2.2.1]; rfl) | (rw [hz0.2.2.1]; rfl) | (rw [hz0.2.2.1, hz0.2.2.2.2.1]; rfl)
    · clear F f0 hr hG
      rintro k σ hk ⟨s, m, zt, rfl, f0, f3, f5, f9, f10, o10, f11, mo0, hr, hG⟩
      obtain ⟨g10, o10⟩ : ∃ g, m.objs (.var 10) = (g, .arr zt.nQ 1 (zt.Q.map pslice)) := ⟨_, Prod.ext rfl o10⟩
      rw [o10] at f10
      have F := (And.intro f0 (And.intro f3 (And.intro f5 (And.intro f9 (And.intro f10 (And.intro f11 (And.intro o10 hG)))))))
      refine AW.seq ?_
      refine AW.seq ?_
      refine AW.region (cfg := cfgK) ?_
      iterate 2 refine stp (fun _ h => s0 h) ?_
      refine stp (fun _ h => sd h) ?_
      refine stp (fun _ h => s0 h) ?_
      refine aops_nil ?_
      refine cnd (fun hb => ?ht4) (fun hb => ?hf4)
      case ht4 =>
        have hw54 := hb
        try simp only [bo1, bo2, bo3, bo4, bo5, bo6] at hb
        have hbt54 := hb
        refine AW.skip ?_
        refine AW.seq ?_
        refine AW.block ?_
        refine AW.seq ?_
        refine AW.region (cfg := cfgK) ?_
        iterate 2 refine stp (fun _ h => s0 h) ?_
        refine stp (fun _ h => si h) ?_
        refine stp (fun _ h => sl h) ?_
        refine stp (fun _ h => sd h) ?_
        refine stp0 (fun _ h => ss h) ?_
        refine aops_nil ?_
        refine AW.seq ?_
        refine AW.region (cfg := cfgK) ?_
        refine stp (fun _ h => s0 h) ?_
        refine aops_nil ?_
        refine AW.seq ?_
        refine AW.region (cfg := cfgK) ?_
        refine stp (fun _ h => s0 h) ?_
        refine aops_nil ?_
        refine AW.join (fun σ => ∃ (s : Nat → LV) (m : Mem) (zm : KS), σ = ⟨182, s, m⟩ ∧ s 0 = .v (.sl 4 nil (l.map act8A)) ∧ s 3 = .v (.gp 2 0) ∧ s 5 = .v (.gp zm.w 0) ∧ s 9 = .v (.sl 1 zm.nB (bsl zm.B)) ∧ s 10 = .own (.var 10) (m.objs (.var 10)).1 0 (zm.Q.length) ∧ (m.objs (.var 10)).2 = .arr zm.nQ 1 (zm.Q.map pslice) ∧ s 11 = .v (i64 (k : Int)) ∧ s 12 = .lptr (.tmp 12 0) (m.objs (.tmp 12 0)).1 0 ∧ (m.objs (.tmp 12 0)).2 = .box [.v (i64 l[k].d), .v (i64 l[k].n), .v (u8 l[k].c), .v (.sl 2 l[k].tn (l[k].ts.map tearA))] ∧ s 13 = .v (.b zm.turned) ∧ s 14 = .v (.b zm.may) ∧ (MOK k (byS l[k].n l[k].c) zm) ∧ (∀ i, (m.objs (.res i)).2 = .dead) ∧ m.G = zm.G) ?_ ?_
        · skip
          refine AW.seq ?_
          refine AW.region (cfg := cfgK) ?_
          refine stp (fun _ h => sx h) ?_
          refine stp (fun _ h => sl h) ?_
          refine aops_nil ?_
          refine AW.block ?_
          refine AW.seq ?_
          obtain ⟨hB, R, hK⟩ := mo0
          have hkl : k < l.length := by omega
          obtain ⟨hlk1, hlk2⟩ := hl8.2 _ (List.getElem_mem hkl)
          have h9m := mod9 l[k].n
          have hbl := byS_len l[k].n l[k].c
          have hOy := hK.w.ok
          have hFy := hK.w.f
          have hql := hK.ql
          have hbn : (byS l[k].n l[k].c).length ≤ 3000 := by omega
          refine AW.region (cfg := cfgK) ?_
          iterate 2 refine stp (fun _ h => s0 h) ?_
          refine aops_nil ?_
          refine cnd (fun hb => ?ht5) (fun hb => ?hf5)
          case ht5 =>
            have hw63 := hb
            try simp only [bo1, bo2, bo3, bo4, bo5, bo6] at hb
            have hbt63 := hb
            refine AW.seq ?_
            refine AW.region (cfg := cfgK) ?_
            refine stp (fun _ h => s0 h) ?_
            refine stp (fun _ h => sl h) ?_
            refine stp (fun _ h => cr (w := good_bytes8 l[k].d l[k].n l[k].c l[k].tn (l[k].ts.map tearA) (noPtrL_tear _)) (x := h)) ?_
            refine stp (fun _ h => cg (w := good_CommitW zt.G zt.w 2 0 1 zt.x zt.y hB hFy hOy false (byS l[k].n l[k].c) (by omega) (fun h => by cases h)) (x := h)) ?_
            refine stp (fun _ h => s0 h) ?_
            refine aops_nil ?_
            refine AW.seq ?_
            refine AW.seq ?_
            refine AW.region (cfg := cfgK) ?_
            iterate 2 refine stp (fun _ h => s0 h) ?_
            refine aops_nil ?_
            refine cnd (fun hb => ?ht6) (fun hb => ?hf6)
            case ht6 =>
              have hw70 := hb
              try simp only [bo1, bo2, bo3, bo4, bo5, bo6] at hb
              have hbt70 := hb
              refine AW.region (cfg := cfgK) ?_
              refine stp (fun _ h => s0 h) ?_
              refine stp (fun _ h => sl h) ?_
              refine stp (fun _ h => cr (w := good_bytes8 l[k].d l[k].n l[k].c l[k].tn (l[k].ts.map tearA) (noPtrL_tear _)) (x := h)) ?_
              refine stp (fun _ h => sq h) ?_
              refine stp (fun _ h => sp h) ?_
              refine stp (fun _ h => st h) ?_
              refine aops_nil ?_
              refine AW.region (cfg := cfgK) ?_
              iterate 3 refine stp (fun _ h => s0 h) ?_
              refine aops_nil ?_
              (have hM := (mok_com hB hK hbn zt.nB false).1 hbt70; obtain ⟨zn, ezn⟩ : ∃ zn : KS, zn = ⟨wrB zt.G zt.w 2 0 1 (comX zt.x zt.y (byS l[k].n l[k].c)).1 (comX zt.x zt.y (byS l[k].n l[k].c)).2.1, zt.w, (comX zt.x zt.y (byS l[k].n l[k].c)).1, (comX zt.x zt.y (byS l[k].n l[k].c)).2.1, zt.nB, zt.B, false, zt.Q ++ [(false, (byS l[k].n l[k].c))], decide ((comX zt.x zt.y (byS l[k].n l[k].c)).2.2 = 7), false⟩ := ⟨_, rfl⟩; rw [← ezn] at hM)
              refine ⟨_, _, zn, rfl, ?_, ?_, ?_, ?_, ?_, ?_, ?_, ?_, ?_, ?_, ?_, ?_, (by intro i; simp [Mem.set, hr]), (by (simp only [mset_G, hG]; rw [ezn]))⟩ <;> try simp (disch := first | omega | decide) only [go_sem, F, aIndex_map]
              all_goals first | rfl | exact hM | (rw [ezn]; done) | (rw [ezn]; simp; done) | (rw [ezn]; simp [pslice]; done)
            case hf6 =>
              have hw70 := hb
              try simp only [bo1, bo2, bo3, bo4, bo5, bo6] at hb
              have hbt70 := hb
              refine AW.skip ?_
              refine AW.region (cfg := cfgK) ?_
              iterate 3 refine stp (fun _ h => s0 h) ?_
              refine aops_nil ?_
              (have hM := (mok_com hB hK hbn zt.nB zt.nQ).2 hbt70; obtain ⟨zn, ezn⟩ : ∃ zn : KS, zn = ⟨wrB zt.G zt.w 2 0 1 (comX zt.x zt.y (byS l[k].n l[k].c)).1 (comX zt.x zt.y (byS l[k].n l[k].c)).2.1, zt.w, (comX zt.x zt.y (byS l[k].n l[k].c)).1, (comX zt.x zt.y (byS l[k].n l[k].c)).2.1, zt.nB, zt.B, zt.nQ, zt.Q, decide ((comX zt.x zt.y (byS l[k].n l[k].c)).2.2 = 7), false⟩ := ⟨_, rfl⟩; rw [← ezn] at hM)
              refine ⟨_, _, zn, rfl, ?_, ?_, ?_, ?_, ?_, ?_, ?_, ?_, ?_, ?_, ?_, ?_, (by intro i; simp [Mem.set, hr]), (by (simp only [mset_G, hG]; rw [ezn]))⟩ <;> try simp (disch := first | omega | decide) only [go_sem, F, aIndex_map]
              all_goals first | rfl | exact hM | (rw [ezn]; done)
          case hf5 =>
            have hw63 := hb
            try simp only [bo1, bo2, bo3, bo4, bo5, bo6] at hb
            have hbt63 := hb
            refine AW.seq ?_
            refine AW.region (cfg := cfgK) ?_
            iterate 2 refine stp (fun _ h => s0 h) ?_
            refine aops_nil ?_
            refine cnd (fun hb => ?ht7) (fun hb => ?hf7)
            case ht7 =>
              have hw78 := hb
              try simp only [bo1, bo2, bo3, bo4, bo5, bo6] at hb
              have hbt78 := hb
              refine AW.seq ?_
              refine AW.region (cfg := cfgK) ?_
              refine stp (fun _ h => s0 h) ?_
              refine stp (fun _ h => sl h) ?_
              refine stp (fun _ h => cr (w := good_bytes8 l[k].d l[k].n l[k].c l[k].tn (l[k].ts.map tearA) (noPtrL_tear _)) (x := h)) ?_
              refine stp (fun _ h => cg (w := good_TurnW zt.G zt.w 2 0 1 zt.x zt.y hB hFy hOy false (byS l[k].n l[k].c) (by omega) (fun h => by cases h)) (x := h)) ?_
              refine stp (fun _ h => s0 h) ?_
              refine aops_nil ?_
              refine AW.seq ?_
              refine AW.seq ?_
              refine AW.region (cfg := cfgK) ?_
              iterate 2 refine stp (fun _ h => s0 h) ?_
              refine aops_nil ?_
              refine cnd (fun hb => ?ht8) (fun hb => ?hf8)
              case ht8 =>
                have hw85 := hb
                try simp only [bo1, bo2, bo3, bo4, bo5, bo6] at hb
                have hbt85 := hb
                refine AW.seq ?_
                refine AW.region (cfg := cfgK) ?_
                refine stp (fun _ h => sl h) ?_
                refine stp (fun _ h => cr (w := good_bytes8 l[k].d l[k].n l[k].c l[k].tn (l[k].ts.map tearA) (noPtrL_tear _)) (x := h)) ?_
                refine stp (fun _ h => s0 h) ?_
                refine aops_nil ?_
                refine AW.region (cfg := cfgK) ?_
                refine stp (fun _ h => sq h) ?_
                refine stp (fun _ h => st h) ?_
                refine aops_nil ?_
                refine AW.seq ?_
                refine AW.region (cfg := cfgK) ?_
                iterate 3 refine stp (fun _ h => s0 h) ?_
                refine aops_nil ?_
                refine AW.region (cfg := cfgK) ?_
                iterate 2 refine stp (fun _ h => s0 h) ?_
                refine aops_nil ?_
                (have hM := (mok_tur hB hK hbn false false).1 hbt85; obtain ⟨zn, ezn⟩ : ∃ zn : KS, zn = ⟨wrB zt.G zt.w 2 0 1 (turX zt.x zt.y (byS l[k].n l[k].c)).1 (turX zt.x zt.y (byS l[k].n l[k].c)).2.1, zt.w, (turX zt.x zt.y (byS l[k].n l[k].c)).1, (turX zt.x zt.y (byS l[k].n l[k].c)).2.1, false, (byS l[k].n l[k].c), false, [], decide ((turX zt.x zt.y (byS l[k].n l[k].c)).2.2 = 7), decide ((turX zt.x zt.y (byS l[k].n l[k].c)).2.2 = 7)⟩ := ⟨_, rfl⟩; rw [← ezn] at hM)
                refine ⟨_, _, zn, rfl, ?_, ?_, ?_, ?_, ?_, ?_, ?_, ?_, ?_, ?_, ?_, ?_, (by intro i; simp [Mem.set, hr]), (by (simp only [mset_G, hG]; rw [ezn]))⟩ <;> try simp (disch := first | omega | decide) only [go_sem, F, aIndex_map]
                all_goals first | rfl | exact hM | (rw [ezn]; done) | (rw [ezn]; simp; done)
              case hf8 =>
                have hw85 := hb
                try simp only [bo1, bo2, bo3, bo4, bo5, bo6] at hb
                have hbt85 := hb
                refine AW.skip ?_
                refine AW.seq ?_
                refine AW.region (cfg := cfgK) ?_
                iterate 3 refine stp (fun _ h => s0 h) ?_
                refine aops_nil ?_
                refine AW.region (cfg := cfgK) ?_
                iterate 2 refine stp (fun _ h => s0 h) ?_
                refine aops_nil ?_
                (have hM := (mok_tur hB hK hbn zt.nB zt.nQ).2 hbt85; obtain ⟨zn, ezn⟩ : ∃ zn : KS, zn = ⟨wrB zt.G zt.w 2 0 1 (turX zt.x zt.y (byS l[k].n l[k].c)).1 (turX zt.x zt.y (byS l[k].n l[k].c)).2.1, zt.w, (turX zt.x zt.y (byS l[k].n l[k].c)).1, (turX zt.x zt.y (byS l[k].n l[k].c)).2.1, zt.nB, zt.B, zt.nQ, zt.Q, decide ((turX zt.x zt.y (byS l[k].n l[k].c)).2.2 = 7), decide ((turX zt.x zt.y (byS l[k].n l[k].c)).2.2 = 7)⟩ := ⟨_, rfl⟩; rw [← ezn] at hM)
                refine ⟨_, _, zn, rfl, ?_, ?_, ?_, ?_, ?_, ?_, ?_, ?_, ?_, ?_, ?_, ?_, (by intro i; simp [Mem.set, hr]), (by (simp only [mset_G, hG]; rw [ezn]))⟩ <;> try simp (disch := first | omega | decide) only [go_sem, F, aIndex_map]
                all_goals first | rfl | exact hM | (rw [ezn]; done)
            case hf7 =>
              have hw78 := hb
              try simp only [bo1, bo2, bo3, bo4, bo5, bo6] at hb
              have hbt78 := hb
              refine AW.seq ?_
              refine AW.region (cfg := cfgK) ?_
              iterate 2 refine stp (fun _ h => s0 h) ?_
              refine aops_nil ?_
              refine cnd (fun hb => ?ht9) (fun hb => ?hf9)
              case ht9 =>
                have hw92 := hb
                try simp only [bo1, bo2, bo3, bo4, bo5, bo6] at hb
                have hbt92 := hb
                refine AW.region (cfg := cfgK) ?_
                refine stp (fun _ h => s0 h) ?_
                refine stp (fun _ h => sx h) ?_
                refine stp (fun _ h => sl h) ?_
                refine stp (fun _ h => sd h) ?_
                refine stp (fun _ h => cg (w := DK.good_ArmG zt.G 2 0 1 zt.y hB.hD (l[k].n.tmod 9)) (x := h)) ?_
                refine aops_nil ?_
                (have q2 : l[k].d = 2 := hbt92; have hM := mok_arm hB hK hbn (k := l[k].n.tmod 9) (by omega) zt.nB zt.nQ; obtain ⟨zn, ezn⟩ : ∃ zn : KS, zn = ⟨wrD zt.G 2 0 1 (armD zt.y (l[k].n.tmod 9)), zt.w, zt.x, armD zt.y (l[k].n.tmod 9), zt.nB, zt.B, zt.nQ, zt.Q, false, false⟩ := ⟨_, rfl⟩; rw [← ezn] at hM)
                refine ⟨_, _, zn, rfl, ?_, ?_, ?_, ?_, ?_, ?_, ?_, ?_, ?_, ?_, ?_, ?_, (by intro i; simp [Mem.set, hr]), (by (simp only [mset_G, hG]; rw [ezn]))⟩ <;> try simp (disch := first | omega | decide) only [go_sem, F, aIndex_map]
                all_goals first | rfl | exact hM | (rw [ezn]; done)
              case hf9 =>
                have hw92 := hb
                try simp only [bo1, bo2, bo3, bo4, bo5, bo6] at hb
                have hbt92 := hb
                refine AW.skip ?_
                (have q2 : ¬ l[k].d = 2 := hbt92; have hM := mok_still hB hK hbn zt.nB zt.nQ; obtain ⟨zn, ezn⟩ : ∃ zn : KS, zn = ⟨zt.G, zt.w, zt.x, zt.y, zt.nB, zt.B, zt.nQ, zt.Q, false, false⟩ := ⟨_, rfl⟩; rw [← ezn] at hM)
                refine ⟨_, _, zn, rfl, ?_, ?_, ?_, ?_, ?_, ?_, ?_, ?_, ?_, ?_, ?_, ?_, (by intro i; simp [Mem.set, hr]), (by (rw [ezn]; exact hG))⟩ <;> try simp (disch := first | omega | decide) only [go_sem, F, aIndex_map]
                all_goals first | rfl | exact hM | (rw [ezn]; done)
        · clear F f0 f3 f5 f9 f10 f11 o10 hr hG
          rintro σ ⟨s, m, zm, rfl, f0, f3, f5, f9, f10, o10, f11, f12, o12, f13, f14, mo0, hr, hG⟩
          obtain ⟨g10, o10⟩ : ∃ g, m.objs (.var 10) = (g, .arr zm.nQ 1 (zm.Q.map pslice)) := ⟨_, Prod.ext rfl o10⟩
          rw [o10] at f10
          obtain ⟨g12, o12⟩ : ∃ g, m.objs (.tmp 12 0) = (g, .box [.v (i64 l[k].d), .v (i64 l[k].n), .v (u8 l[k].c), .v (.sl 2 l[k].tn (l[k].ts.map tearA))]) := ⟨_, Prod.ext rfl o12⟩
          rw [o12] at f12
          have F := (And.intro f0 (And.intro f3 (And.intro f5 (And.intro f9 (And.intro f10 (And.intro f11 (And.intro f12 (And.intro f13 (And.intro f14 (And.intro o10 (And.intro o12 hG)))))))))))
          refine AW.seq ?_
          refine AW.seq ?_
          obtain ⟨hMB, hMM⟩ := mo0
          have hkl : k < l.length := by omega
          obtain ⟨hlk1, hlk2⟩ := hl8.2 _ (List.getElem_mem hkl)
          have hbl := byS_len l[k].n l[k].c
          have hMf := hMM.f
          refine AW.region (cfg := cfgK) ?_
          refine stp (fun _ h => sx h) ?_
          refine stp (fun _ h => sl h) ?_
          iterate 2 refine stp (fun _ h => s0 h) ?_
          refine mrg wa (fun hc _ h => s0 h) ?_
          refine mrg wa (fun hc _ h => cgn (w := DK.good_DeadG zm.G 2 0 1 zm.y hMB.hD) (x := h)) ?_
          refine mrg wa (fun hc _ h => s0 h) ?_
          refine stp (fun _ h => s0 h) ?_
          refine aops_nil ?_
          refine cnd (fun hb => ?ht10) (fun hb => ?hf10)
          case ht10 =>
            have hw106 := hb
            try simp only [bo1, bo2, bo3, bo4, bo5, bo6] at hb
            have hbt106 := hb
            refine AW.exit ?_
            refine AW.region (cfg := cfgK) ?_
            refine stp (fun _ h => s0 h) ?_
            refine stp (fun _ h => sd h) ?_
            refine stp (fun _ h => s0 h) ?_
            refine aops_nil ?_
            (have ho : offD zm.y = false := (by have h8 := hbt106.2; simpa using h8); have hKN := live_k (z := zm) ⟨hMB, hMM⟩ ho; obtain ⟨zn, ezn⟩ : ∃ zn : KS, zn = zm := ⟨_, rfl⟩; rw [← ezn] at hKN)
            refine ⟨_, _, zn, rfl, ?_, ?_, ?_, ?_, ?_, ?_, ?_, ?_, (by intro i; simp [Mem.set, hr]), (by (rw [ezn]; exact hG))⟩ <;> try simp (disch := first | omega | decide) only [go_sem, F, aIndex_map]
            all_goals first | rfl | exact hKN | (rw [ezn]; done)
          case hf10 =>
            have hw106 := hb
            try simp only [bo1, bo2, bo3, bo4, bo5, bo6] at hb
            have hbt106 := hb
            refine AW.skip ?_
            refine AW.seq ?_
            refine AW.seq ?_
            refine AW.region (cfg := cfgK) ?_
            refine stp (fun _ h => s0 h) ?_
            refine stp (fun _ h => sx h) ?_
            refine stp (fun _ h => sl h) ?_
            refine stp (fun _ h => cg (w := good_Told zm.G 2 0 1 zm.y hMB.hD hMf l[k].tn l[k].ts (by omega) (fun t ht => by have := hlk2 t ht; omega)) (x := h)) ?_
            refine stp (fun _ h => s0 h) ?_
            refine aops_nil ?_
            refine cnd (fun hb => ?ht11) (fun hb => ?hf11)
            case ht11 =>
              have hw111 := hb
              try simp only [bo1, bo2, bo3, bo4, bo5, bo6] at hb
              have hbt111 := hb
              refine AW.seq ?_
              refine AW.region (cfg := cfgK) ?_
              refine stp (fun _ h => cs (w := good_awake8) (x := h)) ?_
              refine stp (fun _ h => s0 h) ?_
              refine aops_nil ?_
              refine AW.ret ?_
              refine ⟨.inr rfl, ?_⟩
              apply Exists.intro
              refine leaves_tmp1 2 rfl ?_ (by rfl)
              simp (disch := first | omega | decide) only [go_sem, F, aIndex_map]
              all_goals first | done | rfl | trace_state
            case hf11 =>
              have hw111 := hb
              try simp only [bo1, bo2, bo3, bo4, bo5, bo6] at hb
              have hbt111 := hb
              refine AW.skip ?_
              refine AW.seq ?_
              have hTB := hasB_pre hMB (fun i hi => told_pre (y := zm.y) (l := l[k].ts) hi)
              obtain ⟨z, hz⟩ : ∃ z, z = crashD zm.y l[k].ts := ⟨_, rfl⟩
              have hbk : Back k (byS l[k].n l[k].c) z zm.B zm.Q zm.may zm.turned := by (rw [hz]; exact back_mid hMM (by omega) (told_of (by simpa using hbt111)))
              have hcr : Good Tryz.prog 23 [(.gp 2 0, false), (.sl 2 l[k].tn (l[k].ts.map tearA), false)] (toldG zm.G zm.y l[k].ts) [] (wrD (toldG zm.G zm.y l[k].ts) 2 0 1 z) := by (rw [hz]; exact DK.good_CrashG (toldG zm.G zm.y l[k].ts) 2 0 1 zm.y hTB.hD hMf l[k].tn l[k].ts (by omega) (fun t ht => by have := hlk2 t ht; omega))
              have hDz : HasD (wrD (toldG zm.G zm.y l[k].ts) 2 0 1 z) 2 0 1 z := wr_has hTB.hD
              obtain ⟨Gz, wz, x2, B2, Q2, hBz, hoo, ⟨R2, hk2⟩, hkq, hc3⟩ := back_open hDz hbk
              have hb2 := hk2.bl
              have hq2 := hk2.ql
              have hqb := hk2.qb
              refine AW.region (cfg := cfgK) ?_
              refine stp (fun _ h => s0 h) ?_
              refine stp (fun _ h => sx h) ?_
              refine stp (fun _ h => sl h) ?_
              refine stp (fun _ h => cg (w := hcr) (x := h)) ?_
              refine aops_nil ?_
              refine AW.seq ?_
              refine AW.region (cfg := cfgK) ?_
              refine stp (fun _ h => s0 h) ?_
              refine stp (fun _ h => cgo4 (w := hoo) (x := h)) ?_
              iterate 7 refine stp (fun _ h => s0 h) ?_
              refine stp (fun _ h => st h) ?_
              refine stp (fun _ h => s0 h) ?_
              refine aops_nil ?_
              refine AW.seq ?_
              refine AW.seq ?_
              refine AW.region (cfg := cfgK) ?_
              iterate 3 refine stp (fun _ h => s0 h) ?_
              iterate 2 refine mrg wa (fun hc _ h => s0 h) ?_
              refine stp (fun _ h => s0 h) ?_
              refine aops_nil ?_
              refine cnd (fun hb => ?ht12) (fun hb => ?hf12)
              case ht12 => (simp at hb; done)
              case hf12 =>
              have hbt129 := hb
              refine AW.skip ?_
              refine AW.seq ?_
              refine AW.region (cfg := cfgK) ?_
              iterate 2 refine stp (fun _ h => s0 h) ?_
              refine aops_nil ?_
              refine AW.seq ?_
              have hzb : zm.B.length ≤ 3000 ∧ zm.Q.length ≤ k + 1 ∧ ∀ p ∈ zm.Q, p.2.length ≤ 3000 := by (rcases hMM.c with ⟨_, _, _, _, _, q⟩ | ⟨_, _, _, _, _, _, q, _⟩ | ⟨_, _, _, _, _, _, q, _⟩ <;> exact ⟨q.bl, by (have := q.ql; omega), q.qb⟩)
              obtain ⟨zb1, zb2, zb3⟩ := hzb
              refine AW.region (cfg := cfgK) ?_
              iterate 2 refine stp (fun _ h => s0 h) ?_
              refine stp (fun _ h => cs (w := O.good_Same B2.isEmpty zm.nB B2 zm.B (by omega) (by omega)) (x := h)) ?_
              refine stp (fun _ h => s0 h) ?_
              iterate 2 refine mrg wa (fun hc _ h => s0 h) ?_
              refine mrg wa (fun hc _ h => cs (w := W8.good_texts Q2.isEmpty zm.nQ Q2 zm.Q (by omega) (by omega) (fun p hp => by have := hqb p hp; omega) (fun p hp => by have := zb3 p hp; omega)) (x := h)) ?_
              iterate 2 refine stp (fun _ h => s0 h) ?_
              refine aops_nil ?_
              refine AW.seq ?_
              refine AW.seq ?_
              refine AW.region (cfg := cfgK) ?_
              refine stp (fun _ h => s0 h) ?_
              refine aops_nil ?_
              refine cnd (fun hb => ?ht13) (fun hb => ?hf13)
              case ht13 =>
                have hw139 := hb
                try simp only [bo1, bo2, bo3, bo4, bo5, bo6] at hb
                have hbt139 := hb
                refine AW.exit ?_
                refine AW.region (cfg := cfgK) ?_
                refine stp (fun _ h => s0 h) ?_
                refine stp (fun _ h => sd h) ?_
                refine stp (fun _ h => s0 h) ?_
                refine aops_nil ?_
                (have q9 : B2 = zm.B ∧ txts Q2 zm.Q = true := hbt139; have hKN : KOK (k + 1) ⟨Gz, wz, x2, z, zm.nB, zm.B, zm.nQ, zm.Q, false, false⟩ := ⟨hBz, hkq _ _ q9.1 (of_decide_eq_true q9.2)⟩; obtain ⟨zn, ezn⟩ : ∃ zn : KS, zn = ⟨Gz, wz, x2, z, zm.nB, zm.B, zm.nQ, zm.Q, false, false⟩ := ⟨_, rfl⟩; rw [← ezn] at hKN)
                refine ⟨_, _, zn, rfl, ?_, ?_, ?_, ?_, ?_, ?_, ?_, ?_, (by intro i; simp [Mem.set, hr]), (by (simp only [mset_G, hG]; rw [ezn]))⟩ <;> try simp (disch := first | omega | decide) only [go_sem, F, aIndex_map]
                all_goals first | rfl | exact hKN | (rw [ezn]; done)
              case hf13 =>
                have hw139 := hb
                try simp only [bo1, bo2, bo3, bo4, bo5, bo6] at hb
                have hbt139 := hb
                refine AW.skip ?_
                refine AW.seq ?_
                refine AW.seq ?_
                have hc4 : (zm.may = true ∧ zm.turned = false ∧ B2 = zm.B ∧ Q2.map Prod.snd = zm.Q.map Prod.snd ++ [(byS l[k].n l[k].c)]) ∨ (zm.may = true ∧ zm.turned = true ∧ B2 = (byS l[k].n l[k].c) ∧ Q2 = []) := by
                  rcases hc3 with ⟨q1, q2⟩ | q | q
                  · exfalso
                    rcases hbt139 with h8 | h8
                    · exact h8 q1
                    · rw [txts, decide_eq_true q2] at h8; cases h8
                  · exact .inl q
                  · exact .inr q
                have m1 : zm.may = true := by (rcases hc4 with q | q <;> exact q.1)
                rcases h42 : zm.turned with _ | _
                · skip
                  have m2 : decide (B2 = zm.B) = true := by (rcases hc4 with ⟨_, _, q, _⟩ | ⟨_, q, _, _⟩; exact decide_eq_true q; rw [h42] at q; cases q)
                  have m3 : txts Q2 (zm.Q ++ [(false, (byS l[k].n l[k].c))]) = true := by (rcases hc4 with ⟨_, _, _, q⟩ | ⟨_, q, _, _⟩; exact decide_eq_true (by rw [q, List.map_append]; rfl); rw [h42] at q; cases q)
                  have hqa : ∀ p ∈ zm.Q ++ [(false, (byS l[k].n l[k].c))], p.2.length ≤ 1000000 := by
                    intro p hp
                    rcases List.mem_append.1 hp with h8 | h8
                    · have := zb3 p h8; omega
                    · rw [List.mem_singleton.1 h8]; show (byS l[k].n l[k].c).length ≤ 1000000; omega
                  have htx : Good Tryz.prog 25 [(.sl 1 Q2.isEmpty (Q2.map pslice), false), (.sl 1 false (zm.Q.map pslice ++ [.sl 1 false (bsl (byS l[k].n l[k].c))]), false)] [] [(.b true, false)] [] := by (have q := W8.good_texts Q2.isEmpty false Q2 (zm.Q ++ [(false, (byS l[k].n l[k].c))]) (by omega) (by simp; omega) (fun p hp => by have := hqb p hp; omega) hqa; rw [m3, List.map_append] at q; exact q)
                  have F := And.intro h42 F
                  have F := And.intro m1 F
                  have F := And.intro m2 F
                  have F := And.intro m3 F
                  refine AW.draw (cfg := cfgK) (by kernel_rfl) (by kernel_rfl) (by kernel_rfl) ?_
                  iterate 5 refine dstp (fun _ h => s0 h) ?_
                  iterate 10 refine dskp ?_
                  iterate 8 refine dstp (fun _ h => s0 h) ?_
                  refine dstp (fun _ h => cs (w := O.good_Same B2.isEmpty zm.nB B2 zm.B (by omega) (by omega)) (x := h)) ?_
                  iterate 3 refine dstp (fun _ h => s0 h) ?_
                  refine dstp (fun _ h => sq h) ?_
                  refine dstp (fun _ h => s0 h) ?_
                  refine dstp (fun _ h => sp h) ?_
                  refine dstp (fun _ h => sl h) ?_
                  refine dstp (fun _ h => cr (w := good_bytes8 l[k].d l[k].n l[k].c l[k].tn (l[k].ts.map tearA) (noPtrL_tear _)) (x := h)) ?_
                  refine dstp (fun _ h => sq h) ?_
                  refine dstp (fun _ h => sp h) ?_
                  refine dstp (fun _ h => cs (w := htx) (x := h)) ?_
                  iterate 4 refine dstp (fun _ h => s0 h) ?_
                  refine adraw_nil (by kernel_rfl) ?_
                  refine cnd (fun hb => ?ht14) (fun hb => ?hf14)
                  case ht14 => (simp at hb; done)
                  case hf14 =>
                  have hbt178 := hb
                  refine AW.skip ?_
                  refine AW.region (cfg := cfgK) ?_
                  iterate 3 refine stp (fun _ h => s0 h) ?_
                  refine stp (fun _ h => sm h) ?_
                  refine aops_nil ?_
                  refine AW.region (cfg := cfgK) ?_
                  refine stp (fun _ h => s0 h) ?_
                  refine stp (fun _ h => sd h) ?_
                  refine stp (fun _ h => s0 h) ?_
                  refine aops_nil ?_
                  (have hKN : KOK (k + 1) ⟨Gz, wz, x2, z, B2.isEmpty, B2, Q2.isEmpty, Q2, false, false⟩ := ⟨hBz, _, hk2⟩; obtain ⟨zn, ezn⟩ : ∃ zn : KS, zn = ⟨Gz, wz, x2, z, B2.isEmpty, B2, Q2.isEmpty, Q2, false, false⟩ := ⟨_, rfl⟩; rw [← ezn] at hKN)
                  refine ⟨_, _, zn, rfl, ?_, ?_, ?_, ?_, ?_, ?_, ?_, ?_, (by intro i; simp [Mem.set, hr]), (by (simp only [mset_G, hG]; rw [ezn]))⟩ <;> try simp (disch := first | omega | decide) only [go_sem, F, aIndex_map]
                  all_goals first | rfl | exact hKN | (rw [ezn]; done)
                · skip
                  have m2 : decide (B2 = (byS l[k].n l[k].c)) = true := by (rcases hc4 with ⟨_, q, _, _⟩ | ⟨_, _, q, _⟩; rw [h42] at q; cases q; exact decide_eq_true q)
                  have m3 : Q2.length = 0 := by (rcases hc4 with ⟨_, q, _, _⟩ | ⟨_, _, _, q⟩; rw [h42] at q; cases q; rw [q]; rfl)
                  have F := And.intro h42 F
                  have F := And.intro m1 F
                  have F := And.intro m2 F
                  have F := And.intro m3 F
                  refine AW.draw (cfg := cfgK) (by kernel_rfl) (by kernel_rfl) (by kernel_rfl) ?_
                  iterate 6 refine dstp (fun _ h => s0 h) ?_
                  refine dstp (fun _ h => sl h) ?_
                  refine dstp (fun _ h => cr (w := good_bytes8 l[k].d l[k].n l[k].c l[k].tn (l[k].ts.map tearA) (noPtrL_tear _)) (x := h)) ?_
                  refine dstp (fun _ h => cs (w := O.good_Same B2.isEmpty false B2 (byS l[k].n l[k].c) (by omega) (by omega)) (x := h)) ?_
                  iterate 3 refine dstp (fun _ h => s0 h) ?_
                  refine dstp (fun _ h => sn h) ?_
                  iterate 8 refine dstp (fun _ h => s0 h) ?_
                  iterate 16 refine dskp ?_
                  iterate 2 refine dstp (fun _ h => s0 h) ?_
                  refine adraw_nil (by kernel_rfl) ?_
                  refine cnd (fun hb => ?ht15) (fun hb => ?hf15)
                  case ht15 => (simp at hb; done)
                  case hf15 =>
                  have hbt178 := hb
                  refine AW.skip ?_
                  refine AW.region (cfg := cfgK) ?_
                  iterate 3 refine stp (fun _ h => s0 h) ?_
                  refine stp (fun _ h => sm h) ?_
                  refine aops_nil ?_
                  refine AW.region (cfg := cfgK) ?_
                  refine stp (fun _ h => s0 h) ?_
                  refine stp (fun _ h => sd h) ?_
                  refine stp (fun _ h => s0 h) ?_
                  refine aops_nil ?_
                  (have hKN : KOK (k + 1) ⟨Gz, wz, x2, z, B2.isEmpty, B2, Q2.isEmpty, Q2, false, false⟩ := ⟨hBz, _, hk2⟩; obtain ⟨zn, ezn⟩ : ∃ zn : KS, zn = ⟨Gz, wz, x2, z, B2.isEmpty, B2, Q2.isEmpty, Q2, false, false⟩ := ⟨_, rfl⟩; rw [← ezn] at hKN)
                  refine ⟨_, _, zn, rfl, ?_, ?_, ?_, ?_, ?_, ?_, ?_, ?_, (by intro i; simp [Mem.set, hr]), (by (simp only [mset_G, hG]; rw [ezn]))⟩ <;> try simp (disch := first | omega | decide) only [go_sem, F, aIndex_map]
                  all_goals first | rfl | exact hKN | (rw [ezn]; done) | (have z9 : zn.Q.length = 0 := (by rw [ezn]; exact m3); rw [z9])
      case hf4 =>
        have hw54 := hb
        try simp only [bo1, bo2, bo3, bo4, bo5, bo6] at hb
        have hbt54 := hb
        refine AW.exit ?_
        refine AW.seq ?_
        refine AW.region (cfg := cfgK) ?_
        refine stp (fun _ h => cs (w := good_awake8) (x := h)) ?_
        refine stp (fun _ h => s0 h) ?_
        refine aops_nil ?_
        refine AW.ret ?_
        refine ⟨.inr rfl, ?_⟩
        apply Exists.intro
        refine leaves_tmp1 2 rfl ?_ (by rfl)
        simp (disch := first | omega | decide) only [go_sem, F, aIndex_map]
        all_goals first | done | rfl | trace_state
    · clear F f0 hr hG
      rintro σ ⟨s, m, zt, rfl, f0, f3, f5, f9, f10, o10, f11, mo0, hr, hG⟩
      obtain ⟨g10, o10⟩ : ∃ g, m.objs (.var 10) = (g, .arr zt.nQ 1 (zt.Q.map pslice)) := ⟨_, Prod.ext rfl o10⟩
      rw [o10] at f10
      have F := (And.intro f0 (And.intro f3 (And.intro f5 (And.intro f9 (And.intro f10 (And.intro f11 (And.intro o10 hG)))))))
      refine AW.seq ?_
      refine AW.seq ?_
      refine AW.region (cfg := cfgK) ?_
      iterate 2 refine stp (fun _ h => s0 h) ?_
      refine stp (fun _ h => sd h) ?_
      refine stp (fun _ h => s0 h) ?_
      refine aops_nil ?_
      refine cnd (fun hb => ?ht16) (fun hb => ?hf16)
      case ht16 => (simp at hb; done)
      case hf16 =>
      have hbt54 := hb
      refine AW.exit ?_
      refine AW.seq ?_
      refine AW.region (cfg := cfgK) ?_
      refine stp (fun _ h => cs (w := good_awake8) (x := h)) ?_
      refine stp (fun _ h => s0 h) ?_
      refine aops_nil ?_
      refine AW.ret ?_
      refine ⟨.inr rfl, ?_⟩
      apply Exists.intro
      refine leaves_tmp1 2 rfl ?_ (by rfl)
      simp (disch := first | omega | decide) only [go_sem, F, aIndex_map]
      all_goals first | done | rfl | trace_state
end Go.Vai.WK
