import Derived.Test.YtbnpnljlfnaheaapAg2
import Derived.Test.YtbnpnljlfnaheaaVaiD
namespace Go.Vai.AG
open Go.Proofs Go.Vai Go.Vai.I Go.Vai.N Go.Vai.Y
set_option linter.unusedSimpArgs false
set_option linter.unusedVariables false
set_option maxHeartbeats 4000000
set_option maxRecDepth 100000
theorem dfS_len {p : Ag → Bool} {l : List Ag} {a k : Nat} : (dfS p l a k).1.length = l.length := (df_len p l a k).1
attribute [simp] dfS_len
attribute [go_sem] dfS_len
theorem df_cut {X : List AV} {i r : Nat} {z : AV} {Y : List AV} (h : i ≤ X.length) : (X.take i ++ List.replicate r z ++ Y).take i = X.take i := by
  rw [List.append_assoc, List.take_append_of_le_length (by rw [List.length_take]; omega), List.take_take, Nat.min_self]
theorem find_wayAg (p : Ag → Bool) (l : List Ag) : findI p l = -1 ∧ (∀ x ∈ l, p x = false) ∨ ∃ a, ∃ ha : a < l.length, findI p l = (a : Int) ∧ (∀ x ∈ l.take a, p x = false) ∧ p l[a] = true := by
  unfold findI
  split
  · rename_i i hi
    obtain ⟨h1, h2, h3⟩ := List.findIdx?_eq_some_iff_getElem.1 hi
    refine .inr ⟨i, h1, rfl, fun x hx => ?_, by simpa using h2⟩
    obtain ⟨j, hj, rfl⟩ := List.mem_take_iff_getElem.1 hx
    simpa using h3 j (by omega)
  · rename_i hi
    exact .inl ⟨rfl, fun x hx => by simpa using List.findIdx?_eq_none_iff.1 hi x hx⟩
theorem good_DeleteFuncAg (nil : Bool) (l : List Ag) (hl : l.length ≤ 1000000) (hz : nil = true → l = []) (f : FuncId) (caps : List AV) (p : Ag → Bool) (hcn : noPtrL caps = true) (hpu : cfg.pure f = true) (hsc : cfg.scalar f = true) (hxf : cfg.xfer f = false) (hp : ∀ x ∈ l, Good Try.prog f (([agA x] ++ caps).map fun a => (a, false)) [] [(.b (p x), false)] []) : Good Try.prog 73 [(.sl 4 nil (l.map agA), true), (.clo f caps, false)] [] [(.sl 4 nil ((l.filter fun x => !p x).map agA), false)] [] := by
  refine good_of_body2 42 Try.func73 rfl rfl rfl (by simp) ?_
  intro s m ha hr hv hG
  have f0 : s 0 = .own (.var 0) 1 0 ((l.map agA).length) := ha 0 _ rfl
  have o0 : m.objs (.var 0) = (1, .arr nil 4 (l.map agA)) := hv 0 _ rfl
  have f1 : s 1 = .v (.clo f caps) := ha 1 _ rfl
  clear ha
  have hc : True := trivial
  have F := (And.intro f0 (And.intro f1 (And.intro o0 hG)))
  have F := And.intro hcn F
  refine AW.seq ?_
  refine AW.region (cfg := cfg) ?_
  refine stp (fun _ h => s0 h) ?_
  refine aops_nil ?_
  refine AW.seq ?_
  refine AW.region (cfg := cfg) ?_
  iterate 2 refine stp (fun _ h => s0 h) ?_
  refine stp (fun _ h => cs (w := good_IndexFuncAg nil l f caps p (by omega) hcn hpu hsc hxf hp) (x := h)) ?_
  refine stp (fun _ h => s0 h) ?_
  refine aops_nil ?_
  refine AW.seq ?_
  refine AW.seq ?_
  rcases find_wayAg p l with ⟨hf, hall⟩ | ⟨a, hal, hf, hat, hap⟩
  · skip
    have hfd : decide (findI p l = -1) = true := decide_eq_true hf
    have F := And.intro hf F
    have F := And.intro hfd F
    refine AW.region (cfg := cfg) ?_
    iterate 2 refine stp (fun _ h => s0 h) ?_
    refine aops_nil ?_
    refine cnd (fun hb => ?ht1) (fun hb => ?hf1)
    case hf1 => (simp at hb; done)
    case ht1 =>
    have hbt12 := hb
    refine AW.seq ?_
    refine AW.region (cfg := cfg) ?_
    refine stp (fun _ h => s0 h) ?_
    refine stp (fun _ h => sm h) ?_
    refine aops_nil ?_
    refine AW.ret ?_
    refine ⟨.inr rfl, ?_⟩
    refine leaves_tmp1 4 rfl ?_ (by exact hG)
    simp (disch := first | omega | decide) only [go_sem, F, aIndex_map]
    all_goals (rw [sub_full (by simp), List.filter_eq_self.2 (fun x hx => by rw [hall x hx]; rfl)]; done)
  · skip
    have hfd : decide (((a : Nat) : Int) = -1) = false := decide_eq_false (by omega)
    obtain rfl : nil = false := by (cases nil; rfl; rw [hz rfl] at hal; cases hal)
    have F := And.intro hf F
    have F := And.intro hfd F
    refine AW.region (cfg := cfg) ?_
    iterate 2 refine stp (fun _ h => s0 h) ?_
    refine aops_nil ?_
    refine cnd (fun hb => ?ht2) (fun hb => ?hf2)
    case ht2 => (simp at hb; done)
    case hf2 =>
    have hbt12 := hb
    refine AW.skip ?_
    refine AW.seq ?_
    refine AW.seq ?_
    refine AW.region (cfg := cfg) ?_
    refine stp (fun _ h => s0 h) ?_
    refine stp (fun _ h => sd h) ?_
    refine stp (fun _ h => s0 h) ?_
    refine aops_nil ?_
    refine AW.block ?_
    refine AW.forN (fun k σ => ∃ s m, σ = ⟨42, s, m⟩ ∧ s 0 = .own (.var 0) (m.objs (.var 0)).1 0 (l.length) ∧ (m.objs (.var 0)).2 = .arr false 4 ((dfS p l a k).1.map agA) ∧ s 1 = .v (.clo f caps) ∧ s 5 = .v (i64 ((dfS p l a k).2 : Int)) ∧ s 6 = .v (i64 ((a + 1 + k : Nat) : Int)) ∧ (∀ i, (m.objs (.res i)).2 = .dead) ∧ m.G = []) (l.length - (a + 1)) ?_ ?_ ?_
    · refine ⟨_, _, rfl, ?_, ?_, ?_, ?_, ?_, (by intro i; simp [Mem.set, hr]), (by exact hG)⟩ <;> try simp (disch := first | omega | decide) only [go_sem, F, aIndex_map]
      all_goals rfl
    · clear F f0 f1 o0 hr hG
      rintro k σ hk ⟨s, m, rfl, f0, o0, f1, f5, f6, hr, hG⟩
      obtain ⟨g0, o0⟩ : ∃ g, m.objs (.var 0) = (g, .arr false 4 ((dfS p l a k).1.map agA)) := ⟨_, Prod.ext rfl o0⟩
      rw [o0] at f0
      have F := (And.intro f0 (And.intro f1 (And.intro f5 (And.intro f6 (And.intro o0 (And.intro hf (And.intro hfd hG)))))))
      refine AW.seq ?_
      refine AW.seq ?_
      refine AW.region (cfg := cfg) ?_
      iterate 2 refine stp (fun _ h => s0 h) ?_
      refine stp (fun _ h => sn h) ?_
      refine stp (fun _ h => s0 h) ?_
      refine aops_nil ?_
      refine cnd (fun hb => ?ht3) (fun hb => ?hf3)
      case hf3 => (simp at hb; omega)
      case ht3 =>
      have hbt19 := hb
      refine AW.skip ?_
      refine AW.seq ?_
      refine AW.block ?_
      refine AW.seq ?_
      have hj : a + 1 + k < l.length := by omega
      have dl := df_len p l a k
      have hgd := getD_at hj
      have hfe : ((dfS p l a k).1)[a + 1 + k]'(by (rw [dl.1]; omega)) = l[a + 1 + k] := by (have := df_far p l a k (a + 1 + k) (by omega); rw [List.getElem?_eq_getElem hj, List.getElem?_eq_getElem (by rw [dl.1]; omega)] at this; exact Option.some.inj this)
      have hel := agA_eq (l[a + 1 + k])
      have F := And.intro hfe F
      refine AW.region (cfg := cfg) ?_
      iterate 2 refine stp (fun _ h => s0 h) ?_
      refine stp (fun _ h => si h) ?_
      refine stp (fun _ h => sel h) ?_
      refine stp (fun _ h => sd h) ?_
      refine stp0 (fun _ h => ss h) ?_
      refine aops_nil ?_
      refine AW.seq ?_
      refine AW.region (cfg := cfg) ?_
      refine stp (fun _ h => s0 h) ?_
      refine stp (fun _ h => sl h) ?_
      apply aops_step (by decide) rfl
      · intro K hK
        simp (disch := first | omega | decide) only [go_sem, F, aIndex_map, act_callv, List.map]
        apply mwp_call_sc hpu hxf hsc
        · intro Q hQ
          simp (disch := first | omega | decide) only [go_sem, F, aIndex_map, peekL, reifyL_nil, reifyL_cons, reify_v]
          exact hQ
        · exact hp l[a + 1 + k] (List.getElem_mem hj)
        · simp [noPtrL, noPtr, agA, hcn]
        · rfl
        · exact hK _
      refine stp (fun _ h => s0 h) ?_
      refine aops_nil ?_
      refine cnd (fun hb => ?ht4) (fun hb => ?hf4)
      case ht4 =>
        have hw29 := hb
        try simp only [bo1, bo2, bo3, bo4, bo5, bo6] at hb
        have hbt29 := hb
        refine AW.seq ?_
        refine AW.region (cfg := cfg) ?_
        iterate 2 refine stp (fun _ h => s0 h) ?_
        refine stp (fun _ h => sl h) ?_
        refine stp (fun _ h => si h) ?_
        refine stp0 (fun _ h => se2 (w := hel) (x := h)) ?_
        refine aops_nil ?_
        refine AW.region (cfg := cfg) ?_
        refine stp (fun _ h => s0 h) ?_
        refine stp (fun _ h => sd h) ?_
        refine stp (fun _ h => s0 h) ?_
        refine aops_nil ?_
        refine AW.region (cfg := cfg) ?_
        refine stp (fun _ h => s0 h) ?_
        refine stp (fun _ h => sd h) ?_
        refine stp (fun _ h => s0 h) ?_
        refine aops_nil ?_
        refine ⟨_, _, rfl, ?_, ?_, ?_, ?_, ?_, (by intro i; simp [Mem.set, hr]), (by exact hG)⟩ <;> try simp (disch := first | omega | decide) only [go_sem, F, aIndex_map]
        all_goals first | rfl | (rw [df_no (by rw [hgd]; exact bnot_t hw29), hgd, Nat.zero_add]; done) | (rw [df_no (by rw [hgd]; exact bnot_t hw29)]; simp; done)
      case hf4 =>
        have hw29 := hb
        try simp only [bo1, bo2, bo3, bo4, bo5, bo6] at hb
        have hbt29 := hb
        refine AW.skip ?_
        refine AW.region (cfg := cfg) ?_
        refine stp (fun _ h => s0 h) ?_
        refine stp (fun _ h => sd h) ?_
        refine stp (fun _ h => s0 h) ?_
        refine aops_nil ?_
        refine ⟨_, _, rfl, ?_, ?_, ?_, ?_, ?_, (by intro i; simp [Mem.set, hr]), (by exact hG)⟩ <;> try simp (disch := first | omega | decide) only [go_sem, F, aIndex_map]
        all_goals first | rfl | (rw [df_yes (by rw [hgd]; exact bnot_f hw29)]; done)
    · clear F f0 f1 o0 hr hG
      rintro σ ⟨s, m, rfl, f0, o0, f1, f5, f6, hr, hG⟩
      obtain ⟨g0, o0⟩ : ∃ g, m.objs (.var 0) = (g, .arr false 4 ((dfS p l a (l.length - (a + 1))).1.map agA)) := ⟨_, Prod.ext rfl o0⟩
      rw [o0] at f0
      have F := (And.intro f0 (And.intro f1 (And.intro f5 (And.intro f6 (And.intro o0 (And.intro hf (And.intro hfd hG)))))))
      refine AW.seq ?_
      refine AW.seq ?_
      refine AW.region (cfg := cfg) ?_
      iterate 2 refine stp (fun _ h => s0 h) ?_
      refine stp (fun _ h => sn h) ?_
      refine stp (fun _ h => s0 h) ?_
      refine aops_nil ?_
      refine cnd (fun hb => ?ht5) (fun hb => ?hf5)
      case ht5 => (simp at hb; omega)
      case hf5 =>
      have hbt19 := hb
      refine AW.exit ?_
      refine AW.seq ?_
      have dl := df_len p l a (l.length - (a + 1))
      have dall := df_all hal hat hap
      refine AW.region (cfg := cfg) ?_
      iterate 2 refine stp (fun _ h => s0 h) ?_
      refine stp (fun _ h => kus h) ?_
      refine stp0 (fun _ h => kcl h) ?_
      refine aops_nil ?_
      refine AW.seq ?_
      refine AW.region (cfg := cfg) ?_
      iterate 2 refine stp (fun _ h => s0 h) ?_
      refine stp (fun _ h => kus h) ?_
      refine stp (fun _ h => sm h) ?_
      refine aops_nil ?_
      refine AW.ret ?_
      refine ⟨.inr rfl, ?_⟩
      refine leaves_tmp1 4 rfl ?_ (by exact hG)
      simp (disch := first | omega | decide) only [go_sem, F, aIndex_map]
      all_goals (rw [sub, List.drop_zero, df_cut (by rw [List.length_map, dl.1]; omega), ← List.map_take, dall]; done)
end Go.Vai.AG
