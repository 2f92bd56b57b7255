import Derived.Test.YtdoomgohnocecaaM4
namespace Go.Vai.BA
open Go.Proofs Go.Vai Go.Vai.C Go.Vai.D Go.Vai.DB Go.Vai.G Go.Vai.I Go.Vai.L Go.Vai.N Go.Vai.O
set_option linter.unusedSimpArgs false
set_option linter.unusedVariables false
set_option maxHeartbeats 4000000
set_option maxRecDepth 100000
open Go.Vai.O
attribute [simp] epsB_len
theorem lsaS_is {x : Lsa} (h : lsaOK x = true) : lsaS ⟨x.o, x.s, x.nil, x.ls⟩ = lsaB x := by
  show lsaS x = _
  rw [lsaS, h]; rfl
theorem good_PutX (nil : Bool) (l : List (BitVec 8)) (x : Lsa) (hl : l.length ≤ 140737488350000) (hz : nil = true → l = []) (hx : lsaOK x = true) : Good Try.prog 43 [(.sl 1 nil (bsl l), false), (lsaA x, false)] [] [(.sl 1 false (bsl (l ++ lsaB x)), true)] [] := by
  have := good_Put nil l x.o x.s x.nil x.ls hl hz (by have := (lsa_bd hx).2.2.1; omega)
  rw [lsaS_is hx, show lsaOK ⟨x.o, x.s, x.nil, x.ls⟩ = true from hx, Bool.not_true, Bool.and_false] at this
  exact this
attribute [go_sem] List.nil_append
theorem good_PutB (a : Sta) (ha1 : a.db.length ≤ 1000000) (ha2 : a.ep.length ≤ 1000000) (pa : ∀ x ∈ a.db, fit x) : Good Try.prog 18 [(staA a, false)] [] [(.sl 1 (!staOK a) (bsl (staS a)), false), (i64 (staE a), false)] [] := by
  refine good_of_body3 64 Try.func18 rfl rfl rfl (by simp) ?_
  intro s m ha hr hv hG
  have f0 : s 0 = .v (.agg [.sl 3 a.n1 (a.db.map lsaA), i64 a.up, i64 a.bo, .sl 2 a.n2 (a.ep.map itA)]) := ha 0 _ rfl
  clear ha
  have hc : True := trivial
  have F := (And.intro f0 hG)
  refine AW.seq ?_
  refine AW.region (cfg := cfg) ?_
  refine stp (fun _ h => sb h) ?_
  iterate 2 refine stp (fun _ h => s0 h) ?_
  refine aops_nil ?_
  refine AW.seq ?_
  refine AW.seq ?_
  refine AW.region (cfg := cfg) ?_
  refine stp (fun _ h => sl h) ?_
  refine stp (fun _ h => cs (w := good_CheckB a (by omega) (by omega) (fun x hx => by have := (pa x hx).1; omega)) (x := h)) ?_
  refine stp (fun _ h => s0 h) ?_
  refine aops_nil ?_
  refine AW.seq ?_
  refine AW.region (cfg := cfg) ?_
  iterate 2 refine stp (fun _ h => s0 h) ?_
  refine aops_nil ?_
  refine cnd (fun hb => ?ht1) (fun hb => ?hf1)
  case ht1 =>
    have hw13 := hb
    try simp only [bo1, bo2, bo3, bo4, bo5, bo6] at hb
    have hbt13 := hb
    refine AW.seq ?_
    refine AW.region (cfg := cfg) ?_
    iterate 3 refine stp (fun _ h => s0 h) ?_
    refine aops_nil ?_
    refine AW.ret ?_
    refine ⟨.inr rfl, ?_⟩
    all_goals (obtain ⟨e1, e2, e3⟩ := staS_no hbt13; rw [e1, e2, e3]; refine ⟨_, nilEq_nil (s := 1) (nilEq_refl _), ?_⟩; refine leaves_mwp2 (rs := [.tmp 2, .tmp 3]) rfl ?_; simp (config := {failIfUnchanged := false}) [giveL, srcOne, rehome, freezeN, sub, upd, opn, aLoad, loadL, giveOne, reify, reifyL, readL, readOne, Mwp, M.bind, Mem.set, setAt, cellsL, hG, f0]; done)
  case hf1 =>
    have hw13 := hb
    try simp only [bo1, bo2, bo3, bo4, bo5, bo6] at hb
    have hbt13 := hb
    refine AW.skip ?_
    refine AW.seq ?_
    have ok := staE_0 hbt13
    obtain ⟨b1, b2⟩ := nu_bd ok
    obtain ⟨b3, b4⟩ := sta_list ok
    have b5 := sta_lens ok
    refine AW.draw (cfg := cfg) (by kernel_rfl) (by kernel_rfl) (by kernel_rfl) ?_
    refine dstp (fun _ h => sx h) ?_
    refine dstp (fun _ h => sl h) ?_
    refine dstp (fun _ h => sd h) ?_
    refine dstp (fun _ h => co1 (w := (O.good_Num true [] (by simp) (by simp) 8 a.up (by omega)).nil0) (x := h)) ?_
    refine dstp (fun _ h => sx h) ?_
    refine dstp (fun _ h => sl h) ?_
    refine dstp (fun _ h => sd h) ?_
    refine dstp (fun _ h => co1 (w := O.good_Num _ _ (by (simp; done)) (by simp) _ _ (by omega)) (x := h)) ?_
    refine dstp (fun _ h => st h) ?_
    refine adraw_nil (by kernel_rfl) ?_
    refine AW.seq ?_
    refine AW.region (cfg := cfg) ?_
    refine stp (fun _ h => s0 h) ?_
    refine stp (fun _ h => sx h) ?_
    refine stp (fun _ h => sl h) ?_
    iterate 2 refine stp (fun _ h => sd h) ?_
    refine stp (fun _ h => co1 (w := O.good_Num _ _ (by (simp; done)) (by simp) _ _ (by omega)) (x := h)) ?_
    refine stp (fun _ h => st h) ?_
    refine aops_nil ?_
    refine AW.seq ?_
    refine AW.seq ?_
    refine AW.region (cfg := cfg) ?_
    refine stp (fun _ h => sx h) ?_
    refine stp (fun _ h => sl h) ?_
    refine stp (fun _ h => sd h) ?_
    refine stp (fun _ h => s0 h) ?_
    refine aops_nil ?_
    refine AW.block ?_
    refine AW.forN (fun k σ => ∃ s m, σ = ⟨64, s, m⟩ ∧ s 1 = .lptr (.tmp 1 0) (m.objs (.tmp 1 0)).1 0 ∧ (m.objs (.tmp 1 0)).2 = .box [.v (.sl 3 a.n1 (a.db.map lsaA)), .v (i64 a.up), .v (i64 a.bo), .v (.sl 2 a.n2 (a.ep.map itA))] ∧ s 5 = .own (.var 5) (m.objs (.var 5)).1 0 ((numR a.up 8 ++ (numR a.bo 4 ++ (numR (a.db.length : Int) 1 ++ dbB (a.db.take k)))).length) ∧ (m.objs (.var 5)).2 = .arr false 1 (bsl (numR a.up 8 ++ (numR a.bo 4 ++ (numR (a.db.length : Int) 1 ++ dbB (a.db.take k))))) ∧ s 30 = .v (.sl 3 a.n1 (a.db.map lsaA)) ∧ s 31 = .v (i64 (a.db.length : Int)) ∧ s 32 = .v (i64 (k : Int)) ∧ (∀ i, (m.objs (.res i)).2 = .dead) ∧ m.G = []) (a.db.length) ?_ ?_ ?_
    · refine ⟨_, _, rfl, ?_, ?_, ?_, ?_, ?_, ?_, ?_, (by intro i; simp [Mem.set, hr]), (by exact hG)⟩ <;> try simp (disch := first | omega | decide) only [go_sem, F, aIndex_map]
      all_goals rfl
    · clear F f0 hr hG
      rintro k σ hk ⟨s, m, rfl, f1, o1, f5, o5, f30, f31, f32, hr, hG⟩
      obtain ⟨g1, o1⟩ : ∃ g, m.objs (.tmp 1 0) = (g, .box [.v (.sl 3 a.n1 (a.db.map lsaA)), .v (i64 a.up), .v (i64 a.bo), .v (.sl 2 a.n2 (a.ep.map itA))]) := ⟨_, Prod.ext rfl o1⟩
      rw [o1] at f1
      obtain ⟨g5, o5⟩ : ∃ g, m.objs (.var 5) = (g, .arr false 1 (bsl (numR a.up 8 ++ (numR a.bo 4 ++ (numR (a.db.length : Int) 1 ++ dbB (a.db.take k)))))) := ⟨_, Prod.ext rfl o5⟩
      rw [o5] at f5
      have F := (And.intro f1 (And.intro f5 (And.intro f30 (And.intro f31 (And.intro f32 (And.intro o1 (And.intro o5 hG)))))))
      refine AW.seq ?_
      refine AW.region (cfg := cfg) ?_
      refine stp (fun _ h => s0 h) ?_
      refine aops_nil ?_
      refine AW.seq ?_
      refine cnd (fun hb => ?ht2) (fun hb => ?hf2)
      case hf2 => (simp at hb; omega)
      case ht2 =>
      have hbt33 := hb
      refine AW.skip ?_
      refine AW.seq ?_
      refine AW.block ?_
      refine AW.seq ?_
      refine AW.region (cfg := cfg) ?_
      refine stp (fun _ h => si h) ?_
      refine stp (fun _ h => sl h) ?_
      refine stp (fun _ h => sd h) ?_
      refine stp0 (fun _ h => ss h) ?_
      refine aops_nil ?_
      have hkl : k < a.db.length := by assumption
      have okk := b3 _ (List.getElem_mem hkl)
      have w0 := dbB_le (l := a.db.take k) (fun x hx => b3 x (List.mem_of_mem_take hx))
      simp only [List.length_take] at w0
      refine AW.region (cfg := cfg) ?_
      refine stp (fun _ h => s0 h) ?_
      refine stp (fun _ h => sl h) ?_
      refine stp (fun _ h => co1 (w := good_PutX false _ a.db[k] (by simp; omega) (by simp) okk) (x := h)) ?_
      refine stp (fun _ h => st h) ?_
      refine aops_nil ?_
      refine AW.region (cfg := cfg) ?_
      refine stp (fun _ h => sd h) ?_
      refine stp (fun _ h => s0 h) ?_
      refine aops_nil ?_
      refine ⟨_, _, rfl, ?_, ?_, ?_, ?_, ?_, ?_, ?_, (by intro i; simp [Mem.set, hr]), (by exact hG)⟩ <;> try simp (disch := first | omega | decide) only [go_sem, F, aIndex_map]
      all_goals first | rfl | (rw [dbB_take hkl]; done)
    · clear F f0 hr hG
      rintro σ ⟨s, m, rfl, f1, o1, f5, o5, f30, f31, f32, hr, hG⟩
      obtain ⟨g1, o1⟩ : ∃ g, m.objs (.tmp 1 0) = (g, .box [.v (.sl 3 a.n1 (a.db.map lsaA)), .v (i64 a.up), .v (i64 a.bo), .v (.sl 2 a.n2 (a.ep.map itA))]) := ⟨_, Prod.ext rfl o1⟩
      rw [o1] at f1
      obtain ⟨g5, o5⟩ : ∃ g, m.objs (.var 5) = (g, .arr false 1 (bsl (numR a.up 8 ++ (numR a.bo 4 ++ (numR (a.db.length : Int) 1 ++ dbB (a.db.take a.db.length)))))) := ⟨_, Prod.ext rfl o5⟩
      rw [o5] at f5
      have F := (And.intro f1 (And.intro f5 (And.intro f30 (And.intro f31 (And.intro f32 (And.intro o1 (And.intro o5 hG)))))))
      refine AW.seq ?_
      refine AW.region (cfg := cfg) ?_
      refine stp (fun _ h => s0 h) ?_
      refine aops_nil ?_
      refine AW.seq ?_
      refine cnd (fun hb => ?ht3) (fun hb => ?hf3)
      case ht3 => (simp at hb; done)
      case hf3 =>
      have hbt33 := hb
      refine AW.exit ?_
      refine AW.seq ?_
      have w0 := dbB_le b3
      refine AW.region (cfg := cfg) ?_
      refine stp (fun _ h => s0 h) ?_
      refine stp (fun _ h => sx h) ?_
      refine stp (fun _ h => sl h) ?_
      iterate 2 refine stp (fun _ h => sd h) ?_
      refine stp (fun _ h => co1 (w := O.good_Num _ _ (by (simp; omega)) (by simp) _ _ (by omega)) (x := h)) ?_
      refine stp (fun _ h => st h) ?_
      refine aops_nil ?_
      refine AW.seq ?_
      refine AW.seq ?_
      refine AW.region (cfg := cfg) ?_
      refine stp (fun _ h => sx h) ?_
      refine stp (fun _ h => sl h) ?_
      refine stp (fun _ h => sd h) ?_
      refine stp (fun _ h => s0 h) ?_
      refine aops_nil ?_
      refine AW.block ?_
      refine AW.forN (fun k σ => ∃ s m, σ = ⟨64, s, m⟩ ∧ s 5 = .own (.var 5) (m.objs (.var 5)).1 0 ((numR a.up 8 ++ (numR a.bo 4 ++ (numR (a.db.length : Int) 1 ++ (dbB a.db ++ (numR (a.ep.length : Int) 1 ++ epsB (a.ep.take k)))))).length) ∧ (m.objs (.var 5)).2 = .arr false 1 (bsl (numR a.up 8 ++ (numR a.bo 4 ++ (numR (a.db.length : Int) 1 ++ (dbB a.db ++ (numR (a.ep.length : Int) 1 ++ epsB (a.ep.take k))))))) ∧ s 47 = .v (.sl 2 a.n2 (a.ep.map itA)) ∧ s 48 = .v (i64 (a.ep.length : Int)) ∧ s 49 = .v (i64 (k : Int)) ∧ (∀ i, (m.objs (.res i)).2 = .dead) ∧ m.G = []) (a.ep.length) ?_ ?_ ?_
      · refine ⟨_, _, rfl, ?_, ?_, ?_, ?_, ?_, (by intro i; simp [Mem.set, hr]), (by exact hG)⟩ <;> try simp (disch := first | omega | decide) only [go_sem, F, aIndex_map]
        all_goals rfl
      · clear F f1 f5 f30 f31 f32 o1 o5 hr hG
        rintro k σ hk ⟨s, m, rfl, f5, o5, f47, f48, f49, hr, hG⟩
        obtain ⟨g5, o5⟩ : ∃ g, m.objs (.var 5) = (g, .arr false 1 (bsl (numR a.up 8 ++ (numR a.bo 4 ++ (numR (a.db.length : Int) 1 ++ (dbB a.db ++ (numR (a.ep.length : Int) 1 ++ epsB (a.ep.take k)))))))) := ⟨_, Prod.ext rfl o5⟩
        rw [o5] at f5
        have F := (And.intro f5 (And.intro f47 (And.intro f48 (And.intro f49 (And.intro o5 hG)))))
        refine AW.seq ?_
        refine AW.region (cfg := cfg) ?_
        refine stp (fun _ h => s0 h) ?_
        refine aops_nil ?_
        refine AW.seq ?_
        refine cnd (fun hb => ?ht4) (fun hb => ?hf4)
        case hf4 => (simp at hb; omega)
        case ht4 =>
        have hbt50 := hb
        refine AW.skip ?_
        refine AW.seq ?_
        refine AW.block ?_
        refine AW.seq ?_
        refine AW.region (cfg := cfg) ?_
        refine stp (fun _ h => si h) ?_
        refine stp (fun _ h => sl h) ?_
        refine stp (fun _ h => sd h) ?_
        refine stp0 (fun _ h => ss h) ?_
        refine aops_nil ?_
        have hkl : k < a.ep.length := by assumption
        have okk := b4 _ (List.getElem_mem hkl)
        have w0 := dbB_le b3
        refine AW.draw (cfg := cfg) (by kernel_rfl) (by kernel_rfl) (by kernel_rfl) ?_
        refine dstp (fun _ h => s0 h) ?_
        refine dstp (fun _ h => sx h) ?_
        refine dstp (fun _ h => sl h) ?_
        refine dstp (fun _ h => sd h) ?_
        refine dstp (fun _ h => co1 (w := O.good_Num _ _ (by (simp; omega)) (by simp) _ _ (by omega)) (x := h)) ?_
        refine dstp (fun _ h => sx h) ?_
        refine dstp (fun _ h => sl h) ?_
        refine dstp (fun _ h => sd h) ?_
        refine dstp (fun _ h => co1 (w := O.good_Num _ _ (by (simp; omega)) (by simp) _ _ (by omega)) (x := h)) ?_
        refine dstp (fun _ h => st h) ?_
        refine adraw_nil (by kernel_rfl) ?_
        refine AW.region (cfg := cfg) ?_
        refine stp (fun _ h => sd h) ?_
        refine stp (fun _ h => s0 h) ?_
        refine aops_nil ?_
        refine ⟨_, _, rfl, ?_, ?_, ?_, ?_, ?_, (by intro i; simp [Mem.set, hr]), (by exact hG)⟩ <;> try simp (disch := first | omega | decide) only [go_sem, F, aIndex_map]
        all_goals first | rfl | (rw [epsB_take hkl, epoB]; done)
      · clear F f1 f5 f30 f31 f32 o1 o5 hr hG
        rintro σ ⟨s, m, rfl, f5, o5, f47, f48, f49, hr, hG⟩
        obtain ⟨g5, o5⟩ : ∃ g, m.objs (.var 5) = (g, .arr false 1 (bsl (numR a.up 8 ++ (numR a.bo 4 ++ (numR (a.db.length : Int) 1 ++ (dbB a.db ++ (numR (a.ep.length : Int) 1 ++ epsB (a.ep.take a.ep.length)))))))) := ⟨_, Prod.ext rfl o5⟩
        rw [o5] at f5
        have F := (And.intro f5 (And.intro f47 (And.intro f48 (And.intro f49 (And.intro o5 hG)))))
        refine AW.seq ?_
        refine AW.region (cfg := cfg) ?_
        refine stp (fun _ h => s0 h) ?_
        refine aops_nil ?_
        refine AW.seq ?_
        refine cnd (fun hb => ?ht5) (fun hb => ?hf5)
        case ht5 => (simp at hb; done)
        case hf5 =>
        have hbt50 := hb
        refine AW.exit ?_
        refine AW.seq ?_
        refine AW.region (cfg := cfg) ?_
        refine stp (fun _ h => s0 h) ?_
        refine stp (fun _ h => sm h) ?_
        refine stp (fun _ h => s0 h) ?_
        refine aops_nil ?_
        refine AW.ret ?_
        refine ⟨.inr rfl, ?_⟩
        all_goals (obtain ⟨e1, e2⟩ := staS_yes ok; rw [e1, e2, ok]; refine leavesN ?_; refine leaves_mwp2 (rs := [.tmp 2, .tmp 3]) rfl ?_; simp (config := {failIfUnchanged := false}) [giveL, srcOne, rehome, freezeN, sub, upd, opn, aLoad, loadL, giveOne, reify, reifyL, readL, readOne, Mwp, M.bind, Mem.set, setAt, cellsL, hG, f5, f47, f48, f49, o5]; all_goals (simp [staB, sub, List.take_of_length_le]; done))
end Go.Vai.BA
namespace Go.Vai.BA
open Go.Proofs Go.Vai Go.Vai.C Go.Vai.D Go.Vai.DB Go.Vai.G Go.Vai.I Go.Vai.L Go.Vai.N Go.Vai.O
set_option linter.unusedSimpArgs false
set_option linter.unusedVariables false
set_option maxHeartbeats 4000000
set_option maxRecDepth 100000
def lightB (a : Sta) : Bool := lightD a.db && decide ((a.ep.length : Int) ≤ 70)
theorem lightB_end {a : Sta} (h0 : ((a.db.take (if a.db.length < 71 then a.db.length else 71)).all fun x => decide ((x.ls.length : Int) ≤ 40)) = true) : (decide ((a.db.length : Int) ≤ 70) && decide ((a.ep.length : Int) ≤ 70)) = lightB a := by
  rw [lightB, light_end h0]
theorem lightB_no {a : Sta} {k : Nat} (hk : k < a.db.length) (h : ¬ (a.db[k].ls.length : Int) ≤ 40) : lightB a = false := by
  rw [lightB, light_no hk h]; rfl
theorem lightB_of {a : Sta} (h : lightB a = true) (hz : ∀ x ∈ a.db, x.nil = true → x.ls = []) : (a.db.length ≤ 70 ∧ a.ep.length ≤ 70) ∧ ∀ x ∈ a.db, fit x := by
  rw [lightB, Bool.and_eq_true] at h
  obtain ⟨h1, h2⟩ := light_of h.1 hz
  exact ⟨⟨h1, by have := of_decide_eq_true h.2; omega⟩, h2⟩
theorem lightC_of {l : List Ch} (h : lightC l = true) (hz : ∀ c ∈ l, c.l.nil = true → c.l.ls = []) : l.length ≤ 50 ∧ ∀ c ∈ l, fit c.l := by
  obtain ⟨h1, h2⟩ := lightC_bd h
  exact ⟨h1, fun c hc => ⟨by have := h2 c hc; omega, hz c hc⟩⟩
def x0 : Lsa := ⟨2, 3, true, []⟩
def c0 : Ch := ⟨1, x0, 0, 0⟩
def sta1 : Sta := ⟨false, [x0], 0, 0, true, []⟩
theorem ap0 : applyR sta0 [c0] = (sta1, 0) := by rfl
theorem ap1 : applyR sta1 [c0] = (sta0, 10) := by rfl
theorem x0_fit : fit x0 := ⟨by decide, fun _ => rfl⟩
theorem c0_all : ∀ c ∈ [c0], fit c.l := fun c hc => by
  rw [List.mem_singleton] at hc; subst hc; exact x0_fit
theorem s0_all : ∀ x ∈ sta0.db, fit x := fun x hx => absurd hx (by simp [sta0])
theorem s1_all : ∀ x ∈ sta1.db, fit x := fun x hx => by
  rw [show sta1.db = [x0] from rfl, List.mem_singleton] at hx; subst hx; exact x0_fit
theorem good_Ap0 : Good Try.prog 10 [(staA sta0, false), (.sl 6 false [chA c0], false)] [] [(staA sta1, false), (i64 0, false)] [] := by
  have c := good_ApplyB sta0 (by decide) (by decide) s0_all (fun _ => rfl) (fun _ => rfl) false [c0] (by simp) c0_all
  rw [ap0] at c
  exact c
theorem good_Ap1 : Good Try.prog 10 [(staA sta1, false), (.sl 6 false [chA c0], false)] [] [(staA sta0, false), (i64 10, false)] [] := by
  have c := good_ApplyB sta1 (by decide) (by decide) s1_all (fun h => by cases h) (fun _ => rfl) false [c0] (by simp) c0_all
  rw [ap1] at c
  exact c
theorem s0_ok : staOK sta0 = true := by rfl
theorem s0_len : (staS sta0).length = 14 := by rfl
theorem good_Put00 : Good Try.prog 18 [(staA sta0, false)] [] [(.sl 1 false (bsl (staS sta0)), false), (i64 0, false)] [] := by
  have c := good_PutB sta0 (by decide) (by decide) s0_all
  rw [(staS_yes s0_ok).2, s0_ok] at c
  exact c
theorem good_LightB (a : Sta) (ha1 : a.db.length ≤ 9223372036854775807) (ha2 : a.ep.length ≤ 9223372036854775807) (pa : ∀ x ∈ a.db, x.ls.length ≤ 9223372036854775807) : Good Try.prog 7 [(staA a, false)] [] [(.b (lightB a), false)] [] := by
  refine good_of_body2 32 Try.func7 rfl rfl rfl (by simp) ?_
  intro s m ha hr hv hG
  have f0 : s 0 = .v (.agg [.sl 3 a.n1 (a.db.map lsaA), i64 a.up, i64 a.bo, .sl 2 a.n2 (a.ep.map itA)]) := ha 0 _ rfl
  clear ha
  have hc : True := trivial
  have F := (And.intro f0 hG)
  refine AW.seq ?_
  refine AW.region (cfg := cfg) ?_
  refine stp (fun _ h => sb h) ?_
  refine stp (fun _ h => s0 h) ?_
  refine aops_nil ?_
  refine AW.seq ?_
  refine AW.seq ?_
  refine AW.region (cfg := cfg) ?_
  refine stp (fun _ h => s0 h) ?_
  refine aops_nil ?_
  refine AW.block ?_
  refine AW.forN (fun k σ => ∃ s m, σ = ⟨32, s, m⟩ ∧ s 1 = .lptr (.tmp 1 0) (m.objs (.tmp 1 0)).1 0 ∧ (m.objs (.tmp 1 0)).2 = .box [.v (.sl 3 a.n1 (a.db.map lsaA)), .v (i64 a.up), .v (i64 a.bo), .v (.sl 2 a.n2 (a.ep.map itA))] ∧ s 3 = .v (i64 (k : Int)) ∧ (((a.db.take k).all fun x => decide ((x.ls.length : Int) ≤ 40)) = true) ∧ (∀ i, (m.objs (.res i)).2 = .dead) ∧ m.G = []) ((if a.db.length < 71 then a.db.length else 71)) ?_ ?_ ?_
  · refine ⟨_, _, rfl, ?_, ?_, ?_, ?_, (by intro i; simp [Mem.set, hr]), (by exact hG)⟩ <;> try simp (disch := first | omega | decide) only [go_sem, F, aIndex_map]
    all_goals rfl
  · clear F f0 hr hG
    rintro k σ hk ⟨s, m, rfl, f1, o1, f3, mo0, hr, hG⟩
    obtain ⟨g1, o1⟩ : ∃ g, m.objs (.tmp 1 0) = (g, .box [.v (.sl 3 a.n1 (a.db.map lsaA)), .v (i64 a.up), .v (i64 a.bo), .v (.sl 2 a.n2 (a.ep.map itA))]) := ⟨_, Prod.ext rfl o1⟩
    rw [o1] at f1
    have F := (And.intro f1 (And.intro f3 (And.intro o1 hG)))
    refine AW.seq ?_
    refine AW.seq ?_
    refine AW.region (cfg := cfg) ?_
    refine stp (fun _ h => s0 h) ?_
    refine stp (fun _ h => sx h) ?_
    refine stp (fun _ h => sl h) ?_
    refine stp (fun _ h => sd h) ?_
    iterate 2 refine stp (fun _ h => s0 h) ?_
    iterate 2 refine mrg wa (fun hc _ h => s0 h) ?_
    refine stp (fun _ h => s0 h) ?_
    refine aops_nil ?_
    refine cnd (fun hb => ?ht1) (fun hb => ?hf1)
    case hf1 => (simp only [Bool.and_eq_false_iff, decide_eq_false_iff_not] at hb; split at hk <;> omega)
    case ht1 =>
    have hbt12 := hb
    refine AW.skip ?_
    refine AW.seq ?_
    refine AW.block ?_
    refine AW.seq ?_
    have hkz : k < (if a.db.length < 71 then a.db.length else 71) := by assumption
    have hkl : k < a.db.length := by (split at hkz <;> omega)
    have pk1 := pa a.db[k] (List.getElem_mem hkl)
    refine AW.region (cfg := cfg) ?_
    refine stp (fun _ h => sx h) ?_
    refine stp (fun _ h => sl h) ?_
    refine stp (fun _ h => s0 h) ?_
    refine stp (fun _ h => si h) ?_
    refine stp (fun _ h => sl h) ?_
    refine stp (fun _ h => cs (w := L.good_Light a.db[k] (by omega)) (x := h)) ?_
    refine stp (fun _ h => s0 h) ?_
    refine aops_nil ?_
    refine cnd (fun hb => ?ht2) (fun hb => ?hf2)
    case ht2 =>
      have hw21 := hb
      try simp only [bo1, bo2, bo3, bo4, bo5, bo6] at hb
      have hbt21 := hb
      refine AW.seq ?_
      refine AW.region (cfg := cfg) ?_
      refine stp (fun _ h => s0 h) ?_
      refine aops_nil ?_
      refine AW.ret ?_
      refine ⟨.inr rfl, ?_⟩
      refine leaves_tmp1 2 rfl ?_ (by exact hG)
      simp (disch := first | omega | decide) only [go_sem, F, aIndex_map]
      all_goals (rw [lightB_no hkl (by simpa using hbt21)]; done)
    case hf2 =>
      have hw21 := hb
      try simp only [bo1, bo2, bo3, bo4, bo5, bo6] at hb
      have hbt21 := hb
      refine AW.skip ?_
      refine AW.region (cfg := cfg) ?_
      refine stp (fun _ h => s0 h) ?_
      refine stp (fun _ h => sd h) ?_
      refine stp (fun _ h => s0 h) ?_
      refine aops_nil ?_
      refine ⟨_, _, rfl, ?_, ?_, ?_, ?_, (by intro i; simp [Mem.set, hr]), (by exact hG)⟩ <;> try simp (disch := first | omega | decide) only [go_sem, F, aIndex_map]
      all_goals first | rfl | exact light_go hkl mo0 (by simpa using hbt21)
  · clear F f0 hr hG
    rintro σ ⟨s, m, rfl, f1, o1, f3, mo0, hr, hG⟩
    obtain ⟨g1, o1⟩ : ∃ g, m.objs (.tmp 1 0) = (g, .box [.v (.sl 3 a.n1 (a.db.map lsaA)), .v (i64 a.up), .v (i64 a.bo), .v (.sl 2 a.n2 (a.ep.map itA))]) := ⟨_, Prod.ext rfl o1⟩
    rw [o1] at f1
    have F := (And.intro f1 (And.intro f3 (And.intro o1 hG)))
    refine AW.seq ?_
    refine AW.seq ?_
    refine AW.region (cfg := cfg) ?_
    refine stp (fun _ h => s0 h) ?_
    refine stp (fun _ h => sx h) ?_
    refine stp (fun _ h => sl h) ?_
    refine stp (fun _ h => sd h) ?_
    iterate 2 refine stp (fun _ h => s0 h) ?_
    iterate 2 refine mrg wa (fun hc _ h => s0 h) ?_
    refine stp (fun _ h => s0 h) ?_
    refine aops_nil ?_
    refine cnd (fun hb => ?ht3) (fun hb => ?hf3)
    case ht3 => (simp only [Bool.and_eq_true, decide_eq_true_eq] at hb; split at hb <;> omega)
    case hf3 =>
    have hbt12 := hb
    refine AW.exit ?_
    refine AW.seq ?_
    refine AW.region (cfg := cfg) ?_
    refine stp (fun _ h => sx h) ?_
    refine stp (fun _ h => sl h) ?_
    refine stp (fun _ h => sd h) ?_
    iterate 2 refine stp (fun _ h => s0 h) ?_
    refine mrg wa (fun hc _ h => sx h) ?_
    refine mrg wa (fun hc _ h => sl h) ?_
    refine mrg wa (fun hc _ h => sd h) ?_
    refine mrg wa (fun hc _ h => s0 h) ?_
    iterate 2 refine stp (fun _ h => s0 h) ?_
    refine aops_nil ?_
    refine AW.ret ?_
    refine ⟨.inr rfl, ?_⟩
    refine leaves_tmp1 2 rfl ?_ (by exact hG)
    simp (disch := first | omega | decide) only [go_sem, F, aIndex_map]
    all_goals (rw [lightB_end mo0]; done)
theorem good_awakeB  : Good Try.prog 9 [] [] [(.b true, false)] [] := by
  refine good_of_body2 49 Try.func9 rfl rfl rfl (by simp) ?_
  intro s m ha hr hv hG
  clear ha
  have hc : True := trivial
  have F := hG
  refine AW.seq ?_
  refine AW.region (cfg := cfg) ?_
  refine stp (fun _ h => s0 h) ?_
  refine aops_nil ?_
  refine AW.seq ?_
  refine AW.region (cfg := cfg) ?_
  iterate 3 refine stp (fun _ h => su h) ?_
  refine stp (fun _ h => sq h) ?_
  refine stp (fun _ h => cr (w := good_Ap0) (x := h)) ?_
  iterate 3 refine stp (fun _ h => s0 h) ?_
  refine stp (fun _ h => sd h) ?_
  refine stp0 (fun _ h => ssw h) ?_
  refine stp (fun _ h => s0 h) ?_
  refine aops_nil ?_
  refine AW.seq ?_
  refine AW.region (cfg := cfg) ?_
  refine stp (fun _ h => sl h) ?_
  iterate 2 refine stp (fun _ h => su h) ?_
  refine stp (fun _ h => sq h) ?_
  refine stp (fun _ h => cr (w := good_Ap1) (x := h)) ?_
  iterate 3 refine stp (fun _ h => s0 h) ?_
  refine stp (fun _ h => sd h) ?_
  refine stp0 (fun _ h => ssw h) ?_
  refine stp (fun _ h => s0 h) ?_
  refine aops_nil ?_
  refine AW.seq ?_
  refine AW.region (cfg := cfg) ?_
  refine stp (fun _ h => su h) ?_
  refine stp (fun _ h => cr (w := good_Put00) (x := h)) ?_
  iterate 5 refine stp (fun _ h => s0 h) ?_
  refine aops_nil ?_
  refine AW.seq ?_
  have e14 := s0_len
  have F := And.intro e14 F
  refine AW.region (cfg := cfg) ?_
  iterate 3 refine stp (fun _ h => s0 h) ?_
  refine mrg wa (fun hc _ h => sx h) ?_
  refine mrg wa (fun hc _ h => sl h) ?_
  refine mrg wa (fun hc _ h => sd h) ?_
  refine mrg wa (fun hc _ h => s0 h) ?_
  iterate 2 refine stp (fun _ h => s0 h) ?_
  iterate 2 refine mrg wa (fun hc _ h => s0 h) ?_
  iterate 2 refine stp (fun _ h => s0 h) ?_
  iterate 2 refine mrg wa (fun hc _ h => s0 h) ?_
  iterate 2 refine stp (fun _ h => s0 h) ?_
  refine mrg wa (fun hc _ h => s0 h) ?_
  refine mrg wa (fun hc _ h => sd h) ?_
  refine mrg wa (fun hc _ h => s0 h) ?_
  iterate 2 refine stp (fun _ h => s0 h) ?_
  refine aops_nil ?_
  refine AW.ret ?_
  refine ⟨.inr rfl, ?_⟩
  refine leaves_tmp1 0 rfl ?_ (by exact hG)
  simp (disch := first | omega | decide) only [go_sem, F, aIndex_map]
  all_goals rfl
end Go.Vai.BA
namespace Go.Vai.BA
open Go.Proofs Go.Vai Go.Vai.C Go.Vai.D Go.Vai.DB Go.Vai.G Go.Vai.I Go.Vai.L Go.Vai.N Go.Vai.O
set_option linter.unusedSimpArgs false
set_option linter.unusedVariables false
set_option maxHeartbeats 4000000
set_option maxRecDepth 100000
theorem good_BaseApplies (a : Sta) (ha1 : a.db.length ≤ 9223372036854775807) (z1 : a.n1 = true → a.db = []) (qa : ∀ x ∈ a.db, x.ls.length ≤ 9223372036854775807 ∧ (x.nil = true → x.ls = [])) (ha2 : a.ep.length ≤ 9223372036854775807) (z2 : a.n2 = true → a.ep = []) (nl : Bool) (l : List Ch) (hl : l.length ≤ 9223372036854775807) (pl : ∀ c ∈ l, c.l.ls.length ≤ 9223372036854775807 ∧ (c.l.nil = true → c.l.ls = [])) : Good Try.prog 3 [(staA a, false), (.sl 6 nl (l.map chA), false)] [] [(.b true, false)] [] := by
  refine good_of_body2 66 Try.func3 rfl rfl rfl (by simp) ?_
  intro s m ha hr hv hG
  have f0 : s 0 = .v (.agg [.sl 3 a.n1 (a.db.map lsaA), i64 a.up, i64 a.bo, .sl 2 a.n2 (a.ep.map itA)]) := ha 0 _ rfl
  have f1 : s 1 = .v (.sl 6 nl (l.map chA)) := ha 1 _ rfl
  clear ha
  have hc : True := trivial
  have F := (And.intro f0 (And.intro f1 hG))
  refine AW.seq ?_
  refine AW.region (cfg := cfg) ?_
  refine stp (fun _ h => sb h) ?_
  refine stp (fun _ h => s0 h) ?_
  refine aops_nil ?_
  refine AW.seq ?_
  refine AW.seq ?_
  refine AW.region (cfg := cfg) ?_
  refine stp (fun _ h => sl h) ?_
  refine stp (fun _ h => cs (w := good_LightB a (by omega) (by omega) (fun x hx => (qa x hx).1)) (x := h)) ?_
  iterate 2 refine stp (fun _ h => s0 h) ?_
  refine mrg wa (fun hc _ h => s0 h) ?_
  refine mrg wa (fun hc _ h => cs (w := C.good_LightC nl l (by omega) (fun c hc => (pl c hc).1)) (x := h)) ?_
  refine mrg wa (fun hc _ h => s0 h) ?_
  refine stp (fun _ h => s0 h) ?_
  refine aops_nil ?_
  refine cnd (fun hb => ?ht1) (fun hb => ?hf1)
  case ht1 =>
    have hw16 := hb
    try simp only [bo1, bo2, bo3, bo4, bo5, bo6] at hb
    have hbt16 := hb
    refine AW.seq ?_
    refine AW.region (cfg := cfg) ?_
    refine stp (fun _ h => cs (w := good_awakeB) (x := h)) ?_
    refine stp (fun _ h => s0 h) ?_
    refine aops_nil ?_
    refine AW.ret ?_
    refine ⟨.inr rfl, ?_⟩
    refine leaves_tmp1 4 rfl ?_ (by exact hG)
    simp (disch := first | omega | decide) only [go_sem, F, aIndex_map]
    all_goals first | done | rfl | (refine congrArg (fun b => LV.v (AV.b b)) ?_; exact ap_fin) | (rw [ap_fin]; done) | trace_state
  case hf1 =>
    have hw16 := hb
    try simp only [bo1, bo2, bo3, bo4, bo5, bo6] at hb
    have hbt16 := hb
    refine AW.skip ?_
    refine AW.seq ?_
    have hL : lightB a = true := by simpa using hbt16.1
    have hM : lightC l = true := by simpa using hbt16.2
    obtain ⟨⟨w1, w2⟩, pa⟩ := lightB_of hL (fun x hx => (qa x hx).2)
    obtain ⟨w3, pc⟩ := lightC_of hM (fun c hc => (pl c hc).2)
    obtain ⟨⟨f0_, f1_⟩, f2_, f3_, f4_⟩ := applyR_fit (l := l) pa z1 z2 pc
    have e1 := sameS_refl (applyR a l).1
    have e2 := staE_dec a
    have e3 := ne_same (applyR a l).2
    have F := And.intro e1 F
    have F := And.intro e2 F
    have F := And.intro e3 F
    refine AW.region (cfg := cfg) ?_
    refine stp (fun _ h => sl h) ?_
    refine stp (fun _ h => s0 h) ?_
    refine stp (fun _ h => cr (w := good_ApplyB a (by omega) (by omega) pa z1 z2 nl l (by omega) pc) (x := h)) ?_
    iterate 3 refine stp (fun _ h => s0 h) ?_
    refine stp (fun _ h => sd h) ?_
    refine stp0 (fun _ h => ssw h) ?_
    refine stp (fun _ h => s0 h) ?_
    refine aops_nil ?_
    refine AW.seq ?_
    refine AW.region (cfg := cfg) ?_
    refine stp (fun _ h => sl h) ?_
    refine stp (fun _ h => s0 h) ?_
    refine stp (fun _ h => cr (w := good_refApplyB a (by omega) (by omega) pa z1 z2 nl l (by omega) pc) (x := h)) ?_
    iterate 3 refine stp (fun _ h => s0 h) ?_
    refine stp (fun _ h => sd h) ?_
    refine stp0 (fun _ h => ssw h) ?_
    refine stp (fun _ h => s0 h) ?_
    refine aops_nil ?_
    refine AW.seq ?_
    refine AW.seq ?_
    refine AW.draw (cfg := cfg) (by kernel_rfl) (by kernel_rfl) (by kernel_rfl) ?_
    refine dstp (fun _ h => sl h) ?_
    refine dstp (fun _ h => cs (w := good_CheckB a (by omega) (by omega) (fun x hx => by have := (pa x hx).1; omega)) (x := h)) ?_
    refine dstp (fun _ h => s0 h) ?_
    refine dstp (fun _ h => sl h) ?_
    refine dstp (fun _ h => cs (w := good_MayB a (by omega) (by omega) (fun x hx => by have := (pa x hx).1; omega)) (x := h)) ?_
    iterate 2 refine dstp (fun _ h => s0 h) ?_
    iterate 3 refine dmrg wa (fun hc _ h => s0 h) ?_
    iterate 2 refine dstp (fun _ h => s0 h) ?_
    iterate 2 refine dmrg wa (fun hc _ h => sl h) ?_
    refine dmrg wa (fun hc _ h => cs (w := good_refSameB (applyR a l).1 (by omega) (by omega) f2_ (applyR a l).1 (by omega) (by omega) f2_) (x := h)) ?_
    refine dmrg wa (fun hc _ h => s0 h) ?_
    refine dstp (fun _ h => s0 h) ?_
    refine adraw_nil (by kernel_rfl) ?_
    refine cnd (fun hb => ?ht2) (fun hb => ?hf2)
    case ht2 => simp at hb
    case hf2 =>
    have hbt46 := hb
    refine AW.skip ?_
    refine AW.seq ?_
    refine AW.region (cfg := cfg) ?_
    iterate 3 refine stp (fun _ h => s0 h) ?_
    refine mrg wa (fun hc _ h => sl h) ?_
    refine mrg wa (fun hc _ h => cs (w := good_CheckB (applyR a l).1 (by omega) (by omega) (fun x hx => by have := (f2_ x hx).1; omega)) (x := h)) ?_
    iterate 2 refine mrg wa (fun hc _ h => s0 h) ?_
    refine mrg wa (fun hc _ h => sl h) ?_
    refine mrg wa (fun hc _ h => cs (w := good_MayB (applyR a l).1 (by omega) (by omega) (fun x hx => by have := (f2_ x hx).1; omega)) (x := h)) ?_
    iterate 2 refine mrg wa (fun hc _ h => s0 h) ?_
    iterate 2 refine mrg wa (fun hc _ h => sl h) ?_
    refine mrg wa (fun hc _ h => cs (w := good_WithinB a (by omega) (by omega) pa (applyR a l).1 (by omega) (by omega) f2_) (x := h)) ?_
    refine mrg wa (fun hc _ h => s0 h) ?_
    iterate 2 refine stp (fun _ h => s0 h) ?_
    refine mrg wa (fun hc _ h => cs (w := good_awakeB) (x := h)) ?_
    iterate 2 refine stp (fun _ h => s0 h) ?_
    refine aops_nil ?_
    refine AW.ret ?_
    refine ⟨.inr rfl, ?_⟩
    refine leaves_tmp1 4 rfl ?_ (by exact hG)
    simp (disch := first | omega | decide) only [go_sem, F, aIndex_map]
    all_goals (refine congrArg (fun b => LV.v (AV.b b)) ?_; exact ap_fin)
end Go.Vai.BA
