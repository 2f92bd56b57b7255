import Derived.Test.YtdoomgohnocecaaM4
import Derived.Test.YtdoomgohnocecaaVaiE
namespace Go.Vai.BA
open Go.Proofs Go.Vai Go.Vai.C Go.Vai.D Go.Vai.DB Go.Vai.G Go.Vai.I Go.Vai.L Go.Vai.N Go.Vai.O
set_option linter.unusedSimpArgs false
set_option linter.unusedVariables false
set_option maxHeartbeats 4000000
set_option maxRecDepth 100000
def lightB (a : Sta) : Bool := lightD a.db && decide ((a.ep.length : Int) ≤ 70)
theorem lightB_end {a : Sta} (h0 : ((a.db.take (if a.db.length < 71 then a.db.length else 71)).all fun x => decide ((x.ls.length : Int) ≤ 40)) = true) : (decide ((a.db.length : Int) ≤ 70) && decide ((a.ep.length : Int) ≤ 70)) = lightB a := by
  rw [lightB, light_end h0]
theorem lightB_no {a : Sta} {k : Nat} (hk : k < a.db.length) (h : ¬ (a.db[k].ls.length : Int) ≤ 40) : lightB a = false := by
  rw [lightB, light_no hk h]; rfl
theorem lightB_of {a : Sta} (h : lightB a = true) (hz : ∀ x ∈ a.db, x.nil = true → x.ls = []) : (a.db.length ≤ 70 ∧ a.ep.length ≤ 70) ∧ ∀ x ∈ a.db, fit x := by
  rw [lightB, Bool.and_eq_true] at h
  obtain ⟨h1, h2⟩ := light_of h.1 hz
  exact ⟨⟨h1, by have := of_decide_eq_true h.2; omega⟩, h2⟩
def x0 : Lsa := ⟨2, 3, true, []⟩
def c0 : Ch := ⟨1, x0, 0, 0⟩
def sta1 : Sta := ⟨false, [x0], 0, 0, true, []⟩
theorem ap0 : applyR sta0 [c0] = (sta1, 0) := by rfl
theorem ap1 : applyR sta1 [c0] = (sta0, 10) := by rfl
theorem x0_fit : fit x0 := ⟨by decide, fun _ => rfl⟩
theorem c0_all : ∀ c ∈ [c0], fit c.l := fun c hc => by
  rw [List.mem_singleton] at hc; subst hc; exact x0_fit
theorem s0_all : ∀ x ∈ sta0.db, fit x := fun x hx => absurd hx (by simp [sta0])
theorem s1_all : ∀ x ∈ sta1.db, fit x := fun x hx => by
  rw [show sta1.db = [x0] from rfl, List.mem_singleton] at hx; subst hx; exact x0_fit
theorem good_Ap0 : Good Try.prog 10 [(staA sta0, false), (.sl 6 false [chA c0], false)] [] [(staA sta1, false), (i64 0, false)] [] := by
  have c := good_ApplyB sta0 (by decide) (by decide) s0_all (fun _ => rfl) (fun _ => rfl) false [c0] (by simp) c0_all
  rw [ap0] at c
  exact c
theorem good_Ap1 : Good Try.prog 10 [(staA sta1, false), (.sl 6 false [chA c0], false)] [] [(staA sta0, false), (i64 10, false)] [] := by
  have c := good_ApplyB sta1 (by decide) (by decide) s1_all (fun h => by cases h) (fun _ => rfl) false [c0] (by simp) c0_all
  rw [ap1] at c
  exact c
theorem s0_ok : staOK sta0 = true := by rfl
theorem s0_len : (staS sta0).length = 14 := by rfl
theorem good_Put00 : Good Try.prog 18 [(staA sta0, false)] [] [(.sl 1 false (bsl (staS sta0)), false), (i64 0, false)] [] := by
  have c := good_PutB sta0 (by decide) (by decide) s0_all
  rw [(staS_yes s0_ok).2, s0_ok] at c
  exact c
theorem good_LightB (a : Sta) (ha1 : a.db.length ≤ 9223372036854775807) (ha2 : a.ep.length ≤ 9223372036854775807) (pa : ∀ x ∈ a.db, x.ls.length ≤ 9223372036854775807) : Good Try.prog 7 [(staA a, false)] [] [(.b (lightB a), false)] [] := by
  refine good_of_body2 32 Try.func7 rfl rfl rfl (by simp) ?_
  intro s m ha hr hv hG
  have f0 : s 0 = .v (.agg [.sl 3 a.n1 (a.db.map lsaA), i64 a.up, i64 a.bo, .sl 2 a.n2 (a.ep.map itA)]) := ha 0 _ rfl
  clear ha
  have hc : True := trivial
  have F := (And.intro f0 hG)
  refine AW.seq ?_
  refine AW.region (cfg := cfg) ?_
  refine stp (fun _ h => sb h) ?_
  refine stp (fun _ h => s0 h) ?_
  refine aops_nil ?_
  refine AW.seq ?_
  refine AW.seq ?_
  refine AW.region (cfg := cfg) ?_
  refine stp (fun _ h => s0 h) ?_
  refine aops_nil ?_
  refine AW.block ?_
  refine AW.forN (fun k σ => ∃ s m, σ = ⟨32, s, m⟩ ∧ s 1 = .lptr (.tmp 1 0) (m.objs (.tmp 1 0)).1 0 ∧ (m.objs (.tmp 1 0)).2 = .box [.v (.sl 3 a.n1 (a.db.map lsaA)), .v (i64 a.up), .v (i64 a.bo), .v (.sl 2 a.n2 (a.ep.map itA))] ∧ s 3 = .v (i64 (k : Int)) ∧ (((a.db.take k).all fun x => decide ((x.ls.length : Int) ≤ 40)) = true) ∧ (∀ i, (m.objs (.res i)).2 = .dead) ∧ m.G = []) ((if a.db.length < 71 then a.db.length else 71)) ?_ ?_ ?_
  · refine ⟨_, _, rfl, ?_, ?_, ?_, ?_, (by intro i; simp [Mem.set, hr]), (by exact hG)⟩ <;> try simp (disch := first | omega | decide) only [go_sem, F, aIndex_map]
    all_goals rfl
  · clear F f0 hr hG
    rintro k σ hk ⟨s, m, rfl, f1, o1, f3, mo0, hr, hG⟩
    obtain ⟨g1, o1⟩ : ∃ g, m.objs (.tmp 1 0) = (g, .box [.v (.sl 3 a.n1 (a.db.map lsaA)), .v (i64 a.up), .v (i64 a.bo), .v (.sl 2 a.n2 (a.ep.map itA))]) := ⟨_, Prod.ext rfl o1⟩
    rw [o1] at f1
    have F := (And.intro f1 (And.intro f3 (And.intro o1 hG)))
    refine AW.seq ?_
    refine AW.seq ?_
    refine AW.region (cfg := cfg) ?_
    refine stp (fun _ h => s0 h) ?_
    refine stp (fun _ h => sx h) ?_
    refine stp (fun _ h => sl h) ?_
    refine stp (fun _ h => sd h) ?_
    iterate 2 refine stp (fun _ h => s0 h) ?_
    iterate 2 refine mrg wa (fun hc _ h => s0 h) ?_
    refine stp (fun _ h => s0 h) ?_
    refine aops_nil ?_
    refine cnd (fun hb => ?ht1) (fun hb => ?hf1)
    case hf1 => (simp only [Bool.and_eq_false_iff, decide_eq_false_iff_not] at hb; split at hk <;> omega)
    case ht1 =>
    have hbt12 := hb
    refine AW.skip ?_
    refine AW.seq ?_
    refine AW.block ?_
    refine AW.seq ?_
    have hkz : k < (if a.db.length < 71 then a.db.length else 71) := by assumption
    have hkl : k < a.db.length := by (split at hkz <;> omega)
    have pk1 := pa a.db[k] (List.getElem_mem hkl)
    refine AW.region (cfg := cfg) ?_
    refine stp (fun _ h => sx h) ?_
    refine stp (fun _ h => sl h) ?_
    refine stp (fun _ h => s0 h) ?_
    refine stp (fun _ h => si h) ?_
    refine stp (fun _ h => sl h) ?_
    refine stp (fun _ h => cs (w := L.good_Light a.db[k] (by omega)) (x := h)) ?_
    refine stp (fun _ h => s0 h) ?_
    refine aops_nil ?_
    refine cnd (fun hb => ?ht2) (fun hb => ?hf2)
    case ht2 =>
      have hw21 := hb
      try simp only [bo1, bo2, bo3, bo4, bo5, bo6] at hb
      have hbt21 := hb
      refine AW.seq ?_
      refine AW.region (cfg := cfg) ?_
      refine stp (fun _ h => s0 h) ?_
      refine aops_nil ?_
      refine AW.ret ?_
      refine ⟨.inr rfl, ?_⟩
      refine leaves_tmp1 2 rfl ?_ (by exact hG)
      simp (disch := first | omega | decide) only [go_sem, F, aIndex_map]
      all_goals (rw [lightB_no hkl (by simpa using hbt21)]; done)
    case hf2 =>
      have hw21 := hb
      try simp only [bo1, bo2, bo3, bo4, bo5, bo6] at hb
      have hbt21 := hb
      refine AW.skip ?_
      refine AW.region (cfg := cfg) ?_
      refine stp (fun _ h => s0 h) ?_
      refine stp (fun _ h => sd h) ?_
      refine stp (fun _ h => s0 h) ?_
      refine aops_nil ?_
      refine ⟨_, _, rfl, ?_, ?_, ?_, ?_, (by intro i; simp [Mem.set, hr]), (by exact hG)⟩ <;> try simp (disch := first | omega | decide) only [go_sem, F, aIndex_map]
      all_goals first | rfl | exact light_go hkl mo0 (by simpa using hbt21)
  · clear F f0 hr hG
    rintro σ ⟨s, m, rfl, f1, o1, f3, mo0, hr, hG⟩
    obtain ⟨g1, o1⟩ : ∃ g, m.objs (.tmp 1 0) = (g, .box [.v (.sl 3 a.n1 (a.db.map lsaA)), .v (i64 a.up), .v (i64 a.bo), .v (.sl 2 a.n2 (a.ep.map itA))]) := ⟨_, Prod.ext rfl o1⟩
    rw [o1] at f1
    have F := (And.intro f1 (And.intro f3 (And.intro o1 hG)))
    refine AW.seq ?_
    refine AW.seq ?_
    refine AW.region (cfg := cfg) ?_
    refine stp (fun _ h => s0 h) ?_
    refine stp (fun _ h => sx h) ?_
    refine stp (fun _ h => sl h) ?_
    refine stp (fun _ h => sd h) ?_
    iterate 2 refine stp (fun _ h => s0 h) ?_
    iterate 2 refine mrg wa (fun hc _ h => s0 h) ?_
    refine stp (fun _ h => s0 h) ?_
    refine aops_nil ?_
    refine cnd (fun hb => ?ht3) (fun hb => ?hf3)
    case ht3 => (simp only [Bool.and_eq_true, decide_eq_true_eq] at hb; split at hb <;> omega)
    case hf3 =>
    have hbt12 := hb
    refine AW.exit ?_
    refine AW.seq ?_
    refine AW.region (cfg := cfg) ?_
    refine stp (fun _ h => sx h) ?_
    refine stp (fun _ h => sl h) ?_
    refine stp (fun _ h => sd h) ?_
    iterate 2 refine stp (fun _ h => s0 h) ?_
    refine mrg wa (fun hc _ h => sx h) ?_
    refine mrg wa (fun hc _ h => sl h) ?_
    refine mrg wa (fun hc _ h => sd h) ?_
    refine mrg wa (fun hc _ h => s0 h) ?_
    iterate 2 refine stp (fun _ h => s0 h) ?_
    refine aops_nil ?_
    refine AW.ret ?_
    refine ⟨.inr rfl, ?_⟩
    refine leaves_tmp1 2 rfl ?_ (by exact hG)
    simp (disch := first | omega | decide) only [go_sem, F, aIndex_map]
    all_goals (rw [lightB_end mo0]; done)
theorem good_awakeB  : Good Try.prog 9 [] [] [(.b true, false)] [] := by
  refine good_of_body2 49 Try.func9 rfl rfl rfl (by simp) ?_
  intro s m ha hr hv hG
  clear ha
  have hc : True := trivial
  have F := hG
  refine AW.seq ?_
  refine AW.region (cfg := cfg) ?_
  refine stp (fun _ h => s0 h) ?_
  refine aops_nil ?_
  refine AW.seq ?_
  refine AW.region (cfg := cfg) ?_
  iterate 3 refine stp (fun _ h => su h) ?_
  refine stp (fun _ h => sq h) ?_
  refine stp (fun _ h => cr (w := good_Ap0) (x := h)) ?_
  iterate 3 refine stp (fun _ h => s0 h) ?_
  refine stp (fun _ h => sd h) ?_
  refine stp0 (fun _ h => ssw h) ?_
  refine stp (fun _ h => s0 h) ?_
  refine aops_nil ?_
  refine AW.seq ?_
  refine AW.region (cfg := cfg) ?_
  refine stp (fun _ h => sl h) ?_
  iterate 2 refine stp (fun _ h => su h) ?_
  refine stp (fun _ h => sq h) ?_
  refine stp (fun _ h => cr (w := good_Ap1) (x := h)) ?_
  iterate 3 refine stp (fun _ h => s0 h) ?_
  refine stp (fun _ h => sd h) ?_
  refine stp0 (fun _ h => ssw h) ?_
  refine stp (fun _ h => s0 h) ?_
  refine aops_nil ?_
  refine AW.seq ?_
  refine AW.region (cfg := cfg) ?_
  refine stp (fun _ h => su h) ?_
  refine stp (fun _ h => cr (w := good_Put00) (x := h)) ?_
  iterate 5 refine stp (fun _ h => s0 h) ?_
  refine aops_nil ?_
  refine AW.seq ?_
  have e14 := s0_len
  have F := And.intro e14 F
  refine AW.region (cfg := cfg) ?_
  iterate 3 refine stp (fun _ h => s0 h) ?_
  refine mrg wa (fun hc _ h => sx h) ?_
  refine mrg wa (fun hc _ h => sl h) ?_
  refine mrg wa (fun hc _ h => sd h) ?_
  refine mrg wa (fun hc _ h => s0 h) ?_
  iterate 2 refine stp (fun _ h => s0 h) ?_
  iterate 2 refine mrg wa (fun hc _ h => s0 h) ?_
  iterate 2 refine stp (fun _ h => s0 h) ?_
  iterate 2 refine mrg wa (fun hc _ h => s0 h) ?_
  iterate 2 refine stp (fun _ h => s0 h) ?_
  refine mrg wa (fun hc _ h => s0 h) ?_
  refine mrg wa (fun hc _ h => sd h) ?_
  refine mrg wa (fun hc _ h => s0 h) ?_
  iterate 2 refine stp (fun _ h => s0 h) ?_
  refine aops_nil ?_
  refine AW.ret ?_
  refine ⟨.inr rfl, ?_⟩
  refine leaves_tmp1 0 rfl ?_ (by exact hG)
  simp (disch := first | omega | decide) only [go_sem, F, aIndex_map]
  all_goals rfl
end Go.Vai.BA
set_option linter.unusedSimpArgs false
set_option linter.unusedVariables false
namespace Go.Vai.BA
open Go.Vai.O Go.Vai.L Go.Vai.D Go.Vai.I Go.Vai.G Go.Vai.C
def rdD (l : List (BitVec 8)) (w : Bool) : Nat → Option (List Lsa × List (BitVec 8) × Bool)
 | 0 => some ([], l, w)
 | k + 1 => match rdD l w k with
  | some (xs, m, wm) => if rdOK m wm then some (xs ++ [rdL m wm], rdR m wm, rdW m wm) else none
  | none => none
def rdE (l : List (BitVec 8)) (w : Bool) : Nat → List It × List (BitVec 8) × Bool
 | 0 => ([], l, w)
 | k + 1 => let p := rdE l w k
  (p.1 ++ [⟨rnV p.2.1 p.2.2 1, rnV (rnL p.2.1 p.2.2 1) (rnW p.2.1 p.2.2 1) 4⟩], rnL (rnL p.2.1 p.2.2 1) (rnW p.2.1 p.2.2 1) 4, rnW (rnL p.2.1 p.2.2 1) (rnW p.2.1 p.2.2 1) 4)
theorem rdD_some {l m : List (BitVec 8)} {w wm : Bool} {xs : List Lsa} {k : Nat} (h : rdD l w k = some (xs, m, wm)) : rdD l w (k + 1) = if rdOK m wm then some (xs ++ [rdL m wm], rdR m wm, rdW m wm) else none := by rw [rdD, h]
theorem rdD_none {l : List (BitVec 8)} {w : Bool} {k : Nat} (h : rdD l w k = none) : ∀ {n : Nat}, k ≤ n → rdD l w n = none := by
 intro n hn
 induction n with
 | zero =>
  obtain rfl : k = 0 := by omega
  exact h
 | succ n ih =>
  by_cases e : k = n + 1
  ·subst e; exact h
  ·rw [rdD, ih (by omega)]
theorem rdD_cons {l : List (BitVec 8)} {w : Bool} : ∀ {k : Nat} {xs : List Lsa} {m : List (BitVec 8)} {wm : Bool}, rdD l w k = some (xs, m, wm) → (wm = false → w = false ∧ l = dbB xs ++ m) ∧ (∀ x ∈ xs, lsaOK x = true) ∧ xs.length = k ∧ m.length ≤ l.length
 | 0, xs, m, wm, h => by
  simp only [rdD, Option.some.injEq, Prod.mk.injEq] at h
  obtain ⟨rfl, rfl, rfl⟩ := h
  exact ⟨fun h => ⟨h, rfl⟩, by simp, rfl, Nat.le_refl _⟩
 | k + 1, xs, m, wm, h => by
  cases hk : rdD l w k with
  | none => rw [rdD, hk] at h; cases h
  | some p =>
   obtain ⟨ys, m0, w0⟩ := p
   rw [rdD_some hk] at h
   split at h
   ·rename_i hok
    simp only [Option.some.injEq, Prod.mk.injEq] at h
    obtain ⟨rfl, rfl, rfl⟩ := h
    obtain ⟨h1, h2, h3, h4⟩ := rd_cons hok
    obtain ⟨i1, i2, i3, i4⟩ := rdD_cons hk
    obtain ⟨j1, j2⟩ := i1 h1
    refine ⟨fun _ => ⟨j1, ?_⟩, fun x hx => ?_, by simp [i3], ?_⟩
    ·rw [j2, dbB, dbB, List.flatMap_append, List.append_assoc]
     congr 1
     simpa using h2
    ·rcases List.mem_append.1 hx with hx | hx
     ·exact i2 x hx
     ·rw [List.mem_singleton.1 hx]; exact h3
    ·have := congrArg List.length h2
     rw [List.length_append] at this; omega
   ·cases h
def nm (x : Lsa) : Lsa := ⟨x.o, x.s, x.ls.isEmpty, x.ls⟩
theorem dbB_drop {l : List Lsa} {k : Nat} (h : k < l.length) : dbB (l.drop k) = lsaB l[k] ++ dbB (l.drop (k + 1)) := by
 rw [List.drop_eq_getElem_cons h]; simp only [dbB, List.flatMap_cons]
theorem epsB_drop {l : List It} {k : Nat} (h : k < l.length) : epsB (l.drop k) = epoB l[k] ++ epsB (l.drop (k + 1)) := by
 rw [List.drop_eq_getElem_cons h]; simp only [epsB, List.flatMap_cons]
theorem rdD_back {xs : List Lsa} (h : ∀ x ∈ xs, lsaOK x = true) (r : List (BitVec 8)) : ∀ k, k ≤ xs.length → rdD (dbB xs ++ r) false k = some ((xs.map nm).take k, dbB (xs.drop k) ++ r, false)
 | 0, _ => rfl
 | k + 1, hk => by
  rw [rdD_some (rdD_back h r k (by omega)), dbB_drop (by omega), List.append_assoc]
  obtain ⟨h1, h2, h3, h4⟩ := rd_backs (h _ (List.getElem_mem (show k < xs.length by omega))) (dbB (xs.drop (k + 1)) ++ r)
  rw [h1, h2, h3, h4, if_pos rfl, List.take_succ_eq_append_getElem (by rw [List.length_map]; omega), List.getElem_map]; rfl
theorem rdE_back {xs : List It} (h : ∀ x ∈ xs, (0 < x.o ∧ x.o ≤ 64) ∧ (1 ≤ x.s ∧ x.s ≤ 1073741824)) (r : List (BitVec 8)) : ∀ k, k ≤ xs.length → rdE (epsB xs ++ r) false k = (xs.take k, epsB (xs.drop k) ++ r, false)
 | 0, _ => rfl
 | k + 1, hk => by
  rw [rdE, rdE_back h r k (by omega)]
  simp only
  have hb := h _ (List.getElem_mem (show k < xs.length by omega))
  rw [epsB_drop (by omega), epoB, List.append_assoc, List.append_assoc]
  obtain ⟨h1, h2, h3⟩ := back1 (n := xs[k].o) (by omega) (numR xs[k].s 4 ++ (epsB (xs.drop (k + 1)) ++ r))
  rw [h1, h2, h3]
  obtain ⟨h4, h5, h6⟩ := back4 (n := xs[k].s) (by omega) (epsB (xs.drop (k + 1)) ++ r)
  rw [h4, h5, h6, List.take_succ_eq_append_getElem (by omega)]
def L1 (b : List (BitVec 8)) := rnL b false 8
def W1 (b : List (BitVec 8)) := rnW b false 8
def L2 (b : List (BitVec 8)) := rnL (L1 b) (W1 b) 4
def W2 (b : List (BitVec 8)) := rnW (L1 b) (W1 b) 4
def L3 (b : List (BitVec 8)) := rnL (L2 b) (W2 b) 1
def W3 (b : List (BitVec 8)) := rnW (L2 b) (W2 b) 1
def N3 (b : List (BitVec 8)) : Int := rnV (L2 b) (W2 b) 1
def candS (b : List (BitVec 8)) (xs : List Lsa) (es : List It) : Sta := ⟨xs.isEmpty, xs, IntKind.i64.wrap (rnV b false 8), rnV (L1 b) (W1 b) 4, es.isEmpty, es⟩
def rdEE (m : List (BitVec 8)) (wm : Bool) := rdE (rnL m wm 1) (rnW m wm 1) (rnV m wm 1).toNat
def finB (b : List (BitVec 8)) (xs : List Lsa) (p : List It × List (BitVec 8) × Bool) : Sta × Int :=
 if (!p.2.2 && decide ((p.2.1.length : Int) = 0)) && staOK (candS b xs p.1) then (candS b xs p.1, 0) else (sta0, 2)
def getB (b : List (BitVec 8)) : Sta × Int :=
 match rdD (L3 b) (W3 b) (N3 b).toNat with
 | none => (sta0, 2)
 | some (xs, m, wm) => finB b xs (rdEE m wm)
def nzS (a : Sta) : Sta := ⟨a.db.isEmpty, a.db.map nm, a.up, a.bo, a.ep.isEmpty, a.ep⟩
theorem chn_nm (l : List Lsa) : ∀ t, chn lsaOK Lsa.o t (l.map nm) = chn lsaOK Lsa.o t l := by
 induction l with
 | nil => intro t; rfl
 | cons x l ih =>
  intro t
  simp only [List.map_cons, chn, ih]
  rfl
theorem nzS_ok (a : Sta) : staOK (nzS a) = staOK a := by
 show ((_ && chn lsaOK Lsa.o 0 (a.db.map nm)) && _) = _
 rw [chn_nm]; rfl
theorem nzS_same (a : Sta) : sameS (nzS a) a = true := by
 have : eqAll lsaEq (a.db.map nm) a.db = true := by
  rw [eqAll, decide_eq_true (by simp), Bool.true_and, List.all_eq_true]
  intro x hx
  obtain ⟨i, hi, rfl⟩ := List.mem_iff_getElem.1 hx
  rw [List.getElem_zip, List.getElem_map]; simp [lsaEq, nm]
 simp [sameS, nzS, this]
theorem getB_back {a : Sta} (h : staOK a = true) : getB (staB a) = (nzS a, 0) := by
 obtain ⟨b1, b2⟩ := nu_bd h
 obtain ⟨b3, b4⟩ := sta_list h
 have b5 := sta_lens h
 obtain ⟨p1, p2, p3⟩ := back8 (n := a.up) (by omega) (numR a.bo 4 ++ (numR (a.db.length : Int) 1 ++ (dbB a.db ++ (numR (a.ep.length : Int) 1 ++ epsB a.ep))))
 obtain ⟨p4, p5, p6⟩ := back4 (n := a.bo) (by omega) (numR (a.db.length : Int) 1 ++ (dbB a.db ++ (numR (a.ep.length : Int) 1 ++ epsB a.ep)))
 obtain ⟨p7, p8, p9⟩ := back1 (n := (a.db.length : Int)) (by omega) (dbB a.db ++ (numR (a.ep.length : Int) 1 ++ epsB a.ep))
 obtain ⟨q1, q2, q3⟩ := back1 (n := (a.ep.length : Int)) (by omega) (epsB a.ep)
 have e1 : L1 (staB a) = numR a.bo 4 ++ (numR (a.db.length : Int) 1 ++ (dbB a.db ++ (numR (a.ep.length : Int) 1 ++ epsB a.ep))) := p2
 have w1 : W1 (staB a) = false := p3
 have e2 : L2 (staB a) = numR (a.db.length : Int) 1 ++ (dbB a.db ++ (numR (a.ep.length : Int) 1 ++ epsB a.ep)) := by rw [L2, e1, w1, p5]
 have w2 : W2 (staB a) = false := by rw [W2, e1, w1, p6]
 have e3 : L3 (staB a) = dbB a.db ++ (numR (a.ep.length : Int) 1 ++ epsB a.ep) := by rw [L3, e2, w2, p8]
 have w3 : W3 (staB a) = false := by rw [W3, e2, w2, p9]
 have n3 : N3 (staB a) = (a.db.length : Int) := by rw [N3, e2, w2, p7]
 have v1 : rnV (staB a) false 8 = a.up := p1
 have v2 : rnV (L1 (staB a)) (W1 (staB a)) 4 = a.bo := by rw [e1, w1, p4]
 have hb := rdD_back b3 (numR (a.ep.length : Int) 1 ++ epsB a.ep) a.db.length (Nat.le_refl _)
 have he := rdE_back b4 [] a.ep.length (Nat.le_refl _)
 rw [List.append_nil] at he
 unfold getB
 rw [e3, w3, n3, Int.toNat_natCast, hb]
 simp only
 rw [show (List.drop a.db.length a.db) = [] by simp, show dbB [] = [] from rfl, List.nil_append, rdEE, q1, q2, q3, Int.toNat_natCast, he]
 have hc : candS (staB a) (a.db.map nm) a.ep = nzS a := by
  unfold candS nzS
  rw [v1, v2, wrap64 (n := a.up) (by omega)]
  simp
 unfold finB
 rw [show (a.db.map nm).take a.db.length = a.db.map nm from List.take_of_length_le (by simp), List.take_length]
 simp only
 rw [hc, nzS_ok, h, show (List.drop a.ep.length a.ep) = [] by simp]
 rfl
end Go.Vai.BA
set_option linter.unusedSimpArgs false
set_option linter.unusedVariables false
namespace Go.Vai.BA
open Go.Vai.O Go.Vai.L Go.Vai.D Go.Vai.I Go.Vai.G Go.Vai.C
def rfD (b : List (BitVec 8)) : Nat → Option (List Lsa × Nat)
 | 0 => some ([], 13)
 | k + 1 => match rfD b k with
  | some (xs, p) => if rfN (b.drop p) = 0 then none else some (xs ++ [rfL (b.drop p)], p + (rfN (b.drop p)).toNat)
  | none => none
def rfe (b : List (BitVec 8)) (p i : Nat) : It := ⟨((b.getD (p + 5 * i) default).toNat : Int), rV b (p + 5 * i + 1) false 4⟩
def rfE (b : List (BitVec 8)) (p j : Nat) : List It := (List.range j).map (rfe b p)
theorem rfE_len (b : List (BitVec 8)) (p j : Nat) : (rfE b p j).length = j := by simp [rfE]
def cnt5 (b : List (BitVec 8)) (p : Nat) : Nat := (b.length - p) / 5
def rcand (b : List (BitVec 8)) (xs : List Lsa) (es : List It) : Sta := ⟨xs.isEmpty, xs, IntKind.i64.wrap (rV b 0 false 8), rV b 8 false 4, es.isEmpty, es⟩
def rfin (b : List (BitVec 8)) (a : Sta) : Sta × Bool := if staOK a && decide (staB a = b) then (a, true) else (sta0, false)
def c12 (b : List (BitVec 8)) : Nat := (b.getD 12 default).toNat
def readB (b : List (BitVec 8)) : Sta × Bool :=
 if b.length < 14 then (sta0, false) else match rfD b (c12 b) with
  | none => (sta0, false)
  | some (xs, p) => rfin b (rcand b xs (rfE b (p + 1) (cnt5 b (p + 1))))
theorem getB_no {l m : List (BitVec 8)} {wm : Bool} {xs : List Lsa} {k : Nat} (hk : k < (N3 l).toNat) (h : rdD (L3 l) (W3 l) k = some (xs, m, wm)) (h2 : rdOK m wm = false) : getB l = (sta0, 2) := by
 have : rdD (L3 l) (W3 l) (N3 l).toNat = none := rdD_none (k := k + 1) (by rw [rdD_some h, h2]; rfl) (by omega)
 rw [getB, this]
theorem getB_fin {l m m1 : List (BitVec 8)} {wm w1 : Bool} {xs : List Lsa} {es : List It} (h : rdD (L3 l) (W3 l) (N3 l).toNat = some (xs, m, wm)) (he : rdE (rnL m wm 1) (rnW m wm 1) (rnV m wm 1).toNat = (es, m1, w1)) :
  getB l = if (!w1 && decide ((m1.length : Int) = 0)) && staOK (candS l xs es) then (candS l xs es, 0) else (sta0, 2) := by
 rw [getB, h]
 show finB l xs (rdE (rnL m wm 1) (rnW m wm 1) (rnV m wm 1).toNat) = _
 rw [he]; rfl
theorem getB_f1 {l m m1 : List (BitVec 8)} {wm w1 : Bool} {xs : List Lsa} {es : List It} (h : rdD (L3 l) (W3 l) (N3 l).toNat = some (xs, m, wm)) (he : rdE (rnL m wm 1) (rnW m wm 1) (rnV m wm 1).toNat = (es, m1, w1))
  (h2 : (!(!w1 && decide ((m1.length : Int) = 0))) = true ∨ staE (candS l xs es) ≠ 0) : getB l = (sta0, 2) := by
 rw [getB_fin h he]
 rcases h2 with h2 | h2
 ·cases hx : (!w1 && decide ((m1.length : Int) = 0)) with
  | false => rfl
  | true => rw [hx] at h2; cases h2
 ·rw [(staE_1 h2).1, Bool.and_false]; rfl
theorem getB_f2 {l m m1 : List (BitVec 8)} {wm w1 : Bool} {xs : List Lsa} {es : List It} (h : rdD (L3 l) (W3 l) (N3 l).toNat = some (xs, m, wm)) (he : rdE (rnL m wm 1) (rnW m wm 1) (rnV m wm 1).toNat = (es, m1, w1))
  (h2 : (!(!w1 && decide ((m1.length : Int) = 0))) = false ∧ ¬ staE (candS l xs es) ≠ 0) : getB l = (candS l xs es, 0) := by
 have e : (!w1 && decide ((m1.length : Int) = 0)) = true := by
  cases hx : (!w1 && decide ((m1.length : Int) = 0)) with
  | true => rfl
  | false => rw [hx] at h2; exact absurd h2.1 (by decide)
 rw [getB_fin h he, e, staE_0 h2.2]; rfl
theorem rdD_next {l m : List (BitVec 8)} {w wm : Bool} {xs : List Lsa} {k : Nat} (h : rdD l w k = some (xs, m, wm)) (h2 : rdOK m wm = true) : rdD l w (k + 1) = some (xs ++ [rdL m wm], rdR m wm, rdW m wm) := by rw [rdD_some h, if_pos h2]
theorem rdE_next {l m : List (BitVec 8)} {w wm : Bool} {es : List It} {k : Nat} (h : rdE l w k = (es, m, wm)) : rdE l w (k + 1) = (es ++ [⟨rnV m wm 1, rnV (rnL m wm 1) (rnW m wm 1) 4⟩], rnL (rnL m wm 1) (rnW m wm 1) 4, rnW (rnL m wm 1) (rnW m wm 1) 4) := by rw [rdE, h]
theorem lens_ok {xs : List Lsa} (h : ∀ x ∈ xs, lsaOK x = true) : ∀ x ∈ xs, x.ls.length ≤ 9223372036854775807 := fun x hx => by have := (lsa_bd (h x hx)).2.2.1; omega
theorem staB_len {a : Sta} (h : staOK a = true) : (staB a).length ≤ 6094 := by
 obtain ⟨b3, b4⟩ := sta_list h
 have b5 := sta_lens h
 have := dbB_le b3
 simp only [staB, List.length_append, numR_length, epsB_len]
 omega
end Go.Vai.BA
namespace Go.Vai.BA
open Go.Proofs Go.Vai Go.Vai.C Go.Vai.D Go.Vai.DB Go.Vai.G Go.Vai.I Go.Vai.L Go.Vai.N Go.Vai.O
set_option linter.unusedSimpArgs false
set_option linter.unusedVariables false
set_option maxHeartbeats 4000000
set_option maxRecDepth 100000
theorem good_BytesB (a : Sta) (ha1 : a.db.length ≤ 1000000) (ha2 : a.ep.length ≤ 1000000) (pa : ∀ x ∈ a.db, fit x) (ok : staOK a = true) : Good Try.prog 22 [(staA a, false)] [] [(.sl 1 false (bsl (staB a)), false)] [] := by
  refine good_of_body2 71 Try.func22 rfl rfl rfl (by simp) ?_
  intro s m ha hr hv hG
  have f0 : s 0 = .v (.agg [.sl 3 a.n1 (a.db.map lsaA), i64 a.up, i64 a.bo, .sl 2 a.n2 (a.ep.map itA)]) := ha 0 _ rfl
  clear ha
  have hc : True := trivial
  have F := (And.intro f0 hG)
  obtain ⟨b1, b2⟩ := nu_bd ok
  obtain ⟨b3, b4⟩ := sta_list ok
  have b5 := sta_lens ok
  refine AW.seq ?_
  refine AW.region (cfg := cfg) ?_
  refine stp (fun _ h => sb h) ?_
  refine stp (fun _ h => s0 h) ?_
  refine aops_nil ?_
  refine AW.seq ?_
  refine AW.draw (cfg := cfg) (by kernel_rfl) (by kernel_rfl) (by kernel_rfl) ?_
  refine dstp (fun _ h => sx h) ?_
  refine dstp (fun _ h => sl h) ?_
  refine dstp (fun _ h => sd h) ?_
  refine dstp (fun _ h => co1 (w := O.good_refNum 8 _ (by omega) (by omega)) (x := h)) ?_
  refine dstp (fun _ h => sx h) ?_
  refine dstp (fun _ h => sl h) ?_
  refine dstp (fun _ h => sd h) ?_
  refine dstp (fun _ h => co1 (w := O.good_refNum 4 _ (by omega) (by omega)) (x := h)) ?_
  refine dstp (fun _ h => sp h) ?_
  refine dstp (fun _ h => st h) ?_
  refine adraw_nil (by kernel_rfl) ?_
  refine AW.seq ?_
  refine AW.region (cfg := cfg) ?_
  refine stp (fun _ h => s0 h) ?_
  refine stp (fun _ h => sx h) ?_
  refine stp (fun _ h => sl h) ?_
  iterate 2 refine stp (fun _ h => sd h) ?_
  refine stp (fun _ h => sq h) ?_
  refine stp (fun _ h => sp h) ?_
  refine stp (fun _ h => st h) ?_
  refine aops_nil ?_
  refine AW.seq ?_
  refine AW.seq ?_
  refine AW.region (cfg := cfg) ?_
  refine stp (fun _ h => s0 h) ?_
  refine aops_nil ?_
  refine AW.block ?_
  refine AW.forN (fun k σ => ∃ s m, σ = ⟨71, s, m⟩ ∧ s 1 = .lptr (.tmp 1 0) (m.objs (.tmp 1 0)).1 0 ∧ (m.objs (.tmp 1 0)).2 = .box [.v (.sl 3 a.n1 (a.db.map lsaA)), .v (i64 a.up), .v (i64 a.bo), .v (.sl 2 a.n2 (a.ep.map itA))] ∧ s 3 = .own (.var 3) (m.objs (.var 3)).1 0 ((numR a.up 8 ++ (numR a.bo 4 ++ (numR (a.db.length : Int) 1 ++ dbB (a.db.take k)))).length) ∧ (m.objs (.var 3)).2 = .arr false 1 (bsl (numR a.up 8 ++ (numR a.bo 4 ++ (numR (a.db.length : Int) 1 ++ dbB (a.db.take k))))) ∧ s 4 = .v (i64 (k : Int)) ∧ (∀ i, (m.objs (.res i)).2 = .dead) ∧ m.G = []) (a.db.length) ?_ ?_ ?_
  · refine ⟨_, _, rfl, ?_, ?_, ?_, ?_, ?_, (by intro i; simp [Mem.set, hr]), (by exact hG)⟩ <;> try simp (disch := first | omega | decide) only [go_sem, F, aIndex_map]
    all_goals first | rfl | (simp [dbB, numR_one, bsl]; done)
  · clear F f0 hr hG
    rintro k σ hk ⟨s, m, rfl, f1, o1, f3, o3, f4, hr, hG⟩
    obtain ⟨g1, o1⟩ : ∃ g, m.objs (.tmp 1 0) = (g, .box [.v (.sl 3 a.n1 (a.db.map lsaA)), .v (i64 a.up), .v (i64 a.bo), .v (.sl 2 a.n2 (a.ep.map itA))]) := ⟨_, Prod.ext rfl o1⟩
    rw [o1] at f1
    obtain ⟨g3, o3⟩ : ∃ g, m.objs (.var 3) = (g, .arr false 1 (bsl (numR a.up 8 ++ (numR a.bo 4 ++ (numR (a.db.length : Int) 1 ++ dbB (a.db.take k)))))) := ⟨_, Prod.ext rfl o3⟩
    rw [o3] at f3
    have F := (And.intro f1 (And.intro f3 (And.intro f4 (And.intro o1 (And.intro o3 hG)))))
    refine AW.seq ?_
    refine AW.seq ?_
    refine AW.region (cfg := cfg) ?_
    refine stp (fun _ h => s0 h) ?_
    refine stp (fun _ h => sx h) ?_
    refine stp (fun _ h => sl h) ?_
    refine stp (fun _ h => sd h) ?_
    refine stp (fun _ h => s0 h) ?_
    refine aops_nil ?_
    refine cnd (fun hb => ?ht1) (fun hb => ?hf1)
    case hf1 => (simp at hb; omega)
    case ht1 =>
    have hbt26 := hb
    refine AW.skip ?_
    refine AW.seq ?_
    refine AW.block ?_
    have hkl : k < a.db.length := by assumption
    have okk := b3 _ (List.getElem_mem hkl)
    have w0 := dbB_le (l := a.db.take k) (fun x hx => b3 x (List.mem_of_mem_take hx))
    simp only [List.length_take] at w0
    have wl := lsaB_len a.db[k]
    have wb := (lsa_bd okk).2.2.1
    refine AW.region (cfg := cfg) ?_
    refine stp (fun _ h => s0 h) ?_
    refine stp (fun _ h => sx h) ?_
    refine stp (fun _ h => sl h) ?_
    refine stp (fun _ h => s0 h) ?_
    refine stp (fun _ h => si h) ?_
    refine stp (fun _ h => sl h) ?_
    refine stp (fun _ h => co1 (w := good_refPutX a.db[k] okk) (x := h)) ?_
    refine stp (fun _ h => sp h) ?_
    refine stp (fun _ h => st h) ?_
    refine aops_nil ?_
    refine AW.region (cfg := cfg) ?_
    refine stp (fun _ h => s0 h) ?_
    refine stp (fun _ h => sd h) ?_
    refine stp (fun _ h => s0 h) ?_
    refine aops_nil ?_
    refine ⟨_, _, rfl, ?_, ?_, ?_, ?_, ?_, (by intro i; simp [Mem.set, hr]), (by exact hG)⟩ <;> try simp (disch := first | omega | decide) only [go_sem, F, aIndex_map]
    all_goals first | rfl | (rw [dbB_take hkl]; done) | (rw [dbB_take hkl]; simp; omega)
  · clear F f0 hr hG
    rintro σ ⟨s, m, rfl, f1, o1, f3, o3, f4, hr, hG⟩
    obtain ⟨g1, o1⟩ : ∃ g, m.objs (.tmp 1 0) = (g, .box [.v (.sl 3 a.n1 (a.db.map lsaA)), .v (i64 a.up), .v (i64 a.bo), .v (.sl 2 a.n2 (a.ep.map itA))]) := ⟨_, Prod.ext rfl o1⟩
    rw [o1] at f1
    obtain ⟨g3, o3⟩ : ∃ g, m.objs (.var 3) = (g, .arr false 1 (bsl (numR a.up 8 ++ (numR a.bo 4 ++ (numR (a.db.length : Int) 1 ++ dbB (a.db.take a.db.length)))))) := ⟨_, Prod.ext rfl o3⟩
    rw [o3] at f3
    have F := (And.intro f1 (And.intro f3 (And.intro f4 (And.intro o1 (And.intro o3 hG)))))
    refine AW.seq ?_
    refine AW.seq ?_
    refine AW.region (cfg := cfg) ?_
    refine stp (fun _ h => s0 h) ?_
    refine stp (fun _ h => sx h) ?_
    refine stp (fun _ h => sl h) ?_
    refine stp (fun _ h => sd h) ?_
    refine stp (fun _ h => s0 h) ?_
    refine aops_nil ?_
    refine cnd (fun hb => ?ht2) (fun hb => ?hf2)
    case ht2 => (simp at hb; done)
    case hf2 =>
    have hbt26 := hb
    refine AW.exit ?_
    refine AW.seq ?_
    have w0 := dbB_le b3
    refine AW.region (cfg := cfg) ?_
    refine stp (fun _ h => s0 h) ?_
    refine stp (fun _ h => sx h) ?_
    refine stp (fun _ h => sl h) ?_
    iterate 2 refine stp (fun _ h => sd h) ?_
    refine stp (fun _ h => sq h) ?_
    refine stp (fun _ h => sp h) ?_
    refine stp (fun _ h => st h) ?_
    refine aops_nil ?_
    refine AW.seq ?_
    refine AW.seq ?_
    refine AW.region (cfg := cfg) ?_
    refine stp (fun _ h => s0 h) ?_
    refine aops_nil ?_
    refine AW.block ?_
    refine AW.forN (fun k σ => ∃ s m, σ = ⟨71, s, m⟩ ∧ s 1 = .lptr (.tmp 1 0) (m.objs (.tmp 1 0)).1 0 ∧ (m.objs (.tmp 1 0)).2 = .box [.v (.sl 3 a.n1 (a.db.map lsaA)), .v (i64 a.up), .v (i64 a.bo), .v (.sl 2 a.n2 (a.ep.map itA))] ∧ s 3 = .own (.var 3) (m.objs (.var 3)).1 0 ((numR a.up 8 ++ (numR a.bo 4 ++ (numR (a.db.length : Int) 1 ++ (dbB a.db ++ (numR (a.ep.length : Int) 1 ++ epsB (a.ep.take k)))))).length) ∧ (m.objs (.var 3)).2 = .arr false 1 (bsl (numR a.up 8 ++ (numR a.bo 4 ++ (numR (a.db.length : Int) 1 ++ (dbB a.db ++ (numR (a.ep.length : Int) 1 ++ epsB (a.ep.take k))))))) ∧ s 5 = .v (i64 (k : Int)) ∧ (∀ i, (m.objs (.res i)).2 = .dead) ∧ m.G = []) (a.ep.length) ?_ ?_ ?_
    · refine ⟨_, _, rfl, ?_, ?_, ?_, ?_, ?_, (by intro i; simp [Mem.set, hr]), (by exact hG)⟩ <;> try simp (disch := first | omega | decide) only [go_sem, F, aIndex_map]
      all_goals first | rfl | (simp [epsB, numR_one, bsl]; done) | (simp [epsB]; omega)
    · clear F f1 f3 f4 o1 o3 hr hG
      rintro k σ hk ⟨s, m, rfl, f1, o1, f3, o3, f5, hr, hG⟩
      obtain ⟨g1, o1⟩ : ∃ g, m.objs (.tmp 1 0) = (g, .box [.v (.sl 3 a.n1 (a.db.map lsaA)), .v (i64 a.up), .v (i64 a.bo), .v (.sl 2 a.n2 (a.ep.map itA))]) := ⟨_, Prod.ext rfl o1⟩
      rw [o1] at f1
      obtain ⟨g3, o3⟩ : ∃ g, m.objs (.var 3) = (g, .arr false 1 (bsl (numR a.up 8 ++ (numR a.bo 4 ++ (numR (a.db.length : Int) 1 ++ (dbB a.db ++ (numR (a.ep.length : Int) 1 ++ epsB (a.ep.take k)))))))) := ⟨_, Prod.ext rfl o3⟩
      rw [o3] at f3
      have F := (And.intro f1 (And.intro f3 (And.intro f5 (And.intro o1 (And.intro o3 hG)))))
      refine AW.seq ?_
      refine AW.seq ?_
      refine AW.region (cfg := cfg) ?_
      refine stp (fun _ h => s0 h) ?_
      refine stp (fun _ h => sx h) ?_
      refine stp (fun _ h => sl h) ?_
      refine stp (fun _ h => sd h) ?_
      refine stp (fun _ h => s0 h) ?_
      refine aops_nil ?_
      refine cnd (fun hb => ?ht3) (fun hb => ?hf3)
      case hf3 => (simp at hb; omega)
      case ht3 =>
      have hbt48 := hb
      refine AW.skip ?_
      refine AW.seq ?_
      refine AW.block ?_
      have hkl : k < a.ep.length := by assumption
      have okk := b4 _ (List.getElem_mem hkl)
      have w0 := dbB_le b3
      refine AW.draw (cfg := cfg) (by kernel_rfl) (by kernel_rfl) (by kernel_rfl) ?_
      refine dstp (fun _ h => s0 h) ?_
      refine dstp (fun _ h => sx h) ?_
      refine dstp (fun _ h => sl h) ?_
      refine dstp (fun _ h => s0 h) ?_
      refine dstp (fun _ h => si h) ?_
      refine dstp (fun _ h => sx h) ?_
      refine dstp (fun _ h => sl h) ?_
      refine dstp (fun _ h => sd h) ?_
      refine dstp (fun _ h => sq h) ?_
      refine dstp (fun _ h => sp h) ?_
      refine dstp (fun _ h => sx h) ?_
      refine dstp (fun _ h => sl h) ?_
      refine dstp (fun _ h => s0 h) ?_
      refine dstp (fun _ h => si h) ?_
      refine dstp (fun _ h => sx h) ?_
      refine dstp (fun _ h => sl h) ?_
      refine dstp (fun _ h => sd h) ?_
      refine dstp (fun _ h => co1 (w := O.good_refNum 4 _ (by omega) (by omega)) (x := h)) ?_
      refine dstp (fun _ h => sp h) ?_
      refine dstp (fun _ h => st h) ?_
      refine adraw_nil (by kernel_rfl) ?_
      refine AW.region (cfg := cfg) ?_
      refine stp (fun _ h => s0 h) ?_
      refine stp (fun _ h => sd h) ?_
      refine stp (fun _ h => s0 h) ?_
      refine aops_nil ?_
      refine ⟨_, _, rfl, ?_, ?_, ?_, ?_, ?_, (by intro i; simp [Mem.set, hr]), (by exact hG)⟩ <;> try simp (disch := first | omega | decide) only [go_sem, F, aIndex_map]
      all_goals first | rfl | (rw [epsB_take hkl]; simp [epoB, numR_one, bsl]; done) | (rw [epsB_take hkl]; simp [epoB]; omega)
    · clear F f1 f3 f4 o1 o3 hr hG
      rintro σ ⟨s, m, rfl, f1, o1, f3, o3, f5, hr, hG⟩
      obtain ⟨g1, o1⟩ : ∃ g, m.objs (.tmp 1 0) = (g, .box [.v (.sl 3 a.n1 (a.db.map lsaA)), .v (i64 a.up), .v (i64 a.bo), .v (.sl 2 a.n2 (a.ep.map itA))]) := ⟨_, Prod.ext rfl o1⟩
      rw [o1] at f1
      obtain ⟨g3, o3⟩ : ∃ g, m.objs (.var 3) = (g, .arr false 1 (bsl (numR a.up 8 ++ (numR a.bo 4 ++ (numR (a.db.length : Int) 1 ++ (dbB a.db ++ (numR (a.ep.length : Int) 1 ++ epsB (a.ep.take a.ep.length)))))))) := ⟨_, Prod.ext rfl o3⟩
      rw [o3] at f3
      have F := (And.intro f1 (And.intro f3 (And.intro f5 (And.intro o1 (And.intro o3 hG)))))
      refine AW.seq ?_
      refine AW.seq ?_
      refine AW.region (cfg := cfg) ?_
      refine stp (fun _ h => s0 h) ?_
      refine stp (fun _ h => sx h) ?_
      refine stp (fun _ h => sl h) ?_
      refine stp (fun _ h => sd h) ?_
      refine stp (fun _ h => s0 h) ?_
      refine aops_nil ?_
      refine cnd (fun hb => ?ht4) (fun hb => ?hf4)
      case ht4 => (simp at hb; done)
      case hf4 =>
      have hbt48 := hb
      refine AW.exit ?_
      refine AW.seq ?_
      refine AW.region (cfg := cfg) ?_
      refine stp (fun _ h => s0 h) ?_
      refine stp (fun _ h => sm h) ?_
      refine aops_nil ?_
      refine AW.ret ?_
      refine ⟨.inr rfl, ?_⟩
      refine leaves_tmp1 2 rfl ?_ (by exact hG)
      simp (disch := first | omega | decide) only [go_sem, F, aIndex_map]
      all_goals (simp [staB, sub, List.take_of_length_le]; done)
end Go.Vai.BA
namespace Go.Vai.BA
open Go.Proofs Go.Vai Go.Vai.C Go.Vai.D Go.Vai.DB Go.Vai.G Go.Vai.I Go.Vai.L Go.Vai.N Go.Vai.O
set_option linter.unusedSimpArgs false
set_option linter.unusedVariables false
set_option maxHeartbeats 4000000
set_option maxRecDepth 100000
theorem good_GetB (nil : Bool) (l : List (BitVec 8)) (hl : l.length ≤ 140737488355000) (hz : nil = true → l = []) : Good Try.prog 16 [(.sl 1 nil (bsl l), false)] [] [(staA (getB l).1, false), (i64 (getB l).2, false)] [] := by
  refine good_of_body4 63 Try.func16 rfl rfl rfl (by simp) (by simp) (by simp [noPtrL, noPtr]) (by simp [noPtrL, noPtr]) ?_
  intro s m ha hr hv hG
  have f0 : s 0 = .v (.sl 1 nil (bsl l)) := ha 0 _ rfl
  clear ha
  have hc : True := trivial
  have F := (And.intro f0 hG)
  have v0 := rnV_range l false 8
  have v1 := rnV_range4 (rnL l false 8) (rnW l false 8)
  have v2 := rnV_range1 (rnL (rnL l false 8) (rnW l false 8) 4) (rnW (rnL l false 8) (rnW l false 8) 4)
  have ll1 := rnL_len l false 8
  have ll2 := rnL_len (rnL l false 8) (rnW l false 8) 4
  have ll3 := rnL_len (rnL (rnL l false 8) (rnW l false 8) 4) (rnW (rnL l false 8) (rnW l false 8) 4) 1
  have lz1 : nil = true → (rnL l false 8) = [] := fun h => rnL_nil (hz h) _ _
  have lz2 : nil = true → (rnL (rnL l false 8) (rnW l false 8) 4) = [] := fun h => rnL_nil (lz1 h) _ _
  have lz3 : nil = true → (rnL (rnL (rnL l false 8) (rnW l false 8) 4) (rnW (rnL l false 8) (rnW l false 8) 4) 1) = [] := fun h => rnL_nil (lz2 h) _ _
  refine AW.seq ?_
  refine AW.region (cfg := cfg) ?_
  refine stp (fun _ h => sd h) ?_
  refine stp (fun _ h => s0 h) ?_
  refine aops_nil ?_
  refine AW.seq ?_
  refine AW.region (cfg := cfg) ?_
  refine stp (fun _ h => s0 h) ?_
  refine stp (fun _ h => cg (w := O.good_Read nil l (by omega) hz) (x := h)) ?_
  refine stp (fun _ h => s0 h) ?_
  refine aops_nil ?_
  refine AW.seq ?_
  refine AW.region (cfg := cfg) ?_
  refine stp (fun _ h => s0 h) ?_
  refine stp (fun _ h => cg (w := O.good_NumR nil l false (by omega) hz 8) (x := h)) ?_
  refine stp (fun _ h => sd h) ?_
  refine stp (fun _ h => s0 h) ?_
  refine stp (fun _ h => cg (w := O.good_NumR nil (rnL l false 8) (rnW l false 8) (by omega) lz1 4) (x := h)) ?_
  refine stp (fun _ h => sd h) ?_
  refine stp (fun _ h => su h) ?_
  refine stp (fun _ h => sd h) ?_
  refine stp0 (fun _ h => ss h) ?_
  refine aops_nil ?_
  refine AW.seq ?_
  refine AW.seq ?_
  refine AW.cellNil 5 0 3 (by simp (disch := first | omega | decide) only [go_sem, F, aIndex_map]; rfl) (by rfl) ?_
  refine AW.cellNil 5 3 2 (by simp (disch := first | omega | decide) only [go_sem, F, aIndex_map]; rfl) (by rfl) ?_
  refine AW.region (cfg := cfg) ?_
  refine stp (fun _ h => s0 h) ?_
  refine stp (fun _ h => cg (w := O.good_NumR nil (rnL (rnL l false 8) (rnW l false 8) 4) (rnW (rnL l false 8) (rnW l false 8) 4) (by omega) lz2 1) (x := h)) ?_
  refine stp (fun _ h => s0 h) ?_
  refine aops_nil ?_
  refine AW.block ?_
  refine AW.forN (fun k σ => ∃ (s : Nat → LV) (m : Mem) (xs : List Lsa) (m0 : List (BitVec 8)) (wk : Bool), σ = ⟨63, s, m⟩ ∧ s 2 = .lptr (.tmp 2 0) (m.objs (.tmp 2 0)).1 0 ∧ (m.objs (.tmp 2 0)).2 = .box [.v (.sl 3 true []), .v (i64 0), .v (i64 0), .v (.sl 2 true [])] ∧ s 3 = .v (i64 0) ∧ s 4 = .v (.gp 0 0) ∧ s 5 = .lptr (.tmp 5 0) (m.objs (.tmp 5 0)).1 0 ∧ (m.objs (.tmp 5 0)).2 = .box [.own (.cell 5 0) (m.objs (.cell 5 0)).1 0 (xs).length, .v (i64 (IntKind.i64.wrap (rnV l false 8))), .v (i64 (rnV (rnL l false 8) (rnW l false 8) 4)), .own (.cell 5 3) (m.objs (.cell 5 3)).1 0 (([] : List It)).length] ∧ (m.objs (.cell 5 0)).2 = .arr (xs).isEmpty 3 ((xs).map lsaA) ∧ (m.objs (.cell 5 3)).2 = .arr (([] : List It)).isEmpty 2 ((([] : List It)).map itA) ∧ s 18 = .v (.i .u64 (rnV (rnL (rnL l false 8) (rnW l false 8) 4) (rnW (rnL l false 8) (rnW l false 8) 4) 1)) ∧ s 19 = .v (.i .u64 (k : Int)) ∧ (rdD (rnL (rnL (rnL l false 8) (rnW l false 8) 4) (rnW (rnL l false 8) (rnW l false 8) 4) 1) (rnW (rnL (rnL l false 8) (rnW l false 8) 4) (rnW (rnL l false 8) (rnW l false 8) 4) 1) k = some (xs, m0, wk)) ∧ (m0.length ≤ l.length) ∧ (nil = true → m0 = []) ∧ (xs.length = k) ∧ (∀ i, (m.objs (.res i)).2 = .dead) ∧ m.G = [[.sl 1 (nil) (bsl (m0)), .b (wk)]]) ((rnV (rnL (rnL l false 8) (rnW l false 8) 4) (rnW (rnL l false 8) (rnW l false 8) 4) 1).toNat) ?_ ?_ ?_
  · refine ⟨_, _, [], (rnL (rnL (rnL l false 8) (rnW l false 8) 4) (rnW (rnL l false 8) (rnW l false 8) 4) 1), (rnW (rnL (rnL l false 8) (rnW l false 8) 4) (rnW (rnL l false 8) (rnW l false 8) 4) 1), rfl, ?_, ?_, ?_, ?_, ?_, ?_, ?_, ?_, ?_, ?_, ?_, ?_, ?_, ?_, (by intro i; simp [Mem.set, hr]), (by rfl)⟩ <;> try simp (disch := first | omega | decide) only [go_sem, F, aIndex_map]
    all_goals first | rfl | omega
  · clear F f0 hr hG
    rintro k σ hk ⟨s, m, xs, m0, wk, rfl, f2, o2, f3, f4, f5, o5, o5c0, o5c3, f18, f19, mo0, mo1, mo2, mo3, hr, hG⟩
    obtain ⟨g2, o2⟩ : ∃ g, m.objs (.tmp 2 0) = (g, .box [.v (.sl 3 true []), .v (i64 0), .v (i64 0), .v (.sl 2 true [])]) := ⟨_, Prod.ext rfl o2⟩
    rw [o2] at f2
    obtain ⟨g5c0, o5c0⟩ : ∃ g, m.objs (.cell 5 0) = (g, .arr (xs).isEmpty 3 ((xs).map lsaA)) := ⟨_, Prod.ext rfl o5c0⟩
    rw [o5c0] at o5
    obtain ⟨g5c3, o5c3⟩ : ∃ g, m.objs (.cell 5 3) = (g, .arr (([] : List It)).isEmpty 2 ((([] : List It)).map itA)) := ⟨_, Prod.ext rfl o5c3⟩
    rw [o5c3] at o5
    simp only at o5
    obtain ⟨g5, o5⟩ : ∃ g, m.objs (.tmp 5 0) = (g, .box [.own (.cell 5 0) g5c0 0 (xs).length, .v (i64 (IntKind.i64.wrap (rnV l false 8))), .v (i64 (rnV (rnL l false 8) (rnW l false 8) 4)), .own (.cell 5 3) g5c3 0 (([] : List It)).length]) := ⟨_, Prod.ext rfl o5⟩
    rw [o5] at f5
    have F := (And.intro f2 (And.intro f3 (And.intro f4 (And.intro f5 (And.intro f18 (And.intro f19 (And.intro o2 (And.intro o5 (And.intro o5c0 (And.intro o5c3 hG))))))))))
    refine AW.seq ?_
    refine AW.region (cfg := cfg) ?_
    refine stp (fun _ h => s0 h) ?_
    refine aops_nil ?_
    refine AW.seq ?_
    refine cnd (fun hb => ?ht1) (fun hb => ?hf1)
    case hf1 => (simp at hb; omega)
    case ht1 =>
    have hbt20 := hb
    refine AW.skip ?_
    refine AW.seq ?_
    refine AW.block ?_
    refine AW.seq ?_
    refine AW.region (cfg := cfg) ?_
    refine stp (fun _ h => s0 h) ?_
    refine stp (fun _ h => cg (w := L.good_Read nil m0 wk (by omega) mo2) (x := h)) ?_
    iterate 3 refine stp (fun _ h => s0 h) ?_
    refine stp (fun _ h => sd h) ?_
    refine stp0 (fun _ h => ss h) ?_
    refine stp (fun _ h => s0 h) ?_
    refine aops_nil ?_
    refine AW.seq ?_
    refine AW.seq ?_
    refine AW.region (cfg := cfg) ?_
    iterate 2 refine stp (fun _ h => s0 h) ?_
    refine aops_nil ?_
    refine cnd (fun hb => ?ht2) (fun hb => ?hf2)
    case ht2 =>
      have hw27 := hb
      try simp only [bo1, bo2, bo3, bo4, bo5, bo6] at hb
      have hbt27 := hb
      refine AW.seq ?_
      refine AW.region (cfg := cfg) ?_
      refine stp (fun _ h => su h) ?_
      refine stp0 (fun _ h => ss h) ?_
      refine stp (fun _ h => s0 h) ?_
      refine aops_nil ?_
      refine AW.ret ?_
      refine ⟨.inr rfl, ?_⟩
      apply Exists.intro
      refine leaves_mwp2 (rs := [.cell 2 25, .tmp 3]) rfl ?_
      simp (config := {failIfUnchanged := false}) [giveL, srcOne, rehome, freezeN, sub, ti25, upd, opn, aLoad, loadL, giveOne, reify, reifyL, readL, readOne, Mwp, M.bind, Mem.set, setAt, cellsL, hG, f2, f3, f4, f5, f18, f19, o2, o5, o5c0, o5c3]
      all_goals (rw [getB_no hk mo0 (by simpa using hbt27)]; exact ⟨⟨rfl, rfl⟩, rfl⟩)
    case hf2 =>
      have hw27 := hb
      try simp only [bo1, bo2, bo3, bo4, bo5, bo6] at hb
      have hbt27 := hb
      refine AW.skip ?_
      have hok : rdOK m0 wk = true := by simpa using hbt27
      have rr := rdR_le m0 wk
      refine AW.region (cfg := cfg) ?_
      refine stp (fun _ h => sx h) ?_
      iterate 2 refine stp (fun _ h => sl h) ?_
      refine stp (fun _ h => sq h) ?_
      refine stp (fun _ h => sp h) ?_
      refine stp (fun _ h => sx h) ?_
      refine stp0 (fun _ h => ss h) ?_
      refine aops_nil ?_
      refine AW.region (cfg := cfg) ?_
      refine stp (fun _ h => sd h) ?_
      refine stp (fun _ h => s0 h) ?_
      refine aops_nil ?_
      refine ⟨_, _, xs ++ [rdL m0 wk], rdR m0 wk, rdW m0 wk, rfl, ?_, ?_, ?_, ?_, ?_, ?_, ?_, ?_, ?_, ?_, ?_, ?_, ?_, ?_, (by intro i; simp [Mem.set, hr]), (by rfl)⟩ <;> try simp (disch := first | omega | decide) only [go_sem, F, aIndex_map]
      all_goals first | rfl | exact rdD_next mo0 hok | omega | (intro h; rw [mo2 h]; exact rdR_nil) | (simp; done) | (simp [lsaA]; done) | (simp; omega)
  · clear F f0 hr hG
    rintro σ ⟨s, m, xs, m0, wk, rfl, f2, o2, f3, f4, f5, o5, o5c0, o5c3, f18, f19, mo0, mo1, mo2, mo3, hr, hG⟩
    obtain ⟨g2, o2⟩ : ∃ g, m.objs (.tmp 2 0) = (g, .box [.v (.sl 3 true []), .v (i64 0), .v (i64 0), .v (.sl 2 true [])]) := ⟨_, Prod.ext rfl o2⟩
    rw [o2] at f2
    obtain ⟨g5c0, o5c0⟩ : ∃ g, m.objs (.cell 5 0) = (g, .arr (xs).isEmpty 3 ((xs).map lsaA)) := ⟨_, Prod.ext rfl o5c0⟩
    rw [o5c0] at o5
    obtain ⟨g5c3, o5c3⟩ : ∃ g, m.objs (.cell 5 3) = (g, .arr (([] : List It)).isEmpty 2 ((([] : List It)).map itA)) := ⟨_, Prod.ext rfl o5c3⟩
    rw [o5c3] at o5
    simp only at o5
    obtain ⟨g5, o5⟩ : ∃ g, m.objs (.tmp 5 0) = (g, .box [.own (.cell 5 0) g5c0 0 (xs).length, .v (i64 (IntKind.i64.wrap (rnV l false 8))), .v (i64 (rnV (rnL l false 8) (rnW l false 8) 4)), .own (.cell 5 3) g5c3 0 (([] : List It)).length]) := ⟨_, Prod.ext rfl o5⟩
    rw [o5] at f5
    have F := (And.intro f2 (And.intro f3 (And.intro f4 (And.intro f5 (And.intro f18 (And.intro f19 (And.intro o2 (And.intro o5 (And.intro o5c0 (And.intro o5c3 hG))))))))))
    refine AW.seq ?_
    refine AW.region (cfg := cfg) ?_
    refine stp (fun _ h => s0 h) ?_
    refine aops_nil ?_
    refine AW.seq ?_
    refine cnd (fun hb => ?ht3) (fun hb => ?hf3)
    case ht3 => (simp at hb; omega)
    case hf3 =>
    have hbt20 := hb
    refine AW.exit ?_
    refine AW.seq ?_
    refine AW.seq ?_
    have md := mo0
    have ml := mo1
    have mz := mo2
    have mk := mo3
    obtain ⟨_, xo, _, _⟩ := rdD_cons md
    have v4 := rnV_range1 m0 wk
    have ll4 := rnL_len m0 wk 1
    have lz4 : nil = true → (rnL m0 wk 1) = [] := fun h => rnL_nil (mz h) _ _
    refine AW.region (cfg := cfg) ?_
    refine stp (fun _ h => s0 h) ?_
    refine stp (fun _ h => cg (w := O.good_NumR nil m0 wk (by omega) mz 1) (x := h)) ?_
    refine stp (fun _ h => s0 h) ?_
    refine aops_nil ?_
    refine AW.block ?_
    refine AW.forN (fun k σ => ∃ (s : Nat → LV) (m : Mem) (es : List It) (m1 : List (BitVec 8)) (w1 : Bool), σ = ⟨63, s, m⟩ ∧ s 2 = .lptr (.tmp 2 0) (m.objs (.tmp 2 0)).1 0 ∧ (m.objs (.tmp 2 0)).2 = .box [.v (.sl 3 true []), .v (i64 0), .v (i64 0), .v (.sl 2 true [])] ∧ s 3 = .v (i64 0) ∧ s 4 = .v (.gp 0 0) ∧ s 5 = .lptr (.tmp 5 0) (m.objs (.tmp 5 0)).1 0 ∧ (m.objs (.tmp 5 0)).2 = .box [.own (.cell 5 0) (m.objs (.cell 5 0)).1 0 (xs).length, .v (i64 (IntKind.i64.wrap (rnV l false 8))), .v (i64 (rnV (rnL l false 8) (rnW l false 8) 4)), .own (.cell 5 3) (m.objs (.cell 5 3)).1 0 (es).length] ∧ (m.objs (.cell 5 0)).2 = .arr (xs).isEmpty 3 ((xs).map lsaA) ∧ (m.objs (.cell 5 3)).2 = .arr (es).isEmpty 2 ((es).map itA) ∧ s 37 = .v (.i .u64 (rnV m0 wk 1)) ∧ s 38 = .v (.i .u64 (k : Int)) ∧ (rdE (rnL m0 wk 1) (rnW m0 wk 1) k = (es, m1, w1)) ∧ (m1.length ≤ l.length) ∧ (nil = true → m1 = []) ∧ (es.length = k) ∧ (∀ i, (m.objs (.res i)).2 = .dead) ∧ m.G = [[.sl 1 (nil) (bsl (m1)), .b (w1)]]) ((rnV m0 wk 1).toNat) ?_ ?_ ?_
    · refine ⟨_, _, [], (rnL m0 wk 1), (rnW m0 wk 1), rfl, ?_, ?_, ?_, ?_, ?_, ?_, ?_, ?_, ?_, ?_, ?_, ?_, ?_, ?_, (by intro i; simp [Mem.set, hr]), (by rfl)⟩ <;> try simp (disch := first | omega | decide) only [go_sem, F, aIndex_map]
      all_goals first | rfl | omega
    · clear F f2 f3 f4 f5 f18 f19 o2 o5 o5c0 o5c3 hr hG
      rintro k σ hk ⟨s, m, es, m1, w1, rfl, f2, o2, f3, f4, f5, o5, o5c0, o5c3, f37, f38, mo0, mo1, mo2, mo3, hr, hG⟩
      obtain ⟨g2, o2⟩ : ∃ g, m.objs (.tmp 2 0) = (g, .box [.v (.sl 3 true []), .v (i64 0), .v (i64 0), .v (.sl 2 true [])]) := ⟨_, Prod.ext rfl o2⟩
      rw [o2] at f2
      obtain ⟨g5c0, o5c0⟩ : ∃ g, m.objs (.cell 5 0) = (g, .arr (xs).isEmpty 3 ((xs).map lsaA)) := ⟨_, Prod.ext rfl o5c0⟩
      rw [o5c0] at o5
      obtain ⟨g5c3, o5c3⟩ : ∃ g, m.objs (.cell 5 3) = (g, .arr (es).isEmpty 2 ((es).map itA)) := ⟨_, Prod.ext rfl o5c3⟩
      rw [o5c3] at o5
      simp only at o5
      obtain ⟨g5, o5⟩ : ∃ g, m.objs (.tmp 5 0) = (g, .box [.own (.cell 5 0) g5c0 0 (xs).length, .v (i64 (IntKind.i64.wrap (rnV l false 8))), .v (i64 (rnV (rnL l false 8) (rnW l false 8) 4)), .own (.cell 5 3) g5c3 0 (es).length]) := ⟨_, Prod.ext rfl o5⟩
      rw [o5] at f5
      have F := (And.intro f2 (And.intro f3 (And.intro f4 (And.intro f5 (And.intro f37 (And.intro f38 (And.intro o2 (And.intro o5 (And.intro o5c0 (And.intro o5c3 hG))))))))))
      refine AW.seq ?_
      refine AW.region (cfg := cfg) ?_
      refine stp (fun _ h => s0 h) ?_
      refine aops_nil ?_
      refine AW.seq ?_
      refine cnd (fun hb => ?ht4) (fun hb => ?hf4)
      case hf4 => (simp at hb; omega)
      case ht4 =>
      have hbt39 := hb
      refine AW.skip ?_
      refine AW.seq ?_
      refine AW.block ?_
      have v5 := rnV_range1 m1 w1
      have v6 := rnV_range4 (rnL m1 w1 1) (rnW m1 w1 1)
      have ll5 := rnL_len m1 w1 1
      have ll6 := rnL_len (rnL m1 w1 1) (rnW m1 w1 1) 4
      have lz5 : nil = true → (rnL m1 w1 1) = [] := fun h => rnL_nil (mo2 h) _ _
      have lz6 : nil = true → rnL (rnL m1 w1 1) (rnW m1 w1 1) 4 = [] := fun h => rnL_nil (lz5 h) _ _
      refine AW.draw (cfg := cfg) (by kernel_rfl) (by kernel_rfl) (by kernel_rfl) ?_
      refine dstp (fun _ h => sx h) ?_
      refine dstp (fun _ h => sl h) ?_
      refine dstp (fun _ h => s0 h) ?_
      refine dstp (fun _ h => cg (w := O.good_NumR nil m1 w1 (by omega) mo2 1) (x := h)) ?_
      refine dstp (fun _ h => sd h) ?_
      refine dstp (fun _ h => s0 h) ?_
      refine dstp (fun _ h => cg (w := O.good_NumR nil (rnL m1 w1 1) (rnW m1 w1 1) (by omega) lz5 4) (x := h)) ?_
      refine dstp (fun _ h => sd h) ?_
      refine dstp (fun _ h => su h) ?_
      refine dstp (fun _ h => sq h) ?_
      refine dstp (fun _ h => sp h) ?_
      refine dstp (fun _ h => sx h) ?_
      refine dstp0 (fun _ h => ss h) ?_
      refine adraw_nil (by kernel_rfl) ?_
      refine AW.region (cfg := cfg) ?_
      refine stp (fun _ h => sd h) ?_
      refine stp (fun _ h => s0 h) ?_
      refine aops_nil ?_
      refine ⟨_, _, es ++ [⟨rnV m1 w1 1, rnV (rnL m1 w1 1) (rnW m1 w1 1) 4⟩], rnL (rnL m1 w1 1) (rnW m1 w1 1) 4, rnW (rnL m1 w1 1) (rnW m1 w1 1) 4, rfl, ?_, ?_, ?_, ?_, ?_, ?_, ?_, ?_, ?_, ?_, ?_, ?_, ?_, ?_, (by intro i; simp [Mem.set, hr]), (by rfl)⟩ <;> try simp (disch := first | omega | decide) only [go_sem, F, aIndex_map]
      all_goals first | rfl | exact rdE_next mo0 | exact lz6 | omega | (simp [itA]; done) | (simp; omega)
    · clear F f2 f3 f4 f5 f18 f19 o2 o5 o5c0 o5c3 hr hG
      rintro σ ⟨s, m, es, m1, w1, rfl, f2, o2, f3, f4, f5, o5, o5c0, o5c3, f37, f38, mo0, mo1, mo2, mo3, hr, hG⟩
      obtain ⟨g2, o2⟩ : ∃ g, m.objs (.tmp 2 0) = (g, .box [.v (.sl 3 true []), .v (i64 0), .v (i64 0), .v (.sl 2 true [])]) := ⟨_, Prod.ext rfl o2⟩
      rw [o2] at f2
      obtain ⟨g5c0, o5c0⟩ : ∃ g, m.objs (.cell 5 0) = (g, .arr (xs).isEmpty 3 ((xs).map lsaA)) := ⟨_, Prod.ext rfl o5c0⟩
      rw [o5c0] at o5
      obtain ⟨g5c3, o5c3⟩ : ∃ g, m.objs (.cell 5 3) = (g, .arr (es).isEmpty 2 ((es).map itA)) := ⟨_, Prod.ext rfl o5c3⟩
      rw [o5c3] at o5
      simp only at o5
      obtain ⟨g5, o5⟩ : ∃ g, m.objs (.tmp 5 0) = (g, .box [.own (.cell 5 0) g5c0 0 (xs).length, .v (i64 (IntKind.i64.wrap (rnV l false 8))), .v (i64 (rnV (rnL l false 8) (rnW l false 8) 4)), .own (.cell 5 3) g5c3 0 (es).length]) := ⟨_, Prod.ext rfl o5⟩
      rw [o5] at f5
      have F := (And.intro f2 (And.intro f3 (And.intro f4 (And.intro f5 (And.intro f37 (And.intro f38 (And.intro o2 (And.intro o5 (And.intro o5c0 (And.intro o5c3 hG))))))))))
      refine AW.seq ?_
      refine AW.region (cfg := cfg) ?_
      refine stp (fun _ h => s0 h) ?_
      refine aops_nil ?_
      refine AW.seq ?_
      refine cnd (fun hb => ?ht5) (fun hb => ?hf5)
      case ht5 => (simp at hb; omega)
      case hf5 =>
      have hbt39 := hb
      refine AW.exit ?_
      refine AW.seq ?_
      refine AW.seq ?_
      refine AW.region (cfg := cfg) ?_
      refine stp (fun _ h => s0 h) ?_
      refine stp (fun _ h => cg (w := O.good_Done nil m1 w1 (by omega) mo2) (x := h)) ?_
      iterate 2 refine stp (fun _ h => s0 h) ?_
      refine mrg wa (fun hc _ h => sl h) ?_
      refine mrg wa (fun hc _ h => cs (w := good_CheckB (candS l xs es) (show xs.length ≤ 9223372036854775807 by omega) (show es.length ≤ 9223372036854775807 by omega) (lens_ok xo)) (x := h)) ?_
      refine mrg wa (fun hc _ h => s0 h) ?_
      refine stp (fun _ h => s0 h) ?_
      refine aops_nil ?_
      refine cnd (fun hb => ?ht6) (fun hb => ?hf6)
      case ht6 =>
        have hw60 := hb
        try simp only [bo1, bo2, bo3, bo4, bo5, bo6] at hb
        have hbt60 := hb
        refine AW.seq ?_
        refine AW.region (cfg := cfg) ?_
        refine stp (fun _ h => su h) ?_
        refine stp0 (fun _ h => ss h) ?_
        refine stp (fun _ h => s0 h) ?_
        refine aops_nil ?_
        refine AW.ret ?_
        refine ⟨.inr rfl, ?_⟩
        apply Exists.intro
        refine leaves_mwp2 (rs := [.cell 2 25, .tmp 3]) rfl ?_
        simp (config := {failIfUnchanged := false}) [giveL, srcOne, rehome, freezeN, sub, ti25, upd, opn, aLoad, loadL, giveOne, reify, reifyL, readL, readOne, Mwp, M.bind, Mem.set, setAt, cellsL, hG, f2, f3, f4, f5, f37, f38, o2, o5, o5c0, o5c3]
        all_goals (rw [getB_f1 md mo0 hbt60]; exact ⟨⟨rfl, rfl⟩, rfl⟩)
      case hf6 =>
        have hw60 := hb
        try simp only [bo1, bo2, bo3, bo4, bo5, bo6] at hb
        have hbt60 := hb
        refine AW.skip ?_
        refine AW.seq ?_
        refine AW.region (cfg := cfg) ?_
        refine stp (fun _ h => sl h) ?_
        refine stp0 (fun _ h => ss h) ?_
        refine stp (fun _ h => s0 h) ?_
        refine aops_nil ?_
        refine AW.ret ?_
        refine ⟨.inr rfl, ?_⟩
        apply Exists.intro
        refine leaves_mwp2 (rs := [.cell 2 25, .tmp 3]) rfl ?_
        simp (config := {failIfUnchanged := false}) [giveL, srcOne, rehome, freezeN, sub, ti25, upd, opn, aLoad, loadL, giveOne, reify, reifyL, readL, readOne, Mwp, M.bind, Mem.set, setAt, cellsL, hG, f2, f3, f4, f5, f37, f38, o2, o5, o5c0, o5c3]
        all_goals (rw [getB_f2 md mo0 hbt60]; refine ⟨⟨?_, rfl⟩, rfl⟩; rw [List.take_of_length_le (by simp), List.take_of_length_le (by simp)]; rfl)
end Go.Vai.BA
namespace Go.Vai.BA
open Go.Proofs Go.Vai Go.Vai.C Go.Vai.D Go.Vai.DB Go.Vai.G Go.Vai.I Go.Vai.L Go.Vai.N Go.Vai.O
set_option linter.unusedSimpArgs false
set_option linter.unusedVariables false
set_option maxHeartbeats 4000000
set_option maxRecDepth 100000
attribute [simp] rfE_len
end Go.Vai.BA
namespace Go.Vai.BA
open Go.Proofs Go.Vai Go.Vai.C Go.Vai.D Go.Vai.DB Go.Vai.G Go.Vai.I Go.Vai.L Go.Vai.N Go.Vai.O
set_option linter.unusedSimpArgs false
set_option linter.unusedVariables false
set_option maxHeartbeats 4000000
set_option maxRecDepth 100000
theorem nzS_fit {a : Sta} (h1 : a.db.length ≤ 70 ∧ a.ep.length ≤ 70) (pa : ∀ x ∈ a.db, fit x) : ((nzS a).db.length ≤ 70 ∧ (nzS a).ep.length ≤ 70) ∧ ∀ x ∈ (nzS a).db, fit x := by
  refine ⟨⟨by rw [nzS, List.length_map]; exact h1.1, h1.2⟩, fun x hx => ?_⟩
  obtain ⟨y, hy, rfl⟩ := List.mem_map.1 hx
  exact ⟨(pa y hy).1, fun h => List.isEmpty_iff.1 h⟩
theorem good_BasePuts (a : Sta) (ha1 : a.db.length ≤ 9223372036854775807) (z1a : a.n1 = true → a.db = []) (qa : ∀ x ∈ a.db, x.ls.length ≤ 9223372036854775807 ∧ (x.nil = true → x.ls = [])) (ha2 : a.ep.length ≤ 9223372036854775807) (z2a : a.n2 = true → a.ep = []) (b : Sta) (hb1 : b.db.length ≤ 9223372036854775807) (z1b : b.n1 = true → b.db = []) (qb : ∀ x ∈ b.db, x.ls.length ≤ 9223372036854775807 ∧ (x.nil = true → x.ls = [])) (hb2 : b.ep.length ≤ 9223372036854775807) (z2b : b.n2 = true → b.ep = []) : Good Try.prog 6 [(staA a, false), (staA b, false)] [] [(.b true, false)] [] := by
  refine good_of_body2 75 Try.func6 rfl rfl rfl (by simp) ?_
  intro s m ha hr hv hG
  have f0 : s 0 = .v (.agg [.sl 3 a.n1 (a.db.map lsaA), i64 a.up, i64 a.bo, .sl 2 a.n2 (a.ep.map itA)]) := ha 0 _ rfl
  have f1 : s 1 = .v (.agg [.sl 3 b.n1 (b.db.map lsaA), i64 b.up, i64 b.bo, .sl 2 b.n2 (b.ep.map itA)]) := ha 1 _ rfl
  clear ha
  have hc : True := trivial
  have F := (And.intro f0 (And.intro f1 hG))
  refine AW.seq ?_
  refine AW.region (cfg := cfg) ?_
  iterate 2 refine stp (fun _ h => sb h) ?_
  refine stp (fun _ h => s0 h) ?_
  refine aops_nil ?_
  refine AW.seq ?_
  refine AW.seq ?_
  refine AW.region (cfg := cfg) ?_
  refine stp (fun _ h => sl h) ?_
  refine stp (fun _ h => cs (w := good_LightB a (by omega) (by omega) (fun x hx => (qa x hx).1)) (x := h)) ?_
  iterate 2 refine stp (fun _ h => s0 h) ?_
  refine mrg wa (fun hc _ h => sl h) ?_
  refine mrg wa (fun hc _ h => cs (w := good_LightB b (by omega) (by omega) (fun x hx => (qb x hx).1)) (x := h)) ?_
  refine mrg wa (fun hc _ h => s0 h) ?_
  refine stp (fun _ h => s0 h) ?_
  refine aops_nil ?_
  refine cnd (fun hb => ?ht1) (fun hb => ?hf1)
  case ht1 =>
    have hw16 := hb
    try simp only [bo1, bo2, bo3, bo4, bo5, bo6] at hb
    have hbt16 := hb
    refine AW.seq ?_
    refine AW.region (cfg := cfg) ?_
    refine stp (fun _ h => cs (w := good_awakeB) (x := h)) ?_
    refine stp (fun _ h => s0 h) ?_
    refine aops_nil ?_
    refine AW.ret ?_
    refine ⟨.inr rfl, ?_⟩
    refine leaves_tmp1 4 rfl ?_ (by exact hG)
    simp (disch := first | omega | decide) only [go_sem, F, aIndex_map]
    all_goals first | done | rfl | (simp; done) | trace_state
  case hf1 =>
    have hw16 := hb
    try simp only [bo1, bo2, bo3, bo4, bo5, bo6] at hb
    have hbt16 := hb
    refine AW.skip ?_
    refine AW.seq ?_
    have hL : lightB a = true := by simpa using hbt16.1
    have hM : lightB b = true := by simpa using hbt16.2
    obtain ⟨⟨w1, w2⟩, pa⟩ := lightB_of hL (fun x hx => (qa x hx).2)
    obtain ⟨⟨w3, w4⟩, pb⟩ := lightB_of hM (fun x hx => (qb x hx).2)
    have e0 := sameS_refl a
    have F := And.intro e0 F
    refine AW.region (cfg := cfg) ?_
    refine stp (fun _ h => sl h) ?_
    refine stp (fun _ h => cr (w := good_PutB a (by omega) (by omega) pa) (x := h)) ?_
    iterate 5 refine stp (fun _ h => s0 h) ?_
    refine aops_nil ?_
    refine AW.seq ?_
    refine AW.seq ?_
    refine AW.draw (cfg := cfg) (by kernel_rfl) (by kernel_rfl) (by kernel_rfl) ?_
    iterate 2 refine dstp (fun _ h => sl h) ?_
    refine dstp (fun _ h => cs (w := good_SameB a (by omega) (by omega) pa b (by omega) (by omega) pb) (x := h)) ?_
    iterate 2 refine dstp (fun _ h => sl h) ?_
    refine dstp (fun _ h => cs (w := good_refSameB a (by omega) (by omega) pa b (by omega) (by omega) pb) (x := h)) ?_
    iterate 2 refine dstp (fun _ h => s0 h) ?_
    refine dmrg wa (fun hc _ h => sl h) ?_
    refine dmrg wa (fun hc _ h => cr (w := good_CopyB a (by omega) (by omega) pa z1a z2a) (x := h)) ?_
    refine dmrg wa (fun hc _ h => sl h) ?_
    refine dmrg wa (fun hc _ h => cs (w := good_refSameB a (by omega) (by omega) pa a (by omega) (by omega) pa) (x := h)) ?_
    refine dmrg wa (fun hc _ h => s0 h) ?_
    refine dstp (fun _ h => s0 h) ?_
    refine adraw_nil (by kernel_rfl) ?_
    refine cnd (fun hb => ?ht2) (fun hb => ?hf2)
    case ht2 => simp at hb
    case hf2 =>
    have hbt36 := hb
    refine AW.skip ?_
    refine AW.seq ?_
    refine AW.seq ?_
    refine AW.region (cfg := cfg) ?_
    refine stp (fun _ h => sl h) ?_
    refine stp (fun _ h => cs (w := good_MayB a (by omega) (by omega) (fun x hx => (qa x hx).1)) (x := h)) ?_
    refine stp (fun _ h => s0 h) ?_
    refine aops_nil ?_
    refine cnd (fun hb => ?ht3) (fun hb => ?hf3)
    case ht3 =>
      have hw39 := hb
      try simp only [bo1, bo2, bo3, bo4, bo5, bo6] at hb
      have hbt39 := hb
      refine AW.seq ?_
      have ok : staOK a = false := by simpa using hbt39
      have e1 : staS a = [] := by rw [staS, ok]; rfl
      have e2 : staE a = 1 := by rw [staE, ok]; rfl
      have F := And.intro e1 F
      have F := And.intro e2 F
      refine AW.region (cfg := cfg) ?_
      iterate 3 refine stp (fun _ h => s0 h) ?_
      refine mrg wa (fun hc _ h => s0 h) ?_
      refine mrg wa (fun hc _ h => sd h) ?_
      refine mrg wa (fun hc _ h => s0 h) ?_
      iterate 2 refine stp (fun _ h => s0 h) ?_
      refine mrg wa (fun hc _ h => cs (w := good_awakeB) (x := h)) ?_
      iterate 2 refine stp (fun _ h => s0 h) ?_
      refine aops_nil ?_
      refine AW.ret ?_
      refine ⟨.inr rfl, ?_⟩
      refine leaves_tmp1 4 rfl ?_ (by exact hG)
      simp (disch := first | omega | decide) only [go_sem, F, aIndex_map]
      all_goals rfl
    case hf3 =>
      have hw39 := hb
      try simp only [bo1, bo2, bo3, bo4, bo5, bo6] at hb
      have hbt39 := hb
      refine AW.skip ?_
      refine AW.seq ?_
      have ok : staOK a = true := by simpa using hbt39
      obtain ⟨e1, e2⟩ := staS_yes ok
      have e3 := getB_back ok
      have e4 := nzS_same a
      have wl := staB_len ok
      obtain ⟨⟨w5, w6⟩, w7⟩ := nzS_fit ⟨w1, w2⟩ pa
      have F := And.intro ok F
      have F := And.intro e1 F
      have F := And.intro e2 F
      have F := And.intro e3 F
      have F := And.intro e4 F
      refine AW.region (cfg := cfg) ?_
      refine stp (fun _ h => s0 h) ?_
      refine stp (fun _ h => cr (w := good_GetB false (staB a) (by omega) (by simp)) (x := h)) ?_
      iterate 3 refine stp (fun _ h => s0 h) ?_
      refine stp (fun _ h => sd h) ?_
      refine stp0 (fun _ h => ss h) ?_
      refine stp (fun _ h => s0 h) ?_
      refine aops_nil ?_
      refine AW.seq ?_
      refine AW.region (cfg := cfg) ?_
      iterate 3 refine stp (fun _ h => s0 h) ?_
      refine mrg wa (fun hc _ h => s0 h) ?_
      refine mrg wa (fun hc _ h => sl h) ?_
      refine mrg wa (fun hc _ h => cr (w := good_BytesB a (by omega) (by omega) pa ok) (x := h)) ?_
      refine mrg wa (fun hc _ h => cs (w := O.good_Same false false (staB a) (staB a) (by omega) (by omega)) (x := h)) ?_
      iterate 2 refine stp (fun _ h => s0 h) ?_
      iterate 2 refine mrg wa (fun hc _ h => s0 h) ?_
      iterate 2 refine stp (fun _ h => s0 h) ?_
      iterate 2 refine mrg wa (fun hc _ h => sl h) ?_
      refine mrg wa (fun hc _ h => cs (w := good_refSameB (nzS a) (by omega) (by omega) w7 a (by omega) (by omega) pa) (x := h)) ?_
      iterate 2 refine stp (fun _ h => s0 h) ?_
      refine mrg wa (fun hc _ h => cs (w := good_awakeB) (x := h)) ?_
      iterate 2 refine stp (fun _ h => s0 h) ?_
      refine aops_nil ?_
      refine AW.ret ?_
      refine ⟨.inr rfl, ?_⟩
      refine leaves_tmp1 4 rfl ?_ (by exact hG)
      simp (disch := first | omega | decide) only [go_sem, F, aIndex_map]
      all_goals rfl
end Go.Vai.BA
