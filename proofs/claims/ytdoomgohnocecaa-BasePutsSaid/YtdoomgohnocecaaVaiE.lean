import Derived.Test.YtdoomgohnocecaaVaiD
import Derived.Laws.Externs
import Derived.Lib.AppendZerosOnto
import Derived.WalkKit
import Derived.Lib.Walk
import Derived.Lib.SliceRun
import Derived.Lib.JoinLaws
set_option linter.unusedSimpArgs false
set_option linter.unusedVariables false
set_option linter.constructorNameAsVariable false
namespace Go.Vai
open Go.RowKit Go.Lib
variable {P : Program}
theorem run_copy_k (w : World) (dT sT ty elem : TypeId) (inf : TypeInfo) {b o dLen dCap sLen sCap : Nat} {a : Addr} {cs : Array Value} {tb : TypeId} (vs : List Value)
    (hu : P.underlying dT = some (.slice elem)) (hi : P.info? elem = some inf) (n : Nat) (hmin : Nat.min sLen dLen = n) (hn : vs.length = n * inf.size)
    (hsrc : ∀ j v, vs[j]? = some v → w.cell? (a.add j) = some v) (hb : w.heap[b]? = some (.cells cs tb (0, 0))) (hfit : o + vs.length ≤ cs.size) (h1 : ∀ v ∈ vs, v.oneCell' = true) :
    (Builtin.copy_ #[dT, sT] ty #[.slice (some ⟨b, o, none⟩) dLen dCap, .slice (some a) sLen sCap]).run P w = .ok (goInt n) (w.setRow b (spl cs o vs)) := by
  have hl := run_loadCells_list (P := P) w a vs hsrc
  have hst := run_storeCells_at P b o tb vs 0 cs w hb (by simpa using hfit) h1
  simp only [Nat.add_zero] at hst
  rw [hn] at hl
  simp [Builtin.copy_, run_underlying hu, Builtin.lenOf, Builtin.firstCells, run_sizeOf hi, hmin, hl, hst, spl]
theorem run_overlaps_own {w : World} {tS tR e : TypeId} {inf : TypeInfo} (ht : P.underlying tS = some (.slice e)) (hi : P.info? e = some inf)
    {a b : Addr} {la ca lb cb : Nat} (hne : a.block ≠ b.block) {ca0 : Array Value} {ta : TypeId} {fa : Nat × Nat} {cs : Array Value} {tb : TypeId}
    (ha : w.heap[a.block]? = some (.cells ca0 ta fa)) (hb : w.heap[b.block]? = some (.cells cs tb (0, 0))) (hk : cs.size ≠ 0) (hka : ca0.size ≠ 0) :
    (Extern.SlicesOverlaps.overlaps #[tS, tS] #[tR] #[.slice (some a) la ca, .slice (some b) lb cb]).run P w = .ok (.bool false) w := by
  have hnb : (a.block != b.block) = true := by simpa using hne
  have hnb' : (a.block == b.block) = false := by simpa using hne
  have hsa : w.shape? a.block = some (ta, ca0.size) := by simp [World.shape?, ha]
  have hsb : w.shape? b.block = some (tb, cs.size) := by simp [World.shape?, hb]
  have hfb : w.frozen? b = false := by simp [World.frozen?, hb]
  have hfe : w.frozen? { block := b.block, off := cs.size } = false := by simp [World.frozen?, hb]
  obtain ⟨K, hK⟩ : ∃ K, cs.size = K + 1 := ⟨cs.size - 1, by omega⟩
  obtain ⟨J, hJ⟩ : ∃ J, ca0.size = J + 1 := ⟨ca0.size - 1, by omega⟩
  change Sem.run P (α := Value) (do
    let some t := (#[tS, tS] : Array TypeId)[0]? | stuck "slices.overlaps: no parameter types"
    let .slice elem ← underlying t | stuck "slices.overlaps: slice type expected"
    let size ← sizeOf elem
    match (some a : Option Addr), (some b : Option Addr) with
    | some a, some b =>
      if la = 0 ∨ lb = 0 ∨ size = 0 then pure (Value.bool false)
      else if a.block != b.block && (← frozen a) && (← frozen b) then unsupported .addressObserved
      else do
        if a.block != b.block then do
          noView a; noView b
          if ← mayBeOne a b then return Value.bool ((← choose (.extern "sameAddr.stringBytes" 2)) == 1)
        pure (Value.bool (a.block == b.block && a.off < b.off + lb * size && b.off < a.off + la * size))
    | _, _ => pure (Value.bool false)) w = _
  by_cases h0 : la = 0 ∨ lb = 0 ∨ inf.size = 0
  · simp [run_underlying ht, run_sizeOf hi, h0]
  · rw [hK] at hsb hfe
    rw [hJ] at hsa
    cases hf : w.frozen? a with
    | false => 
      cases hg : w.frozen? { block := a.block, off := J + 1 } <;>
      simp [run_underlying ht, run_sizeOf hi, h0, hnb, hnb', frozen, noView, viewAt, mayBeOne, stringish, shape, Sem.run, hsa, hsb, hfb, hfe, hf, hg]
    | true => simp [run_underlying ht, run_sizeOf hi, h0, hnb, hnb', frozen, noView, viewAt, mayBeOne, stringish, shape, Sem.run, hsa, hsb, hfb, hfe, hf]
end Go.Vai
namespace Go.Vai
open Go.RowKit Go.Lib
structure InsRuns (P : Program) (f : FuncId) (tS tI tE : TypeId) (k : Nat) : Prop where
  shift : ∀ (b n c i vc : Nat) (ad : Addr) (cs : Array Value) (tb : TypeId) (ca0 : Array Value) (ta : TypeId) (fa : Nat × Nat) (vs : List Value) (w : World), i < n → n + 1 ≤ c → c ≤ 9223372036854775807 →
    w.heap[b]? = some (.cells cs tb (0, 0)) → c * k ≤ cs.size → ad.block ≠ b → w.heap[ad.block]? = some (.cells ca0 ta fa) → ca0.size ≠ 0 →
    vs.length = k → (∀ j v, vs[j]? = some v → w.cell? (ad.add j) = some v) → (∀ v ∈ cs.toList.take (n * k), v.oneCell' = true) → (∀ v ∈ vs, v.oneCell' = true) →
    Calls P f #[.slice (some ⟨b, 0, none⟩) n c, .int .i64 i, .slice (some ad) 1 vc] w fun e w' =>
      e = .returned (.slice (some ⟨b, 0, none⟩) (n + 1) c) ∧ w' = (w.drew.setRow b (spl cs ((i + 1) * k) ((cs.toList.take (n * k)).drop (i * k)))).setRow b (spl (spl cs ((i + 1) * k) ((cs.toList.take (n * k)).drop (i * k))) (i * k) vs)
  end0 : ∀ (vc : Nat) (ad : Addr) (w w2 : World) (v2 : Value), (∀ ty, (Builtin.append_ #[tS, tS] ty #[.slice none 0 0, .slice (some ad) 1 vc]).run P w = .ok v2 w2) →
    Calls P f #[.slice none 0 0, .int .i64 (0 : Nat), .slice (some ad) 1 vc] w fun e w' => e = .returned v2 ∧ w' = w2
  end1 : ∀ (b n c vc : Nat) (ad : Addr) (w w2 : World) (v2 : Value), n ≤ c → c ≤ 9223372036854775807 → (∀ ty, (Builtin.append_ #[tS, tS] ty #[.slice (some ⟨b, 0, none⟩) n c, .slice (some ad) 1 vc]).run P w = .ok v2 w2) →
    Calls P f #[.slice (some ⟨b, 0, none⟩) n c, .int .i64 n, .slice (some ad) 1 vc] w fun e w' => e = .returned v2 ∧ w' = w2
  grow : ∀ (b n c i vc G : Nat) (ad : Addr) (cs ROW : Array Value) (tb : TypeId) (vs : List Value) (w : World), i < n → n ≤ c → c < n + 1 → c ≤ 9223372036854775807 → n + 1 ≤ G → G ≤ 9223372036854775807 →
    w.heap[b]? = some (.cells cs tb (0, 0)) → n * k ≤ cs.size → ad.block ≠ w.heap.size →
    vs.length = k → (∀ j v, vs[j]? = some v → w.cell? (ad.add j) = some v) → (∀ v ∈ cs.toList.take (n * k), v.oneCell' = true) → (∀ v ∈ vs, v.oneCell' = true) →
    (∀ ty, (Builtin.append_ #[tS, tI] ty #[.slice (some ⟨b, 0, none⟩) i c, .int .i64 ((n : Int) + 1 - (i : Int))]).run P w = .ok (.slice (some ⟨w.heap.size, 0, none⟩) (n + 1) G) (w.drew.alloc (.cells ROW tE))) → (n + 1) * k ≤ ROW.size →
    Calls P f #[.slice (some ⟨b, 0, none⟩) n c, .int .i64 i, .slice (some ad) 1 vc] w fun e w' =>
      e = .returned (.slice (some ⟨w.heap.size, 0, none⟩) (n + 1) G) ∧
      w' = (((w.drew.alloc (.cells ROW tE)).setRow w.heap.size (spl ROW (i * k) vs)).drew).setRow w.heap.size (spl (spl ROW (i * k) vs) ((i + 1) * k) ((cs.toList.take (n * k)).drop (i * k)))
theorem spl_list (A B vs : List Value) (_h : vs.length ≤ B.length) : spl (A ++ B).toArray A.length vs = (A ++ vs ++ B.drop vs.length).toArray := by
  unfold spl
  congr 1
  simp [List.drop_append]
theorem CellsOK.app {gh w sz xs ys a b} (h : CellsOK gh w sz xs a) (k : CellsOK gh w sz ys b) : CellsOK gh w sz (xs ++ ys) (a ++ b) := by
  refine ⟨by simp [h.1, k.1, Nat.add_mul], fun i x hx => ?_⟩
  by_cases hi : i < xs.length
  · rw [List.getElem?_append_left hi] at hx
    obtain ⟨h1, h2⟩ := h.2 i x hx
    refine ⟨h1, fun j y hy => ?_⟩
    obtain ⟨u, h3, h4⟩ := h2 j y hy
    exact ⟨u, by rw [Array.getElem?_append_left (Array.getElem?_eq_some_iff.1 h3).1]; exact h3, h4⟩
  · rw [List.getElem?_append_right (by omega)] at hx
    obtain ⟨h1, h2⟩ := k.2 _ x hx
    refine ⟨h1, fun j y hy => ?_⟩
    obtain ⟨u, h3, h4⟩ := h2 j y hy
    have e : i * sz = xs.length * sz + (i - xs.length) * sz := by rw [← Nat.add_mul]; congr 1; omega
    exact ⟨u, by rw [Array.getElem?_append_right (by rw [h.1]; omega), h.1, show i * sz + j - xs.length * sz = (i - xs.length) * sz + j by omega]; exact h3, h4⟩
theorem CellsOK.rest {gh w cs sz} {xs : List AV} (h : rowRel gh w cs sz xs) (i : Nat) : CellsOK gh w sz (xs.drop i) ((cs.toList.take (xs.length * sz)).drop (i * sz)).toArray := by
  have hs := h.1
  refine ⟨by simp [Nat.min_eq_left hs, Nat.sub_mul], fun j x hx => ?_⟩
  rw [List.getElem?_drop] at hx
  obtain ⟨h1, h2⟩ := h.2 (i + j) x hx
  refine ⟨h1, fun l y hy => ?_⟩
  obtain ⟨u, h3, h4⟩ := h2 l y hy
  have hl : l < sz := by rw [← h1]; exact (List.getElem?_eq_some_iff.1 hy).1
  have hij : i + j < xs.length := (List.getElem?_eq_some_iff.1 hx).1
  have hmul : (i + j + 1) * sz ≤ xs.length * sz := Nat.mul_le_mul_right _ hij
  rw [Nat.add_mul, Nat.one_mul] at hmul
  have e : (i + j) * sz = i * sz + j * sz := Nat.add_mul _ _ _
  refine ⟨u, ?_, h4⟩
  simp only [List.getElem?_toArray, List.getElem?_drop]
  rw [List.getElem?_take_of_lt (by omega), show i * sz + (j * sz + l) = (i + j) * sz + l by omega]
  simpa using h3
theorem fin_row {gh : Gh} {w w' : World} {b n c sz : Nat} {cs' : Array Value} {ty : TypeId} {xs' : List AV} (hg : GMem gh w []) (hos : w'.os = w.os) (htp : w'.tape = w.tape) (hout : w'.output = w.output) (hsz : w.heap.size ≤ w'.heap.size)
    (hne : ∀ k, k < w.heap.size → k ≠ b → w'.heap[k]? = w.heap[k]?) (hb : w'.heap[b]? = some (.cells cs' ty (0, 0))) (hρ : (∃ m, gh.ρ b = .loc m) ∨ w.heap.size ≤ b) (hrow : rowRel gh w cs' sz xs') (hn : xs'.length = n) (h1 : n ≤ c) (h2 : c * sz ≤ cs'.size) (h3 : c ≤ maxLen) :
    ∃ v gh', Ending.returned (.slice (some ⟨b, 0, none⟩) n c) = .returned v ∧ Ext gh w gh' w' ∧ GMem gh' w' [] ∧ ResRel gh' w' [(.sl sz false xs', true)] v := by
  subst hn
  have himm : ∀ k, gh.imm k → k ≠ b ∧ k < w.heap.size := fun k hk => by
    have hlt : k < w.heap.size := hg.alloc k (by rw [show gh.ρ k = .imm from hk]; simp)
    refine ⟨fun e => ?_, hlt⟩
    subst e
    rcases hρ with ⟨m, hm⟩ | hm
    · rw [show gh.ρ k = .imm from hk] at hm; cases hm
    · omega
  have hi : ∀ k, gh.imm k → (gh.setρ b (.loc (.res 0))).imm k ∧ w'.heap[k]? = w.heap[k]? := fun k hk => by
    obtain ⟨e, hlt⟩ := himm k hk
    refine ⟨?_, hne k hlt e⟩
    show (if k = b then _ else gh.ρ k) = _
    rw [if_neg e]; exact hk
  refine ⟨_, gh.setρ b (.loc (.res 0)), rfl, ⟨hos, htp, hout, hsz, hi, fun k hk hf => ?_, fun _ _ h => h⟩, ⟨fun k hk => ?_, fun _ => trivial, hg.glen, fun id x cells _ h => by simp [bare] at h⟩, ?_⟩
  · have e : k ≠ b := fun e => by
      subst e
      rcases hρ with ⟨m, hm⟩ | hm
      · rw [hf] at hm; cases hm
      · omega
    refine ⟨?_, hne k hk e⟩
    show (if k = b then _ else gh.ρ k) = _
    rw [if_neg e]; exact hf
  · by_cases e : k = b
    · subst e; exact (Array.getElem?_eq_some_iff.1 hb).1
    · refine Nat.lt_of_lt_of_le (hg.alloc k (fun h => hk ?_)) hsz
      show (if k = b then _ else gh.ρ k) = _
      rw [if_neg e]; exact h
  · refine ⟨sz, false, xs', rfl, .inr ⟨rfl, b, c, cs', ty, rfl, ?_, hb, hrow.mono' hi (fun _ _ h => h), h1, h2, h3⟩⟩
    show (if b = b then _ else gh.ρ b) = _
    rw [if_pos rfl]
theorem setRow_size (w : World) (b : Nat) (cs : Array Value) : (w.setRow b cs).heap.size = w.heap.size := by simp [World.setRow]
theorem good_insert {P : Program} {f : FuncId} {tS tI tE : TypeId} {ti : TI} (hti : TIok P tE ti) (ht : P.underlying tS = some (.slice tE)) (htI : P.underlying tI = some (.int .i64)) (hf : ∃ fn c, P.funcs[f]? = some fn ∧ (fn.name == "runtime.NumGoroutine") = false ∧ fn.body = some c)
    (hr : InsRuns P f tS tI tE ti.sz) (nil : Bool) (xs : List AV) (y : AV) (i : Nat) (hi : i ≤ xs.length) (hlen : (xs.length + 1) * ti.bytes ≤ roomB) :
    Good P f [(.sl ti.sz nil xs, true), (.base (.int .i64 i), false), (.sl ti.sz false [y], false)] [] [(.sl ti.sz false (xs.take i ++ [y] ++ xs.drop i), true)] [] := by
  refine ⟨hf, fun gh w vs hg ha => ?_⟩
  obtain ⟨i', z', dd, k1, k2, k3, k0, k4, k10, k5, k6, k7, k8, k9⟩ := hti.info
  obtain ⟨hsize, hargs⟩ := ha
  obtain ⟨v0, v1, v2, rfl⟩ : ∃ v0 v1 v2, vs = #[v0, v1, v2] := by
    obtain ⟨l⟩ := vs
    match l, hsize with
    | [a, b, c], _ => exact ⟨a, b, c, rfl⟩
  have a0 : OwnVal gh w (.var 0) (.sl ti.sz nil xs) v0 := by simpa [CompRel] using hargs 0 (.sl ti.sz nil xs, true) v0 rfl rfl
  have a1 : R gh w (.base (.int .i64 i)) v1 := by simpa [CompRel] using hargs 1 (.base (.int .i64 i), false) v1 rfl rfl
  have a2 : R gh w (.sl ti.sz false [y]) v2 := by simpa [CompRel] using hargs 2 (.sl ti.sz false [y], false) v2 rfl rfl
  cases a1
  have hks : 0 < ti.sz := by omega
  have hbpos : 0 < ti.bytes := by omega
  -- the new element
  obtain ⟨ad, vc, news, rfl, himm, hcell, hok⟩ : ∃ ad vc, ∃ news : Array Value, v2 = .slice (some ad) 1 vc ∧ gh.imm ad.block ∧ (∀ j v, news.toList[j]? = some v → w.cell? (ad.add j) = some v) ∧ CellsOK gh w ti.sz [y] news := by
    cases a2 with
    | sl sz ys ad cap g hI hcap hsz hc ho hR =>
      refine ⟨ad, cap, ((List.range ti.sz).map (g 0)).toArray, rfl, hI (by simp), fun j v hj => ?_, by simp, fun j x hx => ?_⟩
      · simp only [List.getElem?_map] at hj
        by_cases hj2 : j < ti.sz
        · rw [List.getElem?_range hj2] at hj
          simp only [Option.map_some, Option.some.injEq] at hj
          subst hj
          have := hc 0 j (by simp) hj2
          simpa using this
        · rw [List.getElem?_eq_none (by simp; omega)] at hj; cases hj
      · have h0 : j < 1 := (List.getElem?_eq_some_iff.1 hx).1
        obtain rfl : j = 0 := by omega
        simp only [List.getElem?_cons_zero, Option.some.injEq] at hx
        subst hx
        have e := hsz 0 (by simp)
        simp only [List.getElem_cons_zero] at e
        refine ⟨e, fun l u hu => ?_⟩
        have hl : l < (cellsOf y).length := (List.getElem?_eq_some_iff.1 hu).1
        refine ⟨g 0 l, by rw [Nat.zero_mul, Nat.zero_add]; simp only [List.getElem?_toArray, List.getElem?_map]; rw [List.getElem?_range (by omega)]; rfl, ho 0 l (by simp) (by omega), ?_⟩
        have := hR 0 l (by simp) (by simpa using hl)
        rw [← (List.getElem?_eq_some_iff.1 hu).2]
        simpa using this
  have hvl : news.toList.length = ti.sz := by simpa using hok.1
  have h1v := hok.one
  have hnews : News P w tS (.slice (some ad) 1 vc) i'.size 1 news := ⟨⟨_, ht, by simp⟩, by simp [Builtin.lenOf], fun w' hw => by
    have := run_loadCells_list (P := P) w' ad news.toList (fun j v hj => by rw [show w'.cell? (ad.add j) = w.cell? (ad.add j) by simp [World.cell?, hw]]; exact hcell j v hj)
    rw [hvl, k5] at this
    simpa [Builtin.firstCells] using this⟩
  have happ : ∀ ty, AppRuns P w tS tS ty tE i' z' (.slice (some ad) 1 vc) 1 news := fun ty => appRuns_of ht k1 k3 hnews
  -- the block of the new element
  have hcell0 : ∃ u, w.cell? (ad.add 0) = some u := by
    obtain ⟨u, hu⟩ : ∃ u, news.toList[0]? = some u := ⟨_, List.getElem?_eq_getElem (by omega)⟩
    exact ⟨u, hcell 0 u hu⟩
  obtain ⟨ca0, ta, fa, hab, hca⟩ : ∃ ca0 ta fa, w.heap[ad.block]? = some (.cells ca0 ta fa) ∧ ca0.size ≠ 0 := by
    obtain ⟨u, hu⟩ := hcell0
    simp only [World.cell?, add_block] at hu
    split at hu
    · rename_i c t fr h
      refine ⟨c, t, fr, h, fun e => ?_⟩
      split at hu
      · cases hu
      · rw [Array.getElem?_eq_none (by omega)] at hu; cases hu
    · cases hu
  have halt : ad.block < w.heap.size := (Array.getElem?_eq_some_iff.1 hab).1
  have hmulb : xs.length + 1 ≤ (xs.length + 1) * ti.bytes := Nat.le_mul_of_pos_right _ hbpos
  have hneed : xs.length + 1 ≤ roomB := Nat.le_trans hmulb hlen
  simp only [roomB] at hneed hlen
  have hzs : z'.cells.size = ti.sz := by omega
  obtain ⟨sz, nil', xs', e, hv⟩ := a0
  simp only [AV.sl.injEq] at e
  obtain ⟨rfl, rfl, rfl⟩ := e
  rcases hv with ⟨rfl, rfl, rfl⟩ | ⟨rfl, b, cap, cs, tb, rfl, hρ, hb, hrow, q1, q2, q3⟩
  · -- nil
    obtain rfl : i = 0 := by simpa using hi
    have hfit := growslice_fits (need := 0 + 1) (old := 0) (bytes := i'.bytes) (by omega) (by rw [← k6]; simpa using hlen)
    have hrun := fun ty => (happ ty).grow none 0 0 #[] (by omega) (fun w' _ => by simp [Builtin.firstCells]) (by omega) hfit
    refine Calls.mono (hr.end0 vc ad w _ _ hrun) ?_
    rintro e w' ⟨rfl, rfl⟩
    have hge := grownCap_ge w (0 + 1) 0 tE
    have hle := grownCap_le_maxLen w (0 + 1) 0 tE (by simp only [maxLen]; omega)
    refine fin_row hg rfl rfl rfl (by show _ ≤ (w.heap.push _).size; simp) (fun k hk _ => alloc_same w.drew _ k hk (by show k ≠ w.heap.size; omega)) (alloc_new w.drew _) (.inr (Nat.le_refl _)) ?_ (by simp) hge ?_ hle
    · have := rowRel_app (hi := 0) (xs := []) (cs := #[]) (tail := Builtin.zeroCells z'.cells (grownCap w (0 + 1) 0 tE - (0 + 1))) (⟨by simp, by simp⟩ : rowRel gh w #[] ti.sz []) (by simp) hok
      simpa using this
    · simp only [Array.size_append, hok.1, size_zeroCells, hzs, List.length_singleton, Array.size_empty, Nat.one_mul, Nat.zero_add]
      exact Nat.le_of_eq (by rw [Nat.add_comm, ← Nat.succ_mul]; congr 1; simp only [Nat.zero_add] at hge; omega)
  · -- a row
    obtain ⟨L, hL⟩ : ∃ L, L = cs.toList := ⟨_, rfl⟩
    have hcsL : cs = L.toArray := by rw [hL]
    have hLl : L.length = cs.size := by rw [hL]; simp
    have hrs := hrow.1
    have hik : i * ti.sz ≤ xs.length * ti.sz := Nat.mul_le_mul_right _ hi
    have hmvl : ((L.take (xs.length * ti.sz)).drop (i * ti.sz)).length = (xs.length - i) * ti.sz := by simp [Nat.sub_mul]; omega
    have hrest := CellsOK.rest hrow i
    have hnew := hok.app hrest
    have h1c : ∀ v ∈ cs.toList.take (xs.length * ti.sz), v.oneCell' = true := by
      have := (CellsOK.rest hrow 0).one
      simpa using this
    have hbw : b < w.heap.size := (Array.getElem?_eq_some_iff.1 hb).1
    have hne : ad.block ≠ b := fun e => by
      rw [e] at himm
      rw [show gh.ρ b = .imm from himm] at hρ; cases hρ
    have hres : ∀ (w' : World) (tail : List Value), rowRel gh w (L.take (i * ti.sz) ++ news.toList ++ (L.take (xs.length * ti.sz)).drop (i * ti.sz) ++ tail).toArray ti.sz (xs.take i ++ [y] ++ xs.drop i) := fun w' tail => by
      have := rowRel_app (tail := tail.toArray) hrow hi hnew
      rw [← hL] at this
      have e : (L.take (i * ti.sz)).toArray ++ (news ++ (List.drop (i * ti.sz) (List.take (xs.length * ti.sz) L)).toArray) ++ tail.toArray = (L.take (i * ti.sz) ++ news.toList ++ (L.take (xs.length * ti.sz)).drop (i * ti.sz) ++ tail).toArray := by
        apply Array.ext'; simp
      rw [e] at this
      simpa using this
    have hrl : (xs.take i ++ [y] ++ xs.drop i).length = xs.length + 1 := by simp; omega
    have hm1 : (xs.length + 1) * ti.sz = xs.length * ti.sz + ti.sz := by rw [Nat.add_mul, Nat.one_mul]
    have hi1 : (i + 1) * ti.sz = i * ti.sz + ti.sz := by rw [Nat.add_mul, Nat.one_mul]
    simp only [maxLen] at q3
    rcases Nat.lt_or_ge cap (xs.length + 1) with hroom | hroom
    · -- no room
      have hfit := growslice_fits (need := xs.length + 1) (old := cap) (bytes := i'.bytes) hroom (by rw [← k6]; exact hlen)
      have hge := grownCap_ge w (xs.length + 1) cap tE
      have hle := grownCap_le_maxLen w (xs.length + 1) cap tE (by simp only [maxLen]; omega)
      have hold : ∀ j, j ≤ xs.length → ∀ w' : World, w'.heap = w.heap → (Builtin.firstCells i'.size j (.slice (some ⟨b, 0, none⟩) j cap)).run P w' = .ok (L.take (j * ti.sz)).toArray w' := fun j hj w' hw => by
        have hb' : w'.heap[b]? = some (.cells cs tb (0, 0)) := by rw [hw]; exact hb
        have hj' : j * ti.sz ≤ xs.length * ti.sz := Nat.mul_le_mul_right _ hj
        have := run_firstCells_some (P := P) w' i'.size j ⟨b, 0, none⟩ j cap (L.take (j * ti.sz)) (by rw [← k5]; simp; omega) (fun t v hv => by
          rw [add_plain]
          rw [List.getElem?_take] at hv
          split at hv
          · simp only [World.cell?, hb']; rw [hL] at hv; simpa using hv
          · cases hv)
        simpa using this
      by_cases hin : i = xs.length
      · subst hin
        have hrun := fun ty => (happ ty).grow (some ⟨b, 0, none⟩) xs.length cap _ hroom (hold _ (Nat.le_refl _)) (by omega) hfit
        refine Calls.mono (hr.end1 b xs.length cap vc ad w _ _ q1 (by omega) hrun) ?_
        rintro e w' ⟨rfl, rfl⟩
        refine fin_row hg rfl rfl rfl (by show _ ≤ (w.heap.push _).size; simp) (fun k hk _ => alloc_same w.drew _ k hk (by show k ≠ w.heap.size; omega)) (alloc_new w.drew _) (.inr (Nat.le_refl _)) ?_ hrl hge ?_ hle
        · have := hres w (Builtin.zeroCells z'.cells (grownCap w (xs.length + 1) cap tE - (xs.length + 1))).toList
          rw [List.drop_eq_nil_of_le (as := L.take (xs.length * ti.sz)) (by simp; omega)] at this
          have e : (L.take (xs.length * ti.sz) ++ news.toList ++ [] ++ (Builtin.zeroCells z'.cells (grownCap w (xs.length + 1) cap tE - (xs.length + 1))).toList).toArray = (L.take (xs.length * ti.sz)).toArray ++ news ++ Builtin.zeroCells z'.cells (grownCap w (xs.length + 1) cap tE - (xs.length + 1)) := by
            apply Array.ext'; simp
          rw [e] at this
          exact this
        · simp only [Array.size_append, hok.1, size_zeroCells, hzs, List.length_singleton, Nat.one_mul]
          have e : (L.take (xs.length * ti.sz)).toArray.size = xs.length * ti.sz := by simp; omega
          rw [e, ← hm1, ← Nat.add_mul]
          exact Nat.mul_le_mul_right _ (by omega)
      · have hilt : i < xs.length := by omega
        obtain ⟨G, hG⟩ : ∃ G, G = grownCap w (xs.length + 1) cap tE := ⟨_, rfl⟩
        have hkk : (xs.length : Int) + 1 - (i : Int) = ((xs.length + 1 - i : Nat) : Int) := by omega
        have hik2 : i + (xs.length + 1 - i) = xs.length + 1 := by omega
        have hkb : (xs.length + 1 - i) * i'.bytes ≤ (xs.length + 1) * ti.bytes := by rw [← k6]; exact Nat.mul_le_mul_right _ (by omega)
        have hrun : ∀ ty, (Builtin.append_ #[tS, tI] ty #[.slice (some ⟨b, 0, none⟩) i cap, .int .i64 ((xs.length : Int) + 1 - (i : Int))]).run P w = .ok (.slice (some ⟨w.heap.size, 0, none⟩) (xs.length + 1) G) (w.drew.alloc (.cells ((L.take (i * ti.sz)).toArray ++ Builtin.zeroCells z'.cells (xs.length + 1 - i) ++ Builtin.zeroCells z'.cells (G - (xs.length + 1))) tE)) := fun ty => by
          have h := Lib.run_append_grow_zeros w tS tI ty tE i' z' .i64 .i64 ht htI k1 k3 (some ⟨b, 0, none⟩) i cap (L.take (i * ti.sz)) (hold i hi w.drew rfl) (xs.length + 1 - i) (by omega) (by omega) (by omega) (by omega) (by omega) (by rw [hik2]; exact hfit)
          rw [hik2] at h
          rw [hkk, hG]
          exact h
        rw [← hG] at hge hle
        simp only [maxLen] at hle
        have hzl : ∀ n, (Builtin.zeroCells z'.cells n).size = n * ti.sz := fun n => by rw [size_zeroCells, hzs]
        have hR : ((L.take (i * ti.sz)).toArray ++ Builtin.zeroCells z'.cells (xs.length + 1 - i) ++ Builtin.zeroCells z'.cells (G - (xs.length + 1))) = (L.take (i * ti.sz) ++ ((Builtin.zeroCells z'.cells (xs.length + 1 - i)).toList ++ (Builtin.zeroCells z'.cells (G - (xs.length + 1))).toList)).toArray := by
          apply Array.ext'; simp
        have hZl : ((Builtin.zeroCells z'.cells (xs.length + 1 - i)).toList ++ (Builtin.zeroCells z'.cells (G - (xs.length + 1))).toList).length = (G - i) * ti.sz := by
          simp only [List.length_append, Array.length_toList, hzl, ← Nat.add_mul]
          congr 1; omega
        generalize (Builtin.zeroCells z'.cells (xs.length + 1 - i)).toList ++ (Builtin.zeroCells z'.cells (G - (xs.length + 1))).toList = Z at hR hZl
        rw [hR] at hrun
        have htl : (L.take (i * ti.sz)).length = i * ti.sz := by simp; omega
        have hGi : (G - i) * ti.sz = G * ti.sz - i * ti.sz := Nat.sub_mul _ _ _
        have hGn : (xs.length + 1) * ti.sz ≤ G * ti.sz := Nat.mul_le_mul_right _ hge
        refine Calls.mono (hr.grow b xs.length cap i vc G ad cs _ tb news.toList w hilt q1 hroom (by omega) hge hle hb hrs (by omega) hvl hcell h1c h1v hrun (by simp only [List.size_toArray, List.length_append, htl, hZl]; omega)) ?_
        rintro e w' ⟨rfl, rfl⟩
        have s1 := spl_list (L.take (i * ti.sz)) Z news.toList (by rw [hZl]; omega)
        rw [htl] at s1
        have s2 := spl_list (L.take (i * ti.sz) ++ news.toList) (Z.drop news.toList.length) ((L.take (xs.length * ti.sz)).drop (i * ti.sz)) (by rw [hmvl, List.length_drop, hZl, hvl, Nat.sub_mul]; omega)
        rw [List.length_append, htl, hvl, ← hi1] at s2
        rw [← hL, s1, hvl, s2]
        refine fin_row hg rfl rfl rfl (by rw [setRow_size]; show _ ≤ (World.setRow _ _ _).heap.size; rw [setRow_size]; show _ ≤ (w.heap.push _).size; simp) (fun k hk _ => ?_) (setRow_heap _ _ (L.take (i * ti.sz) ++ news.toList ++ Z.drop ti.sz).toArray _ tE (0, 0) ?_) (.inr (Nat.le_refl _)) (hres w _) hrl hge ?_ (by simp only [maxLen]; exact hle)
        · have hkn : k ≠ w.heap.size := by omega
          rw [setRow_other _ _ _ _ hkn]
          show (World.setRow _ _ _).heap[k]? = _
          rw [setRow_other _ _ _ _ hkn]
          exact alloc_same w.drew _ k hk hkn
        · show (World.setRow _ _ _).heap[w.heap.size]? = _
          exact setRow_heap _ _ _ _ tE (0, 0) (alloc_new w.drew _)
        · simp only [List.size_toArray, List.length_append, List.length_drop, htl, hvl, hmvl, hZl, Nat.sub_mul]
          omega
    · have hcapm : (xs.length + 1) * ti.sz ≤ cap * ti.sz := Nat.mul_le_mul_right _ hroom
      by_cases hin : i = xs.length
      · subst hin
        have hrun : ∀ ty, (Builtin.append_ #[tS, tS] ty #[.slice (some ⟨b, 0, none⟩) xs.length cap, .slice (some ad) 1 vc]).run P w = .ok (.slice (some ⟨b, 0, none⟩) (xs.length + 1) cap) (w.setRow b (spl cs (xs.length * ti.sz) news.toList)) := fun ty => by
          rw [(happ ty).room ⟨b, 0, none⟩ xs.length cap hroom]
          have hst := run_storeCells_at P b (xs.length * ti.sz) tb news.toList 0 cs w hb (by rw [hvl]; omega) h1v
          rw [← k5, add_plain, hst]
          rfl
        refine Calls.mono (hr.end1 b xs.length cap vc ad w _ _ q1 (by omega) hrun) ?_
        rintro e w' ⟨rfl, rfl⟩
        have s1 := spl_list (L.take (xs.length * ti.sz)) (L.drop (xs.length * ti.sz)) news.toList (by simp [hvl]; omega)
        rw [List.take_append_drop, ← hcsL, show (L.take (xs.length * ti.sz)).length = xs.length * ti.sz by simp; omega] at s1
        refine fin_row hg rfl rfl rfl (by rw [setRow_size]; exact Nat.le_refl _) (fun k _ hk => setRow_other w b k _ hk) (setRow_heap w b cs _ tb (0, 0) hb) (.inl ⟨_, hρ⟩) ?_ hrl hroom ?_ (by simp only [maxLen]; exact q3)
        · rw [s1]
          have := hres w ((L.drop (xs.length * ti.sz)).drop news.toList.length)
          rw [List.drop_eq_nil_of_le (as := L.take (xs.length * ti.sz)) (by simp; omega), List.append_nil] at this
          exact this
        · rw [spl_size (by rw [hvl]; omega)]; exact q2
      · have hilt : i < xs.length := by omega
        have hcs1 : cs.size ≠ 0 := by omega
        refine Calls.mono (hr.shift b xs.length cap i vc ad cs tb ca0 ta fa news.toList w hilt hroom (by omega) hb q2 hne hab hca hvl hcell h1c h1v) ?_
        rintro e w' ⟨rfl, rfl⟩
        have hi2 : (i + 1) * ti.sz ≤ xs.length * ti.sz := Nat.mul_le_mul_right _ hilt
        have htl : (L.take (i * ti.sz)).length = i * ti.sz := by simp; omega
        have htl1 : (L.take ((i + 1) * ti.sz)).length = (i + 1) * ti.sz := by simp; omega
        have s1 := spl_list (L.take ((i + 1) * ti.sz)) (L.drop ((i + 1) * ti.sz)) ((L.take (xs.length * ti.sz)).drop (i * ti.sz)) (by rw [hmvl, List.length_drop, Nat.sub_mul]; omega)
        rw [htl1, List.take_append_drop, ← hcsL] at s1
        have e1 : L.take ((i + 1) * ti.sz) = L.take (i * ti.sz) ++ (L.drop (i * ti.sz)).take ti.sz := by rw [hi1, List.take_add]
        have hc1 : ((L.drop (i * ti.sz)).take ti.sz).length = ti.sz := by simp; omega
        have s2 := spl_list (L.take (i * ti.sz)) ((L.drop (i * ti.sz)).take ti.sz ++ ((L.take (xs.length * ti.sz)).drop (i * ti.sz) ++ (L.drop ((i + 1) * ti.sz)).drop ((L.take (xs.length * ti.sz)).drop (i * ti.sz)).length)) news.toList (by rw [List.length_append, hc1, hvl]; omega)
        rw [htl, ← List.append_assoc, ← List.append_assoc, ← e1, ← List.append_assoc, List.drop_append_of_le_length (by rw [List.length_append, hc1, hvl]; omega), List.drop_append_of_le_length (by rw [hc1, hvl]; omega), List.drop_eq_nil_of_le (as := List.take ti.sz _) (by rw [hc1, hvl]; exact Nat.le_refl _)] at s2
        rw [← hL, s1, s2]
        refine fin_row hg rfl rfl rfl (by rw [setRow_size, setRow_size]; exact Nat.le_refl _) (fun k _ hk => ?_) (setRow_heap _ b _ _ tb (0, 0) (setRow_heap w.drew b cs _ tb (0, 0) hb)) (.inl ⟨_, hρ⟩) ?_ hrl hroom ?_ (by simp only [maxLen]; exact q3)
        · rw [setRow_other _ b k _ hk]; exact setRow_other w.drew b k _ hk
        · have := hres w ((L.drop ((i + 1) * ti.sz)).drop ((L.take (xs.length * ti.sz)).drop (i * ti.sz)).length)
          simpa using this
        · simp only [List.size_toArray, List.length_append, List.length_drop, htl, hvl, hmvl, List.length_nil, Nat.sub_mul]
          omega
end Go.Vai
namespace Go.Vai
section
variable {C : Contract} {cfg : Cfg} {m : Mem} {fp : Fp} {n : Nm} {gg : Nat} {nl : Bool} {sz : Nat}
theorem mwp_call_x {d f : Nat} {hi : Nat} {xs ys : List AV} {rest : List LV} {m1 : Mem} {fp1 : Fp} {K : LV → Mem → Fp → Prop} {as : List AV} {r : List (AV × Bool)}
    (hx : cfg.xfer f = true) (hp : cfg.pure f = true) (hs : cfg.scalar f = false) (hn0 : (namesL rest).contains n = false)
    (hpk : ∀ Q : List AV → Mem → Fp → Prop, Q as m1 fp1 → Mwp C (reifyL rest) m fp Q)
    (ho : m1.objs n = (gg, .arr nl sz xs)) (h : C f ((.sl sz nl ys, true) :: as.map fun a => (a, false)) [] r []) (he : sub xs 0 hi = ys) (hn : noPtrL (.sl sz nl ys :: as) = true)
    (k : Mwp C (resOf (some d) r) (m1.set n (gg + 1, .dead)) ((fp1.addN n).addW n) K) :
    Mwp C (callL cfg (some d) f [] (.own n gg 0 hi :: rest)) m fp K := by
  subst he
  simp only [callL, hx, if_true, hn0, Bool.false_eq_true, if_false, prep, hp, hs, Bool.false_and, mwp_bind, List.append_nil]
  refine hpk _ ?_
  rw [mwp_getO, ho]
  simp only [if_true, mwp_setO]
  have e : (as.map fun a => (a, false)).map (fun x : AV × Bool => x.1) = as := by simp [Function.comp_def]
  simp only [fin, hp, hs, if_true, Bool.false_eq_true, if_false, List.singleton_append, List.map_cons, e, hn, mwp_pcall]
  exact ⟨r, h, k⟩
theorem mwp_call_st {d f : Nat} {args : List LV} {K : LV → Mem → Fp → Prop} {as : List AV} {r : List (AV × Bool)} (hp : cfg.pure f = true) (hx : cfg.xfer f = false) (hs : cfg.scalar f = true)
    {fp1 : Fp} (hpk : ∀ Q : List AV → Mem → Fp → Prop, Q as m fp1 → Mwp C (peekL args) m fp Q) (h : C f (as.map fun a => (a, false)) [] r []) (hn : noPtrL as = true) (hsa : r.all (fun x => scalarAV x.1 && !x.2) = true) (k : Mwp C (resOf (some d) r) m fp1 K) :
    Mwp C (callL cfg (some d) f [] args) m fp K := by
  simp only [callL, hx, Bool.false_eq_true, if_false, prep, hp, hs, Bool.and_self, if_true, mwp_bind, List.append_nil]
  refine hpk _ ?_
  have e : (as.map fun a => (a, false)).map (fun x : AV × Bool => x.1) = as := by simp [Function.comp_def]
  simp only [fin, hp, hs, if_true, List.nil_append]
  rw [e, hn]
  simp only [if_true, mwp_pcall]
  exact ⟨_, h, by rw [if_pos hsa]; exact k⟩
variable {α : Type} {f : α → AV} {l : List α}
theorem mwp_aLoad_el {K : LV → Mem → Fp → Prop} {b : Nat} {z : List AV} {i : Nat} (h : m.objs n = (gg, .arr nl sz (l.map f))) (hi : i < l.length) (hl : (cellsOf (f l[i])).length = sz) :
    Mwp C (aLoad ⟨sz, b, z, true⟩ (.eptr n gg i 0)) m fp K = K (.agg ((cellsOf (f l[i])).map .v)) m (fp.addN n) := by
  have e : (l.map f)[i]? = some (f l[i]) := by simp [hi]
  simp only [aLoad, Mwp, h, if_true, e, loadL, List.length_map, hl, Nat.zero_add, Nat.le_refl, List.drop_zero]
  rw [List.take_of_length_le (by rw [List.length_map, hl]; exact Nat.le_refl _)]
theorem mwp_aLoad_elf {K : LV → Mem → Fp → Prop} {b : Nat} {z : List AV} {i : Nat} (h : m.objs n = (gg, .frz nl sz (l.map f))) (hi : i < l.length) (hl : (cellsOf (f l[i])).length = sz) :
    Mwp C (aLoad ⟨sz, b, z, true⟩ (.eptr n gg i 0)) m fp K = K (.agg ((cellsOf (f l[i])).map .v)) m (fp.addN n) := by
  have e : (l.map f)[i]? = some (f l[i]) := by simp [hi]
  simp only [aLoad, Mwp, h, if_true, e, loadL, List.length_map, hl, Nat.zero_add, Nat.le_refl, List.drop_zero]
  rw [List.take_of_length_le (by rw [List.length_map, hl]; exact Nat.le_refl _)]
theorem setAt_all (ys l : List AV) (h : ys.length = l.length) : setAt l 0 ys = ys := by
  apply List.ext_getElem?
  intro j
  rw [setAt_get ys l 0 j (by omega)]
  by_cases hj : j < ys.length
  · rw [if_pos (by omega), Nat.sub_zero]
  · rw [if_neg (by omega), List.getElem?_eq_none (by omega), List.getElem?_eq_none (by omega)]
theorem reifyL_vs : ∀ (vs : List AV) (m : Mem) (fp : Fp) (K : List AV → Mem → Fp → Prop), Mwp C (reifyL (vs.map .v)) m fp K = K vs m fp
  | [], _, _, _ => rfl
  | v :: vs, m, fp, K => by
    simp only [List.map_cons, reifyL, mwp_bind, reify, mwp_ret]
    rw [reifyL_vs vs]
end
section
variable {α : Type} [Inhabited α]
def bsM (s : Nat × Nat) : Nat := (s.1 + s.2) / 2
def bsS (ky : α → Int) (l : List α) (t : Int) : Nat → Nat × Nat
  | 0 => (0, l.length)
  | k + 1 => if (bsS ky l t k).1 < (bsS ky l t k).2 then
      if ky (l.getD (bsM (bsS ky l t k)) default) < t then (bsM (bsS ky l t k) + 1, (bsS ky l t k).2) else ((bsS ky l t k).1, bsM (bsS ky l t k))
    else bsS ky l t k
theorem bs_le (ky : α → Int) (l : List α) (t : Int) : ∀ k, (bsS ky l t k).1 ≤ (bsS ky l t k).2 ∧ (bsS ky l t k).2 ≤ l.length
  | 0 => ⟨Nat.zero_le _, Nat.le_refl _⟩
  | k + 1 => by
    have i := bs_le ky l t k
    rw [bsS]
    split
    · rename_i h
      split
      · simp only [bsM]; omega
      · simp only [bsM]; omega
    · exact i
theorem bs_yes {ky : α → Int} {l : List α} {t : Int} {k : Nat} (h : (bsS ky l t k).1 < (bsS ky l t k).2) (h2 : ky (l.getD (bsM (bsS ky l t k)) default) < t) : bsS ky l t (k + 1) = (bsM (bsS ky l t k) + 1, (bsS ky l t k).2) := by
  rw [bsS, if_pos h, if_pos h2]
theorem bs_no {ky : α → Int} {l : List α} {t : Int} {k : Nat} (h : (bsS ky l t k).1 < (bsS ky l t k).2) (h2 : ¬ ky (l.getD (bsM (bsS ky l t k)) default) < t) : bsS ky l t (k + 1) = ((bsS ky l t k).1, bsM (bsS ky l t k)) := by
  rw [bsS, if_pos h, if_neg h2]
theorem bs_end (ky : α → Int) (l : List α) (t : Int) : ∃ N, (∀ k, k < N → (bsS ky l t k).1 < (bsS ky l t k).2) ∧ ¬ (bsS ky l t N).1 < (bsS ky l t N).2 := by
  have step : ∀ d k, (bsS ky l t k).2 - (bsS ky l t k).1 ≤ d → (∀ j, j < k → (bsS ky l t j).1 < (bsS ky l t j).2) → ∃ N, (∀ j, j < N → (bsS ky l t j).1 < (bsS ky l t j).2) ∧ ¬ (bsS ky l t N).1 < (bsS ky l t N).2 := by
    intro d
    induction d with
    | zero => exact fun k h hk => ⟨k, hk, by omega⟩
    | succ d ih =>
      intro k h hk
      by_cases hl : (bsS ky l t k).1 < (bsS ky l t k).2
      · refine ih (k + 1) ?_ (fun j hj => ?_)
        · by_cases h2 : ky (l.getD (bsM (bsS ky l t k)) default) < t
          · rw [bs_yes hl h2]; simp only [bsM]; omega
          · rw [bs_no hl h2]; simp only [bsM]; omega
        · rcases Nat.lt_or_ge j k with e | e
          · exact hk j e
          · rw [show j = k by omega]; exact hl
      · exact ⟨k, hk, hl⟩
  exact step _ 0 (Nat.le_refl _) (fun j hj => absurd hj (Nat.not_lt_zero _))
def Rise (ky : α → Int) (l : List α) : Prop := ∀ i j, i < j → j < l.length → ky (l.getD i default) < ky (l.getD j default)
theorem bs_inv {ky : α → Int} {l : List α} (t : Int) (hs : Rise ky l) : ∀ k, (∀ j, j < (bsS ky l t k).1 → ky (l.getD j default) < t) ∧ (∀ j, (bsS ky l t k).2 ≤ j → j < l.length → ¬ ky (l.getD j default) < t)
  | 0 => ⟨fun j hj => absurd hj (Nat.not_lt_zero _), fun j h1 h2 => absurd (show l.length ≤ j from h1) (by omega)⟩
  | k + 1 => by
    obtain ⟨i1, i2⟩ := bs_inv t hs k
    have hle := bs_le ky l t k
    rw [bsS]
    split
    · rename_i h
      have hm : bsM (bsS ky l t k) < l.length := by simp only [bsM]; omega
      split
      · rename_i h2
        refine ⟨fun j hj => ?_, i2⟩
        rcases Nat.lt_or_ge j (bsM (bsS ky l t k)) with e | e
        · have := hs j _ e hm; omega
        · rw [show j = bsM (bsS ky l t k) by simp only at hj; omega]; exact h2
      · rename_i h2
        refine ⟨i1, fun j h3 h4 => ?_⟩
        rcases Nat.lt_or_ge (bsM (bsS ky l t k)) j with e | e
        · have := hs _ j e h4; omega
        · rw [show j = bsM (bsS ky l t k) by simp only at h3; omega]; exact h2
    · exact ⟨i1, i2⟩
def posK (ky : α → Int) (l : List α) (t : Int) : Nat := (l.filter fun x => decide (ky x < t)).length
def isK (ky : α → Int) (l : List α) (t : Int) : Bool := l.any fun x => decide (ky x = t)
theorem pos_of {ky : α → Int} {t : Int} : ∀ {l : List α} {i : Nat}, i ≤ l.length → (∀ j, j < i → ky (l.getD j default) < t) → (∀ j, i ≤ j → j < l.length → ¬ ky (l.getD j default) < t) → posK ky l t = i
  | [], i, h, _, _ => by simp only [List.length_nil, Nat.le_zero] at h; subst h; rfl
  | x :: l, 0, _, _, h2 => by
    have h0 := h2 0 (Nat.le_refl _) (by simp)
    have := pos_of (l := l) (i := 0) (Nat.zero_le _) (fun j hj => absurd hj (Nat.not_lt_zero _)) (fun j _ h4 => h2 (j + 1) (Nat.zero_le _) (by simpa using h4))
    rw [posK] at this ⊢
    simp only [List.getD_cons_zero] at h0
    rw [List.filter_cons, if_neg (by simpa using h0)]
    exact this
  | x :: l, i + 1, h, h1, h2 => by
    have h0 := h1 0 (by omega)
    have := pos_of (l := l) (i := i) (by simpa using h) (fun j hj => h1 (j + 1) (by omega)) (fun j h3 h4 => h2 (j + 1) (by omega) (by simpa using h4))
    rw [posK] at this ⊢
    simp only [List.getD_cons_zero] at h0
    rw [List.filter_cons, if_pos (by simpa using h0), List.length_cons, this]
theorem bs_pos {ky : α → Int} {l : List α} {t : Int} {N : Nat} (hs : Rise ky l) (h : ¬ (bsS ky l t N).1 < (bsS ky l t N).2) : (bsS ky l t N).1 = posK ky l t := by
  have hle := bs_le ky l t N
  obtain ⟨i1, i2⟩ := bs_inv t hs N
  exact (pos_of (by omega) i1 (fun j h1 h2 => i2 j (by omega) h2)).symm
omit [Inhabited α] in
theorem pos_le (ky : α → Int) (l : List α) (t : Int) : posK ky l t ≤ l.length := List.length_filter_le _ _
theorem pos_sides {ky : α → Int} {l : List α} (t : Int) (hs : Rise ky l) : (∀ j, j < posK ky l t → ky (l.getD j default) < t) ∧ (∀ j, posK ky l t ≤ j → j < l.length → ¬ ky (l.getD j default) < t) := by
  obtain ⟨N, _, h⟩ := bs_end ky l t
  have hle := bs_le ky l t N
  have e := bs_pos hs h
  obtain ⟨i1, i2⟩ := bs_inv t hs N
  rw [← e]
  exact ⟨i1, fun j h1 h2 => i2 j (by omega) h2⟩
theorem isK_in {ky : α → Int} {l : List α} {t : Int} (hs : Rise ky l) (hp : posK ky l t < l.length) : isK ky l t = decide (ky (l.getD (posK ky l t) default) = t) := by
  obtain ⟨h1, h2⟩ := pos_sides t hs
  have hg : ∀ {j}, (hj : j < l.length) → l.getD j default = l[j] := fun {j} hj => by rw [List.getD_eq_getElem?_getD, List.getElem?_eq_getElem hj]; rfl
  rw [isK, Bool.eq_iff_iff]
  simp only [List.any_eq_true, decide_eq_true_eq]
  constructor
  · rintro ⟨x, hx, e⟩
    obtain ⟨j, hj, rfl⟩ := List.mem_iff_getElem.1 hx
    rcases Nat.lt_trichotomy j (posK ky l t) with h | h | h
    · have := h1 j h; rw [hg hj] at this; omega
    · subst h; rw [hg hj]; exact e
    · have h3 := h2 _ (Nat.le_refl _) hp
      have h4 := hs _ j h hj
      rw [hg hj] at h4; omega
  · intro e
    exact ⟨_, List.getElem_mem hp, by rw [hg hp] at e; exact e⟩
theorem isK_out {ky : α → Int} {l : List α} {t : Int} (hs : Rise ky l) (hp : ¬ posK ky l t < l.length) : isK ky l t = false := by
  obtain ⟨h1, _⟩ := pos_sides t hs
  rw [isK, Bool.eq_false_iff]
  intro h
  simp only [List.any_eq_true, decide_eq_true_eq] at h
  obtain ⟨x, hx, e⟩ := h
  obtain ⟨j, hj, rfl⟩ := List.mem_iff_getElem.1 hx
  have := h1 j (by omega)
  rw [List.getD_eq_getElem?_getD, List.getElem?_eq_getElem hj] at this
  simp only [Option.getD_some] at this
  omega
theorem bs_mid {s : Nat × Nat} (h : s.1 + s.2 ≤ 4000000) : IntKind.i64.wrap (((s.1 : Int) + (s.2 : Int)) / 2 ^ Int.toNat 1) = ((bsM s : Nat) : Int) := by
  have e : ((s.1 : Int) + (s.2 : Int)) / 2 ^ Int.toNat 1 = ((bsM s : Nat) : Int) := by simp [bsM]
  rw [e]
  exact IntWalk.i64_in _ (by simp only [bsM]; omega)
def cmpI (a b : Int) : Int := if a < b then -1 else if a > b then 1 else 0
theorem cmp_lt {a b : Int} : cmpI a b < 0 ↔ a < b := by unfold cmpI; split <;> (try split) <;> omega
theorem bs_at1 {ky : α → Int} {l : List α} {t : Int} {h : Nat} (hh : h < l.length) (hb : cmpI (ky l[h]) t < 0) : ky (l.getD h default) < t := by
  rw [List.getD_eq_getElem?_getD, List.getElem?_eq_getElem hh]; exact cmp_lt.1 hb
theorem bs_at2 {ky : α → Int} {l : List α} {t : Int} {h : Nat} (hh : h < l.length) (hb : ¬ cmpI (ky l[h]) t < 0) : ¬ ky (l.getD h default) < t := by
  rw [List.getD_eq_getElem?_getD, List.getElem?_eq_getElem hh]; exact fun e => hb (cmp_lt.2 e)
theorem cmp_eq {a b : Int} : cmpI a b = 0 ↔ a = b := by unfold cmpI; split <;> (try split) <;> omega
theorem isK_in2 {ky : α → Int} {l : List α} {t : Int} (hs : Rise ky l) (hp : posK ky l t < l.length) : isK ky l t = decide (cmpI (ky l[posK ky l t]) t = 0) := by
  rw [isK_in hs hp, List.getD_eq_getElem?_getD, List.getElem?_eq_getElem hp]
  simp only [Option.getD_some, cmp_eq]
end
end Go.Vai
namespace Go.Vai
section
variable {P : Program} {C : Contract} {cfg : Cfg} {raw : Operand → LV} {dst : Option Tmp} {ty : TypeId} {pos : String} {aft : Array Edge} {g : Option (Nat × Bool)}
theorem act_alloc_q {e : TypeId} {d : Nat} : act P cfg raw ⟨some d, .alloc e, ty, pos, aft, g⟩ = match tiOf P e with | some ti => if cfg.glob d then newG ti.zero else newBox d (ti.zero.map .v) | none => .fail := by
  simp only [act]; cases tiOf P e <;> rfl
def boxT (gl : Bool) (d : Nat) (ti : TI) (y : LV) : M LV :=
  if gl then (reifyL (cellsL y)).bind fun cs => if cs.length = ti.sz ∧ cs.all cellishAV = true then newG cs else .fail
  else (settleL d 0 (cellsL y)).bind fun cs => if cs.length = ti.sz then newBox d cs else .fail
theorem act_box_q {e : TypeId} {d : Nat} {x : Operand} : act P cfg raw ⟨some d, .box e x, ty, pos, aft, g⟩ = match tiOf P e with | some ti => boxT (cfg.glob d) d ti (opn (raw x)) | none => .fail := by
  simp only [act]; cases tiOf P e <;> rfl
theorem boxT_f {d : Nat} {ti : TI} {y : LV} : boxT false d ti y = (settleL d 0 (cellsL y)).bind fun cs => if cs.length = ti.sz then newBox d cs else .fail := rfl
theorem boxT_t {d : Nat} {ti : TI} {y : LV} : boxT true d ti y = (reifyL (cellsL y)).bind fun cs => if cs.length = ti.sz ∧ cs.all cellishAV = true then newG cs else .fail := rfl
theorem act_fieldAddr_q {t f : Nat} {x : Operand} : act P cfg raw ⟨dst, .fieldAddr t x f, ty, pos, aft, g⟩ = match fieldOf P t f with | some (off, _) => aFieldAddr off (opn (raw x)) | none => .fail := by
  simp only [act]
  cases fieldOf P t f with
  | none => rfl
  | some p => rfl
theorem act_build_q {t : TypeId} {parts : Array (Nat × Operand)} : act P cfg raw ⟨dst, .build t parts, ty, pos, aft, g⟩ = match tiOf P t with
    | some ti => match placesOf P t with
      | some pl => (fillL pl (ti.zero.map LV.v) (parts.toList.map fun p => (p.1, opn (raw p.2)))).bind fun cs => .ret (.agg cs)
      | none => .fail
    | none => .fail := by
  simp only [act]
  cases tiOf P t with
  | none => rfl
  | some ti => cases placesOf P t <;> rfl
def idxT (P : Program) (t : TypeId) (i : Option Int) (y : LV) : M LV := match P.underlying t with
  | some (.slice e) => (match tiOf P e with | some ti => idxL ti.sz i y | none => .fail)
  | some (.array n e) => (match tiOf P e with | some ti => if ti.sz = 0 then .fail else idxA n ti.sz i y | none => .fail)
  | _ => .fail
theorem act_indexAddr_q {t : TypeId} {x i : Operand} : act P cfg raw ⟨dst, .indexAddr t x i, ty, pos, aft, g⟩ = idxT P t (intOf (opn (raw i))) (opn (raw x)) := by
  simp only [act, idxT]
  cases intOf (opn (raw i)) with
  | none =>
    cases P.underlying t with
    | none => rfl
    | some d => cases d with
      | slice e => cases h : tiOf P e <;> simp only [h, idxL] <;> rfl
      | array n e => cases h : tiOf P e <;> simp only [h, idxA]; split <;> rfl
      | _ => rfl
  | some k =>
    cases P.underlying t with
    | none => rfl
    | some d => cases d with
      | slice e => cases h : tiOf P e <;> simp only [h, idxL] <;> rfl
      | array n e => cases h : tiOf P e <;> simp only [h, idxA]
      | _ => rfl
def convI : Option TypeDesc → LV → M LV
  | some (.int k), .v (.base (.int _ n)) => .ret (.v (.i k (k.wrap n)))
  | _, _ => .fail
theorem convI_i {k k' : IntKind} {n : Int} : convI (some (.int k)) (.v (.i k' n)) = .ret (.v (.i k (k.wrap n))) := rfl
def isInt (P : Program) (t : TypeId) : Bool := match P.underlying t with | some (.int _) => true | _ => false
theorem act_convI_q {src dt : TypeId} {x : Operand} (h1 : (P.underlying src).isSome = true) (h2 : isInt P dt = true) : act P cfg raw ⟨dst, .convert src dt x, ty, pos, aft, g⟩ = convI (P.underlying dt) (opn (raw x)) := by
  unfold isInt at h2
  cases hs : P.underlying src with
  | none => rw [hs] at h1; cases h1
  | some d =>
    split at h2
    · rename_i k hk
      rw [act_convI hs hk, hk]
      cases opn (raw x) with
      | v a => cases a with
        | base v => cases v <;> rfl
        | _ => rfl
      | _ => rfl
    · cases h2
def sliceT (P : Program) (t : TypeId) (l h m : Option (Option Int)) (y : LV) : M LV := match P.underlying t with
  | some (.slice e) => (match tiOf P e with | some ti => sliceL ti.sz l h m y | none => .fail)
  | _ => .fail
def isSl (P : Program) (t : TypeId) : Bool := match P.underlying t with | some (.slice _) => true | _ => false
theorem isSl_ok {t : TypeId} (h : isSl P t = true) : ∃ e, P.underlying t = some (.slice e) := by
  unfold isSl at h
  split at h
  · exact ⟨_, by assumption⟩
  · cases h
theorem act_slice_q {t : TypeId} {x : Operand} {lo hi mx : Option Operand} (hs : isSl P t = true) :
    act P cfg raw ⟨dst, .slice t x lo hi mx, ty, pos, aft, g⟩ = sliceT P t (bnd (lo.map fun x => opn (raw x))) (bnd (hi.map fun x => opn (raw x))) (bnd (mx.map fun x => opn (raw x))) (opn (raw x)) := by
  obtain ⟨e, he⟩ := isSl_ok hs
  cases hti : tiOf P e with
  | some ti => rw [act_slice_s he hti]; simp only [sliceT, he, hti]
  | none =>
    simp only [act, he, sliceT, hti]
    cases bnd (lo.map fun x => opn (raw x)) <;> cases bnd (hi.map fun x => opn (raw x)) <;> cases bnd (mx.map fun x => opn (raw x)) <;> simp only
theorem len_q {t : TypeId} {sz : Nat} {nil : Bool} {xs : List AV} (h : isSl P t = true) : builtinL P .len #[t] dst [.v (.sl sz nil xs)] = .ret (.v (.i .i64 xs.length)) := by
  obtain ⟨e, he⟩ := isSl_ok h; exact aops_len he
theorem cap_nil_q {t : TypeId} {s : Nat} (h : isSl P t = true) : builtinL P .cap #[t] dst [.v (.sl s true [])] = .ret (.v (.i .i64 0)) := by
  obtain ⟨e, he⟩ := isSl_ok h; exact aops_cap_nil he
def isPtr (P : Program) (t : TypeId) : Bool := match P.underlying t with | some (.pointer _) => true | _ => false
theorem isPtr_ok {t : TypeId} (h : isPtr P t = true) : ∃ e, P.underlying t = some (.pointer e) := by
  unfold isPtr at h
  split at h
  · exact ⟨_, by assumption⟩
  · cases h
theorem eql_p0 {t : TypeId} (h : isPtr P t = true) : aBin P .eql t (.base (.pointer none)) (.base (.pointer none)) = some (.b true) := by obtain ⟨e, h⟩ := isPtr_ok h; exact bin_eql_p0 h
theorem eql_pg {t : TypeId} {id off : Nat} (h : isPtr P t = true) : aBin P .eql t (.gp id off) (.base (.pointer none)) = some (.b false) := by obtain ⟨e, h⟩ := isPtr_ok h; exact bin_eql_pg h
theorem neq_p0 {t : TypeId} (h : isPtr P t = true) : aBin P .neq t (.base (.pointer none)) (.base (.pointer none)) = some (.b false) := by obtain ⟨e, h⟩ := isPtr_ok h; exact bin_neq_p0 h
theorem neq_pg {t : TypeId} {id off : Nat} (h : isPtr P t = true) : aBin P .neq t (.gp id off) (.base (.pointer none)) = some (.b true) := by obtain ⟨e, h⟩ := isPtr_ok h; exact bin_neq_pg h
theorem eql_nil_q {t : TypeId} {s s' : Nat} {n : Bool} {xs : List AV} (h : isSl P t = true) : aBin P .eql t (.sl s n xs) (.sl s' true []) = some (.b n) := by obtain ⟨e, h⟩ := isSl_ok h; exact bin_eql_nil h
theorem neq_nil_q {t : TypeId} {s s' : Nat} {n : Bool} {xs : List AV} (h : isSl P t = true) : aBin P .neq t (.sl s n xs) (.sl s' true []) = some (.b (!n)) := by obtain ⟨e, h⟩ := isSl_ok h; exact bin_neq_nil h
def eqC (P : Program) (t : TypeId) (xs ys : List AV) : Option Bool := match flatT P 5 t with | some ks => eqCells ks xs ys | none => none
theorem eql_s {t : TypeId} {xs ys : List AV} (hu : isStruct P t = true) (hg : P.eqGuardType P.depth t = false) : aBin P .eql t (.agg xs) (.agg ys) = (eqC P t xs ys).map .b := by
  unfold eqC
  obtain ⟨fs, hu⟩ := isStruct_ok hu
  simp only [aBin, aEql, aEq, hu, hg, if_true]
  cases flatT P 5 t <;> rfl
theorem neq_s {t : TypeId} {xs ys : List AV} (hu : isStruct P t = true) (hg : P.eqGuardType P.depth t = false) : aBin P .neq t (.agg xs) (.agg ys) = (eqC P t xs ys).map fun r => .b (!r) := by
  unfold eqC
  obtain ⟨fs, hu⟩ := isStruct_ok hu
  simp only [aBin, aEql, aEq, hu, hg, if_true]
  cases flatT P 5 t <;> rfl
end
attribute [go_sem] act_alloc_q act_box_q boxT_f boxT_t act_fieldAddr_q act_build_q act_indexAddr_q idxT convI_i isInt act_convI_q act_slice_q sliceT isSl len_q cap_nil_q isPtr eql_p0 eql_pg neq_p0 neq_pg eql_nil_q neq_nil_q eqC eql_s neq_s act_load act_store bin_eql_b bin_neq_b strL_bsl bin_eql_str
section
variable {P : Program} {C : Contract} {cfg : Cfg} {raw : Operand → LV} {ty : TypeId} {pos : String} {aft : Array Edge} {g : Option (Nat × Bool)}
theorem mwp_len_ownq {t : TypeId} {dst : Option Tmp} {n : Nm} {gg lo hi : Nat} {m : Mem} {fp : Fp} {K : LV → Mem → Fp → Prop} {nl : Bool} {s : Nat} {xs : List AV} (h : isSl P t = true) (ho : m.objs n = (gg, .arr nl s xs)) :
    Mwp C (builtinL P .len #[t] dst [.own n gg lo hi]) m fp K = K (.v (.i .i64 (sub xs lo hi).length)) m (fp.addN n) := by
  obtain ⟨e, he⟩ := isSl_ok h; exact mwp_len_own he ho
theorem mwp_len_frzq {t : TypeId} {dst : Option Tmp} {n : Nm} {gg lo hi : Nat} {m : Mem} {fp : Fp} {K : LV → Mem → Fp → Prop} {nl : Bool} {s : Nat} {xs : List AV} (h : isSl P t = true) (ho : m.objs n = (gg, .frz nl s xs)) :
    Mwp C (builtinL P .len #[t] dst [.own n gg lo hi]) m fp K = K (.v (.i .i64 (sub xs lo hi).length)) m (fp.addN n) := by
  obtain ⟨e, he⟩ := isSl_ok h; exact mwp_len_frz he ho
def makeT (P : Program) (d : Nat) (t : TypeId) (x y : LV) : M LV := match elOf P t with | some e => (match tiOf P e with | some ti => makeM d ti x y | none => .fail) | none => .fail
theorem act_bs_q {t : TypeId} {d len : Nat} {parts : Array (Nat × Operand)} : act P cfg raw ⟨some d, .buildSlice t len parts, ty, pos, aft, g⟩ = match elOf P t with
    | some e => (match tiOf P e with
      | some ti => if len * ti.sz ≤ 16777216 then
        (elems ti (parts.toList.map fun p => opn (raw p.2))).bind fun as => match partsOf ti.z len ((parts.toList.map (·.1)).zip as) (List.replicate len ti.z) with
          | some xs => newArr d 0 false ti.sz xs len
          | none => .fail
        else .fail
      | none => .fail)
    | none => .fail := by
  cases he : elOf P t with
  | none => simp only [act, he]
  | some e =>
    cases hti : tiOf P e with
    | some ti => rw [act_bs he hti]; simp only [hti]; rfl
    | none => simp only [act, he, hti]
def isB (P : Program) (t : TypeId) : Bool := match elOf P t with | some e => (match P.underlying e with | some (.int .u8) => true | _ => false) | none => false
theorem act_convB_q {dst : Option Tmp} {t : TypeId} {x : Operand} (h : isSl P t = true) (hb : isB P t = true) : act P cfg raw ⟨dst, .convert t t x, ty, pos, aft, g⟩ = convBL (opn (raw x)) := by
  obtain ⟨e, he⟩ := isSl_ok h
  have e2 : elOf P t = some e := by simp only [elOf, he]
  unfold isB at hb
  rw [e2] at hb
  simp only at hb
  split at hb
  · rename_i h8; exact act_convB he h8
  · cases hb
theorem act_convS_q {src dt : TypeId} {dst : Option Tmp} {x : Operand} (h : isSl P src = true) (hb : isB P src = true) (hd : P.underlying dt = some .string) : act P cfg raw ⟨dst, .convert src dt x, ty, pos, aft, g⟩ = (peek (opn (raw x))).bind strL := by
  obtain ⟨e, he⟩ := isSl_ok h
  have e2 : elOf P src = some e := by simp only [elOf, he]
  unfold isB at hb
  rw [e2] at hb
  simp only at hb
  split at hb
  · rename_i h8; exact act_convS he h8 hd
  · cases hb
theorem mwp_append2q {t xt e d : Nat} {ti : TI} {n : Nm} {gg hi : Nat} {nil : Bool} {sz : Nat} {xs ys : List AV} {x : LV} {m : Mem} {fp : Fp} {K : LV → Mem → Fp → Prop} {s' : Nat} {nl' : Bool} {fp1 : Fp}
    (he : elOf P t = some e) (hti : tiOf P e = some ti) (hxt : isSl P xt = true)
    (hpk : ∀ Q : AV → Mem → Fp → Prop, Q (.sl s' nl' ys) m fp1 → Mwp C (peek x) m fp Q) (hs' : s' = ti.sz)
    (ho : m.objs n = (gg, .arr nil sz xs)) (hsz : sz = ti.sz) (hhi : hi = xs.length) (hb : (hi + ys.length) * ti.bytes ≤ roomB) (hy : ∀ y ∈ ys, (cellsOf y).length = ti.sz)
    (k : K (.own (.tmp d 0) (((m.set n (gg + 1, .dead)).objs (.tmp d 0)).1 + 1) 0 (hi + ys.length)) ((m.set n (gg + 1, .dead)).set (.tmp d 0) (((m.set n (gg + 1, .dead)).objs (.tmp d 0)).1 + 1, .arr (nil && ys.isEmpty) sz (xs ++ ys))) ((((fp1.addN n).addW n).addN (.tmp d 0)).addW (.tmp d 0))) :
    Mwp C (builtinL P .append #[t, xt] (some d) [.own n gg 0 hi, x]) m fp K := by
  obtain ⟨e', he'⟩ := isSl_ok hxt
  exact mwp_append2 he hti he' hpk hs' ho hsz hhi hb hy k
end
attribute [go_sem] act_convS_q makeT isB Option.isSome_some List.length_map List.length_replicate List.set_cons_zero List.set_cons_succ
end Go.Vai
namespace Go.Vai
theorem s0 {p q : Prop} (x : p) (h : p → q := by (intro hK; first | (simp only [go_sem, F, opn_cond, hc, aIndex_map]; exact hK _) | (simp only [go_sem, F, opn_cond, hc, aIndex_map]; exact hK) | (simp (disch := first | omega | decide) only [go_sem, F, opn_cond, hc, aIndex_map]; exact hK _) | (simp (disch := first | omega | decide) only [go_sem, F, opn_cond, hc, aIndex_map]; exact hK))) : q := h x
theorem sd {p q : Prop} (x : p) (h : p → q := by (intro hK; have hc2 := hc; (try simp only [beq_iff_eq, decide_eq_true_eq, decide_eq_false_iff_not, Bool.or_eq_true, Bool.and_eq_true, Bool.or_eq_false_iff, Bool.and_eq_false_iff] at hc2); first | (simp (disch := first | omega | decide) only [go_sem, F, opn_cond, hc, aIndex_map]; exact hK _) | (simp (disch := first | omega | decide) only [go_sem, F, opn_cond, hc, aIndex_map]; exact hK))) : q := h x
theorem wa {ops : Array Oper} {σ : St} {o : Oper} {c : Bool} (h : wantO ops σ o = some c := by first | exact want_of rfl (by simp only [go_sem, F, opn_cond, hc, aIndex_map]; rfl) | exact want_of_cond rfl (by simp only [go_sem, F, opn_cond, hc, aIndex_map]; rfl) | exact want_of rfl (by simp (disch := first | omega | decide) only [go_sem, F, opn_cond, hc, aIndex_map]; rfl) | exact want_of_cond rfl (by simp (disch := first | omega | decide) only [go_sem, F, opn_cond, hc, aIndex_map]; rfl)) : wantO ops σ o = some c := h
theorem sx {p q : Prop} (x : p) (h : p → q := by (intro hK; first | (simp only [go_sem, F, opn_cond, hc, aIndex_map]; exact hK _) | (simp only [go_sem, F, opn_cond, hc, aIndex_map]; exact hK) | (simp only [go_sem, F, opn_cond, hc, aIndex_map]; rw [mwp_fieldAddr_b (by first | (simp only [go_sem, F, opn_cond, hc, aIndex_map]; rfl) | (simp (disch := first | omega | decide) only [go_sem, F, opn_cond, hc, aIndex_map]; rfl))]; (first | exact hK _ | exact hK)) | (simp (disch := first | omega | decide) only [go_sem, F, opn_cond, hc, aIndex_map]; (first | rw [mwp_fieldAddr_b (by simp (disch := first | omega | decide) only [go_sem, F, opn_cond, hc, aIndex_map]; rfl)] | skip); (first | exact hK _ | exact hK)))) : q := h x
theorem sa {p q : Prop} (x : p) (h : p → q := by (intro hK; simp (disch := first | omega | decide) only [go_sem, F, opn_cond, hc, aIndex_map]; (first | rw [mwp_fieldAddr_b (by simp (disch := first | omega | decide) only [go_sem, F, opn_cond, hc, aIndex_map]; rfl)] | skip); (first | exact hK _ | exact hK))) : q := h x
theorem si {p q : Prop} (x : p) (h : p → q := by (intro hK; have hc2 := hc; (try simp only [beq_iff_eq, decide_eq_true_eq, decide_eq_false_iff_not, Bool.or_eq_true, Bool.and_eq_true, Bool.or_eq_false_iff, Bool.and_eq_false_iff] at hc2); simp (disch := first | omega | decide) only [go_sem, F, opn_cond, hc, aIndex_map]; (first | rw [mwp_aIndex_own (by simp (disch := first | omega | decide) only [go_sem, F, opn_cond, hc, aIndex_map]; rfl) (by first | omega | (simp; omega)) (by first | omega | decide | (simp; omega))] | rw [mwp_aIndex_frz (by simp (disch := first | omega | decide) only [go_sem, F, opn_cond, hc, aIndex_map]; rfl) (by first | omega | (simp; omega)) (by first | omega | decide | (simp; omega))] | skip); (first | exact hK _ | exact hK))) : q := h x
theorem sg {p q : Prop} (x : p) (h : p → q := by (intro hK; have hc2 := hc; (try simp only [beq_iff_eq, decide_eq_true_eq, decide_eq_false_iff_not, Bool.or_eq_true, Bool.and_eq_true, Bool.or_eq_false_iff, Bool.and_eq_false_iff] at hc2); simp (disch := first | omega | decide) only [go_sem, F, opn_cond, hc, if_true]; rw [mwp_aIndex_getD (by omega) (by omega)]; (first | exact hK _ | exact hK))) : q := h x
theorem sl {p q : Prop} (x : p) (h : p → q := by (intro hK; first | (simp only [go_sem, F, opn_cond, hc, aIndex_map]; exact hK _) | (simp only [go_sem, F, opn_cond, hc, aIndex_map]; exact hK) | (simp (disch := first | omega | decide) only [go_sem, F, opn_cond, hc, aIndex_map]; (first | exact hK _ | exact hK | ((first | rw [mwp_load_i1 (by rfl)] | rw [mwp_load_is (by simp)] | rw [mwp_load_g1 (by first | (rw [hG]; rfl) | rfl | (simp only [mset_G, hG]; rfl)) (by rfl)] | rw [mwp_load_gs (by first | (rw [hG]; rfl) | rfl | (simp only [mset_G, hG]; rfl)) (by simp)] | rw [mwp_load_bs (by simp (disch := first | omega | decide) only [go_sem, F, opn_cond, hc, aIndex_map]; rfl) (by simp [setAt])] | rw [mwp_load_b1 (by simp (disch := first | omega | decide) only [go_sem, F, opn_cond, hc, aIndex_map]; rfl) (by rfl)] | rw [mwp_aLoad_map (by simp (disch := first | omega | decide) only [go_sem, F, opn_cond, hc, aIndex_map]; rfl) (by first | omega | decide | (simp; omega)) (fun _ => rfl)] | rw [mwp_aLoad_frz (by simp (disch := first | omega | decide) only [go_sem, F, opn_cond, hc, aIndex_map]; rfl) (by first | omega | decide | (simp; omega)) (fun _ => rfl)] | rw [mwp_aLoad_e1 (by simp (disch := first | omega | decide) only [go_sem, F, opn_cond, hc, aIndex_map]; rfl) (by first | rfl | simp) rfl] | rw [mwp_aLoad_f1 (by simp (disch := first | omega | decide) only [go_sem, F, opn_cond, hc, aIndex_map]; rfl) (by rfl) rfl] | rw [mwp_aLoad_el (by simp (disch := first | omega | decide) only [go_sem, F, opn_cond, hc, aIndex_map]; rfl) (by first | omega | decide | (simp; omega)) rfl] | rw [mwp_aLoad_elf (by simp (disch := first | omega | decide) only [go_sem, F, opn_cond, hc, aIndex_map]; rfl) (by first | omega | decide | (simp; omega)) rfl]); (try simp only [List.drop_zero, List.drop_succ_cons, List.take_succ_cons, List.take_zero, List.map_cons, List.map_nil]); (try simp only [go_sem]); (first | exact hK _ | exact hK)))))) : q := h x
theorem ss {p q : Prop} (x : p) (h : p → q := by (intro hK; simp (disch := first | omega | decide) only [go_sem, F, opn_cond, hc, aIndex_map]; (first | rw [mwp_store_g1 (by first | (rw [hG]; rfl) | rfl | (simp only [mset_G, hG]; rfl)) (by simp) rfl rfl] | rw [mwp_store_c (by simp (disch := first | omega | decide) only [go_sem, F, opn_cond, hc, aIndex_map]; rfl) (by rfl) (by rfl) (by rfl) (by simp)] | rw [mwp_store_o (by simp (disch := first | omega | decide) only [go_sem, F, opn_cond, hc, aIndex_map]; rfl) (by simp (disch := first | omega | decide) only [go_sem, F, opn_cond, hc, aIndex_map]; rfl) (by decide) (by simp)] | rw [mwp_aStore_map (by simp (disch := first | omega | decide) only [go_sem, F, opn_cond, hc, aIndex_map]; rfl) (by first | omega | (simp; omega)) (fun _ => rfl) rfl rfl (fun _ => rfl)] | (refine mwp_store_gen (by simp (disch := first | omega | decide) only [go_sem, F, opn_cond, hc, aIndex_map]; rfl) ?_; simp only [cellsL]; (try simp only [List.drop_zero, List.drop_succ_cons, List.take_succ_cons, List.take_zero, List.map_cons, List.map_nil]); (repeat (first | rw [mwp_settleL_v (by rfl)] | rw [mwp_settleL_own (by simp (disch := first | omega | decide) only [go_sem, F, opn_cond, hc, aIndex_map]; rfl)] | rw [mwp_settleL_frz (by simp (disch := first | omega | decide) only [go_sem, F, opn_cond, hc, aIndex_map]; rfl)] | rw [mwp_settleL_cell (by decide) (by simp (disch := first | omega | decide) only [go_sem, F, opn_cond, hc, aIndex_map]; rfl)] | rw [mwp_settleL_cellf (by decide) (by simp (disch := first | omega | decide) only [go_sem, F, opn_cond, hc, aIndex_map]; rfl)] | rw [mwp_settleL_var (by simp (disch := first | omega | decide) only [go_sem, F, opn_cond, hc, aIndex_map]; rfl)])); rw [mwp_settleL_nil]; refine ⟨by simp (disch := first | omega | decide) only [go_sem, F, opn_cond, hc, aIndex_map] <;> rfl, rfl, by simp, ?_⟩)); (try simp only [setAt, cellsL, cellsOf_agg, cellsOf_base, List.map_cons, List.map_nil, List.set_cons_zero, List.set_cons_succ, Nat.reduceAdd, Nat.zero_add, hG]); (first | exact hK _ | exact hK))) : q := h x
theorem sb {p q : Prop} (x : p) (h : p → q := by (intro hK; simp (disch := first | omega | decide) only [go_sem, F, opn_cond, hc, aIndex_map]; rw [settleL_vish _ _ (by rfl)]; simp (disch := first | omega | decide) only [go_sem, F, opn_cond, hc, aIndex_map, cellsL, List.map, List.length_cons, List.length_nil, Nat.reduceAdd]; (first | exact hK _ | exact hK))) : q := h x
theorem sbg {p q : Prop} (x : p) (h : p → q := by (intro hK; simp (disch := first | omega | decide) only [go_sem, F, opn_cond, hc, aIndex_map, List.map, cellsL, reifyL_nil, reifyL_cons, reify_v]; (repeat (rw [mwp_reify_own (by simp (disch := first | omega | decide) only [go_sem, F, opn_cond, hc, aIndex_map, List.map, cellsL, reifyL_nil, reifyL_cons, reify_v]; rfl)]; (try simp (disch := first | omega | decide) only [go_sem, F, opn_cond, hc, aIndex_map, List.map, cellsL, reifyL_nil, reifyL_cons, reify_v]))); rw [if_pos (by constructor <;> rfl), mwp_newG]; (first | exact hK _ | exact hK))) : q := h x
theorem su {p q : Prop} (x : p) (h : p → q := by (intro hK; simp (disch := first | omega | decide) only [go_sem, F, opn_cond, hc, aIndex_map]; simp [-List.map_take, -List.map_drop, fillL, okOne, cellishAV, Value.oneCell', cellsL, cellsOf, setAt, M.bind, Mwp, mset_same, Obj.isArr, F]; (first | exact hK _ | exact hK))) : q := h x
theorem st {p q : Prop} (x : p) (h : p → q := by (intro hK; simp (disch := first | omega | decide) only [go_sem, F, opn_cond, hc, aIndex_map]; (first | rw [asg_tmp (by simp (disch := first | omega | decide) only [go_sem, F, opn_cond, hc, aIndex_map]; rfl)] | rw [asg_ft (by simp (disch := first | omega | decide) only [go_sem, F, opn_cond, hc, aIndex_map]; rfl)]); (first | exact hK _ | exact hK))) : q := h x
theorem sm {p q : Prop} (x : p) (h : p → q := by (intro hK; simp (disch := first | omega | decide) only [go_sem, F, opn_cond, hc, aIndex_map]; (first | rw [asg_mv (by rfl) (by decide) (by simp (disch := first | omega | decide) only [go_sem, F, opn_cond, hc, aIndex_map]; rfl)] | rw [asg_fz (by rfl) (by decide) (by simp (disch := first | omega | decide) only [go_sem, F, opn_cond, hc, aIndex_map]; rfl)] | rw [asg_ff (by rfl) (by decide) (by simp (disch := first | omega | decide) only [go_sem, F, opn_cond, hc, aIndex_map]; rfl)] | skip); (first | exact hK _ | exact hK))) : q := h x
theorem sn {p q : Prop} (x : p) (h : p → q := by (intro hK; simp (disch := first | omega | decide) only [go_sem, F, opn_cond, hc, aIndex_map]; (first | (exact hK _) | (exact hK) | ((first | rw [mwp_len_ownq (by simp only [go_sem]) (by simp (disch := first | omega | decide) only [go_sem, F, opn_cond, hc, aIndex_map]; rfl)] | rw [mwp_len_frzq (by simp only [go_sem]) (by simp (disch := first | omega | decide) only [go_sem, F, opn_cond, hc, aIndex_map]; rfl)]); (try rw [sub_full (by first | rfl | (simp only [List.length_map, List.length_replicate]; done) | (simp; done) | (simp; omega))]); (try simp only [List.length_map]); (first | exact hK _ | exact hK))))) : q := h x
theorem sz {p q : Prop} (x : p) (h : p → q := by (intro hK; simp (disch := first | omega | decide) only [go_sem, F, opn_cond, hc, aIndex_map]; rw [mwp_aSlice_own0 (by simp (disch := first | omega | decide) only [go_sem, F, opn_cond, hc, aIndex_map]; rfl)]; (first | exact hK _ | exact hK))) : q := h x
theorem sq {p q : Prop} (x : p) (h : p → q := by (intro hK; simp only [act_bs_q, go_sem]; first | (simp [-List.map_take, -List.map_drop, -BitVec.toNat_ofInt, -BitVec.ofInt_natCast, -BitVec.toNat_setWidth, -BitVec.toNat_ushiftRight, -BitVec.toNat_umod, -BitVec.toNat_udiv, go_sem, elems_v, cellishAV, Value.oneCell', isAggAV, partsOf, TI.z, TI.mk1, F]; (first | exact hK _ | exact hK)) | (simp (disch := first | omega | decide) only [go_sem, F, opn_cond, hc, aIndex_map, List.map, elems_cons]; rw [if_pos (by decide)]; simp (disch := first | omega | decide) only [go_sem, F, opn_cond, hc, aIndex_map, List.map, elems_cons]; rw [mwp_reify_own (by simp (disch := first | omega | decide) only [go_sem, F, opn_cond, hc, aIndex_map]; rfl)]; (try rw [sub_full (by simp)]); simp [-List.map_take, -List.map_drop, -BitVec.toNat_ofInt, go_sem, cellishAV, Value.oneCell', isAggAV, partsOf, TI.z, TI.mk1, mwp_if, cellsOf, sub]; (try simp only [List.set_cons_zero, List.set_cons_succ]); (first | exact hK _ | exact hK)) | (simp (disch := first | omega | decide) only [go_sem, F, opn_cond, hc, aIndex_map, List.map, elems_cons]; rw [if_pos (by decide)]; simp (disch := first | omega | decide) only [go_sem, F, opn_cond, hc, aIndex_map, List.map, elems_cons]; rw [mwp_reify_agg]; (repeat (first | rw [mwp_reifyL_v] | rw [mwp_reifyL_arr (by simp (disch := first | omega | decide) only [go_sem, F, opn_cond, hc, aIndex_map]; rfl)] | rw [mwp_reifyL_frz (by simp (disch := first | omega | decide) only [go_sem, F, opn_cond, hc, aIndex_map]; rfl)])); rw [mwp_reifyL_nil]; (repeat (rw [sub_full (by first | rfl | (simp; done) | (simp; omega))])); simp [-List.map_take, -List.map_drop, -BitVec.toNat_ofInt, go_sem, cellishAV, Value.oneCell', isAggAV, partsOf, TI.z, TI.mk1, mwp_if, cellsOf, sub]; (try simp only [List.set_cons_zero, List.set_cons_succ]); (first | exact hK _ | exact hK)))) : q := h x
theorem sc {p q : Prop} (x : p) (h : p → q := by (intro hK; rw [act_convB_q (by simp only [go_sem]) (by simp only [go_sem])]; simp (disch := first | omega | decide) only [go_sem, F, opn_cond, hc, aIndex_map]; rw [convN_eq (by simp (disch := first | omega | decide) only [go_sem, F, opn_cond, hc, aIndex_map]; rfl)]; (first | exact hK _ | exact hK))) : q := h x
theorem sp {p q : Prop} (x : p) (h : p → q := by (intro hK; simp (disch := first | omega | decide) only [go_sem, F, opn_cond, hc, aIndex_map]; apply mwp_append2q; (simp only [go_sem]; rfl); (simp only [go_sem]; rfl); (simp only [go_sem]); (intro Q hQ; first | exact hQ | (rw [peek_own (by simp (disch := first | omega | decide) only [go_sem, F, opn_cond, hc, aIndex_map]; rfl)]; (try rw [sub_full (by first | rfl | (simp only [List.length_map, List.length_replicate]; done) | (simp; done) | (simp; omega))]); exact hQ) | (rw [peek_frz (by simp (disch := first | omega | decide) only [go_sem, F, opn_cond, hc, aIndex_map]; rfl)]; (try rw [sub_full (by first | rfl | (simp only [List.length_map, List.length_replicate]; done) | (simp; done) | (simp; omega))]); exact hQ)); rfl; (simp (disch := first | omega | decide) only [go_sem, F, opn_cond, hc, aIndex_map]; rfl); rfl; (focus first | rfl | (simp; done) | (simp; omega)); (focus first | (simp only [List.length_cons, List.length_nil, List.length_map, Nat.zero_add, Nat.reduceAdd, roomB]; omega) | (simp [sub, roomB]; done) | (simp [sub, roomB]; omega)); (focus first | exact all_cells rfl | (simp [sub, cellsOf]; done) | (intro y hy; obtain ⟨x, _, rfl⟩ := List.mem_map.1 hy; rfl)); ((try simp only [List.nil_append, ← List.map_append, Bool.false_and]); (first | exact hK _ | exact hK)))) : q := h x
theorem cs {p q c : Prop} (h : c → p → q := by (intro gd hK; simp (disch := first | omega | decide) only [go_sem, F, opn_cond, hc, aIndex_map, act_call, List.map]; apply mwp_call_s rfl rfl rfl; (intro Q hQ; first | (simp only [go_sem, F, opn_cond, hc, aIndex_map, peekL, reifyL_nil, reifyL_cons, reify_v]; exact hQ) | (simp (disch := first | omega | decide) only [go_sem, F, opn_cond, hc, aIndex_map, peekL, reifyL_nil, reifyL_cons, reify_v]; (first | exact hQ | (((first | rw [peek_own (by simp (disch := first | omega | decide) only [go_sem, F, opn_cond, hc, aIndex_map, peekL, reifyL_nil, reifyL_cons, reify_v]; rfl)] | rw [mwp_reify_own (by simp (disch := first | omega | decide) only [go_sem, F, opn_cond, hc, aIndex_map, peekL, reifyL_nil, reifyL_cons, reify_v]; rfl)] | rw [peek_frz (by simp (disch := first | omega | decide) only [go_sem, F, opn_cond, hc, aIndex_map, peekL, reifyL_nil, reifyL_cons, reify_v]; rfl)] | rw [reify_frz (by simp (disch := first | omega | decide) only [go_sem, F, opn_cond, hc, aIndex_map, peekL, reifyL_nil, reifyL_cons, reify_v]; rfl)]); (try rw [sub_full (by first | rfl | (simp only [List.length_map, List.length_replicate]; done) | (simp; done) | (simp; omega))])); exact hQ) | (((first | rw [peek_own (by simp (disch := first | omega | decide) only [go_sem, F, opn_cond, hc, aIndex_map, peekL, reifyL_nil, reifyL_cons, reify_v]; rfl)] | rw [mwp_reify_own (by simp (disch := first | omega | decide) only [go_sem, F, opn_cond, hc, aIndex_map, peekL, reifyL_nil, reifyL_cons, reify_v]; rfl)] | rw [peek_frz (by simp (disch := first | omega | decide) only [go_sem, F, opn_cond, hc, aIndex_map, peekL, reifyL_nil, reifyL_cons, reify_v]; rfl)] | rw [reify_frz (by simp (disch := first | omega | decide) only [go_sem, F, opn_cond, hc, aIndex_map, peekL, reifyL_nil, reifyL_cons, reify_v]; rfl)]); (try rw [sub_full (by first | rfl | (simp only [List.length_map, List.length_replicate]; done) | (simp; done) | (simp; omega))])); (try simp (disch := first | omega | decide) only [go_sem, F, opn_cond, hc, aIndex_map, peekL, reifyL_nil, reifyL_cons, reify_v]); ((first | rw [peek_own (by simp (disch := first | omega | decide) only [go_sem, F, opn_cond, hc, aIndex_map, peekL, reifyL_nil, reifyL_cons, reify_v]; rfl)] | rw [mwp_reify_own (by simp (disch := first | omega | decide) only [go_sem, F, opn_cond, hc, aIndex_map, peekL, reifyL_nil, reifyL_cons, reify_v]; rfl)] | rw [peek_frz (by simp (disch := first | omega | decide) only [go_sem, F, opn_cond, hc, aIndex_map, peekL, reifyL_nil, reifyL_cons, reify_v]; rfl)] | rw [reify_frz (by simp (disch := first | omega | decide) only [go_sem, F, opn_cond, hc, aIndex_map, peekL, reifyL_nil, reifyL_cons, reify_v]; rfl)]); (try rw [sub_full (by first | rfl | (simp only [List.length_map, List.length_replicate]; done) | (simp; done) | (simp; omega))])); exact hQ) | (((first | rw [peek_own (by simp (disch := first | omega | decide) only [go_sem, F, opn_cond, hc, aIndex_map, peekL, reifyL_nil, reifyL_cons, reify_v]; rfl)] | rw [mwp_reify_own (by simp (disch := first | omega | decide) only [go_sem, F, opn_cond, hc, aIndex_map, peekL, reifyL_nil, reifyL_cons, reify_v]; rfl)] | rw [peek_frz (by simp (disch := first | omega | decide) only [go_sem, F, opn_cond, hc, aIndex_map, peekL, reifyL_nil, reifyL_cons, reify_v]; rfl)] | rw [reify_frz (by simp (disch := first | omega | decide) only [go_sem, F, opn_cond, hc, aIndex_map, peekL, reifyL_nil, reifyL_cons, reify_v]; rfl)]); (try rw [sub_full (by first | rfl | (simp only [List.length_map, List.length_replicate]; done) | (simp; done) | (simp; omega))])); simp (disch := first | omega | decide) only [go_sem, F, opn_cond, hc, aIndex_map, peekL, reifyL_nil, reifyL_cons, reify_v]; exact hQ))) | ((try simp only [opn_agg, opn_own, opn_v]); (try simp only [List.drop_zero, List.drop_succ_cons, List.take_succ_cons, List.take_zero]); (repeat (first | rw [mwp_peekL_agg] | rw [mwp_peekL_v] | rw [mwp_peekL_arr (by simp (disch := first | omega | decide) only [go_sem, F, opn_cond, hc, aIndex_map]; rfl)] | rw [mwp_peekL_frz (by simp (disch := first | omega | decide) only [go_sem, F, opn_cond, hc, aIndex_map]; rfl)] | rw [mwp_peekL_nil] | rw [mwp_reifyL_agg] | rw [mwp_reifyL_v] | rw [mwp_reifyL_arr (by simp (disch := first | omega | decide) only [go_sem, F, opn_cond, hc, aIndex_map]; rfl)] | rw [mwp_reifyL_frz (by simp (disch := first | omega | decide) only [go_sem, F, opn_cond, hc, aIndex_map]; rfl)] | rw [mwp_reifyL_nil])); (repeat (rw [sub_full (by first | rfl | (simp only [List.length_map, List.length_replicate]; done) | (simp; done) | (simp; omega))])); exact hQ)); exact gd; (focus first | (simp only [noPtrL, noPtr, noPtrL_bsl, Bool.and_self]; done) | (simp [-List.map_take, -List.map_drop, -List.map_append, -List.map_replicate, -List.reduceReplicate, noPtrL, noPtr, noPtrL_bsl, noPtrL_map, sub]; done) | (simp [noPtrL, noPtr, F]; done)); rfl; (first | exact hK _ | exact hK))) (w : c) (x : p) : q := h w x
theorem ct {p q c : Prop} (h : c → p → q := by (intro gd hK; simp (disch := first | omega | decide) only [go_sem, F, opn_cond, hc, aIndex_map, act_call, List.map]; apply mwp_call_st rfl rfl rfl; (intro Q hQ; first | (simp only [go_sem, F, opn_cond, hc, aIndex_map, peekL, reifyL_nil, reifyL_cons, reify_v]; exact hQ) | (simp (disch := first | omega | decide) only [go_sem, F, opn_cond, hc, aIndex_map, peekL, reifyL_nil, reifyL_cons, reify_v]; (first | exact hQ | (((first | rw [peek_own (by simp (disch := first | omega | decide) only [go_sem, F, opn_cond, hc, aIndex_map, peekL, reifyL_nil, reifyL_cons, reify_v]; rfl)] | rw [mwp_reify_own (by simp (disch := first | omega | decide) only [go_sem, F, opn_cond, hc, aIndex_map, peekL, reifyL_nil, reifyL_cons, reify_v]; rfl)] | rw [peek_frz (by simp (disch := first | omega | decide) only [go_sem, F, opn_cond, hc, aIndex_map, peekL, reifyL_nil, reifyL_cons, reify_v]; rfl)] | rw [reify_frz (by simp (disch := first | omega | decide) only [go_sem, F, opn_cond, hc, aIndex_map, peekL, reifyL_nil, reifyL_cons, reify_v]; rfl)]); (try rw [sub_full (by first | rfl | (simp only [List.length_map, List.length_replicate]; done) | (simp; done) | (simp; omega))])); exact hQ) | (((first | rw [peek_own (by simp (disch := first | omega | decide) only [go_sem, F, opn_cond, hc, aIndex_map, peekL, reifyL_nil, reifyL_cons, reify_v]; rfl)] | rw [mwp_reify_own (by simp (disch := first | omega | decide) only [go_sem, F, opn_cond, hc, aIndex_map, peekL, reifyL_nil, reifyL_cons, reify_v]; rfl)] | rw [peek_frz (by simp (disch := first | omega | decide) only [go_sem, F, opn_cond, hc, aIndex_map, peekL, reifyL_nil, reifyL_cons, reify_v]; rfl)] | rw [reify_frz (by simp (disch := first | omega | decide) only [go_sem, F, opn_cond, hc, aIndex_map, peekL, reifyL_nil, reifyL_cons, reify_v]; rfl)]); (try rw [sub_full (by first | rfl | (simp only [List.length_map, List.length_replicate]; done) | (simp; done) | (simp; omega))])); (try simp (disch := first | omega | decide) only [go_sem, F, opn_cond, hc, aIndex_map, peekL, reifyL_nil, reifyL_cons, reify_v]); ((first | rw [peek_own (by simp (disch := first | omega | decide) only [go_sem, F, opn_cond, hc, aIndex_map, peekL, reifyL_nil, reifyL_cons, reify_v]; rfl)] | rw [mwp_reify_own (by simp (disch := first | omega | decide) only [go_sem, F, opn_cond, hc, aIndex_map, peekL, reifyL_nil, reifyL_cons, reify_v]; rfl)] | rw [peek_frz (by simp (disch := first | omega | decide) only [go_sem, F, opn_cond, hc, aIndex_map, peekL, reifyL_nil, reifyL_cons, reify_v]; rfl)] | rw [reify_frz (by simp (disch := first | omega | decide) only [go_sem, F, opn_cond, hc, aIndex_map, peekL, reifyL_nil, reifyL_cons, reify_v]; rfl)]); (try rw [sub_full (by first | rfl | (simp only [List.length_map, List.length_replicate]; done) | (simp; done) | (simp; omega))])); exact hQ) | (((first | rw [peek_own (by simp (disch := first | omega | decide) only [go_sem, F, opn_cond, hc, aIndex_map, peekL, reifyL_nil, reifyL_cons, reify_v]; rfl)] | rw [mwp_reify_own (by simp (disch := first | omega | decide) only [go_sem, F, opn_cond, hc, aIndex_map, peekL, reifyL_nil, reifyL_cons, reify_v]; rfl)] | rw [peek_frz (by simp (disch := first | omega | decide) only [go_sem, F, opn_cond, hc, aIndex_map, peekL, reifyL_nil, reifyL_cons, reify_v]; rfl)] | rw [reify_frz (by simp (disch := first | omega | decide) only [go_sem, F, opn_cond, hc, aIndex_map, peekL, reifyL_nil, reifyL_cons, reify_v]; rfl)]); (try rw [sub_full (by first | rfl | (simp only [List.length_map, List.length_replicate]; done) | (simp; done) | (simp; omega))])); simp (disch := first | omega | decide) only [go_sem, F, opn_cond, hc, aIndex_map, peekL, reifyL_nil, reifyL_cons, reify_v]; exact hQ))) | ((try simp only [opn_agg, opn_own, opn_v]); (try simp only [List.drop_zero, List.drop_succ_cons, List.take_succ_cons, List.take_zero]); (repeat (first | rw [mwp_peekL_agg] | rw [mwp_peekL_v] | rw [mwp_peekL_arr (by simp (disch := first | omega | decide) only [go_sem, F, opn_cond, hc, aIndex_map]; rfl)] | rw [mwp_peekL_frz (by simp (disch := first | omega | decide) only [go_sem, F, opn_cond, hc, aIndex_map]; rfl)] | rw [mwp_peekL_nil] | rw [mwp_reifyL_agg] | rw [mwp_reifyL_v] | rw [mwp_reifyL_arr (by simp (disch := first | omega | decide) only [go_sem, F, opn_cond, hc, aIndex_map]; rfl)] | rw [mwp_reifyL_frz (by simp (disch := first | omega | decide) only [go_sem, F, opn_cond, hc, aIndex_map]; rfl)] | rw [mwp_reifyL_nil])); (repeat (rw [sub_full (by first | rfl | (simp only [List.length_map, List.length_replicate]; done) | (simp; done) | (simp; omega))])); exact hQ)); exact gd; (focus first | (simp only [noPtrL, noPtr, noPtrL_bsl, Bool.and_self]; done) | (simp [-List.map_take, -List.map_drop, -List.map_append, -List.map_replicate, -List.reduceReplicate, noPtrL, noPtr, noPtrL_bsl, noPtrL_map, sub]; done) | (simp [noPtrL, noPtr, F]; done)); rfl; (simp (disch := first | omega | decide) only [go_sem, F, opn_cond, hc, aIndex_map]; first | exact hK _ | exact hK))) (w : c) (x : p) : q := h w x
theorem cr {p q c : Prop} (h : c → p → q := by (intro gd hK; simp (disch := first | omega | decide) only [go_sem, F, opn_cond, hc, aIndex_map, act_call, List.map]; apply mwp_call_r rfl rfl rfl; (intro Q hQ; first | (simp only [go_sem, F, opn_cond, hc, aIndex_map, peekL, reifyL_nil, reifyL_cons, reify_v]; exact hQ) | (simp (disch := first | omega | decide) only [go_sem, F, opn_cond, hc, aIndex_map, peekL, reifyL_nil, reifyL_cons, reify_v]; (first | exact hQ | (((first | rw [peek_own (by simp (disch := first | omega | decide) only [go_sem, F, opn_cond, hc, aIndex_map, peekL, reifyL_nil, reifyL_cons, reify_v]; rfl)] | rw [mwp_reify_own (by simp (disch := first | omega | decide) only [go_sem, F, opn_cond, hc, aIndex_map, peekL, reifyL_nil, reifyL_cons, reify_v]; rfl)] | rw [peek_frz (by simp (disch := first | omega | decide) only [go_sem, F, opn_cond, hc, aIndex_map, peekL, reifyL_nil, reifyL_cons, reify_v]; rfl)] | rw [reify_frz (by simp (disch := first | omega | decide) only [go_sem, F, opn_cond, hc, aIndex_map, peekL, reifyL_nil, reifyL_cons, reify_v]; rfl)]); (try rw [sub_full (by first | rfl | (simp only [List.length_map, List.length_replicate]; done) | (simp; done) | (simp; omega))])); exact hQ) | (((first | rw [peek_own (by simp (disch := first | omega | decide) only [go_sem, F, opn_cond, hc, aIndex_map, peekL, reifyL_nil, reifyL_cons, reify_v]; rfl)] | rw [mwp_reify_own (by simp (disch := first | omega | decide) only [go_sem, F, opn_cond, hc, aIndex_map, peekL, reifyL_nil, reifyL_cons, reify_v]; rfl)] | rw [peek_frz (by simp (disch := first | omega | decide) only [go_sem, F, opn_cond, hc, aIndex_map, peekL, reifyL_nil, reifyL_cons, reify_v]; rfl)] | rw [reify_frz (by simp (disch := first | omega | decide) only [go_sem, F, opn_cond, hc, aIndex_map, peekL, reifyL_nil, reifyL_cons, reify_v]; rfl)]); (try rw [sub_full (by first | rfl | (simp only [List.length_map, List.length_replicate]; done) | (simp; done) | (simp; omega))])); (try simp (disch := first | omega | decide) only [go_sem, F, opn_cond, hc, aIndex_map, peekL, reifyL_nil, reifyL_cons, reify_v]); ((first | rw [peek_own (by simp (disch := first | omega | decide) only [go_sem, F, opn_cond, hc, aIndex_map, peekL, reifyL_nil, reifyL_cons, reify_v]; rfl)] | rw [mwp_reify_own (by simp (disch := first | omega | decide) only [go_sem, F, opn_cond, hc, aIndex_map, peekL, reifyL_nil, reifyL_cons, reify_v]; rfl)] | rw [peek_frz (by simp (disch := first | omega | decide) only [go_sem, F, opn_cond, hc, aIndex_map, peekL, reifyL_nil, reifyL_cons, reify_v]; rfl)] | rw [reify_frz (by simp (disch := first | omega | decide) only [go_sem, F, opn_cond, hc, aIndex_map, peekL, reifyL_nil, reifyL_cons, reify_v]; rfl)]); (try rw [sub_full (by first | rfl | (simp only [List.length_map, List.length_replicate]; done) | (simp; done) | (simp; omega))])); exact hQ) | (((first | rw [peek_own (by simp (disch := first | omega | decide) only [go_sem, F, opn_cond, hc, aIndex_map, peekL, reifyL_nil, reifyL_cons, reify_v]; rfl)] | rw [mwp_reify_own (by simp (disch := first | omega | decide) only [go_sem, F, opn_cond, hc, aIndex_map, peekL, reifyL_nil, reifyL_cons, reify_v]; rfl)] | rw [peek_frz (by simp (disch := first | omega | decide) only [go_sem, F, opn_cond, hc, aIndex_map, peekL, reifyL_nil, reifyL_cons, reify_v]; rfl)] | rw [reify_frz (by simp (disch := first | omega | decide) only [go_sem, F, opn_cond, hc, aIndex_map, peekL, reifyL_nil, reifyL_cons, reify_v]; rfl)]); (try rw [sub_full (by first | rfl | (simp only [List.length_map, List.length_replicate]; done) | (simp; done) | (simp; omega))])); simp (disch := first | omega | decide) only [go_sem, F, opn_cond, hc, aIndex_map, peekL, reifyL_nil, reifyL_cons, reify_v]; exact hQ))) | ((try simp only [opn_agg, opn_own, opn_v]); (try simp only [List.drop_zero, List.drop_succ_cons, List.take_succ_cons, List.take_zero]); (repeat (first | rw [mwp_peekL_agg] | rw [mwp_peekL_v] | rw [mwp_peekL_arr (by simp (disch := first | omega | decide) only [go_sem, F, opn_cond, hc, aIndex_map]; rfl)] | rw [mwp_peekL_frz (by simp (disch := first | omega | decide) only [go_sem, F, opn_cond, hc, aIndex_map]; rfl)] | rw [mwp_peekL_nil] | rw [mwp_reifyL_agg] | rw [mwp_reifyL_v] | rw [mwp_reifyL_arr (by simp (disch := first | omega | decide) only [go_sem, F, opn_cond, hc, aIndex_map]; rfl)] | rw [mwp_reifyL_frz (by simp (disch := first | omega | decide) only [go_sem, F, opn_cond, hc, aIndex_map]; rfl)] | rw [mwp_reifyL_nil])); (repeat (rw [sub_full (by first | rfl | (simp only [List.length_map, List.length_replicate]; done) | (simp; done) | (simp; omega))])); exact hQ)); exact gd; (focus first | (simp only [noPtrL, noPtr, noPtrL_bsl, Bool.and_self]; done) | (simp [-List.map_take, -List.map_drop, -List.map_append, -List.map_replicate, -List.reduceReplicate, noPtrL, noPtr, noPtrL_bsl, noPtrL_map, sub]; done) | (simp [noPtrL, noPtr, F]; done)); (simp (disch := first | omega | decide) only [go_sem, F, opn_cond, hc, aIndex_map]; first | exact hK _ | exact hK))) (w : c) (x : p) : q := h w x
theorem co1 {p q c : Prop} (h : c → p → q := by (intro gd hK; simp (disch := first | omega | decide) only [go_sem, F, opn_cond, hc, aIndex_map, act_call, List.map]; apply mwp_call_r rfl rfl rfl; (intro Q hQ; first | (simp only [go_sem, F, opn_cond, hc, aIndex_map, peekL, reifyL_nil, reifyL_cons, reify_v]; exact hQ) | (simp (disch := first | omega | decide) only [go_sem, F, opn_cond, hc, aIndex_map, peekL, reifyL_nil, reifyL_cons, reify_v]; (first | exact hQ | (((first | rw [peek_own (by simp (disch := first | omega | decide) only [go_sem, F, opn_cond, hc, aIndex_map, peekL, reifyL_nil, reifyL_cons, reify_v]; rfl)] | rw [mwp_reify_own (by simp (disch := first | omega | decide) only [go_sem, F, opn_cond, hc, aIndex_map, peekL, reifyL_nil, reifyL_cons, reify_v]; rfl)] | rw [peek_frz (by simp (disch := first | omega | decide) only [go_sem, F, opn_cond, hc, aIndex_map, peekL, reifyL_nil, reifyL_cons, reify_v]; rfl)] | rw [reify_frz (by simp (disch := first | omega | decide) only [go_sem, F, opn_cond, hc, aIndex_map, peekL, reifyL_nil, reifyL_cons, reify_v]; rfl)]); (try rw [sub_full (by first | rfl | (simp only [List.length_map, List.length_replicate]; done) | (simp; done) | (simp; omega))])); exact hQ) | (((first | rw [peek_own (by simp (disch := first | omega | decide) only [go_sem, F, opn_cond, hc, aIndex_map, peekL, reifyL_nil, reifyL_cons, reify_v]; rfl)] | rw [mwp_reify_own (by simp (disch := first | omega | decide) only [go_sem, F, opn_cond, hc, aIndex_map, peekL, reifyL_nil, reifyL_cons, reify_v]; rfl)] | rw [peek_frz (by simp (disch := first | omega | decide) only [go_sem, F, opn_cond, hc, aIndex_map, peekL, reifyL_nil, reifyL_cons, reify_v]; rfl)] | rw [reify_frz (by simp (disch := first | omega | decide) only [go_sem, F, opn_cond, hc, aIndex_map, peekL, reifyL_nil, reifyL_cons, reify_v]; rfl)]); (try rw [sub_full (by first | rfl | (simp only [List.length_map, List.length_replicate]; done) | (simp; done) | (simp; omega))])); (try simp (disch := first | omega | decide) only [go_sem, F, opn_cond, hc, aIndex_map, peekL, reifyL_nil, reifyL_cons, reify_v]); ((first | rw [peek_own (by simp (disch := first | omega | decide) only [go_sem, F, opn_cond, hc, aIndex_map, peekL, reifyL_nil, reifyL_cons, reify_v]; rfl)] | rw [mwp_reify_own (by simp (disch := first | omega | decide) only [go_sem, F, opn_cond, hc, aIndex_map, peekL, reifyL_nil, reifyL_cons, reify_v]; rfl)] | rw [peek_frz (by simp (disch := first | omega | decide) only [go_sem, F, opn_cond, hc, aIndex_map, peekL, reifyL_nil, reifyL_cons, reify_v]; rfl)] | rw [reify_frz (by simp (disch := first | omega | decide) only [go_sem, F, opn_cond, hc, aIndex_map, peekL, reifyL_nil, reifyL_cons, reify_v]; rfl)]); (try rw [sub_full (by first | rfl | (simp only [List.length_map, List.length_replicate]; done) | (simp; done) | (simp; omega))])); exact hQ) | (((first | rw [peek_own (by simp (disch := first | omega | decide) only [go_sem, F, opn_cond, hc, aIndex_map, peekL, reifyL_nil, reifyL_cons, reify_v]; rfl)] | rw [mwp_reify_own (by simp (disch := first | omega | decide) only [go_sem, F, opn_cond, hc, aIndex_map, peekL, reifyL_nil, reifyL_cons, reify_v]; rfl)] | rw [peek_frz (by simp (disch := first | omega | decide) only [go_sem, F, opn_cond, hc, aIndex_map, peekL, reifyL_nil, reifyL_cons, reify_v]; rfl)] | rw [reify_frz (by simp (disch := first | omega | decide) only [go_sem, F, opn_cond, hc, aIndex_map, peekL, reifyL_nil, reifyL_cons, reify_v]; rfl)]); (try rw [sub_full (by first | rfl | (simp only [List.length_map, List.length_replicate]; done) | (simp; done) | (simp; omega))])); simp (disch := first | omega | decide) only [go_sem, F, opn_cond, hc, aIndex_map, peekL, reifyL_nil, reifyL_cons, reify_v]; exact hQ))) | ((try simp only [opn_agg, opn_own, opn_v]); (try simp only [List.drop_zero, List.drop_succ_cons, List.take_succ_cons, List.take_zero]); (repeat (first | rw [mwp_peekL_agg] | rw [mwp_peekL_v] | rw [mwp_peekL_arr (by simp (disch := first | omega | decide) only [go_sem, F, opn_cond, hc, aIndex_map]; rfl)] | rw [mwp_peekL_frz (by simp (disch := first | omega | decide) only [go_sem, F, opn_cond, hc, aIndex_map]; rfl)] | rw [mwp_peekL_nil] | rw [mwp_reifyL_agg] | rw [mwp_reifyL_v] | rw [mwp_reifyL_arr (by simp (disch := first | omega | decide) only [go_sem, F, opn_cond, hc, aIndex_map]; rfl)] | rw [mwp_reifyL_frz (by simp (disch := first | omega | decide) only [go_sem, F, opn_cond, hc, aIndex_map]; rfl)] | rw [mwp_reifyL_nil])); (repeat (rw [sub_full (by first | rfl | (simp only [List.length_map, List.length_replicate]; done) | (simp; done) | (simp; omega))])); exact hQ)); exact gd; (focus first | (simp only [noPtrL, noPtr, noPtrL_bsl, Bool.and_self]; done) | (simp [-List.map_take, -List.map_drop, -List.map_append, -List.map_replicate, -List.reduceReplicate, noPtrL, noPtr, noPtrL_bsl, noPtrL_map, sub]; done) | (simp [noPtrL, noPtr, F]; done)); (rw [resOf_own1 (by first | (simp (disch := decide) only [mset_ne, hr]; done) | simp [Mem.set, hr])]; (first | exact hK _ | exact hK)))) (w : c) (x : p) : q := h w x
theorem cg {p q c : Prop} (h : c → p → q := by (intro gd hK; simp (disch := first | omega | decide) only [go_sem, F, opn_cond, hc, aIndex_map, act_call, List.map]; apply mwp_call_g rfl rfl rfl; (intro Q hQ; first | (simp only [go_sem, F, opn_cond, hc, aIndex_map, peekL, reifyL_nil, reifyL_cons, reify_v]; exact hQ) | (simp (disch := first | omega | decide) only [go_sem, F, opn_cond, hc, aIndex_map, peekL, reifyL_nil, reifyL_cons, reify_v]; (first | exact hQ | (((first | rw [peek_own (by simp (disch := first | omega | decide) only [go_sem, F, opn_cond, hc, aIndex_map, peekL, reifyL_nil, reifyL_cons, reify_v]; rfl)] | rw [mwp_reify_own (by simp (disch := first | omega | decide) only [go_sem, F, opn_cond, hc, aIndex_map, peekL, reifyL_nil, reifyL_cons, reify_v]; rfl)] | rw [peek_frz (by simp (disch := first | omega | decide) only [go_sem, F, opn_cond, hc, aIndex_map, peekL, reifyL_nil, reifyL_cons, reify_v]; rfl)] | rw [reify_frz (by simp (disch := first | omega | decide) only [go_sem, F, opn_cond, hc, aIndex_map, peekL, reifyL_nil, reifyL_cons, reify_v]; rfl)]); (try rw [sub_full (by first | rfl | (simp only [List.length_map, List.length_replicate]; done) | (simp; done) | (simp; omega))])); exact hQ) | (((first | rw [peek_own (by simp (disch := first | omega | decide) only [go_sem, F, opn_cond, hc, aIndex_map, peekL, reifyL_nil, reifyL_cons, reify_v]; rfl)] | rw [mwp_reify_own (by simp (disch := first | omega | decide) only [go_sem, F, opn_cond, hc, aIndex_map, peekL, reifyL_nil, reifyL_cons, reify_v]; rfl)] | rw [peek_frz (by simp (disch := first | omega | decide) only [go_sem, F, opn_cond, hc, aIndex_map, peekL, reifyL_nil, reifyL_cons, reify_v]; rfl)] | rw [reify_frz (by simp (disch := first | omega | decide) only [go_sem, F, opn_cond, hc, aIndex_map, peekL, reifyL_nil, reifyL_cons, reify_v]; rfl)]); (try rw [sub_full (by first | rfl | (simp only [List.length_map, List.length_replicate]; done) | (simp; done) | (simp; omega))])); (try simp (disch := first | omega | decide) only [go_sem, F, opn_cond, hc, aIndex_map, peekL, reifyL_nil, reifyL_cons, reify_v]); ((first | rw [peek_own (by simp (disch := first | omega | decide) only [go_sem, F, opn_cond, hc, aIndex_map, peekL, reifyL_nil, reifyL_cons, reify_v]; rfl)] | rw [mwp_reify_own (by simp (disch := first | omega | decide) only [go_sem, F, opn_cond, hc, aIndex_map, peekL, reifyL_nil, reifyL_cons, reify_v]; rfl)] | rw [peek_frz (by simp (disch := first | omega | decide) only [go_sem, F, opn_cond, hc, aIndex_map, peekL, reifyL_nil, reifyL_cons, reify_v]; rfl)] | rw [reify_frz (by simp (disch := first | omega | decide) only [go_sem, F, opn_cond, hc, aIndex_map, peekL, reifyL_nil, reifyL_cons, reify_v]; rfl)]); (try rw [sub_full (by first | rfl | (simp only [List.length_map, List.length_replicate]; done) | (simp; done) | (simp; omega))])); exact hQ) | (((first | rw [peek_own (by simp (disch := first | omega | decide) only [go_sem, F, opn_cond, hc, aIndex_map, peekL, reifyL_nil, reifyL_cons, reify_v]; rfl)] | rw [mwp_reify_own (by simp (disch := first | omega | decide) only [go_sem, F, opn_cond, hc, aIndex_map, peekL, reifyL_nil, reifyL_cons, reify_v]; rfl)] | rw [peek_frz (by simp (disch := first | omega | decide) only [go_sem, F, opn_cond, hc, aIndex_map, peekL, reifyL_nil, reifyL_cons, reify_v]; rfl)] | rw [reify_frz (by simp (disch := first | omega | decide) only [go_sem, F, opn_cond, hc, aIndex_map, peekL, reifyL_nil, reifyL_cons, reify_v]; rfl)]); (try rw [sub_full (by first | rfl | (simp only [List.length_map, List.length_replicate]; done) | (simp; done) | (simp; omega))])); simp (disch := first | omega | decide) only [go_sem, F, opn_cond, hc, aIndex_map, peekL, reifyL_nil, reifyL_cons, reify_v]; exact hQ))) | ((try simp only [opn_agg, opn_own, opn_v]); (try simp only [List.drop_zero, List.drop_succ_cons, List.take_succ_cons, List.take_zero]); (repeat (first | rw [mwp_peekL_agg] | rw [mwp_peekL_v] | rw [mwp_peekL_arr (by simp (disch := first | omega | decide) only [go_sem, F, opn_cond, hc, aIndex_map]; rfl)] | rw [mwp_peekL_frz (by simp (disch := first | omega | decide) only [go_sem, F, opn_cond, hc, aIndex_map]; rfl)] | rw [mwp_peekL_nil] | rw [mwp_reifyL_agg] | rw [mwp_reifyL_v] | rw [mwp_reifyL_arr (by simp (disch := first | omega | decide) only [go_sem, F, opn_cond, hc, aIndex_map]; rfl)] | rw [mwp_reifyL_frz (by simp (disch := first | omega | decide) only [go_sem, F, opn_cond, hc, aIndex_map]; rfl)] | rw [mwp_reifyL_nil])); (repeat (rw [sub_full (by first | rfl | (simp only [List.length_map, List.length_replicate]; done) | (simp; done) | (simp; omega))])); exact hQ)); (first | exact hG | rfl | (simp only [mset_G, hG]; rfl)); exact gd; (skip; (simp (disch := first | omega | decide) only [go_sem, F, opn_cond, hc, aIndex_map]; first | exact hK _ | exact hK)))) (w : c) (x : p) : q := h w x
theorem cgm {p q c : Prop} (h : c → p → q := by (intro gd hK; simp (disch := first | omega | decide) only [go_sem, F, opn_cond, hc, aIndex_map, act_call, List.map]; apply mwp_call_g rfl rfl rfl; (intro Q hQ; first | (simp only [go_sem, F, opn_cond, hc, aIndex_map, peekL, reifyL_nil, reifyL_cons, reify_v]; exact hQ) | (simp (disch := first | omega | decide) only [go_sem, F, opn_cond, hc, aIndex_map, peekL, reifyL_nil, reifyL_cons, reify_v]; (first | exact hQ | (((first | rw [peek_own (by simp (disch := first | omega | decide) only [go_sem, F, opn_cond, hc, aIndex_map, peekL, reifyL_nil, reifyL_cons, reify_v]; rfl)] | rw [mwp_reify_own (by simp (disch := first | omega | decide) only [go_sem, F, opn_cond, hc, aIndex_map, peekL, reifyL_nil, reifyL_cons, reify_v]; rfl)] | rw [peek_frz (by simp (disch := first | omega | decide) only [go_sem, F, opn_cond, hc, aIndex_map, peekL, reifyL_nil, reifyL_cons, reify_v]; rfl)] | rw [reify_frz (by simp (disch := first | omega | decide) only [go_sem, F, opn_cond, hc, aIndex_map, peekL, reifyL_nil, reifyL_cons, reify_v]; rfl)]); (try rw [sub_full (by first | rfl | (simp only [List.length_map, List.length_replicate]; done) | (simp; done) | (simp; omega))])); exact hQ) | (((first | rw [peek_own (by simp (disch := first | omega | decide) only [go_sem, F, opn_cond, hc, aIndex_map, peekL, reifyL_nil, reifyL_cons, reify_v]; rfl)] | rw [mwp_reify_own (by simp (disch := first | omega | decide) only [go_sem, F, opn_cond, hc, aIndex_map, peekL, reifyL_nil, reifyL_cons, reify_v]; rfl)] | rw [peek_frz (by simp (disch := first | omega | decide) only [go_sem, F, opn_cond, hc, aIndex_map, peekL, reifyL_nil, reifyL_cons, reify_v]; rfl)] | rw [reify_frz (by simp (disch := first | omega | decide) only [go_sem, F, opn_cond, hc, aIndex_map, peekL, reifyL_nil, reifyL_cons, reify_v]; rfl)]); (try rw [sub_full (by first | rfl | (simp only [List.length_map, List.length_replicate]; done) | (simp; done) | (simp; omega))])); (try simp (disch := first | omega | decide) only [go_sem, F, opn_cond, hc, aIndex_map, peekL, reifyL_nil, reifyL_cons, reify_v]); ((first | rw [peek_own (by simp (disch := first | omega | decide) only [go_sem, F, opn_cond, hc, aIndex_map, peekL, reifyL_nil, reifyL_cons, reify_v]; rfl)] | rw [mwp_reify_own (by simp (disch := first | omega | decide) only [go_sem, F, opn_cond, hc, aIndex_map, peekL, reifyL_nil, reifyL_cons, reify_v]; rfl)] | rw [peek_frz (by simp (disch := first | omega | decide) only [go_sem, F, opn_cond, hc, aIndex_map, peekL, reifyL_nil, reifyL_cons, reify_v]; rfl)] | rw [reify_frz (by simp (disch := first | omega | decide) only [go_sem, F, opn_cond, hc, aIndex_map, peekL, reifyL_nil, reifyL_cons, reify_v]; rfl)]); (try rw [sub_full (by first | rfl | (simp only [List.length_map, List.length_replicate]; done) | (simp; done) | (simp; omega))])); exact hQ) | (((first | rw [peek_own (by simp (disch := first | omega | decide) only [go_sem, F, opn_cond, hc, aIndex_map, peekL, reifyL_nil, reifyL_cons, reify_v]; rfl)] | rw [mwp_reify_own (by simp (disch := first | omega | decide) only [go_sem, F, opn_cond, hc, aIndex_map, peekL, reifyL_nil, reifyL_cons, reify_v]; rfl)] | rw [peek_frz (by simp (disch := first | omega | decide) only [go_sem, F, opn_cond, hc, aIndex_map, peekL, reifyL_nil, reifyL_cons, reify_v]; rfl)] | rw [reify_frz (by simp (disch := first | omega | decide) only [go_sem, F, opn_cond, hc, aIndex_map, peekL, reifyL_nil, reifyL_cons, reify_v]; rfl)]); (try rw [sub_full (by first | rfl | (simp only [List.length_map, List.length_replicate]; done) | (simp; done) | (simp; omega))])); simp (disch := first | omega | decide) only [go_sem, F, opn_cond, hc, aIndex_map, peekL, reifyL_nil, reifyL_cons, reify_v]; exact hQ))) | ((try simp only [opn_agg, opn_own, opn_v]); (try simp only [List.drop_zero, List.drop_succ_cons, List.take_succ_cons, List.take_zero]); (repeat (first | rw [mwp_peekL_agg] | rw [mwp_peekL_v] | rw [mwp_peekL_arr (by simp (disch := first | omega | decide) only [go_sem, F, opn_cond, hc, aIndex_map]; rfl)] | rw [mwp_peekL_frz (by simp (disch := first | omega | decide) only [go_sem, F, opn_cond, hc, aIndex_map]; rfl)] | rw [mwp_peekL_nil] | rw [mwp_reifyL_agg] | rw [mwp_reifyL_v] | rw [mwp_reifyL_arr (by simp (disch := first | omega | decide) only [go_sem, F, opn_cond, hc, aIndex_map]; rfl)] | rw [mwp_reifyL_frz (by simp (disch := first | omega | decide) only [go_sem, F, opn_cond, hc, aIndex_map]; rfl)] | rw [mwp_reifyL_nil])); (repeat (rw [sub_full (by first | rfl | (simp only [List.length_map, List.length_replicate]; done) | (simp; done) | (simp; omega))])); exact hQ)); (first | exact hG | rfl | (simp only [mset_G, hG]; rfl)); exact gd; (simp (disch := first | omega | decide) only [go_sem, F, opn_cond, hc, aIndex_map]; rw [mem_eta (by first | exact hG | rfl | (simp only [mset_G, hG]; rfl))]; (first | exact hK _ | exact hK)))) (w : c) (x : p) : q := h w x
theorem cx1 {p q c : Prop} (h : c → p → q := by (intro gd hK; simp (disch := first | omega | decide) only [go_sem, F, opn_cond, hc, aIndex_map, act_call, List.map]; apply mwp_call_x rfl rfl rfl (by rfl); (intro Q hQ; first | (simp only [go_sem, F, opn_cond, hc, aIndex_map, peekL, reifyL_nil, reifyL_cons, reify_v]; exact hQ) | (simp (disch := first | omega | decide) only [go_sem, F, opn_cond, hc, aIndex_map, peekL, reifyL_nil, reifyL_cons, reify_v]; (first | exact hQ | (((first | rw [peek_own (by simp (disch := first | omega | decide) only [go_sem, F, opn_cond, hc, aIndex_map, peekL, reifyL_nil, reifyL_cons, reify_v]; rfl)] | rw [mwp_reify_own (by simp (disch := first | omega | decide) only [go_sem, F, opn_cond, hc, aIndex_map, peekL, reifyL_nil, reifyL_cons, reify_v]; rfl)] | rw [peek_frz (by simp (disch := first | omega | decide) only [go_sem, F, opn_cond, hc, aIndex_map, peekL, reifyL_nil, reifyL_cons, reify_v]; rfl)] | rw [reify_frz (by simp (disch := first | omega | decide) only [go_sem, F, opn_cond, hc, aIndex_map, peekL, reifyL_nil, reifyL_cons, reify_v]; rfl)]); (try rw [sub_full (by first | rfl | (simp only [List.length_map, List.length_replicate]; done) | (simp; done) | (simp; omega))])); exact hQ) | (((first | rw [peek_own (by simp (disch := first | omega | decide) only [go_sem, F, opn_cond, hc, aIndex_map, peekL, reifyL_nil, reifyL_cons, reify_v]; rfl)] | rw [mwp_reify_own (by simp (disch := first | omega | decide) only [go_sem, F, opn_cond, hc, aIndex_map, peekL, reifyL_nil, reifyL_cons, reify_v]; rfl)] | rw [peek_frz (by simp (disch := first | omega | decide) only [go_sem, F, opn_cond, hc, aIndex_map, peekL, reifyL_nil, reifyL_cons, reify_v]; rfl)] | rw [reify_frz (by simp (disch := first | omega | decide) only [go_sem, F, opn_cond, hc, aIndex_map, peekL, reifyL_nil, reifyL_cons, reify_v]; rfl)]); (try rw [sub_full (by first | rfl | (simp only [List.length_map, List.length_replicate]; done) | (simp; done) | (simp; omega))])); (try simp (disch := first | omega | decide) only [go_sem, F, opn_cond, hc, aIndex_map, peekL, reifyL_nil, reifyL_cons, reify_v]); ((first | rw [peek_own (by simp (disch := first | omega | decide) only [go_sem, F, opn_cond, hc, aIndex_map, peekL, reifyL_nil, reifyL_cons, reify_v]; rfl)] | rw [mwp_reify_own (by simp (disch := first | omega | decide) only [go_sem, F, opn_cond, hc, aIndex_map, peekL, reifyL_nil, reifyL_cons, reify_v]; rfl)] | rw [peek_frz (by simp (disch := first | omega | decide) only [go_sem, F, opn_cond, hc, aIndex_map, peekL, reifyL_nil, reifyL_cons, reify_v]; rfl)] | rw [reify_frz (by simp (disch := first | omega | decide) only [go_sem, F, opn_cond, hc, aIndex_map, peekL, reifyL_nil, reifyL_cons, reify_v]; rfl)]); (try rw [sub_full (by first | rfl | (simp only [List.length_map, List.length_replicate]; done) | (simp; done) | (simp; omega))])); exact hQ) | (((first | rw [peek_own (by simp (disch := first | omega | decide) only [go_sem, F, opn_cond, hc, aIndex_map, peekL, reifyL_nil, reifyL_cons, reify_v]; rfl)] | rw [mwp_reify_own (by simp (disch := first | omega | decide) only [go_sem, F, opn_cond, hc, aIndex_map, peekL, reifyL_nil, reifyL_cons, reify_v]; rfl)] | rw [peek_frz (by simp (disch := first | omega | decide) only [go_sem, F, opn_cond, hc, aIndex_map, peekL, reifyL_nil, reifyL_cons, reify_v]; rfl)] | rw [reify_frz (by simp (disch := first | omega | decide) only [go_sem, F, opn_cond, hc, aIndex_map, peekL, reifyL_nil, reifyL_cons, reify_v]; rfl)]); (try rw [sub_full (by first | rfl | (simp only [List.length_map, List.length_replicate]; done) | (simp; done) | (simp; omega))])); simp (disch := first | omega | decide) only [go_sem, F, opn_cond, hc, aIndex_map, peekL, reifyL_nil, reifyL_cons, reify_v]; exact hQ))) | ((try simp only [opn_agg, opn_own, opn_v]); (try simp only [List.drop_zero, List.drop_succ_cons, List.take_succ_cons, List.take_zero]); (repeat (first | rw [mwp_peekL_agg] | rw [mwp_peekL_v] | rw [mwp_peekL_arr (by simp (disch := first | omega | decide) only [go_sem, F, opn_cond, hc, aIndex_map]; rfl)] | rw [mwp_peekL_frz (by simp (disch := first | omega | decide) only [go_sem, F, opn_cond, hc, aIndex_map]; rfl)] | rw [mwp_peekL_nil] | rw [mwp_reifyL_agg] | rw [mwp_reifyL_v] | rw [mwp_reifyL_arr (by simp (disch := first | omega | decide) only [go_sem, F, opn_cond, hc, aIndex_map]; rfl)] | rw [mwp_reifyL_frz (by simp (disch := first | omega | decide) only [go_sem, F, opn_cond, hc, aIndex_map]; rfl)] | rw [mwp_reifyL_nil])); (repeat (rw [sub_full (by first | rfl | (simp only [List.length_map, List.length_replicate]; done) | (simp; done) | (simp; omega))])); exact hQ)); (first | (simp (disch := first | omega | decide) only [go_sem, F, opn_cond, hc, aIndex_map]; rfl) | (simp (disch := decide) only [mset_same, mset_ne]; (try simp (disch := first | omega | decide) only [go_sem, F, opn_cond, hc, aIndex_map]); rfl)); exact gd; (focus first | exact sub_full (by first | rfl | (simp only [List.length_map]; done)) | exact sub_full (by simp) | exact sub_full (by simp; omega) | (simp [sub]; done)); (focus first | (simp only [noPtrL, noPtr, noPtrL_bsl, Bool.and_self]; done) | (simp [-List.map_take, -List.map_drop, -List.map_append, -List.map_replicate, -List.reduceReplicate, noPtrL, noPtr, noPtrL_bsl, noPtrL_map, sub]; done) | (simp [noPtrL, noPtr, F]; done)); (rw [resOf_own1 (by first | (simp (disch := decide) only [mset_ne, hr]; done) | simp [Mem.set, hr])]; (first | exact hK _ | exact hK)))) (w : c) (x : p) : q := h w x
theorem cnd {P : Program} {c : Operand} {x y : Code} {σ : St} {Q : Exit → St → Prop} {b : Bool} (ht : b = true → AW P x σ Q) (hf : b = false → AW P y σ Q) (h : opn (σ.raw c) = .v (.base (.bool b)) := by first | (simp only [go_sem, F, opn_cond, hc, aIndex_map]; rfl) | (simp (disch := first | omega | decide) only [go_sem, F, opn_cond, hc, aIndex_map]; rfl)) : AW P (.cond c x y) σ Q := AW.cond h ht hf
section
variable {P : Program} {C : Contract} {cfg : Cfg} {ops : Array Oper} {n : Nat} {f : Nat → LV} {m : Mem} {Q : St → Prop} {rs : List Oper} {op : Op} {ty : TypeId} {pos : String} {aft : Array Edge} {g : Option (Nat × Bool)} {lv : LV} {m' : Mem} {i : Nat} {acc : List (Nat × Fp)} {fq : Fp} {d : Nat} {c : Bool}
theorem stp (h : ∀ K : LV → Mem → Fp → Prop, (∀ fp, K lv m' fp) → Mwp C (act P cfg (St.raw ⟨n, f, m⟩) ⟨some d, op, ty, pos, aft, g⟩) m {} K) (k : AOpsL P C cfg ops rs ⟨n, upd f d lv, m'⟩ Q)
    (hd : d < n := by decide) (hw : wantO ops ⟨n, f, m⟩ ⟨some d, op, ty, pos, aft, g⟩ = some true := by rfl) : AOpsL P C cfg ops (⟨some d, op, ty, pos, aft, g⟩ :: rs) ⟨n, f, m⟩ Q := aops_step hd hw h k
theorem stp0 (h : ∀ K : LV → Mem → Fp → Prop, (∀ fp, K lv m' fp) → Mwp C (act P cfg (St.raw ⟨n, f, m⟩) ⟨none, op, ty, pos, aft, g⟩) m {} K) (k : AOpsL P C cfg ops rs ⟨n, f, m'⟩ Q)
    (hw : wantO ops ⟨n, f, m⟩ ⟨none, op, ty, pos, aft, g⟩ = some true := by rfl) : AOpsL P C cfg ops (⟨none, op, ty, pos, aft, g⟩ :: rs) ⟨n, f, m⟩ Q := aops_step0 hw h k
theorem mrg (hw : wantO ops ⟨n, f, m⟩ ⟨some d, op, ty, pos, aft, g⟩ = some c) (h : c = true → ∀ K : LV → Mem → Fp → Prop, (∀ fp, K lv m fp) → Mwp C (act P cfg (St.raw ⟨n, f, m⟩) ⟨some d, op, ty, pos, aft, g⟩) m {} K) (k : AOpsL P C cfg ops rs ⟨n, upd f d (.cond c lv), m⟩ Q)
    (hd : d < n := by decide) : AOpsL P C cfg ops (⟨some d, op, ty, pos, aft, g⟩ :: rs) ⟨n, f, m⟩ Q := aops_merge' hd hw h k
theorem skp (k : AOpsL P C cfg ops rs ⟨n, upd f d (.v (.base undef)), m⟩ Q) (hd : d < n := by decide) (hw : wantO ops ⟨n, f, m⟩ ⟨some d, op, ty, pos, aft, g⟩ = some false := by rfl) : AOpsL P C cfg ops (⟨some d, op, ty, pos, aft, g⟩ :: rs) ⟨n, f, m⟩ Q := aops_skip' hd hw k
theorem dstp (h : ∀ K : LV → Mem → Fp → Prop, K lv m' fq → Mwp C (act P cfg (St.raw ⟨n, f, m⟩) ⟨some d, op, ty, pos, aft, g⟩) m {} K) (k : ADrawL P C cfg ops rs (i + 1) ⟨n, upd f d lv, m'⟩ ((i, fq) :: acc) Q)
    (hw : wantO ops ⟨n, f, m⟩ ⟨some d, op, ty, pos, aft, g⟩ = some true := by rfl) : ADrawL P C cfg ops (⟨some d, op, ty, pos, aft, g⟩ :: rs) i ⟨n, f, m⟩ acc Q := adraw_step hw h k
theorem dstp0 (h : ∀ K : LV → Mem → Fp → Prop, K lv m' fq → Mwp C (act P cfg (St.raw ⟨n, f, m⟩) ⟨none, op, ty, pos, aft, g⟩) m {} K) (k : ADrawL P C cfg ops rs (i + 1) ⟨n, f, m'⟩ ((i, fq) :: acc) Q)
    (hw : wantO ops ⟨n, f, m⟩ ⟨none, op, ty, pos, aft, g⟩ = some true := by rfl) : ADrawL P C cfg ops (⟨none, op, ty, pos, aft, g⟩ :: rs) i ⟨n, f, m⟩ acc Q := adraw_step0 hw h k
theorem dmrg (hw : wantO ops ⟨n, f, m⟩ ⟨some d, op, ty, pos, aft, g⟩ = some c) (h : c = true → ∀ K : LV → Mem → Fp → Prop, K lv m fq → Mwp C (act P cfg (St.raw ⟨n, f, m⟩) ⟨some d, op, ty, pos, aft, g⟩) m {} K) (k : ADrawL P C cfg ops rs (i + 1) ⟨n, upd f d (.cond c lv), m⟩ ((i, fq) :: acc) Q) : ADrawL P C cfg ops (⟨some d, op, ty, pos, aft, g⟩ :: rs) i ⟨n, f, m⟩ acc Q := adraw_merge' hw h k
end
end Go.Vai
namespace Go.Vai
section
variable {C : Contract} {m : Mem} {fp : Fp} {n : Nm} {gg : Nat} {nl : Bool} {sz : Nat} {α : Type} {f : α → AV} {l : List α}
theorem mwp_aStore_el2 {K : Unit → Mem → Fp → Prop} {b : Nat} {z : List AV} {ag : Bool} {i : Nat} {x : LV} {cs : List AV} (y : α) (h : m.objs n = (gg, .arr nl sz (l.map f))) (hi : i < l.length) (hf : f y = .agg cs) (hx : cellsL x = cs.map .v) (hcs : cs.length = sz) (hc : cs.all cellishAV = true)
    (hl : ∃ ds, f l[i] = .agg ds ∧ ds.length = sz) : Mwp C (aStore ⟨sz, b, z, ag⟩ (.eptr n gg i 0) x) m fp K = K () (m.set n (gg, .arr nl sz ((l.set i y).map f))) ((fp.addN n).addW n) := by
  obtain ⟨ds, e1, e2⟩ := hl
  have e : (l.map f)[i]? = some (f l[i]) := by simp [hi]
  have e3 : setCells (f l[i]) 0 cs = f y := by rw [e1, hf, setCells, setAt_all _ _ (by omega)]
  simp only [aStore, hx, mwp_bind]
  rw [reifyL_vs]
  have e4 : (cellsOf (f l[i])).length = sz := by rw [e1]; exact e2
  simp only [mwp_getO, h, hcs, hc, and_self, if_true, e, e4, Nat.zero_add, Nat.le_refl, mwp_setO, mwp_ret, e3]
  rw [List.map_set]
end
theorem se2 {p q c : Prop} (h : c → p → q := by (intro gd hK; simp (disch := first | omega | decide) only [go_sem, F, opn_cond, hc, aIndex_map]; rw [mwp_aStore_el2 _ (by simp (disch := first | omega | decide) only [go_sem, F, opn_cond, hc, aIndex_map]; rfl) (by first | omega | (simp; omega)) gd (by rfl) (by rfl) (by rfl) ⟨_, by rfl, by rfl⟩]; (first | exact hK _ | exact hK))) (w : c) (x : p) : q := h w x
section
variable {P : Program} {C : Contract} {m : Mem} {fp : Fp} {n : Nm} {gg : Nat} {nl : Bool} {sz : Nat} {xs : List AV}
def clearT (P : Program) (t : TypeId) (x : LV) : M LV := match elOf P t with
  | some e => (match tiOf P e with | some ti => (aClear ti.sz ti.z x).bind fun _ => .ret (.v (.base undef)) | none => .fail)
  | none => .fail
theorem clear_q {t : TypeId} {dst : Option Tmp} {x : LV} : builtinL P .clear #[t] dst [x] = clearT P t x := rfl
end
attribute [go_sem] clear_q clearT
theorem mwp_fieldAddr_e {C : Contract} {m : Mem} {fp : Fp} {n : Nm} {gg : Nat} {nl : Bool} {sz : Nat} {xs : List AV} {K : LV → Mem → Fp → Prop} {i o off : Nat} (h : m.objs n = (gg, .arr nl sz xs)) : Mwp C (aFieldAddr off (.eptr n gg i o)) m fp K = K (.eptr n gg i (o + off)) m (fp.addN n) := by
  simp [aFieldAddr, Mwp, h, Obj.isArr]
theorem mwp_load_e {α : Type} {f : α → AV} {l : List α} {C : Contract} {m : Mem} {fp : Fp} {n : Nm} {gg : Nat} {nl : Bool} {sz : Nat} {K : LV → Mem → Fp → Prop} {b : Nat} {z : List AV} {i off : Nat} {v : AV} (h : m.objs n = (gg, .arr nl sz (l.map f))) (hi : i < l.length) (hv : (cellsOf (f l[i]))[off]? = some v) : Mwp C (aLoad ⟨1, b, z, false⟩ (.eptr n gg i off)) m fp K = K (.v v) m (fp.addN n) := by
  have e : (l.map f)[i]? = some (f l[i]) := by simp [hi]
  have hl := (List.getElem?_eq_some_iff.1 hv).1
  simp only [aLoad, Mwp, h, if_true, e, loadL, List.length_map, List.getElem?_map, hv, Option.map_some, Bool.false_eq_true, if_false]
  rw [if_pos (by omega)]; rfl
theorem sxe {p q : Prop} (x : p) (h : p → q := by (intro hK; simp (disch := first | omega | decide) only [go_sem, F, opn_cond, hc, aIndex_map]; rw [mwp_fieldAddr_e (by simp (disch := first | omega | decide) only [go_sem, F, opn_cond, hc, aIndex_map]; rfl)]; (try simp only [Nat.zero_add]); (first | exact hK _ | exact hK))) : q := h x
theorem sle {p q : Prop} (x : p) (h : p → q := by (intro hK; have hc2 := hc; (try simp only [beq_iff_eq, decide_eq_true_eq, decide_eq_false_iff_not, Bool.or_eq_true, Bool.and_eq_true, Bool.or_eq_false_iff, Bool.and_eq_false_iff] at hc2); simp (disch := first | omega | decide) only [go_sem, F, opn_cond, hc, aIndex_map]; rw [mwp_load_e (by simp (disch := first | omega | decide) only [go_sem, F, opn_cond, hc, aIndex_map]; rfl) (by first | omega | (simp; omega)) (by rfl)]; (first | exact hK _ | exact hK))) : q := h x
theorem sel {p q : Prop} (x : p) (h : p → q := by (intro hK; simp (disch := first | omega | decide) only [go_sem, F, opn_cond, hc, aIndex_map]; (first | rw [mwp_aLoad_el (by simp (disch := first | omega | decide) only [go_sem, F, opn_cond, hc, aIndex_map]; rfl) (by first | omega | (simp; omega)) (by rfl)] | rw [mwp_aLoad_elf (by simp (disch := first | omega | decide) only [go_sem, F, opn_cond, hc, aIndex_map]; rfl) (by first | omega | (simp; omega)) (by rfl)]); (try simp only [go_sem]); (first | exact hK _ | exact hK))) : q := h x
end Go.Vai
namespace Go.Vai
end Go.Vai
namespace Go.Vai
theorem lenN0 : ((([] : List AV).length : Nat) : Int) = 0 := rfl
attribute [go_sem] lenN0
end Go.Vai
namespace Go.Vai
def Nm.up : Nm → Nm
  | .tmp t i => .tmp (t + 1000) i
  | .var t => .var (t + 1000)
  | .cell t j => .cell (t + 1000) j
  | .res i => .res (i + 1000)
def Nm.dn : Nm → Option Nm
  | .tmp t i => if 1000 ≤ t then some (.tmp (t - 1000) i) else none
  | .var t => if 1000 ≤ t then some (.var (t - 1000)) else none
  | .cell t j => if 1000 ≤ t then some (.cell (t - 1000) j) else none
  | .res i => if 1000 ≤ i then some (.res (i - 1000)) else none
theorem Nm.dn_up (n : Nm) : n.up.dn = some n := by cases n <;> simp [Nm.up, Nm.dn]
theorem Nm.up_inj {n k : Nm} (h : n.up = k.up) : n = k := by
  have := congrArg Nm.dn h
  rw [Nm.dn_up, Nm.dn_up] at this
  simpa using this
mutual
def LV.up : LV → LV
  | .dead => .dead
  | .v a => .v a
  | .own n g lo hi => .own n.up g lo hi
  | .lptr n g o => .lptr n.up g o
  | .eptr n g i o => .eptr n.up g i o
  | .agg fs => .agg (upL fs)
  | .tup fs => .tup (upL fs)
  | .cond c x => .cond c x.up
def upL : List LV → List LV
  | [] => []
  | x :: xs => x.up :: upL xs
end
theorem upL_map : ∀ (l : List LV), upL l = l.map LV.up
  | [] => rfl
  | x :: xs => by rw [upL, upL_map xs]; rfl
def Obj.up : Obj → Obj
  | .box cells => .box (upL cells)
  | x => x
theorem Obj.up_dead {o : Obj} : o.up = .dead ↔ o = .dead := by cases o <;> simp [Obj.up]
theorem Obj.up_like {a b : Obj} : a.up.like b.up ↔ a.like b := by cases a <;> cases b <;> simp [Obj.up, Obj.like]
theorem Obj.up_solid {a : Obj} : a.up.solid = a.solid := by cases a <;> rfl
def upO (x : Nat × Obj) : Nat × Obj := (x.1, x.2.up)
section
variable {gh gh1 : Gh} {w : World} {objs objs1 : Nm → Nat × Obj}
mutual
theorem LVRel.lift (hκ : ∀ n : Nm, gh1.κ n.up = gh.κ n) (ho : ∀ n : Nm, objs1 n.up = upO (objs n)) (hR : ∀ a v, R gh w a v → R gh1 w a v) : ∀ (lv : LV) (v : Value), LVRel gh w objs lv v → LVRel gh1 w objs1 lv.up v
  | .dead, _, _ => by simp [LV.up, LVRel]
  | .v a, x, h => by simp only [LV.up, LVRel] at h ⊢; exact hR _ _ h
  | .own n g lo hi, x, h => by
    simp only [LV.up, LVRel, ho, upO, hκ] at h ⊢
    cases hx : (objs n).2 <;> simp only [hx, Obj.up] at h ⊢ <;> exact h
  | .lptr n g off, x, h => by
    simp only [LV.up, LVRel, ho, upO, hκ] at h ⊢
    cases hx : (objs n).2 <;> simp only [hx, Obj.up] at h ⊢ <;> exact h
  | .eptr n g i off, x, h => by
    simp only [LV.up, LVRel, ho, upO, hκ] at h ⊢
    cases hx : (objs n).2 <;> simp only [hx, Obj.up] at h ⊢ <;> exact h
  | .agg fs, x, h => by
    simp only [LV.up, LVRel] at h ⊢
    obtain ⟨cs, e, h⟩ := h
    exact ⟨cs, e, LVRels.lift hκ ho hR fs _ h⟩
  | .tup fs, x, h => by
    simp only [LV.up, LVRel] at h ⊢
    obtain ⟨cs, e, h⟩ := h
    exact ⟨cs, e, LVRels.lift hκ ho hR fs _ h⟩
  | .cond c y, x, h => by
    simp only [LV.up, LVRel] at h ⊢
    exact ⟨fun hc => LVRel.lift hκ ho hR y x (h.1 hc), h.2⟩
theorem LVRels.lift (hκ : ∀ n : Nm, gh1.κ n.up = gh.κ n) (ho : ∀ n : Nm, objs1 n.up = upO (objs n)) (hR : ∀ a v, R gh w a v → R gh1 w a v) : ∀ (ys : List LV) (vs : List Value), LVRels gh w objs ys vs → LVRels gh1 w objs1 (upL ys) vs
  | [], vs, h => by simpa only [upL, LVRels] using h
  | y :: ys, vs, h => by
    simp only [upL, LVRels] at h ⊢
    obtain ⟨v, r, rfl, h1, h2⟩ := h
    exact ⟨v, r, rfl, LVRel.lift hκ ho hR y v h1, LVRels.lift hκ ho hR ys r h2⟩
end
mutual
theorem LVRel.lower (hκ : ∀ n : Nm, gh1.κ n.up = gh.κ n) (ho : ∀ n : Nm, objs1 n.up = upO (objs n)) (hR : ∀ a v, R gh1 w a v → R gh w a v) : ∀ (lv : LV) (v : Value), LVRel gh1 w objs1 lv.up v → LVRel gh w objs lv v
  | .dead, _, _ => by simp [LVRel]
  | .v a, x, h => by simp only [LV.up, LVRel] at h ⊢; exact hR _ _ h
  | .own n g lo hi, x, h => by
    simp only [LV.up, LVRel, ho, upO, hκ] at h ⊢
    cases hx : (objs n).2 <;> simp only [hx, Obj.up] at h ⊢ <;> exact h
  | .lptr n g off, x, h => by
    simp only [LV.up, LVRel, ho, upO, hκ] at h ⊢
    cases hx : (objs n).2 <;> simp only [hx, Obj.up] at h ⊢ <;> exact h
  | .eptr n g i off, x, h => by
    simp only [LV.up, LVRel, ho, upO, hκ] at h ⊢
    cases hx : (objs n).2 <;> simp only [hx, Obj.up] at h ⊢ <;> exact h
  | .agg fs, x, h => by
    simp only [LV.up, LVRel] at h ⊢
    obtain ⟨cs, e, h⟩ := h
    exact ⟨cs, e, LVRels.lower hκ ho hR fs _ h⟩
  | .tup fs, x, h => by
    simp only [LV.up, LVRel] at h ⊢
    obtain ⟨cs, e, h⟩ := h
    exact ⟨cs, e, LVRels.lower hκ ho hR fs _ h⟩
  | .cond c y, x, h => by
    simp only [LV.up, LVRel] at h ⊢
    exact ⟨fun hc => LVRel.lower hκ ho hR y x (h.1 hc), h.2⟩
theorem LVRels.lower (hκ : ∀ n : Nm, gh1.κ n.up = gh.κ n) (ho : ∀ n : Nm, objs1 n.up = upO (objs n)) (hR : ∀ a v, R gh1 w a v → R gh w a v) : ∀ (ys : List LV) (vs : List Value), LVRels gh1 w objs1 (upL ys) vs → LVRels gh w objs ys vs
  | [], vs, h => by simpa only [upL, LVRels] using h
  | y :: ys, vs, h => by
    simp only [upL, LVRels] at h ⊢
    obtain ⟨v, r, rfl, h1, h2⟩ := h
    exact ⟨v, r, rfl, LVRel.lower hκ ho hR y v h1, LVRels.lower hκ ho hR ys r h2⟩
end
theorem ObjRel.lift (hκ : ∀ n : Nm, gh1.κ n.up = gh.κ n) (ho : ∀ n : Nm, objs1 n.up = upO (objs n)) (hi : ∀ b, gh.imm b → gh1.imm b) (hl : ∀ b n, gh.ρ b = .loc n → gh1.ρ b = .loc n.up) (hR : ∀ a v, R gh w a v → R gh1 w a v) {n : Nm} {o : Obj} (h : ObjRel gh w objs n o) : ObjRel gh1 w objs1 n.up o.up := by
  cases o with
  | dead => trivial
  | box cells =>
    obtain ⟨h1, cs, ty, h2, h3, h4⟩ := h
    refine ⟨by rw [hκ]; exact hl _ _ h1, cs, ty, by rw [hκ]; exact h2, by rw [upL_map, List.length_map]; exact h3, fun j x hx => ?_⟩
    rw [upL_map, List.getElem?_map, Option.map_eq_some_iff] at hx
    obtain ⟨y, hy, rfl⟩ := hx
    obtain ⟨v, h5, h6, h7⟩ := h4 j y hy
    exact ⟨v, h5, h6, LVRel.lift hκ ho hR y v h7⟩
  | fbox cells =>
    obtain ⟨h1, cs, ty, h2, h3, h4⟩ := h
    exact ⟨by rw [hκ]; exact hi _ h1, cs, ty, by rw [hκ]; exact h2, h3, fun j x hx => let ⟨v, h5, h6, h7⟩ := h4 j x hx; ⟨v, h5, h6, hR _ _ h7⟩⟩
  | arr nil sz xs =>
    cases nil with
    | true => simpa only [ObjRel, Obj.up, if_true] using h
    | false =>
      simp only [ObjRel, Obj.up, Bool.false_eq_true, if_false] at h ⊢
      obtain ⟨h1, cs, ty, h2, h3, h4⟩ := h
      exact ⟨by rw [hκ]; exact hl _ _ h1, cs, ty, by rw [hκ]; exact h2, h3, fun i x hx => ⟨(h4 i x hx).1, fun j y hy => let ⟨v, h5, h6, h7⟩ := (h4 i x hx).2 j y hy; ⟨v, h5, h6, hR _ _ h7⟩⟩⟩
  | frz nil sz xs =>
    cases nil with
    | true => simpa only [ObjRel, Obj.up, if_true] using h
    | false =>
      simp only [ObjRel, Obj.up, Bool.false_eq_true, if_false] at h ⊢
      obtain ⟨h1, cs, ty, h2, h3, h4⟩ := h
      exact ⟨by rw [hκ]; exact hi _ h1, cs, ty, by rw [hκ]; exact h2, h3, fun i x hx => ⟨(h4 i x hx).1, fun j y hy => let ⟨v, h5, h6, h7⟩ := (h4 i x hx).2 j y hy; ⟨v, h5, h6, hR _ _ h7⟩⟩⟩
theorem ObjRel.lower (hκ : ∀ n : Nm, gh1.κ n.up = gh.κ n) (ho : ∀ n : Nm, objs1 n.up = upO (objs n)) (hi : ∀ b, gh1.imm b → gh.imm b) (hl : ∀ b n, gh1.ρ b = .loc (Nm.up n) → gh.ρ b = .loc n) (hR : ∀ a v, R gh1 w a v → R gh w a v) {n : Nm} {o : Obj} (h : ObjRel gh1 w objs1 n.up o.up) : ObjRel gh w objs n o := by
  cases o with
  | dead => trivial
  | box cells =>
    obtain ⟨h1, cs, ty, h2, h3, h4⟩ := h
    rw [hκ] at h1 h2
    refine ⟨hl _ _ h1, cs, ty, h2, by rw [upL_map, List.length_map] at h3; exact h3, fun j x hx => ?_⟩
    obtain ⟨v, h5, h6, h7⟩ := h4 j x.up (by rw [upL_map, List.getElem?_map, hx]; rfl)
    exact ⟨v, h5, h6, LVRel.lower hκ ho hR x v h7⟩
  | fbox cells =>
    obtain ⟨h1, cs, ty, h2, h3, h4⟩ := h
    rw [hκ] at h1 h2
    exact ⟨hi _ h1, cs, ty, h2, h3, fun j x hx => let ⟨v, h5, h6, h7⟩ := h4 j x hx; ⟨v, h5, h6, hR _ _ h7⟩⟩
  | arr nil sz xs =>
    cases nil with
    | true => simpa only [ObjRel, Obj.up, if_true] using h
    | false =>
      simp only [ObjRel, Obj.up, Bool.false_eq_true, if_false] at h ⊢
      obtain ⟨h1, cs, ty, h2, h3, h4⟩ := h
      rw [hκ] at h1 h2
      exact ⟨hl _ _ h1, cs, ty, h2, h3, fun i x hx => ⟨(h4 i x hx).1, fun j y hy => let ⟨v, h5, h6, h7⟩ := (h4 i x hx).2 j y hy; ⟨v, h5, h6, hR _ _ h7⟩⟩⟩
  | frz nil sz xs =>
    cases nil with
    | true => simpa only [ObjRel, Obj.up, if_true] using h
    | false =>
      simp only [ObjRel, Obj.up, Bool.false_eq_true, if_false] at h ⊢
      obtain ⟨h1, cs, ty, h2, h3, h4⟩ := h
      rw [hκ] at h1 h2
      exact ⟨hi _ h1, cs, ty, h2, h3, fun i x hx => ⟨(h4 i x hx).1, fun j y hy => let ⟨v, h5, h6, h7⟩ := (h4 i x hx).2 j y hy; ⟨v, h5, h6, hR _ _ h7⟩⟩⟩
end
def HGood (P : Program) (f : FuncId) (args : List LV) (m : Mem) (r : LV) (m' : Mem) : Prop :=
  (∃ fn c, P.funcs[f]? = some fn ∧ (fn.name == "runtime.NumGoroutine") = false ∧ fn.body = some c) ∧
  ∀ gh w vs, MemRel gh w m → LVRels gh w m.objs args vs → Calls P f vs.toArray w fun e w' => ∃ v, e = .returned v ∧ Post gh w m m' r v w'
theorem hstep_call {P : Program} {fi : FuncId} {args : Array Operand} {ats : Array TypeId} {dst : Option Tmp} {ty : TypeId} {pos : String} {aft : Array Edge} {g : Option (Nat × Bool)} {σ : St} {r : LV} {m' : Mem}
    (h : HGood P fi (args.toList.map fun x => opn (σ.raw x)) σ.mem r m') : HStep P ⟨dst, .call ⟨.value (.func fi), args, ats⟩, ty, pos, aft, g⟩ σ r m' := by
  intro gh a w hs
  obtain ⟨⟨fn, c, e1, e2, e3⟩, j⟩ := h
  have ho : Ops gh w σ.mem σ.raw a := ⟨hs.mem, fun x => raw_rel hs x⟩
  have j := j gh w _ hs.mem (evs (h := ho) args.toList)
  rw [show (args.toList.map a.eval).toArray = args.map a.eval by rw [← Array.toList_map]] at j
  have e2 : ¬ fn.name = "runtime.NumGoroutine" := by simpa using e2
  refine .call (f := fi) (args := args.map a.eval) (w' := w) ?_ j
  simp [execOp, resolve, Deferred.ofValue, invoke, callFunc, e1, e2, e3, Act.eval]
structure UpMem (m m1 : Mem) : Prop where
  up : ∀ n : Nm, m1.objs n.up = upO (m.objs n)
  own : ∀ n : Nm, n.dn = none → m1.objs n = (0, .dead)
  G : m1.G = m.G
def giveHL (d : Nat) : Nat → List LV → M (List LV)
  | _, [] => .ret []
  | i, .own n g lo hi :: r => if n = .tmp (d + 1000) i then .fail else (rehome n g lo hi (.tmp (d + 1000) i)).bind fun y => (giveHL d (i + 1) r).bind fun l => .ret (y :: l)
  | i, .v a :: r => (giveHL d (i + 1) r).bind fun l => .ret (.v a :: l)
  | _, _ => .fail
def giveH (d : Nat) : LV → M LV
  | .agg fs => (giveHL d 0 fs).bind fun l => .ret (.agg l)
  | .v a => .ret (.v a)
  | _ => .fail
def leaveH (P : Program) (fn : Func) (d : Nat) (slots : Nat → LV) : M LV :=
  match fn.results.toList with
  | [x] => (srcOne P slots x).bind (giveH d)
  | _ => .fail
theorem giveHL_sound {C : Contract} {d : Nat} : ∀ (fs : List LV) (i : Nat) {gh : Gh} {w : World} {m : Mem} {l : List LV} {m' : Mem} {f : Fp}, Run C (giveHL d i fs) m l m' f → MemRel gh w m → ∀ vs, LVRels gh w m.objs fs vs →
    ∃ gh', MemRel gh' w m' ∧ Keeps gh w m gh' w m' ∧ LVRels gh' w m'.objs l vs
  | [], i, gh, w, m, l, m', f, hr, hm, vs, hv => by
    simp only [giveHL] at hr
    obtain ⟨rfl, rfl⟩ := hr.ret_inv
    exact ⟨gh, hm, Keeps.refl _ _ _, hv⟩
  | .own n g lo hi :: r, i, gh, w, m, l, m', f, hr, hm, vs, hv => by
    simp only [giveHL] at hr
    split at hr
    · exact hr.fail_inv.elim
    rename_i hne
    obtain ⟨y, m1, f1, f2, h1, h2⟩ := hr.bind_inv
    obtain ⟨l', m2, f3, f4, h3, h4⟩ := h2.bind_inv
    obtain ⟨rfl, rfl⟩ := h4.ret_inv
    simp only [LVRels] at hv
    obtain ⟨v, us, rfl, hv1, hv2⟩ := hv
    obtain ⟨gh1, k1, k2, k3⟩ := rehome_sound hne h1 hm
    obtain ⟨gh2, j1, j2, j3⟩ := giveHL_sound r (i + 1) h3 k1 us (k2.lvs hv2)
    exact ⟨gh2, j1, k2.trans j2, by simp only [LVRels]; exact ⟨v, us, rfl, j2.lv (k3 v hv1), j3⟩⟩
  | .v a :: r, i, gh, w, m, l, m', f, hr, hm, vs, hv => by
    simp only [giveHL] at hr
    obtain ⟨l', m2, f3, f4, h3, h4⟩ := hr.bind_inv
    obtain ⟨rfl, rfl⟩ := h4.ret_inv
    simp only [LVRels] at hv
    obtain ⟨v, us, rfl, hv1, hv2⟩ := hv
    obtain ⟨gh2, j1, j2, j3⟩ := giveHL_sound r (i + 1) h3 hm us hv2
    exact ⟨gh2, j1, j2, by simp only [LVRels]; exact ⟨v, us, rfl, j2.lv hv1, j3⟩⟩
  | .dead :: _, _, _, _, _, _, _, _, hr, _, _, _ => by simp only [giveHL] at hr; exact hr.fail_inv.elim
  | .lptr .. :: _, _, _, _, _, _, _, _, hr, _, _, _ => by simp only [giveHL] at hr; exact hr.fail_inv.elim
  | .eptr .. :: _, _, _, _, _, _, _, _, hr, _, _, _ => by simp only [giveHL] at hr; exact hr.fail_inv.elim
  | .agg .. :: _, _, _, _, _, _, _, _, hr, _, _, _ => by simp only [giveHL] at hr; exact hr.fail_inv.elim
  | .tup .. :: _, _, _, _, _, _, _, _, hr, _, _, _ => by simp only [giveHL] at hr; exact hr.fail_inv.elim
  | .cond .. :: _, _, _, _, _, _, _, _, hr, _, _, _ => by simp only [giveHL] at hr; exact hr.fail_inv.elim
theorem giveH_sound {C : Contract} {d : Nat} {x : LV} {gh : Gh} {w : World} {m : Mem} {y : LV} {m' : Mem} {f : Fp} (hr : Run C (giveH d x) m y m' f) (hm : MemRel gh w m) {v : Value} (hv : LVRel gh w m.objs x v) :
    ∃ gh', MemRel gh' w m' ∧ Keeps gh w m gh' w m' ∧ LVRel gh' w m'.objs y v := by
  unfold giveH at hr
  split at hr
  · obtain ⟨l, m1, f1, f2, h1, h2⟩ := hr.bind_inv
    obtain ⟨rfl, rfl⟩ := h2.ret_inv
    simp only [LVRel] at hv
    obtain ⟨cs, e, hv⟩ := hv
    obtain ⟨gh', k1, k2, k3⟩ := giveHL_sound _ _ h1 hm _ hv
    exact ⟨gh', k1, k2, by simp only [LVRel]; exact ⟨cs, e, k3⟩⟩
  · obtain ⟨rfl, rfl⟩ := hr.ret_inv
    exact ⟨gh, hm, Keeps.refl _ _ _, hv⟩
  · exact hr.fail_inv.elim
theorem srcOne_sound {P : Program} {C : Contract} {slots : Nat → LV} {tmps : Array Value} {r : ResultVar} {gh : Gh} {w : World} {m : Mem} {x : LV} {m1 : Mem} {f : Fp} (h1 : Run C (srcOne P slots r) m x m1 f) (hm : MemRel gh w m) (hs : ∀ t, LVRel gh w m.objs (slots t) (tmps.getD t undef)) :
    m1 = m ∧ ∃ v, (resRun tmps r).run P w = .ok v w ∧ LVRel gh w m.objs x v := by
  unfold srcOne at h1
  split at h1
  · obtain ⟨rfl, rfl⟩ := h1.ret_inv
    rename_i t
    exact ⟨rfl, tmps.getD t undef, by simp [resRun], opn_rel _ (hs t)⟩
  · split at h1
    case h_2 => exact h1.fail_inv.elim
    rename_i ti hti
    obtain ⟨rfl, ad, u, j1, j2, j3⟩ := aLoad_sound (tiOf_ok hti) h1 hm _ (opn_rel _ (hs _))
    have j1' := j1
    rw [Array.getD_eq_getD_getElem?] at j1'
    exact ⟨rfl, u, by simp [resRun, j1', asAddr, j2], j3⟩
def HLeaves (P : Program) (C : Contract) (fn : Func) (d : Nat) (r : LV) (m' : Mem) (σ : St) : Prop :=
  ∃ m2 fp, Run C (leaveH P fn d σ.slots) σ.mem r.up m2 fp ∧ m2.G = m'.G ∧ ∀ n : Nm, m2.objs n.up = upO (m'.objs n)
theorem up_of_dn {n k : Nm} (h : n.dn = some k) : n = k.up := by
  cases n <;> simp only [Nm.dn] at h <;> split at h <;> simp at h <;> subst h <;> simp only [Nm.up] <;> congr 1 <;> omega
section
variable {P : Program}
theorem hgood_of_body {f : FuncId} {fn : Func} {c : Code} {args : List LV} {m m' : Mem} {r : LV} (nt d : Nat) (hf : P.funcs[f]? = some fn) (hn : (fn.name == "runtime.NumGoroutine") = false) (hb : fn.body = some c) (hnt : fn.ntmps = nt) (hl : args.length ≤ nt)
    (h : ∀ (s : Nat → LV) (m1 : Mem), (∀ (j : Nat) (x : LV), args[j]? = some x → s j = x.up) → UpMem m m1 →
      AW P c ⟨nt, s, m1⟩ fun e σ => (e = .normal ∨ e = .ret) ∧ HLeaves P (Good P) fn d r m' σ) : HGood P f args m r m' := by
  subst hnt
  refine ⟨⟨fn, c, hf, hn, hb⟩, fun gh w vs hm ha => calls_of_wp hf hb ?_⟩
  let gh1 : Gh := { ρ := fun b => match gh.ρ b with | .loc n => .loc n.up | x => x, κ := fun n => match n.dn with | some k => gh.κ k | none => 0, γ := gh.γ }
  let m1 : Mem := ⟨fun n => match n.dn with | some k => upO (m.objs k) | none => (0, .dead), m.G⟩
  have hu : UpMem m m1 := ⟨fun n => by simp only [m1, Nm.dn_up], fun n e => by simp only [m1, e], rfl⟩
  have hκ : ∀ n : Nm, gh1.κ n.up = gh.κ n := fun n => by simp only [gh1, Nm.dn_up]
  have hi : ∀ b, gh.imm b → gh1.imm b := fun b hb => by
    have hb : gh.ρ b = .imm := hb
    simp only [Gh.imm, gh1, hb]
  have hR : ∀ a v, R gh w a v → R gh1 w a v := fun a v h => h.mono' (fun b hb => ⟨hi b hb, rfl⟩) (fun _ _ h => h)
  have hlen := ha.length
  let s : Nat → LV := fun j => match args[j]? with | some x => x.up | none => .dead
  have hs0 : ∀ (j : Nat) (x : LV), args[j]? = some x → s j = x.up := fun j x hx => by simp only [s, hx]
  have hM : MemRel gh1 w m1 := by
    refine ⟨fun b hb => hm.alloc b fun e => hb ?_, fun n => ?_, hm.glen, fun id b cells h1 h2 => ?_⟩
    · simp only [gh1, e]
    · cases hd : n.dn with
      | none => rw [hu.own n hd]; trivial
      | some k =>
        obtain rfl := up_of_dn hd
        rw [hu.up]
        exact ObjRel.lift hκ hu.up hi (fun b n hb => by simp only [gh1, hb]) hR (hm.objs k)
    · obtain ⟨e1, cs, ty, e2, e3, e4⟩ := hm.glob id b cells h1 h2
      exact ⟨by simp only [gh1, e1], cs, ty, e2, e3, fun j x hx => let ⟨v, e5, e6, e7⟩ := e4 j x hx; ⟨v, e5, e6, hR _ _ e7⟩⟩
  have hS : Sim gh1 ⟨fn.ntmps, s, m1⟩ { tmps := vs.toArray ++ Array.replicate (fn.ntmps - vs.toArray.size) undef, defers := [] } w := by
    refine ⟨?_, rfl, fun t => ?_, hM⟩
    · simp only [Array.size_append, Array.size_replicate, List.size_toArray]; omega
    · simp only [s]
      cases hx : args[t]? with
      | none => simp [LVRel]
      | some x =>
        obtain ⟨v, hv, hc⟩ := ha.get t x hx
        have hlt : t < vs.length := (List.getElem?_eq_some_iff.1 hv).1
        have hget : (vs.toArray ++ Array.replicate (fn.ntmps - vs.toArray.size) undef).getD t undef = v := by
          rw [Array.getD_eq_getD_getElem?, Array.getElem?_append_left (by simpa using hlt)]; simp [hv]
        simp only [hget]
        exact LVRel.lift hκ hu.up hR x v hc
  refine wp_mono (h s m1 hs0 hu gh1 _ w hS) fun e a' w' ⟨σ', gh2, ⟨h1, m2, fp, hrun, hG2, hup2⟩, h3, h4⟩ => ?_
  unfold leaveH at hrun
  split at hrun
  case h_2 => exact hrun.fail_inv.elim
  rename_i rv hrv
  obtain ⟨x, m3, f1, f2, r1, r2⟩ := hrun.bind_inv
  obtain ⟨rfl, v, k3, hx⟩ := srcOne_sound r1 h3.mem h3.slots
  obtain ⟨gh', k1, k2, hv⟩ := giveH_sound r2 h3.mem hx
  have kr : (results fn a'.tmps).run P w' = .ok v w' := results_eq (vs := [v]) fn a'.tmps w' (by rw [hrv]; simp [k3])
  have hk := h4.trans k2
  let gh3 : Gh := { ρ := fun b => match gh'.ρ b with | .loc n => (match n.dn with | some k => .loc k | none => .imm) | x => x, κ := fun n => gh'.κ n.up, γ := gh'.γ }
  have hi3 : ∀ b, gh'.imm b → gh3.imm b := fun b hb => by
    have hb : gh'.ρ b = .imm := hb
    simp only [Gh.imm, gh3, hb]
  have hR3 : ∀ a v, R gh' w' a v → R gh3 w' a v := fun a v h => h.mono' (fun b hb => ⟨hi3 b hb, rfl⟩) (fun _ _ h => h)
  have hM3 : MemRel gh3 w' m' := by
    refine ⟨fun b hb => k1.alloc b fun e => hb ?_, fun n => ?_, by rw [← hG2]; exact k1.glen, fun id b cells h1 h2 => ?_⟩
    · simp only [gh3, e]
    · have := k1.objs n.up
      rw [hup2] at this
      exact ObjRel.lower (fun _ => rfl) hup2 hi3 (fun b n hb => by simp only [gh3, hb, Nm.dn_up]) hR3 this
    · obtain ⟨e1, cs, ty, e2, e3, e4⟩ := k1.glob id b cells h1 (by rw [hG2]; exact h2)
      exact ⟨by simp only [gh3, e1], cs, ty, e2, e3, fun j x hx => let ⟨v, e5, e6, e7⟩ := e4 j x hx; ⟨v, e5, e6, hR3 _ _ e7⟩⟩
  have hK3 : Keeps gh w m gh3 w' m' := by
    refine ⟨⟨hk.ext.os, hk.ext.tape, hk.ext.output, hk.ext.size, fun b hb => ?_, fun b hb hf => ?_, hk.ext.γ⟩, fun n => ?_⟩
    · obtain ⟨e1, e2⟩ := hk.ext.imm b (hi b hb)
      exact ⟨hi3 b e1, e2⟩
    · obtain ⟨e1, e2⟩ := hk.ext.free b hb (by simp only [gh1, hf])
      exact ⟨by simp only [gh3, e1], e2⟩
    · have ht := hk.turned n.up
      simp only [hu.up, hup2] at ht
      unfold Turned at ht ⊢
      simp only [upO, Obj.up_like, Obj.up_solid, ne_eq, Obj.up_dead, hκ] at ht
      exact ht
  rcases h1 with rfl | rfl
  · exact ⟨h3.defers, v, kr, v, rfl, gh3, hK3, hM3, LVRel.lower (fun _ => rfl) hup2 hR3 r v hv⟩
  · exact ⟨h3.defers, v, kr, v, rfl, gh3, hK3, hM3, LVRel.lower (fun _ => rfl) hup2 hR3 r v hv⟩
end
theorem hleaves_mwp {P : Program} {C : Contract} {fn : Func} {d : Nat} {r : LV} {m' : Mem} {n : Nat} {s : Nat → LV} {m : Mem} {x : ResultVar} (hr : fn.results = #[x])
    (h : Mwp C ((srcOne P s x).bind (giveH d)) m {} fun y m2 _ => y = r.up ∧ m2.G = m'.G ∧ ∀ n : Nm, m2.objs n.up = upO (m'.objs n)) : HLeaves P C fn d r m' ⟨n, s, m⟩ := by
  obtain ⟨y, m2, fp, hrun, _, ⟨h1, h2, h3⟩, _⟩ := run_of_mwp (C := C) _ m {} _ h
  subst h1
  refine ⟨_, fp, ?_, h2, h3⟩
  simp only [leaveH, hr]
  exact hrun
theorem hleaves_tmp1 {P : Program} {C : Contract} {fn : Func} {d : Nat} {r : AV} {m' : Mem} {n : Nat} {s : Nat → LV} {m : Mem} (t : Nat) (hr : fn.results = #[.tmp t]) (hs : s t = .v r) (hG : m.G = m'.G) (hn : ∀ n : Nm, m.objs n.up = upO (m'.objs n)) : HLeaves P C fn d (.v r) m' ⟨n, s, m⟩ :=
  hleaves_mwp hr (by simp only [srcOne, hs, opn, M.bind, giveH, Mwp, LV.up]; exact ⟨trivial, hG, hn⟩)
theorem AW.cellOut {P : Program} {c : Code} {nt : Nat} {sl : Nat → LV} {m : Mem} {Q : Exit → St → Prop} (t j T : Nat) {g gc hi sz : Nat} {nil : Bool} {xs : List AV} {cells : List LV} (hx : m.objs (.tmp t 0) = (g, .box cells)) (hj : cells[j]? = some (.own (.cell t j) gc 0 hi)) (hc : m.objs (.cell t j) = (gc, .arr nil sz xs)) (hT : T ≠ t)
    (h : AW P c ⟨nt, sl, ((m.set (.tmp T j) ((m.objs (.tmp T j)).1 + 1, .arr nil sz xs)).set (.cell t j) (gc + 1, .dead)).set (.tmp t 0) (g, .box (cells.set j (.own (.tmp T j) ((m.objs (.tmp T j)).1 + 1) 0 hi)))⟩ Q) : AW P c ⟨nt, sl, m⟩ Q := fun gh a w hs => by
  obtain ⟨a1, m2, fp0, hr, _, ⟨ea, em⟩, _⟩ := run_of_mwp (C := Good P) (rehome (.cell t j) gc 0 hi (.tmp T j)) m {} (fun a m' _ => a = .own (.tmp T j) ((m.objs (.tmp T j)).1 + 1) 0 hi ∧ m' = (m.set (.tmp T j) ((m.objs (.tmp T j)).1 + 1, .arr nil sz xs)).set (.cell t j) (gc + 1, .dead)) (by
    simp [rehome, Mwp, hc])
  subst ea em
  obtain ⟨gh', k1, k2, k3⟩ := rehome_sound (by simp) hr hs.mem
  generalize hm1 : (m.set (.tmp T j) ((m.objs (.tmp T j)).1 + 1, .arr nil sz xs)).set (.cell t j) (gc + 1, .dead) = m1 at *
  have hx1 : m1.objs (.tmp t 0) = (g, .box cells) := by
    rw [← hm1, Mem.set_ne _ _ (by simp), Mem.set_ne _ _ (by simp [Ne.symm hT]), hx]
  have hk : Keeps gh' w m1 gh' w (m1.set (.tmp t 0) (g, .box (cells.set j (.own (.tmp T j) ((m.objs (.tmp T j)).1 + 1) 0 hi)))) := ⟨Ext.refl _ _, fun k => by
    by_cases e : k = .tmp t 0
    · subst e
      rw [Mem.set_same, hx1]
      exact .inr ⟨rfl, by simp [Obj.like], fun _ => ⟨rfl, fun _ _ h => h⟩⟩
    · rw [Mem.set_ne _ _ e]; exact Turned.refl _ _⟩
  have hO := k1.objs (.tmp t 0)
  rw [hx1] at hO
  have hO0 := hs.mem.objs (.tmp t 0)
  rw [hx] at hO0
  obtain ⟨hρ0, cs0, ty0, hb0, hsz0, hc0⟩ := hO0
  obtain ⟨hρ, cs, ty, hb, hsz, hcc⟩ := hO
  have same : cs0 = cs := by
    have hk0 := k2.turned (.tmp t 0)
    rw [hx, hx1] at hk0
    rcases hk0 with hk0 | ⟨_, _, hk0⟩
    · exact absurd hk0 (Nat.lt_irrefl _)
    · have e := (hk0 (by simp)).1
      rw [e] at hb
      rw [hb0] at hb
      simp only [Option.some.injEq, Go.Obj.cells.injEq] at hb
      exact hb.1
  have hm := k1.step hk (· = .tmp t 0) k1.alloc (fun k e => by
    subst e
    rw [Mem.set_same]
    refine ⟨hρ, cs, ty, hb, by simpa using hsz, fun i x hx => ?_⟩
    rw [List.getElem?_set] at hx
    split at hx
    · rename_i e
      subst e
      split at hx
      · simp only [Option.some.injEq] at hx
        subst hx
        obtain ⟨v, e1, e2, e3⟩ := hc0 _ _ hj
        rw [same] at e1
        exact ⟨v, e1, e2, hk.lv (k3 v e3)⟩
      · cases hx
    · obtain ⟨v, e1, e2, e3⟩ := hcc i x hx
      exact ⟨v, e1, e2, hk.lv e3⟩) (fun k e => ⟨Mem.set_ne _ _ e, rfl, fun h => ⟨h, rfl⟩⟩) rfl rfl (fun _ _ _ h => ⟨h, rfl⟩)
  have hk2 := k2.trans hk
  exact wp_mono (h gh' a w ⟨hs.n, hs.defers, fun t => hk2.lv (hs.slots t), hm⟩) fun e _ _ ⟨σ', gh'', q, s, x⟩ => ⟨σ', gh'', q, s, hk2.trans x⟩
theorem nilCheckL_lptr {n : Nm} {g o : Nat} : nilCheckL (.lptr n g o) = aFieldAddr 0 (.lptr n g o) := rfl
theorem sy {p q : Prop} (x : p) (h : p → q := by (intro hK; simp only [go_sem, F, nilCheckL_lptr]; rw [mwp_nilCheck_b (by simp (disch := first | omega | decide) only [go_sem, F]; rfl)]; (first | exact hK _ | exact hK))) : q := h x
theorem ssw {p q : Prop} (x : p) (h : p → q := by (intro hK; simp (disch := first | omega | decide) only [go_sem, F, opn_cond, hc, aIndex_map]; rw [mwp_store_c (by simp (disch := first | omega | decide) only [go_sem, F, opn_cond, hc, aIndex_map]; rfl) (by rfl) (by rfl) (by rfl) (by simp)]; (try simp only [go_sem, cellsL]); (try simp only [setAt, cellsL, cellsOf_agg, cellsOf_base, List.map_cons, List.map_nil, List.set_cons_zero, List.set_cons_succ, Nat.reduceAdd, Nat.zero_add, hG]); (first | exact hK _ | exact hK))) : q := h x
section
variable {P : Program} {cfg : Cfg} {ops : Array Oper} {n : Nat} {f : Nat → LV} {m : Mem} {Q : St → Prop} {rs : List Oper}
theorem hst {d fi : Nat} {args : Array Operand} {ats : Array TypeId} {ty : TypeId} {pos : String} {aft : Array Edge} {g : Option (Nat × Bool)} {r : LV} {m' : Mem} {as : List LV}
    (h : HGood P fi as m r m') (ha : args.toList.map (fun x => opn (St.raw ⟨n, f, m⟩ x)) = as) (k : AOpsL P (Good P) cfg ops rs ⟨n, upd f d r, m'⟩ Q)
    (hd : d < n := by decide) (hw : wantO ops ⟨n, f, m⟩ ⟨some d, .call ⟨.value (.func fi), args, ats⟩, ty, pos, aft, g⟩ = some true := by rfl) : AOpsL P (Good P) cfg ops (⟨some d, .call ⟨.value (.func fi), args, ats⟩, ty, pos, aft, g⟩ :: rs) ⟨n, f, m⟩ Q :=
  ⟨_, _, _, by simpa [dstOK] using hd, .heap hw (hstep_call (by rw [ha]; exact h)), k⟩
theorem dhst {d fi i : Nat} {acc : List (Nat × Fp)} {args : Array Operand} {ats : Array TypeId} {ty : TypeId} {pos : String} {aft : Array Edge} {g : Option (Nat × Bool)} {r : LV} {m' : Mem} {as : List LV}
    (h : HGood P fi as m r m') (ha : args.toList.map (fun x => opn (St.raw ⟨n, f, m⟩ x)) = as) (k : ADrawL P (Good P) cfg ops rs (i + 1) ⟨n, upd f d r, m'⟩ ((i, { h := true }) :: acc) Q)
    (hw : wantO ops ⟨n, f, m⟩ ⟨some d, .call ⟨.value (.func fi), args, ats⟩, ty, pos, aft, g⟩ = some true := by rfl) : ADrawL P (Good P) cfg ops (⟨some d, .call ⟨.value (.func fi), args, ats⟩, ty, pos, aft, g⟩ :: rs) i ⟨n, f, m⟩ acc Q :=
  ⟨_, _, _, _, .heap hw (hstep_call (by rw [ha]; exact h)), ⟨fun _ h => h, fun _ h => h, fun h => h, fun h => h, fun h => h⟩, k⟩
end
end Go.Vai
namespace Go.Vai
end Go.Vai
