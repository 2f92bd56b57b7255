import Derived.Test.YtencjgkeflibdaaGreatVaiE
import Derived.Shelf.SlIterI.Nil
import Derived.Shelf.SortM.Plain
import Derived.Shelf.SortM.SortNone
import Derived.Shelf.SlMaps.Copy
set_option linter.unusedSimpArgs false
set_option linter.unusedVariables false
set_option linter.constructorNameAsVariable false
set_option linter.unusedVariables false
set_option linter.unusedSimpArgs false
namespace Go.Vai
open Go.Maps Go.WideShapes Go.MapKept Go.Shelf Go.Proofs
open Go.WideElems (Fit rd rg rd_key rd_val rg_of)
def holdV (v : Value) : Option (DataW Value × List MemPlace) := some (.held v, [])
def Small (f : Int → Option AV) : Prop := ∀ k, (f k).isSome = true → 0 ≤ k ∧ k < 2000
theorem nodup_le : ∀ (n : Nat) (l : List Nat), l.Nodup → (∀ x ∈ l, x < n) → l.length ≤ n
  | 0, [], _, _ => Nat.le_refl _
  | 0, x :: l, _, h => absurd (h x (by simp)) (by omega)
  | n + 1, l, hn, h => by
    by_cases hm : n ∈ l
    · have h2 := nodup_le n (l.erase n) (hn.erase n) fun x hx => by
        have h3 := (List.Nodup.mem_erase_iff hn).1 hx
        have h4 := h x h3.2
        have h5 := h3.1
        omega
      have h6 := List.length_erase_of_mem hm
      have h7 := List.length_pos_of_mem hm
      omega
    · exact Nat.le_succ_of_le (nodup_le n l hn fun x hx => by
        have h4 := h x hx
        have h5 : x ≠ n := fun e => hm (e ▸ hx)
        omega)
theorem small_size {T : AV → Value → Prop} {es : Array MapEntry} {clock : Nat} {f : Int → Option AV} (hO : MapOK es clock) (hH : MapHas T es f) (hs : Small f) : es.size ≤ 2000 ∧ ∀ e ∈ es.toList, ∃ k : Int, e.key = .int .i64 k ∧ 0 ≤ k ∧ k < 2000 := by
  have h1 : ∀ e ∈ es.toList, ∃ k : Int, e.key = .int .i64 k ∧ 0 ≤ k ∧ k < 2000 := by
    intro e he
    obtain ⟨k, hk⟩ := hO.int e he
    refine ⟨k, hk, hs k ?_⟩
    have := hH k
    revert this
    cases hf : f k with
    | none => exact fun h => absurd hk (h e he)
    | some a => exact fun _ => rfl
  refine ⟨?_, h1⟩
  have hn : (es.toList.map fun e => match e.key with | .int _ k => k.toNat | _ => 0).Nodup := by
    refine List.pairwise_map.2 (hO.keys.imp_of_mem fun {x y} hx hy hne e => hne ?_)
    obtain ⟨a, ha, a1, a2⟩ := h1 x hx
    obtain ⟨b, hb, b1, b2⟩ := h1 y hy
    rw [ha, hb] at e ⊢
    simp only at e
    rw [show a = b by omega]
  have := nodup_le 2000 _ hn fun n hn => by
    obtain ⟨e, he, rfl⟩ := List.mem_map.1 hn
    obtain ⟨a, ha, a1, a2⟩ := h1 e he
    rw [ha]
    simp only; omega
  simpa using this
theorem wf_small {n : Int} (h1 : 0 ≤ n) (h2 : n < 2000) : (Lit.int .i64 n).wf = true := by
  simp [Lit.wf, IntKind.min, IntKind.max, IntKind.signed, IntKind.bits]; omega
theorem rg_int {P : Program} {k : TypeId} (hk : P.underlying k = some (.int .i64)) {e : MapEntry} {n : Int} (he : e.key = .int .i64 n) (hw : (Lit.int .i64 n).wf = true) : rd P k holdV e = some (.int .i64 n, .held e.val) := by
  simp [rd, he, keyOf_int_mk hk hw, holdV]
theorem owns_of {gh : Gh} {w : World} {P : Program} {k : TypeId} {b : Nat} {f : Int → Option AV} (hk : P.underlying k = some (.int .i64)) (h : MapRel gh w b f) (hs : Small f) :
    ∃ D, w.ownsMap P k holdV b 2000 D ∧ (∀ i : Int, has D (.int .i64 i) = (f i).isSome) ∧ ∀ i a, f i = some a → ∃ v, R gh w a v ∧ ∀ z, D.atKey (.int .i64 i) z = .held v := by
  obtain ⟨es, clock, hb, hO, hH⟩ := h
  obtain ⟨h1, h2⟩ := small_size hO hH hs
  have hrd : ∀ e ∈ es.toList, ∃ n : Int, e.key = .int .i64 n ∧ rd P k holdV e = some (.int .i64 n, .held e.val) := fun e he => by
    obtain ⟨n, q1, q2, q3⟩ := h2 e he
    exact ⟨n, q1, rg_int hk q1 (wf_small q2 q3)⟩
  have F : Fit P k holdV es clock := ⟨by unfold maxLen; omega, (stamped_iff _ _).2 ⟨hO.born, List.pairwise_map.2 hO.once, hO.keys⟩, fun e he => by
    obtain ⟨n, _, q⟩ := hrd e he; exact ⟨_, q⟩⟩
  have K : Keyed P k := int_keyed hk
  refine ⟨_, ⟨es, clock, hb, F, h1, rfl⟩, fun i => ?_, fun i a hf => ?_⟩
  · have hHi := hH i
    rw [has_eq]
    cases hf : f i with
    | none =>
      rw [hf] at hHi
      refine List.any_eq_false.2 fun p hp => ?_
      obtain ⟨e, he, rfl⟩ := List.mem_map.1 (mem_sorted.1 hp)
      obtain ⟨n, q1, q2⟩ := hrd e he
      rw [rg_of q2]
      have : n ≠ i := fun e2 => hHi e he (by rw [q1, e2])
      simp [Lit.sameKey, this]
    | some a =>
      rw [hf] at hHi
      obtain ⟨e, he, hk2, _⟩ := hHi
      obtain ⟨n, q1, q2⟩ := hrd e he
      obtain rfl : n = i := by rw [hk2] at q1; simpa using q1.symm
      refine List.any_eq_true.2 ⟨rg P k holdV e, mem_sorted.2 (List.mem_map.2 ⟨e, he, rfl⟩), ?_⟩
      rw [rg_of q2]; simp [Lit.sameKey]
  · have hHi := hH i
    rw [hf] at hHi
    obtain ⟨e, he, hk2, hr⟩ := hHi
    obtain ⟨n, q1, q2⟩ := hrd e he
    obtain rfl : n = i := by rw [hk2] at q1; simpa using q1.symm
    refine ⟨e.val, hr, fun z => ?_⟩
    rw [(atKey_sorted (es.toList.map (rg P k holdV)) (fit_rising K F) (.int .i64 n) trivial).2 (rg P k holdV e) (List.mem_map.2 ⟨e, he, rfl⟩) (by rw [rg_of q2]), rg_of q2]
theorem map_of {gh : Gh} {w : World} {P : Program} {k : TypeId} {b n : Nat} {D : DataW Value} {f : Int → Option AV} (hk : P.underlying k = some (.int .i64)) (h : w.ownsMap P k holdV b n D)
    (hf : ∀ i : Int, match f i with | none => has D (.int .i64 i) = false | some a => ∃ v, R gh w a v ∧ has D (.int .i64 i) = true ∧ ∀ z, D.atKey (.int .i64 i) z = .held v) : MapRel gh w b f := by
  obtain ⟨es, clock, hb, F, _, rfl⟩ := h
  have K : Keyed P k := int_keyed hk
  obtain ⟨s1, s2, s3⟩ := (stamped_iff _ _).1 F.stamped
  have hrd : ∀ e ∈ es.toList, ∃ n : Int, e.key = .int .i64 n ∧ rd P k holdV e = some (.int .i64 n, .held e.val) := fun e he => by
    obtain ⟨y, hy⟩ := F.reads e he
    obtain ⟨x, q1, q2, q3⟩ := Maps.keyOf_i64 hk (rd_key hy)
    exact ⟨x, q1, rg_int hk q1 q3⟩
  refine ⟨es, clock, hb, ⟨fun e he => let ⟨n, q1, _⟩ := hrd e he; ⟨n, q1⟩, s3, s1, List.pairwise_map.1 s2⟩, fun i => ?_⟩
  have hfi := hf i
  revert hfi
  cases f i with
  | none =>
    intro hfi e he hk2
    obtain ⟨n, q1, q2⟩ := hrd e he
    obtain rfl : n = i := by rw [hk2] at q1; simpa using q1.symm
    rw [has_eq] at hfi
    have := List.any_eq_false.1 hfi (rg P k holdV e) (mem_sorted.2 (List.mem_map.2 ⟨e, he, rfl⟩))
    rw [rg_of q2] at this
    simp [Lit.sameKey] at this
  | some a =>
    intro ⟨v, hr, hh, hat⟩
    rw [has_eq] at hh
    obtain ⟨p, hp, hs⟩ := List.any_eq_true.1 hh
    obtain ⟨e, he, rfl⟩ := List.mem_map.1 (mem_sorted.1 hp)
    obtain ⟨n, q1, q2⟩ := hrd e he
    rw [rg_of q2] at hs
    obtain rfl : n = i := by simpa [Lit.sameKey] using hs
    refine ⟨e, he, q1, ?_⟩
    have h3 := hat .nil
    rw [(atKey_sorted (es.toList.map (rg P k holdV)) (fit_rising K F) (.int .i64 n) trivial).2 (rg P k holdV e) (List.mem_map.2 ⟨e, he, rfl⟩) (by rw [rg_of q2]), rg_of q2] at h3
    have h4 : e.val = v := by simpa using h3
    rw [h4]; exact hr
theorem has_merge {P : Program} {k : TypeId} {w w2 : World} {b b2 n n2 : Nat} {Dd Ds : DataW Value} (hk : P.underlying k = some (.int .i64)) (h1 : w.ownsMap P k holdV b n Dd) (h2 : w2.ownsMap P k holdV b2 n2 Ds) (l : Lit) :
    has (Go.Lib.mergeD Dd Ds) l = (has Dd l || has Ds l) ∧ ∀ z, (Go.Lib.mergeD Dd Ds).atKey l z = if has Ds l = true then Ds.atKey l z else Dd.atKey l z := by
  have K : Keyed P k := int_keyed hk
  have hmD : IsMap Dd := h1.isMap
  obtain ⟨ess, rfl, rs, ks⟩ := h2.canonK K
  have klit : ∀ p ∈ ess, WideAt.IsKeyLit p.1 := fun p hp => K.one.key (ks p hp)
  constructor
  · show has (ess.foldl (fun D p => D.put p.1 p.2) Dd) l = _
    rw [has_foldPut l ess Dd hmD klit, has_eq]
  · intro z
    show (ess.foldl (fun D p => D.put p.1 p.2) Dd).atKey l z = _
    rw [atKey_foldPut l z ess Dd hmD klit (apart_of_rising rs)]
    cases hf : ess.find? (fun p => p.1.sameKey l) with
    | none =>
      have h0 : has (.map ess) l = false := by
        rw [has_eq]
        exact List.any_eq_false.2 (fun p hp => by simpa using List.find?_eq_none.1 hf p hp)
      simp [h0]
    | some p =>
      have h1 : has (.map ess) l = true := by
        rw [has_eq]
        exact List.any_eq_true.2 ⟨p, List.mem_of_find?_eq_some hf, List.find?_some (p := fun (q : Lit × DataW Value) => q.1.sameKey l) hf⟩
      have h2 : (DataW.map ess).atKey l z = p.2 := by simp only [DataW.atKey, hf]
      simp [h1, h2]
theorem gm_val {gh : Gh} {w : World} {i : Nat} {v : Value} (h : R gh w (.gm i) v) : ∃ b, v = .map (some b) ∧ gh.γ[i]? = some b := by
  cases h with | gm id b h => exact ⟨b, rfl, h⟩
theorem gp_val {gh : Gh} {w : World} {i o : Nat} {v : Value} (h : R gh w (.gp i o) v) : ∃ b, v = .pointer (some ⟨b, o, none⟩) ∧ gh.γ[i]? = some b := by
  cases h with | gp id off b h => exact ⟨b, rfl, h⟩
theorem g_map {gh : Gh} {w : World} {G : List (List AV)} {i b : Nat} {f : Int → Option AV} (hg : GMem gh w G) (hb : gh.γ[i]? = some b) (hG : G[i]? = some [.mp f]) : gh.ρ b = .glob i ∧ MapRel gh w b f :=
  ⟨(hg.glob i b _ hb hG).1, map_block (m := bare G) hg hb hG⟩
theorem ext_grown {gh : Gh} {w w' : World} {G : List (List AV)} {i b : Nat} (hρ : gh.ρ b = .glob i) (h : w.grownBy w' (some b)) (ha : ∀ b, gh.ρ b ≠ .free → b < w.heap.size) : Ext gh w gh w' := by
  refine ⟨h.os, h.tape, h.output, h.size, fun c hc => ⟨hc, ?_⟩, fun c hl hc => ⟨hc, ?_⟩, fun _ _ h => h⟩
  · have h1 : gh.ρ c = .imm := hc
    refine h.block c (ha c (by rw [h1]; decide)) fun e => ?_
    have e := Option.some.inj e
    rw [e, hρ] at h1; cases h1
  · refine h.block c hl fun e => ?_
    have e := Option.some.inj e
    rw [e, hρ] at hc; cases hc
theorem good_mcopy {P : Program} {ρ : Ren} (L : SlLaysX.n5 P ρ) (hk : P.underlying (ρ.t 26) = some (.int .i64)) {G : List (List AV)} {i1 i2 : Nat} {f1 f2 : Int → Option AV} (hne : i1 ≠ i2)
    (h1 : G[i1]? = some [.mp f1]) (h2 : G[i2]? = some [.mp f2]) (s1 : Small f1) (s2 : Small f2) : Good P (ρ.f 5) [(.gm i1, false), (.gm i2, false)] G [] (G.set i1 [.mp fun k => if (f2 k).isSome then f2 k else f1 k]) := by
  refine ⟨by obtain ⟨nm, q1, q2⟩ := L.f5; exact ⟨_, _, q2, q1, rfl⟩, fun gh w vs hg ha => ?_⟩
  obtain ⟨a1, a2⟩ := ha
  obtain ⟨v1, v2, rfl⟩ : ∃ v1 v2, vs = #[v1, v2] := by
    match vs, a1 with
    | ⟨[v1, v2]⟩, _ => exact ⟨v1, v2, rfl⟩
  have r1 : R gh w (.gm i1) v1 := by simpa [CompRel] using a2 0 _ v1 rfl rfl
  have r2 : R gh w (.gm i2) v2 := by simpa [CompRel] using a2 1 _ v2 rfl rfl
  obtain ⟨b1, rfl, g1⟩ := gm_val r1
  obtain ⟨b2, rfl, g2⟩ := gm_val r2
  obtain ⟨p1, m1⟩ := g_map hg g1 h1
  obtain ⟨p2, m2⟩ := g_map hg g2 h2
  have hbne : b1 ≠ b2 := fun e => hne (by rw [e, p2] at p1; simpa using p1.symm)
  obtain ⟨D1, o1, q1, t1⟩ := owns_of hk m1 s1
  obtain ⟨D2, o2, q2, t2⟩ := owns_of hk m2 s2
  have hsz := o2.size_le
  refine (AnyX.maps_Copy L (int_keyed hk) holdV b1 b2 2000 2000 D1 D2 w o1 o2 hbne (by unfold maxLen; omega)).mono ?_
  rintro e w' ⟨rfl, k1, k2, k3⟩
  have hx : Ext gh w gh w' := ext_grown (G := G) p1 k3 hg.alloc
  refine ⟨_, gh, rfl, hx, ⟨fun b hb => Nat.lt_of_lt_of_le (hg.alloc b hb) k3.size, fun n => trivial, by simpa [bare] using hg.glen, fun id b cells hγ hG => ?_⟩, #[], rfl, rfl, fun j x u hx => by simp at hx⟩
  by_cases e : id = i1
  · subst e
    obtain rfl : b = b1 := Option.some.inj (hγ.symm.trans g1)
    have l1 := (List.getElem?_eq_some_iff.1 h1).1
    have hc : cells = [.mp fun k => if (f2 k).isSome then f2 k else f1 k] := by
      simp only [bare] at hG
      rw [List.getElem?_set_self l1] at hG
      exact (Option.some.inj hG).symm
    subst hc
    refine ⟨p1, .inr ⟨_, rfl, map_of hk k1 fun i => ?_⟩⟩
    obtain ⟨c1, c2⟩ := has_merge hk o1 o2 (.int .i64 i)
    cases e2 : f2 i with
    | some a =>
      obtain ⟨v, hr, hat⟩ := t2 i a e2
      have hh : has D2 (.int .i64 i) = true := by rw [q2, e2]; rfl
      simp only [Option.isSome_some, if_true]
      exact ⟨v, hr.mono hx, by rw [c1, hh, Bool.or_true], fun z => by rw [c2, if_pos hh, hat]⟩
    | none =>
      have hh : has D2 (.int .i64 i) = false := by rw [q2, e2]; rfl
      simp only [Option.isSome_none, Bool.false_eq_true, if_false]
      cases e1 : f1 i with
      | none => simp only; rw [c1, hh, q1, e1]; rfl
      | some a =>
        obtain ⟨v, hr, hat⟩ := t1 i a e1
        simp only
        exact ⟨v, hr.mono hx, by rw [c1, q1, e1]; rfl, fun z => by rw [c2, if_neg (by rw [hh]; decide), hat]⟩
  · simp only [bare] at hG
    rw [List.getElem?_set_ne (Ne.symm e)] at hG
    obtain ⟨w1, w2⟩ := hg.glob id b cells hγ hG
    refine ⟨w1, w2.mono (k3.block b (hg.alloc b (by rw [w1]; simp)) fun e3 => ?_) fun _ _ h => h.mono hx⟩
    obtain rfl := Option.some.inj e3
    rw [p1] at w1; exact e (by simpa using w1.symm)
theorem own_keys {P : Program} {k : TypeId} {w : World} {b n : Nat} {D : DataW Value} {f : Int → Option AV} {L : List Int} (hk : P.underlying k = some (.int .i64)) (h : w.ownsMap P k holdV b n D)
    (hf : ∀ i : Int, has D (.int .i64 i) = (f i).isSome) (hL : L.Pairwise (· < ·)) (hm : ∀ i, i ∈ L ↔ (f i).isSome = true) : L.Perm (intKeys D) := by
  have K : Keyed P k := int_keyed hk
  obtain ⟨es, rfl, h1, _⟩ := h.entries K
  obtain ⟨es', e, _, h3⟩ := h.canonK K
  have e := DataW.map.inj e
  subst e
  refine perm_intKeys h1 (fun p hp => ?_) (hL.imp fun h => Int.ne_of_lt h) fun i => by rw [hm, hf]
  obtain ⟨v, hv⟩ := h3 p hp
  obtain ⟨x, _, hx, _⟩ := Maps.keyOf_i64 hk hv
  exact ⟨x, hx⟩
theorem sorted_row {gh : Gh} {w w' : World} {G : List (List AV)} {tE : TypeId} {K : List Int} {L ss : List Int} {v : Value} (hg : GMem gh w G) (hL : L.Pairwise (· < ·)) (hp : L.Perm K) (hS : ss.Perm K)
    (hrow : w'.ownsRow w.heap.size tE 1 v ss.length ((ss.mergeSort fun x y => decide (x ≤ y)).map encZ)) (hnil : v = .slice none 0 0 ↔ ss = []) (hb : Go.RowKit.Below w.heap.size w w') :
    ∃ gh', Ext gh w gh' w' ∧ GMem gh' w' G ∧ R gh' w' (.sl 1 L.isEmpty (L.map fun n => AV.i .i64 n)) v := by
  have hss : ss.mergeSort leI = L := by
    rw [mergeSort_of_perm_i (hS.trans hp.symm)]
    exact List.mergeSort_of_pairwise (hL.imp fun h => by simp only [leI, decide_eq_true_eq]; omega)
  have hlen : ss.length = L.length := (hS.trans hp.symm).length_eq
  change w'.ownsRow w.heap.size tE 1 v ss.length ((ss.mergeSort leI).map encZ) at hrow
  rw [hss, hlen] at hrow
  rcases hrow.2 with ⟨rfl, hz⟩ | ⟨gb, cap, cur, rfl, hbase, hgb, r1, r2, r3, r4⟩
  · have hl : L = [] := List.eq_nil_of_length_eq_zero hz
    subst hl
    have hx : Ext gh w gh w' := ⟨hb.os, hb.tape, hb.output, hb.size, fun c hc => ⟨hc, hb.block c (hg.alloc c (by have h1 : gh.ρ c = .imm := hc; rw [h1]; decide))⟩, fun c hl hc => ⟨hc, hb.block c hl⟩, fun _ _ h => h⟩
    exact ⟨gh, hx, ⟨fun b hb' => Nat.lt_of_lt_of_le (hg.alloc b hb') hb.size, fun n => trivial, hg.glen, fun id b cells h1 h2 => let ⟨w1, w2⟩ := hg.glob id b cells h1 h2; ⟨w1, w2.mono (hb.block b (hg.alloc b (by rw [w1]; simp))) fun _ _ h => h.mono hx⟩⟩, .nilsl 1⟩
  · have hle : L ≠ [] := fun e => by
      have h1 : ss = [] := List.eq_nil_of_length_eq_zero (by rw [hlen, e]; rfl)
      have := hnil.2 h1
      simp at this
    have hie : L.isEmpty = false := by cases L with | nil => exact absurd rfl hle | cons _ _ => rfl
    have hgl : gb < w'.heap.size := (Array.getElem?_eq_some_iff.1 hgb).1
    have hfree : gh.ρ gb = .free := by
      cases h : gh.ρ gb with
      | free => rfl
      | _ => exact absurd (hg.alloc gb (by rw [h]; simp)) (by omega)
    let gh' : Gh := { gh with ρ := fun b => if b = gb then .imm else gh.ρ b }
    have hne : ∀ c, c < w.heap.size → c ≠ gb := fun c hc e => by omega
    have hρ : ∀ c, c < w.heap.size → gh'.ρ c = gh.ρ c := fun c hc => if_neg (hne c hc)
    have hx : Ext gh w gh' w' := ⟨hb.os, hb.tape, hb.output, hb.size, fun c hc => by
        have h1 : gh.ρ c = .imm := hc
        have h2 := hg.alloc c (by rw [h1]; decide)
        exact ⟨(hρ c h2).trans h1, hb.block c h2⟩, fun c hl hc => ⟨(hρ c hl).trans hc, hb.block c hl⟩, fun _ _ h => h⟩
    refine ⟨gh', hx, ⟨fun b hb' => ?_, fun n => trivial, hg.glen, fun id b cells h1 h2 => ?_⟩, ?_⟩
    · by_cases e : b = gb
      · rw [e]; exact hgl
      · have h1 : gh'.ρ b = gh.ρ b := if_neg e
        rw [h1] at hb'
        exact Nat.lt_of_lt_of_le (hg.alloc b hb') hb.size
    · obtain ⟨w1, w2⟩ := hg.glob id b cells h1 h2
      have h3 := hg.alloc b (by rw [w1]; simp)
      exact ⟨(hρ b h3).trans w1, w2.mono (hb.block b h3) fun _ _ h => h.mono hx⟩
    · rw [hie]
      have hl2 : (L.map fun n => AV.i .i64 n).length = L.length := List.length_map _
      rw [← hl2]
      have hcell : ∀ i (hi : i < L.length), w'.cell? ⟨gb, i, none⟩ = some (.int .i64 L[i]) := fun i hi => by
        have h5 : (cur.toList.take (L.length * 1))[i]? = some (encZ L[i]) := by rw [r4]; simp [hi]
        rw [List.getElem?_take_of_lt (by omega)] at h5
        simp only [World.cell?, hgb]
        simpa using h5
      refine .sl 1 _ ⟨gb, 0, none⟩ cap (fun i _ => .int .i64 (L.getD i 0)) (fun _ => if_pos rfl) (by omega) (fun i h => by simp [cellsOf]) (fun i j h1 h2 => ?_) (fun i j h1 h2 => rfl) (fun i j h1 h2 => ?_)
      · obtain rfl : j = 0 := by omega
        rw [hl2] at h1
        rw [add_off, show 0 + (i * 1 + 0) = i by omega, hcell i h1]
        simp [List.getD_eq_getElem?_getD, h1]
      · rw [hl2] at h1
        have hj : j = 0 := by simp [cellsOf] at h2; exact h2
        subst hj
        simp only [List.getElem_map, cellsOf, List.getElem_cons_zero, List.getD_eq_getElem?_getD, List.getElem?_eq_getElem h1, Option.getD_some]
        exact .base _
end Go.Vai
namespace Go.Vai
def cpyS (b o : List (BitVec 8)) : List (BitVec 8) := b.take o.length ++ o.drop b.length
@[simp] theorem cpyS_len (b o : List (BitVec 8)) : (cpyS b o).length = o.length := by simp [cpyS]; omega
section
variable {P : Program} {C : Contract} {m : Mem} {fp : Fp} {n : Nm} {gg : Nat}
def copyT (P : Program) (t xt : TypeId) (s x : LV) : M LV := match elOf P t with
    | some e => match tiOf P e with
      | some ti => match P.underlying xt with
        | some (.slice _) => (peek x).bind fun a => match a with | .sl sz _ ys => if sz = ti.sz ∨ ys.isEmpty = true then aCopy ti.sz ys s else .fail | _ => .fail
        | _ => .fail
      | none => .fail
    | none => .fail
theorem copy_q {t xt : TypeId} {dst : Option Tmp} {s x : LV} : builtinL P .copy #[t, xt] dst [s, x] = copyT P t xt s x := rfl
theorem mwp_copyB {t xt e hi : Nat} {ti : TI} {x : LV} {K : LV → Mem → Fp → Prop} {nl' : Bool} {fp1 : Fp} {o b : List (BitVec 8)}
    (he : elOf P t = some e) (hti : tiOf P e = some ti) (hxt : isSl P xt = true)
    (hpk : ∀ Q : AV → Mem → Fp → Prop, Q (.sl 1 nl' (bsl b)) m fp1 → Mwp C (peek x) m fp Q) (hs : ti.sz = 1)
    (ho : m.objs n = (gg, .arr false 1 (bsl o))) (hhi : hi = o.length)
    (k : K (.v (.i .i64 ((b.take o.length).length : Nat))) (m.set n (gg, .arr false 1 (bsl (cpyS b o)))) ((fp1.addN n).addW n)) :
    Mwp C (copyT P t xt (.own n gg 0 hi) x) m fp K := by
  obtain ⟨e', he'⟩ := isSl_ok hxt
  subst hhi
  simp only [copyT, he, hti, he', mwp_bind]
  refine hpk _ ?_
  show Mwp C (if 1 = ti.sz ∨ (bsl b).isEmpty = true then aCopy ti.sz (bsl b) (.own n gg 0 o.length) else .fail) m fp1 K
  rw [hs]
  simp only [true_or, if_true, aCopy, mwp_getO, ho]
  rw [if_pos ⟨trivial, Nat.zero_le _, by simp [bsl]⟩]
  have e1 : List.take 0 (bsl o) ++ List.take (o.length - 0) (bsl b) ++ List.drop (0 + (List.take (o.length - 0) (bsl b)).length) (bsl o) = bsl (cpyS b o) := by
    simp only [bsl, cpyS, List.take_zero, List.nil_append, Nat.sub_zero, Nat.zero_add, List.map_append, List.map_take, List.map_drop, List.length_take, List.length_map]
    congr 1
    rcases Nat.le_total b.length o.length with h | h
    · rw [Nat.min_eq_right h]
    · rw [Nat.min_eq_left h, List.drop_of_length_le (by simp), List.drop_of_length_le (by simp; omega)]
  have e2 : (List.take (o.length - 0) (bsl b)).length = (b.take o.length).length := by simp [bsl]
  simp only [mwp_setO, Mwp]
  rw [e1, e2]
  exact k
end
attribute [go_sem] copy_q
theorem scp {p q : Prop} (x : p) (h : p → q := by (intro hK; simp (disch := first | omega | decide) only [go_sem, F, opn_cond, hc, aIndex_map]; apply mwp_copyB; (simp only [go_sem]; rfl); (simp only [go_sem]; rfl); (simp only [go_sem]); (intro Q hQ; first | exact hQ | (rw [peek_own (by simp (disch := first | omega | decide) only [go_sem, F, opn_cond, hc, aIndex_map]; rfl)]; (try rw [sub_full (by first | rfl | (simp only [List.length_map, List.length_replicate]; done) | (simp; done) | (simp; omega))]); exact hQ) | (rw [peek_frz (by simp (disch := first | omega | decide) only [go_sem, F, opn_cond, hc, aIndex_map]; rfl)]; (try rw [sub_full (by first | rfl | (simp only [List.length_map, List.length_replicate]; done) | (simp; done) | (simp; omega))]); exact hQ)); rfl; (simp (disch := first | omega | decide) only [go_sem, F, opn_cond, hc, aIndex_map]; rfl); (focus first | rfl | (simp; done) | omega | (simp; omega)); (first | exact hK _ | exact hK))) : q := h x
theorem cgo {p q c : Prop} (h : c → p → q := by (intro gd hK; simp (disch := first | omega | decide) only [go_sem, F, opn_cond, hc, aIndex_map, act_call, List.map]; apply mwp_call_g rfl rfl rfl; (intro Q hQ; first | (simp only [go_sem, F, opn_cond, hc, aIndex_map, peekL, reifyL_nil, reifyL_cons, reify_v]; exact hQ) | (simp (disch := first | omega | decide) only [go_sem, F, opn_cond, hc, aIndex_map, peekL, reifyL_nil, reifyL_cons, reify_v]; (first | exact hQ | (((first | rw [peek_own (by simp (disch := first | omega | decide) only [go_sem, F, opn_cond, hc, aIndex_map, peekL, reifyL_nil, reifyL_cons, reify_v]; rfl)] | rw [mwp_reify_own (by simp (disch := first | omega | decide) only [go_sem, F, opn_cond, hc, aIndex_map, peekL, reifyL_nil, reifyL_cons, reify_v]; rfl)] | rw [peek_frz (by simp (disch := first | omega | decide) only [go_sem, F, opn_cond, hc, aIndex_map, peekL, reifyL_nil, reifyL_cons, reify_v]; rfl)] | rw [reify_frz (by simp (disch := first | omega | decide) only [go_sem, F, opn_cond, hc, aIndex_map, peekL, reifyL_nil, reifyL_cons, reify_v]; rfl)]); (try rw [sub_full (by first | rfl | (simp only [List.length_map, List.length_replicate]; done) | (simp; done) | (simp; omega))])); exact hQ) | (((first | rw [peek_own (by simp (disch := first | omega | decide) only [go_sem, F, opn_cond, hc, aIndex_map, peekL, reifyL_nil, reifyL_cons, reify_v]; rfl)] | rw [mwp_reify_own (by simp (disch := first | omega | decide) only [go_sem, F, opn_cond, hc, aIndex_map, peekL, reifyL_nil, reifyL_cons, reify_v]; rfl)] | rw [peek_frz (by simp (disch := first | omega | decide) only [go_sem, F, opn_cond, hc, aIndex_map, peekL, reifyL_nil, reifyL_cons, reify_v]; rfl)] | rw [reify_frz (by simp (disch := first | omega | decide) only [go_sem, F, opn_cond, hc, aIndex_map, peekL, reifyL_nil, reifyL_cons, reify_v]; rfl)]); (try rw [sub_full (by first | rfl | (simp only [List.length_map, List.length_replicate]; done) | (simp; done) | (simp; omega))])); (try simp (disch := first | omega | decide) only [go_sem, F, opn_cond, hc, aIndex_map, peekL, reifyL_nil, reifyL_cons, reify_v]); ((first | rw [peek_own (by simp (disch := first | omega | decide) only [go_sem, F, opn_cond, hc, aIndex_map, peekL, reifyL_nil, reifyL_cons, reify_v]; rfl)] | rw [mwp_reify_own (by simp (disch := first | omega | decide) only [go_sem, F, opn_cond, hc, aIndex_map, peekL, reifyL_nil, reifyL_cons, reify_v]; rfl)] | rw [peek_frz (by simp (disch := first | omega | decide) only [go_sem, F, opn_cond, hc, aIndex_map, peekL, reifyL_nil, reifyL_cons, reify_v]; rfl)] | rw [reify_frz (by simp (disch := first | omega | decide) only [go_sem, F, opn_cond, hc, aIndex_map, peekL, reifyL_nil, reifyL_cons, reify_v]; rfl)]); (try rw [sub_full (by first | rfl | (simp only [List.length_map, List.length_replicate]; done) | (simp; done) | (simp; omega))])); exact hQ) | (((first | rw [peek_own (by simp (disch := first | omega | decide) only [go_sem, F, opn_cond, hc, aIndex_map, peekL, reifyL_nil, reifyL_cons, reify_v]; rfl)] | rw [mwp_reify_own (by simp (disch := first | omega | decide) only [go_sem, F, opn_cond, hc, aIndex_map, peekL, reifyL_nil, reifyL_cons, reify_v]; rfl)] | rw [peek_frz (by simp (disch := first | omega | decide) only [go_sem, F, opn_cond, hc, aIndex_map, peekL, reifyL_nil, reifyL_cons, reify_v]; rfl)] | rw [reify_frz (by simp (disch := first | omega | decide) only [go_sem, F, opn_cond, hc, aIndex_map, peekL, reifyL_nil, reifyL_cons, reify_v]; rfl)]); (try rw [sub_full (by first | rfl | (simp only [List.length_map, List.length_replicate]; done) | (simp; done) | (simp; omega))])); simp (disch := first | omega | decide) only [go_sem, F, opn_cond, hc, aIndex_map, peekL, reifyL_nil, reifyL_cons, reify_v]; exact hQ))) | ((try simp only [opn_agg, opn_own, opn_v]); (try simp only [List.drop_zero, List.drop_succ_cons, List.take_succ_cons, List.take_zero]); (repeat (first | rw [mwp_peekL_agg] | rw [mwp_peekL_v] | rw [mwp_peekL_arr (by simp (disch := first | omega | decide) only [go_sem, F, opn_cond, hc, aIndex_map]; rfl)] | rw [mwp_peekL_frz (by simp (disch := first | omega | decide) only [go_sem, F, opn_cond, hc, aIndex_map]; rfl)] | rw [mwp_peekL_nil] | rw [mwp_reifyL_agg] | rw [mwp_reifyL_v] | rw [mwp_reifyL_arr (by simp (disch := first | omega | decide) only [go_sem, F, opn_cond, hc, aIndex_map]; rfl)] | rw [mwp_reifyL_frz (by simp (disch := first | omega | decide) only [go_sem, F, opn_cond, hc, aIndex_map]; rfl)] | rw [mwp_reifyL_nil])); (repeat (rw [sub_full (by first | rfl | (simp only [List.length_map, List.length_replicate]; done) | (simp; done) | (simp; omega))])); exact hQ)); (first | exact hG | rfl | (simp only [mset_G, hG]; rfl)); exact gd; (rw [resOf_own1 (by first | (simp (disch := decide) only [mset_ne, hr]; done) | simp [Mem.set, hr])]; (try rw [mem_eta (by first | exact hG | rfl | (simp only [mset_G, hG]; rfl))]); (simp (disch := first | omega | decide) only [go_sem, F, opn_cond, hc, aIndex_map]; first | exact hK _ | exact hK)))) (w : c) (x : p) : q := h w x
theorem cgn {p q c : Prop} (h : c → p → q := by (intro gd hK; simp (disch := first | omega | decide) only [go_sem, F, opn_cond, hc, aIndex_map, act_call, List.map]; apply mwp_call_g rfl rfl rfl; (intro Q hQ; first | (simp only [go_sem, F, opn_cond, hc, aIndex_map, peekL, reifyL_nil, reifyL_cons, reify_v]; exact hQ) | (simp (disch := first | omega | decide) only [go_sem, F, opn_cond, hc, aIndex_map, peekL, reifyL_nil, reifyL_cons, reify_v]; (first | exact hQ | (((first | rw [peek_own (by simp (disch := first | omega | decide) only [go_sem, F, opn_cond, hc, aIndex_map, peekL, reifyL_nil, reifyL_cons, reify_v]; rfl)] | rw [mwp_reify_own (by simp (disch := first | omega | decide) only [go_sem, F, opn_cond, hc, aIndex_map, peekL, reifyL_nil, reifyL_cons, reify_v]; rfl)] | rw [peek_frz (by simp (disch := first | omega | decide) only [go_sem, F, opn_cond, hc, aIndex_map, peekL, reifyL_nil, reifyL_cons, reify_v]; rfl)] | rw [reify_frz (by simp (disch := first | omega | decide) only [go_sem, F, opn_cond, hc, aIndex_map, peekL, reifyL_nil, reifyL_cons, reify_v]; rfl)]); (try rw [sub_full (by first | rfl | (simp only [List.length_map, List.length_replicate]; done) | (simp; done) | (simp; omega))])); exact hQ) | (((first | rw [peek_own (by simp (disch := first | omega | decide) only [go_sem, F, opn_cond, hc, aIndex_map, peekL, reifyL_nil, reifyL_cons, reify_v]; rfl)] | rw [mwp_reify_own (by simp (disch := first | omega | decide) only [go_sem, F, opn_cond, hc, aIndex_map, peekL, reifyL_nil, reifyL_cons, reify_v]; rfl)] | rw [peek_frz (by simp (disch := first | omega | decide) only [go_sem, F, opn_cond, hc, aIndex_map, peekL, reifyL_nil, reifyL_cons, reify_v]; rfl)] | rw [reify_frz (by simp (disch := first | omega | decide) only [go_sem, F, opn_cond, hc, aIndex_map, peekL, reifyL_nil, reifyL_cons, reify_v]; rfl)]); (try rw [sub_full (by first | rfl | (simp only [List.length_map, List.length_replicate]; done) | (simp; done) | (simp; omega))])); (try simp (disch := first | omega | decide) only [go_sem, F, opn_cond, hc, aIndex_map, peekL, reifyL_nil, reifyL_cons, reify_v]); ((first | rw [peek_own (by simp (disch := first | omega | decide) only [go_sem, F, opn_cond, hc, aIndex_map, peekL, reifyL_nil, reifyL_cons, reify_v]; rfl)] | rw [mwp_reify_own (by simp (disch := first | omega | decide) only [go_sem, F, opn_cond, hc, aIndex_map, peekL, reifyL_nil, reifyL_cons, reify_v]; rfl)] | rw [peek_frz (by simp (disch := first | omega | decide) only [go_sem, F, opn_cond, hc, aIndex_map, peekL, reifyL_nil, reifyL_cons, reify_v]; rfl)] | rw [reify_frz (by simp (disch := first | omega | decide) only [go_sem, F, opn_cond, hc, aIndex_map, peekL, reifyL_nil, reifyL_cons, reify_v]; rfl)]); (try rw [sub_full (by first | rfl | (simp only [List.length_map, List.length_replicate]; done) | (simp; done) | (simp; omega))])); exact hQ) | (((first | rw [peek_own (by simp (disch := first | omega | decide) only [go_sem, F, opn_cond, hc, aIndex_map, peekL, reifyL_nil, reifyL_cons, reify_v]; rfl)] | rw [mwp_reify_own (by simp (disch := first | omega | decide) only [go_sem, F, opn_cond, hc, aIndex_map, peekL, reifyL_nil, reifyL_cons, reify_v]; rfl)] | rw [peek_frz (by simp (disch := first | omega | decide) only [go_sem, F, opn_cond, hc, aIndex_map, peekL, reifyL_nil, reifyL_cons, reify_v]; rfl)] | rw [reify_frz (by simp (disch := first | omega | decide) only [go_sem, F, opn_cond, hc, aIndex_map, peekL, reifyL_nil, reifyL_cons, reify_v]; rfl)]); (try rw [sub_full (by first | rfl | (simp only [List.length_map, List.length_replicate]; done) | (simp; done) | (simp; omega))])); simp (disch := first | omega | decide) only [go_sem, F, opn_cond, hc, aIndex_map, peekL, reifyL_nil, reifyL_cons, reify_v]; exact hQ))) | ((try simp only [opn_agg, opn_own, opn_v]); (try simp only [List.drop_zero, List.drop_succ_cons, List.take_succ_cons, List.take_zero]); (repeat (first | rw [mwp_peekL_agg] | rw [mwp_peekL_v] | rw [mwp_peekL_arr (by simp (disch := first | omega | decide) only [go_sem, F, opn_cond, hc, aIndex_map]; rfl)] | rw [mwp_peekL_frz (by simp (disch := first | omega | decide) only [go_sem, F, opn_cond, hc, aIndex_map]; rfl)] | rw [mwp_peekL_nil] | rw [mwp_reifyL_agg] | rw [mwp_reifyL_v] | rw [mwp_reifyL_arr (by simp (disch := first | omega | decide) only [go_sem, F, opn_cond, hc, aIndex_map]; rfl)] | rw [mwp_reifyL_frz (by simp (disch := first | omega | decide) only [go_sem, F, opn_cond, hc, aIndex_map]; rfl)] | rw [mwp_reifyL_nil])); (repeat (rw [sub_full (by first | rfl | (simp only [List.length_map, List.length_replicate]; done) | (simp; done) | (simp; omega))])); exact hQ)); (first | exact hG | rfl | (simp only [mset_G, hG]; rfl)); exact gd; (simp (disch := first | omega | decide) only [go_sem, F, opn_cond, hc, aIndex_map]; (try rw [mem_eta (by first | exact hG | rfl | (simp only [mset_G, hG]; rfl))]); (first | exact hK _ | exact hK)))) (w : c) (x : p) : q := h w x
end Go.Vai
