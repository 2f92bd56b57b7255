import Derived.Test.YtencjgkeflibdaaGreatVaiD
import Derived.Laws.Externs
import Derived.Lib.AppendZerosOnto
import Derived.WalkKit
import Derived.Lib.Walk
import Derived.Lib.SliceRun
import Derived.Lib.JoinLaws
set_option linter.unusedSimpArgs false
set_option linter.unusedVariables false
set_option linter.constructorNameAsVariable false
namespace Go.Vai
open Go.RowKit Go.Lib
variable {P : Program}
end Go.Vai
namespace Go.Vai
open Go.RowKit Go.Lib
structure InsRuns (P : Program) (f : FuncId) (tS tI tE : TypeId) (k : Nat) : Prop where
  shift : ∀ (b n c i vc : Nat) (ad : Addr) (cs : Array Value) (tb : TypeId) (ca0 : Array Value) (ta : TypeId) (fa : Nat × Nat) (vs : List Value) (w : World), i < n → n + 1 ≤ c → c ≤ 9223372036854775807 →
    w.heap[b]? = some (.cells cs tb (0, 0)) → c * k ≤ cs.size → ad.block ≠ b → w.heap[ad.block]? = some (.cells ca0 ta fa) → ca0.size ≠ 0 →
    vs.length = k → (∀ j v, vs[j]? = some v → w.cell? (ad.add j) = some v) → (∀ v ∈ cs.toList.take (n * k), v.oneCell' = true) → (∀ v ∈ vs, v.oneCell' = true) →
    Calls P f #[.slice (some ⟨b, 0, none⟩) n c, .int .i64 i, .slice (some ad) 1 vc] w fun e w' =>
      e = .returned (.slice (some ⟨b, 0, none⟩) (n + 1) c) ∧ w' = (w.drew.setRow b (spl cs ((i + 1) * k) ((cs.toList.take (n * k)).drop (i * k)))).setRow b (spl (spl cs ((i + 1) * k) ((cs.toList.take (n * k)).drop (i * k))) (i * k) vs)
  end0 : ∀ (vc : Nat) (ad : Addr) (w w2 : World) (v2 : Value), (∀ ty, (Builtin.append_ #[tS, tS] ty #[.slice none 0 0, .slice (some ad) 1 vc]).run P w = .ok v2 w2) →
    Calls P f #[.slice none 0 0, .int .i64 (0 : Nat), .slice (some ad) 1 vc] w fun e w' => e = .returned v2 ∧ w' = w2
  end1 : ∀ (b n c vc : Nat) (ad : Addr) (w w2 : World) (v2 : Value), n ≤ c → c ≤ 9223372036854775807 → (∀ ty, (Builtin.append_ #[tS, tS] ty #[.slice (some ⟨b, 0, none⟩) n c, .slice (some ad) 1 vc]).run P w = .ok v2 w2) →
    Calls P f #[.slice (some ⟨b, 0, none⟩) n c, .int .i64 n, .slice (some ad) 1 vc] w fun e w' => e = .returned v2 ∧ w' = w2
  grow : ∀ (b n c i vc G : Nat) (ad : Addr) (cs ROW : Array Value) (tb : TypeId) (vs : List Value) (w : World), i < n → n ≤ c → c < n + 1 → c ≤ 9223372036854775807 → n + 1 ≤ G → G ≤ 9223372036854775807 →
    w.heap[b]? = some (.cells cs tb (0, 0)) → n * k ≤ cs.size → ad.block ≠ w.heap.size →
    vs.length = k → (∀ j v, vs[j]? = some v → w.cell? (ad.add j) = some v) → (∀ v ∈ cs.toList.take (n * k), v.oneCell' = true) → (∀ v ∈ vs, v.oneCell' = true) →
    (∀ ty, (Builtin.append_ #[tS, tI] ty #[.slice (some ⟨b, 0, none⟩) i c, .int .i64 ((n : Int) + 1 - (i : Int))]).run P w = .ok (.slice (some ⟨w.heap.size, 0, none⟩) (n + 1) G) (w.drew.alloc (.cells ROW tE))) → (n + 1) * k ≤ ROW.size →
    Calls P f #[.slice (some ⟨b, 0, none⟩) n c, .int .i64 i, .slice (some ad) 1 vc] w fun e w' =>
      e = .returned (.slice (some ⟨w.heap.size, 0, none⟩) (n + 1) G) ∧
      w' = (((w.drew.alloc (.cells ROW tE)).setRow w.heap.size (spl ROW (i * k) vs)).drew).setRow w.heap.size (spl (spl ROW (i * k) vs) ((i + 1) * k) ((cs.toList.take (n * k)).drop (i * k)))
theorem CellsOK.app {gh w sz xs ys a b} (h : CellsOK gh w sz xs a) (k : CellsOK gh w sz ys b) : CellsOK gh w sz (xs ++ ys) (a ++ b) := by
  refine ⟨by simp [h.1, k.1, Nat.add_mul], fun i x hx => ?_⟩
  by_cases hi : i < xs.length
  · rw [List.getElem?_append_left hi] at hx
    obtain ⟨h1, h2⟩ := h.2 i x hx
    refine ⟨h1, fun j y hy => ?_⟩
    obtain ⟨u, h3, h4⟩ := h2 j y hy
    exact ⟨u, by rw [Array.getElem?_append_left (Array.getElem?_eq_some_iff.1 h3).1]; exact h3, h4⟩
  · rw [List.getElem?_append_right (by omega)] at hx
    obtain ⟨h1, h2⟩ := k.2 _ x hx
    refine ⟨h1, fun j y hy => ?_⟩
    obtain ⟨u, h3, h4⟩ := h2 j y hy
    have e : i * sz = xs.length * sz + (i - xs.length) * sz := by rw [← Nat.add_mul]; congr 1; omega
    exact ⟨u, by rw [Array.getElem?_append_right (by rw [h.1]; omega), h.1, show i * sz + j - xs.length * sz = (i - xs.length) * sz + j by omega]; exact h3, h4⟩
theorem CellsOK.rest {gh w cs sz} {xs : List AV} (h : rowRel gh w cs sz xs) (i : Nat) : CellsOK gh w sz (xs.drop i) ((cs.toList.take (xs.length * sz)).drop (i * sz)).toArray := by
  have hs := h.1
  refine ⟨by simp [Nat.min_eq_left hs, Nat.sub_mul], fun j x hx => ?_⟩
  rw [List.getElem?_drop] at hx
  obtain ⟨h1, h2⟩ := h.2 (i + j) x hx
  refine ⟨h1, fun l y hy => ?_⟩
  obtain ⟨u, h3, h4⟩ := h2 l y hy
  have hl : l < sz := by rw [← h1]; exact (List.getElem?_eq_some_iff.1 hy).1
  have hij : i + j < xs.length := (List.getElem?_eq_some_iff.1 hx).1
  have hmul : (i + j + 1) * sz ≤ xs.length * sz := Nat.mul_le_mul_right _ hij
  rw [Nat.add_mul, Nat.one_mul] at hmul
  have e : (i + j) * sz = i * sz + j * sz := Nat.add_mul _ _ _
  refine ⟨u, ?_, h4⟩
  simp only [List.getElem?_toArray, List.getElem?_drop]
  rw [List.getElem?_take_of_lt (by omega), show i * sz + (j * sz + l) = (i + j) * sz + l by omega]
  simpa using h3
end Go.Vai
namespace Go.Vai
section
variable {C : Contract} {cfg : Cfg} {m : Mem} {fp : Fp} {n : Nm} {gg : Nat} {nl : Bool} {sz : Nat}
theorem mwp_call_st {d f : Nat} {args : List LV} {K : LV → Mem → Fp → Prop} {as : List AV} {r : List (AV × Bool)} (hp : cfg.pure f = true) (hx : cfg.xfer f = false) (hs : cfg.scalar f = true)
    {fp1 : Fp} (hpk : ∀ Q : List AV → Mem → Fp → Prop, Q as m fp1 → Mwp C (peekL args) m fp Q) (h : C f (as.map fun a => (a, false)) [] r []) (hn : noPtrL as = true) (hsa : r.all (fun x => scalarAV x.1 && !x.2) = true) (k : Mwp C (resOf (some d) r) m fp1 K) :
    Mwp C (callL cfg (some d) f [] args) m fp K := by
  simp only [callL, hx, Bool.false_eq_true, if_false, prep, hp, hs, Bool.and_self, if_true, mwp_bind, List.append_nil]
  refine hpk _ ?_
  have e : (as.map fun a => (a, false)).map (fun x : AV × Bool => x.1) = as := by simp [Function.comp_def]
  simp only [fin, hp, hs, if_true, List.nil_append]
  rw [e, hn]
  simp only [if_true, mwp_pcall]
  exact ⟨_, h, by rw [if_pos hsa]; exact k⟩
variable {α : Type} {f : α → AV} {l : List α}
theorem mwp_aLoad_el {K : LV → Mem → Fp → Prop} {b : Nat} {z : List AV} {i : Nat} (h : m.objs n = (gg, .arr nl sz (l.map f))) (hi : i < l.length) (hl : (cellsOf (f l[i])).length = sz) :
    Mwp C (aLoad ⟨sz, b, z, true⟩ (.eptr n gg i 0)) m fp K = K (.agg ((cellsOf (f l[i])).map .v)) m (fp.addN n) := by
  have e : (l.map f)[i]? = some (f l[i]) := by simp [hi]
  simp only [aLoad, Mwp, h, if_true, e, loadL, List.length_map, hl, Nat.zero_add, Nat.le_refl, List.drop_zero]
  rw [List.take_of_length_le (by rw [List.length_map, hl]; exact Nat.le_refl _)]
theorem mwp_aLoad_elf {K : LV → Mem → Fp → Prop} {b : Nat} {z : List AV} {i : Nat} (h : m.objs n = (gg, .frz nl sz (l.map f))) (hi : i < l.length) (hl : (cellsOf (f l[i])).length = sz) :
    Mwp C (aLoad ⟨sz, b, z, true⟩ (.eptr n gg i 0)) m fp K = K (.agg ((cellsOf (f l[i])).map .v)) m (fp.addN n) := by
  have e : (l.map f)[i]? = some (f l[i]) := by simp [hi]
  simp only [aLoad, Mwp, h, if_true, e, loadL, List.length_map, hl, Nat.zero_add, Nat.le_refl, List.drop_zero]
  rw [List.take_of_length_le (by rw [List.length_map, hl]; exact Nat.le_refl _)]
end
section
variable {α : Type} [Inhabited α]
def bsM (s : Nat × Nat) : Nat := (s.1 + s.2) / 2
def bsS (ky : α → Int) (l : List α) (t : Int) : Nat → Nat × Nat
  | 0 => (0, l.length)
  | k + 1 => if (bsS ky l t k).1 < (bsS ky l t k).2 then
      if ky (l.getD (bsM (bsS ky l t k)) default) < t then (bsM (bsS ky l t k) + 1, (bsS ky l t k).2) else ((bsS ky l t k).1, bsM (bsS ky l t k))
    else bsS ky l t k
def Rise (ky : α → Int) (l : List α) : Prop := ∀ i j, i < j → j < l.length → ky (l.getD i default) < ky (l.getD j default)
def posK (ky : α → Int) (l : List α) (t : Int) : Nat := (l.filter fun x => decide (ky x < t)).length
def isK (ky : α → Int) (l : List α) (t : Int) : Bool := l.any fun x => decide (ky x = t)
def cmpI (a b : Int) : Int := if a < b then -1 else if a > b then 1 else 0
end
end Go.Vai
namespace Go.Vai
section
variable {P : Program} {C : Contract} {cfg : Cfg} {raw : Operand → LV} {dst : Option Tmp} {ty : TypeId} {pos : String} {aft : Array Edge} {g : Option (Nat × Bool)}
theorem act_alloc_q {e : TypeId} {d : Nat} : act P cfg raw ⟨some d, .alloc e, ty, pos, aft, g⟩ = match tiOf P e with | some ti => if cfg.glob d then newG ti.zero else newBox d (ti.zero.map .v) | none => .fail := by
  simp only [act]; cases tiOf P e <;> rfl
def boxT (gl : Bool) (d : Nat) (ti : TI) (y : LV) : M LV :=
  if gl then (reifyL (cellsL y)).bind fun cs => if cs.length = ti.sz ∧ cs.all cellishAV = true then newG cs else .fail
  else (settleL d 0 (cellsL y)).bind fun cs => if cs.length = ti.sz then newBox d cs else .fail
theorem act_box_q {e : TypeId} {d : Nat} {x : Operand} : act P cfg raw ⟨some d, .box e x, ty, pos, aft, g⟩ = match tiOf P e with | some ti => boxT (cfg.glob d) d ti (opn (raw x)) | none => .fail := by
  simp only [act]; cases tiOf P e <;> rfl
theorem boxT_f {d : Nat} {ti : TI} {y : LV} : boxT false d ti y = (settleL d 0 (cellsL y)).bind fun cs => if cs.length = ti.sz then newBox d cs else .fail := rfl
theorem boxT_t {d : Nat} {ti : TI} {y : LV} : boxT true d ti y = (reifyL (cellsL y)).bind fun cs => if cs.length = ti.sz ∧ cs.all cellishAV = true then newG cs else .fail := rfl
theorem act_fieldAddr_q {t f : Nat} {x : Operand} : act P cfg raw ⟨dst, .fieldAddr t x f, ty, pos, aft, g⟩ = match fieldOf P t f with | some (off, _) => aFieldAddr off (opn (raw x)) | none => .fail := by
  simp only [act]
  cases fieldOf P t f with
  | none => rfl
  | some p => rfl
theorem act_build_q {t : TypeId} {parts : Array (Nat × Operand)} : act P cfg raw ⟨dst, .build t parts, ty, pos, aft, g⟩ = match tiOf P t with
    | some ti => match placesOf P t with
      | some pl => (fillL pl (ti.zero.map LV.v) (parts.toList.map fun p => (p.1, opn (raw p.2)))).bind fun cs => .ret (.agg cs)
      | none => .fail
    | none => .fail := by
  simp only [act]
  cases tiOf P t with
  | none => rfl
  | some ti => cases placesOf P t <;> rfl
def idxT (P : Program) (t : TypeId) (i : Option Int) (y : LV) : M LV := match P.underlying t with
  | some (.slice e) => (match tiOf P e with | some ti => idxL ti.sz i y | none => .fail)
  | some (.array n e) => (match tiOf P e with | some ti => if ti.sz = 0 then .fail else idxA n ti.sz i y | none => .fail)
  | _ => .fail
theorem act_indexAddr_q {t : TypeId} {x i : Operand} : act P cfg raw ⟨dst, .indexAddr t x i, ty, pos, aft, g⟩ = idxT P t (intOf (opn (raw i))) (opn (raw x)) := by
  simp only [act, idxT]
  cases intOf (opn (raw i)) with
  | none =>
    cases P.underlying t with
    | none => rfl
    | some d => cases d with
      | slice e => cases h : tiOf P e <;> simp only [h, idxL] <;> rfl
      | array n e => cases h : tiOf P e <;> simp only [h, idxA]; split <;> rfl
      | _ => rfl
  | some k =>
    cases P.underlying t with
    | none => rfl
    | some d => cases d with
      | slice e => cases h : tiOf P e <;> simp only [h, idxL] <;> rfl
      | array n e => cases h : tiOf P e <;> simp only [h, idxA]
      | _ => rfl
def convI : Option TypeDesc → LV → M LV
  | some (.int k), .v (.base (.int _ n)) => .ret (.v (.i k (k.wrap n)))
  | _, _ => .fail
theorem convI_i {k k' : IntKind} {n : Int} : convI (some (.int k)) (.v (.i k' n)) = .ret (.v (.i k (k.wrap n))) := rfl
def isInt (P : Program) (t : TypeId) : Bool := match P.underlying t with | some (.int _) => true | _ => false
theorem act_convI_q {src dt : TypeId} {x : Operand} (h1 : (P.underlying src).isSome = true) (h2 : isInt P dt = true) : act P cfg raw ⟨dst, .convert src dt x, ty, pos, aft, g⟩ = convI (P.underlying dt) (opn (raw x)) := by
  unfold isInt at h2
  cases hs : P.underlying src with
  | none => rw [hs] at h1; cases h1
  | some d =>
    split at h2
    · rename_i k hk
      rw [act_convI hs hk, hk]
      cases opn (raw x) with
      | v a => cases a with
        | base v => cases v <;> rfl
        | _ => rfl
      | _ => rfl
    · cases h2
def sliceT (P : Program) (t : TypeId) (l h m : Option (Option Int)) (y : LV) : M LV := match P.underlying t with
  | some (.slice e) => (match tiOf P e with | some ti => sliceL ti.sz l h m y | none => .fail)
  | _ => .fail
def isSl (P : Program) (t : TypeId) : Bool := match P.underlying t with | some (.slice _) => true | _ => false
theorem isSl_ok {t : TypeId} (h : isSl P t = true) : ∃ e, P.underlying t = some (.slice e) := by
  unfold isSl at h
  split at h
  · exact ⟨_, by assumption⟩
  · cases h
theorem act_slice_q {t : TypeId} {x : Operand} {lo hi mx : Option Operand} (hs : isSl P t = true) :
    act P cfg raw ⟨dst, .slice t x lo hi mx, ty, pos, aft, g⟩ = sliceT P t (bnd (lo.map fun x => opn (raw x))) (bnd (hi.map fun x => opn (raw x))) (bnd (mx.map fun x => opn (raw x))) (opn (raw x)) := by
  obtain ⟨e, he⟩ := isSl_ok hs
  cases hti : tiOf P e with
  | some ti => rw [act_slice_s he hti]; simp only [sliceT, he, hti]
  | none =>
    simp only [act, he, sliceT, hti]
    cases bnd (lo.map fun x => opn (raw x)) <;> cases bnd (hi.map fun x => opn (raw x)) <;> cases bnd (mx.map fun x => opn (raw x)) <;> simp only
theorem len_q {t : TypeId} {sz : Nat} {nil : Bool} {xs : List AV} (h : isSl P t = true) : builtinL P .len #[t] dst [.v (.sl sz nil xs)] = .ret (.v (.i .i64 xs.length)) := by
  obtain ⟨e, he⟩ := isSl_ok h; exact aops_len he
theorem cap_nil_q {t : TypeId} {s : Nat} (h : isSl P t = true) : builtinL P .cap #[t] dst [.v (.sl s true [])] = .ret (.v (.i .i64 0)) := by
  obtain ⟨e, he⟩ := isSl_ok h; exact aops_cap_nil he
def isPtr (P : Program) (t : TypeId) : Bool := match P.underlying t with | some (.pointer _) => true | _ => false
theorem isPtr_ok {t : TypeId} (h : isPtr P t = true) : ∃ e, P.underlying t = some (.pointer e) := by
  unfold isPtr at h
  split at h
  · exact ⟨_, by assumption⟩
  · cases h
theorem eql_p0 {t : TypeId} (h : isPtr P t = true) : aBin P .eql t (.base (.pointer none)) (.base (.pointer none)) = some (.b true) := by obtain ⟨e, h⟩ := isPtr_ok h; exact bin_eql_p0 h
theorem eql_pg {t : TypeId} {id off : Nat} (h : isPtr P t = true) : aBin P .eql t (.gp id off) (.base (.pointer none)) = some (.b false) := by obtain ⟨e, h⟩ := isPtr_ok h; exact bin_eql_pg h
theorem neq_p0 {t : TypeId} (h : isPtr P t = true) : aBin P .neq t (.base (.pointer none)) (.base (.pointer none)) = some (.b false) := by obtain ⟨e, h⟩ := isPtr_ok h; exact bin_neq_p0 h
theorem neq_pg {t : TypeId} {id off : Nat} (h : isPtr P t = true) : aBin P .neq t (.gp id off) (.base (.pointer none)) = some (.b true) := by obtain ⟨e, h⟩ := isPtr_ok h; exact bin_neq_pg h
theorem eql_nil_q {t : TypeId} {s s' : Nat} {n : Bool} {xs : List AV} (h : isSl P t = true) : aBin P .eql t (.sl s n xs) (.sl s' true []) = some (.b n) := by obtain ⟨e, h⟩ := isSl_ok h; exact bin_eql_nil h
theorem neq_nil_q {t : TypeId} {s s' : Nat} {n : Bool} {xs : List AV} (h : isSl P t = true) : aBin P .neq t (.sl s n xs) (.sl s' true []) = some (.b (!n)) := by obtain ⟨e, h⟩ := isSl_ok h; exact bin_neq_nil h
def eqC (P : Program) (t : TypeId) (xs ys : List AV) : Option Bool := match flatT P 5 t with | some ks => eqCells ks xs ys | none => none
theorem eql_s {t : TypeId} {xs ys : List AV} (hu : isStruct P t = true) (hg : P.eqGuardType P.depth t = false) : aBin P .eql t (.agg xs) (.agg ys) = (eqC P t xs ys).map .b := by
  unfold eqC
  obtain ⟨fs, hu⟩ := isStruct_ok hu
  simp only [aBin, aEql, aEq, hu, hg, if_true]
  cases flatT P 5 t <;> rfl
theorem neq_s {t : TypeId} {xs ys : List AV} (hu : isStruct P t = true) (hg : P.eqGuardType P.depth t = false) : aBin P .neq t (.agg xs) (.agg ys) = (eqC P t xs ys).map fun r => .b (!r) := by
  unfold eqC
  obtain ⟨fs, hu⟩ := isStruct_ok hu
  simp only [aBin, aEql, aEq, hu, hg, if_true]
  cases flatT P 5 t <;> rfl
end
attribute [go_sem] act_alloc_q act_box_q boxT_f boxT_t act_fieldAddr_q act_build_q act_indexAddr_q idxT convI_i isInt act_convI_q act_slice_q sliceT isSl len_q cap_nil_q isPtr eql_p0 eql_pg neq_p0 neq_pg eql_nil_q neq_nil_q eqC eql_s neq_s act_load act_store bin_eql_b bin_neq_b strL_bsl bin_eql_str
section
variable {P : Program} {C : Contract} {cfg : Cfg} {raw : Operand → LV} {ty : TypeId} {pos : String} {aft : Array Edge} {g : Option (Nat × Bool)}
theorem mwp_len_ownq {t : TypeId} {dst : Option Tmp} {n : Nm} {gg lo hi : Nat} {m : Mem} {fp : Fp} {K : LV → Mem → Fp → Prop} {nl : Bool} {s : Nat} {xs : List AV} (h : isSl P t = true) (ho : m.objs n = (gg, .arr nl s xs)) :
    Mwp C (builtinL P .len #[t] dst [.own n gg lo hi]) m fp K = K (.v (.i .i64 (sub xs lo hi).length)) m (fp.addN n) := by
  obtain ⟨e, he⟩ := isSl_ok h; exact mwp_len_own he ho
theorem mwp_len_frzq {t : TypeId} {dst : Option Tmp} {n : Nm} {gg lo hi : Nat} {m : Mem} {fp : Fp} {K : LV → Mem → Fp → Prop} {nl : Bool} {s : Nat} {xs : List AV} (h : isSl P t = true) (ho : m.objs n = (gg, .frz nl s xs)) :
    Mwp C (builtinL P .len #[t] dst [.own n gg lo hi]) m fp K = K (.v (.i .i64 (sub xs lo hi).length)) m (fp.addN n) := by
  obtain ⟨e, he⟩ := isSl_ok h; exact mwp_len_frz he ho
def makeT (P : Program) (d : Nat) (t : TypeId) (x y : LV) : M LV := match elOf P t with | some e => (match tiOf P e with | some ti => makeM d ti x y | none => .fail) | none => .fail
theorem act_make_q {d t : Nat} {l c : Operand} (h : (elOf P t).isSome = true) : act P cfg raw ⟨some d, .makeSlice t l c, ty, pos, aft, g⟩ = makeT P d t (opn (raw l)) (opn (raw c)) := by
  unfold makeT
  cases he : elOf P t with
  | none => rw [he] at h; cases h
  | some e =>
    cases hti : tiOf P e with
    | some ti => rw [act_make he hti]; simp only [hti]
    | none =>
      simp only [act, he, hti]
      split
      · rename_i h1 _ _ _; simp only [Option.some.injEq] at h1; subst h1; rw [hti]
      · rfl
theorem act_bs_q {t : TypeId} {d len : Nat} {parts : Array (Nat × Operand)} : act P cfg raw ⟨some d, .buildSlice t len parts, ty, pos, aft, g⟩ = match elOf P t with
    | some e => (match tiOf P e with
      | some ti => if len * ti.sz ≤ 16777216 then
        (elems ti (parts.toList.map fun p => opn (raw p.2))).bind fun as => match partsOf ti.z len ((parts.toList.map (·.1)).zip as) (List.replicate len ti.z) with
          | some xs => newArr d 0 false ti.sz xs len
          | none => .fail
        else .fail
      | none => .fail)
    | none => .fail := by
  cases he : elOf P t with
  | none => simp only [act, he]
  | some e =>
    cases hti : tiOf P e with
    | some ti => rw [act_bs he hti]; simp only [hti]; rfl
    | none => simp only [act, he, hti]
def isB (P : Program) (t : TypeId) : Bool := match elOf P t with | some e => (match P.underlying e with | some (.int .u8) => true | _ => false) | none => false
theorem act_convB_q {dst : Option Tmp} {t : TypeId} {x : Operand} (h : isSl P t = true) (hb : isB P t = true) : act P cfg raw ⟨dst, .convert t t x, ty, pos, aft, g⟩ = convBL (opn (raw x)) := by
  obtain ⟨e, he⟩ := isSl_ok h
  have e2 : elOf P t = some e := by simp only [elOf, he]
  unfold isB at hb
  rw [e2] at hb
  simp only at hb
  split at hb
  · rename_i h8; exact act_convB he h8
  · cases hb
theorem act_convS_q {src dt : TypeId} {dst : Option Tmp} {x : Operand} (h : isSl P src = true) (hb : isB P src = true) (hd : P.underlying dt = some .string) : act P cfg raw ⟨dst, .convert src dt x, ty, pos, aft, g⟩ = (peek (opn (raw x))).bind strL := by
  obtain ⟨e, he⟩ := isSl_ok h
  have e2 : elOf P src = some e := by simp only [elOf, he]
  unfold isB at hb
  rw [e2] at hb
  simp only at hb
  split at hb
  · rename_i h8; exact act_convS he h8 hd
  · cases hb
theorem mwp_append2q {t xt e d : Nat} {ti : TI} {n : Nm} {gg hi : Nat} {nil : Bool} {sz : Nat} {xs ys : List AV} {x : LV} {m : Mem} {fp : Fp} {K : LV → Mem → Fp → Prop} {s' : Nat} {nl' : Bool} {fp1 : Fp}
    (he : elOf P t = some e) (hti : tiOf P e = some ti) (hxt : isSl P xt = true)
    (hpk : ∀ Q : AV → Mem → Fp → Prop, Q (.sl s' nl' ys) m fp1 → Mwp C (peek x) m fp Q) (hs' : s' = ti.sz)
    (ho : m.objs n = (gg, .arr nil sz xs)) (hsz : sz = ti.sz) (hhi : hi = xs.length) (hb : (hi + ys.length) * ti.bytes ≤ roomB) (hy : ∀ y ∈ ys, (cellsOf y).length = ti.sz)
    (k : K (.own (.tmp d 0) (((m.set n (gg + 1, .dead)).objs (.tmp d 0)).1 + 1) 0 (hi + ys.length)) ((m.set n (gg + 1, .dead)).set (.tmp d 0) (((m.set n (gg + 1, .dead)).objs (.tmp d 0)).1 + 1, .arr (nil && ys.isEmpty) sz (xs ++ ys))) ((((fp1.addN n).addW n).addN (.tmp d 0)).addW (.tmp d 0))) :
    Mwp C (builtinL P .append #[t, xt] (some d) [.own n gg 0 hi, x]) m fp K := by
  obtain ⟨e', he'⟩ := isSl_ok hxt
  exact mwp_append2 he hti he' hpk hs' ho hsz hhi hb hy k
end
attribute [go_sem] act_convS_q makeT isB Option.isSome_some List.length_map List.length_replicate List.set_cons_zero List.set_cons_succ
end Go.Vai
namespace Go.Vai
theorem s0 {p q : Prop} (x : p) (h : p → q := by (intro hK; first | (simp only [go_sem, F, opn_cond, hc, aIndex_map]; exact hK _) | (simp only [go_sem, F, opn_cond, hc, aIndex_map]; exact hK) | (simp (disch := first | omega | decide) only [go_sem, F, opn_cond, hc, aIndex_map]; exact hK _) | (simp (disch := first | omega | decide) only [go_sem, F, opn_cond, hc, aIndex_map]; exact hK))) : q := h x
theorem sd {p q : Prop} (x : p) (h : p → q := by (intro hK; have hc2 := hc; (try simp only [beq_iff_eq, decide_eq_true_eq, decide_eq_false_iff_not, Bool.or_eq_true, Bool.and_eq_true, Bool.or_eq_false_iff, Bool.and_eq_false_iff] at hc2); first | (simp (disch := first | omega | decide) only [go_sem, F, opn_cond, hc, aIndex_map]; exact hK _) | (simp (disch := first | omega | decide) only [go_sem, F, opn_cond, hc, aIndex_map]; exact hK))) : q := h x
theorem wa {ops : Array Oper} {σ : St} {o : Oper} {c : Bool} (h : wantO ops σ o = some c := by first | exact want_of rfl (by simp only [go_sem, F, opn_cond, hc, aIndex_map]; rfl) | exact want_of_cond rfl (by simp only [go_sem, F, opn_cond, hc, aIndex_map]; rfl) | exact want_of rfl (by simp (disch := first | omega | decide) only [go_sem, F, opn_cond, hc, aIndex_map]; rfl) | exact want_of_cond rfl (by simp (disch := first | omega | decide) only [go_sem, F, opn_cond, hc, aIndex_map]; rfl)) : wantO ops σ o = some c := h
theorem sx {p q : Prop} (x : p) (h : p → q := by (intro hK; first | (simp only [go_sem, F, opn_cond, hc, aIndex_map]; exact hK _) | (simp only [go_sem, F, opn_cond, hc, aIndex_map]; exact hK) | (simp only [go_sem, F, opn_cond, hc, aIndex_map]; rw [mwp_fieldAddr_b (by first | (simp only [go_sem, F, opn_cond, hc, aIndex_map]; rfl) | (simp (disch := first | omega | decide) only [go_sem, F, opn_cond, hc, aIndex_map]; rfl))]; (first | exact hK _ | exact hK)) | (simp (disch := first | omega | decide) only [go_sem, F, opn_cond, hc, aIndex_map]; (first | rw [mwp_fieldAddr_b (by simp (disch := first | omega | decide) only [go_sem, F, opn_cond, hc, aIndex_map]; rfl)] | skip); (first | exact hK _ | exact hK)))) : q := h x
theorem si {p q : Prop} (x : p) (h : p → q := by (intro hK; have hc2 := hc; (try simp only [beq_iff_eq, decide_eq_true_eq, decide_eq_false_iff_not, Bool.or_eq_true, Bool.and_eq_true, Bool.or_eq_false_iff, Bool.and_eq_false_iff] at hc2); simp (disch := first | omega | decide) only [go_sem, F, opn_cond, hc, aIndex_map]; (first | rw [mwp_aIndex_own (by simp (disch := first | omega | decide) only [go_sem, F, opn_cond, hc, aIndex_map]; rfl) (by first | omega | (simp; omega)) (by first | omega | decide | (simp; omega))] | rw [mwp_aIndex_frz (by simp (disch := first | omega | decide) only [go_sem, F, opn_cond, hc, aIndex_map]; rfl) (by first | omega | (simp; omega)) (by first | omega | decide | (simp; omega))] | skip); (first | exact hK _ | exact hK))) : q := h x
theorem sg {p q : Prop} (x : p) (h : p → q := by (intro hK; have hc2 := hc; (try simp only [beq_iff_eq, decide_eq_true_eq, decide_eq_false_iff_not, Bool.or_eq_true, Bool.and_eq_true, Bool.or_eq_false_iff, Bool.and_eq_false_iff] at hc2); simp (disch := first | omega | decide) only [go_sem, F, opn_cond, hc, if_true]; rw [mwp_aIndex_getD (by omega) (by omega)]; (first | exact hK _ | exact hK))) : q := h x
theorem sl {p q : Prop} (x : p) (h : p → q := by (intro hK; first | (simp only [go_sem, F, opn_cond, hc, aIndex_map]; exact hK _) | (simp only [go_sem, F, opn_cond, hc, aIndex_map]; exact hK) | (simp (disch := first | omega | decide) only [go_sem, F, opn_cond, hc, aIndex_map]; (first | exact hK _ | exact hK | ((first | rw [mwp_load_i1 (by rfl)] | rw [mwp_load_is (by simp)] | rw [mwp_load_g1 (by first | (rw [hG]; rfl) | rfl | (simp only [mset_G, hG]; rfl) | (simp only [mset_G, hG]; assumption)) (by rfl)] | rw [mwp_load_gs (by first | (rw [hG]; rfl) | rfl | (simp only [mset_G, hG]; rfl) | (simp only [mset_G, hG]; assumption)) (by simp)] | rw [mwp_load_bs (by simp (disch := first | omega | decide) only [go_sem, F, opn_cond, hc, aIndex_map]; rfl) (by simp [setAt])] | rw [mwp_load_b1 (by simp (disch := first | omega | decide) only [go_sem, F, opn_cond, hc, aIndex_map]; rfl) (by rfl)] | rw [mwp_aLoad_map (by simp (disch := first | omega | decide) only [go_sem, F, opn_cond, hc, aIndex_map]; rfl) (by first | omega | decide | (simp; omega)) (fun _ => rfl)] | rw [mwp_aLoad_frz (by simp (disch := first | omega | decide) only [go_sem, F, opn_cond, hc, aIndex_map]; rfl) (by first | omega | decide | (simp; omega)) (fun _ => rfl)] | rw [mwp_aLoad_e1 (by simp (disch := first | omega | decide) only [go_sem, F, opn_cond, hc, aIndex_map]; rfl) (by first | rfl | simp) rfl] | rw [mwp_aLoad_f1 (by simp (disch := first | omega | decide) only [go_sem, F, opn_cond, hc, aIndex_map]; rfl) (by rfl) rfl] | rw [mwp_aLoad_el (by simp (disch := first | omega | decide) only [go_sem, F, opn_cond, hc, aIndex_map]; rfl) (by first | omega | decide | (simp; omega)) rfl] | rw [mwp_aLoad_elf (by simp (disch := first | omega | decide) only [go_sem, F, opn_cond, hc, aIndex_map]; rfl) (by first | omega | decide | (simp; omega)) rfl]); (try simp only [List.drop_zero, List.drop_succ_cons, List.take_succ_cons, List.take_zero, List.map_cons, List.map_nil]); (try simp only [go_sem]); (first | exact hK _ | exact hK)))))) : q := h x
theorem ss {p q : Prop} (x : p) (h : p → q := by (intro hK; simp (disch := first | omega | decide) only [go_sem, F, opn_cond, hc, aIndex_map]; (first | rw [mwp_store_g1 (by first | (rw [hG]; rfl) | rfl | (simp only [mset_G, hG]; rfl) | (simp only [mset_G, hG]; assumption)) (by simp) rfl rfl] | rw [mwp_store_c (by simp (disch := first | omega | decide) only [go_sem, F, opn_cond, hc, aIndex_map]; rfl) (by rfl) (by rfl) (by rfl) (by simp)] | rw [mwp_store_o (by simp (disch := first | omega | decide) only [go_sem, F, opn_cond, hc, aIndex_map]; rfl) (by simp (disch := first | omega | decide) only [go_sem, F, opn_cond, hc, aIndex_map]; rfl) (by decide) (by simp)] | rw [mwp_aStore_map (by simp (disch := first | omega | decide) only [go_sem, F, opn_cond, hc, aIndex_map]; rfl) (by first | omega | (simp; omega)) (fun _ => rfl) rfl rfl (fun _ => rfl)] | (refine mwp_store_gen (by simp (disch := first | omega | decide) only [go_sem, F, opn_cond, hc, aIndex_map]; rfl) ?_; simp only [cellsL]; (try simp only [List.drop_zero, List.drop_succ_cons, List.take_succ_cons, List.take_zero, List.map_cons, List.map_nil]); (repeat (first | rw [mwp_settleL_v (by rfl)] | rw [mwp_settleL_own (by simp (disch := first | omega | decide) only [go_sem, F, opn_cond, hc, aIndex_map]; rfl)] | rw [mwp_settleL_frz (by simp (disch := first | omega | decide) only [go_sem, F, opn_cond, hc, aIndex_map]; rfl)] | rw [mwp_settleL_cell (by decide) (by simp (disch := first | omega | decide) only [go_sem, F, opn_cond, hc, aIndex_map]; rfl)] | rw [mwp_settleL_cellf (by decide) (by simp (disch := first | omega | decide) only [go_sem, F, opn_cond, hc, aIndex_map]; rfl)] | rw [mwp_settleL_var (by simp (disch := first | omega | decide) only [go_sem, F, opn_cond, hc, aIndex_map]; rfl)])); rw [mwp_settleL_nil]; refine ⟨by simp (disch := first | omega | decide) only [go_sem, F, opn_cond, hc, aIndex_map] <;> rfl, rfl, by simp, ?_⟩)); (try simp only [setAt, cellsL, cellsOf_agg, cellsOf_base, List.map_cons, List.map_nil, List.set_cons_zero, List.set_cons_succ, Nat.reduceAdd, Nat.zero_add, hG]); (first | exact hK _ | exact hK))) : q := h x
theorem sb {p q : Prop} (x : p) (h : p → q := by (intro hK; simp (disch := first | omega | decide) only [go_sem, F, opn_cond, hc, aIndex_map]; rw [settleL_vish _ _ (by rfl)]; simp (disch := first | omega | decide) only [go_sem, F, opn_cond, hc, aIndex_map, cellsL, List.map, List.length_cons, List.length_nil, Nat.reduceAdd]; (first | exact hK _ | exact hK))) : q := h x
theorem sbg {p q : Prop} (x : p) (h : p → q := by (intro hK; simp (disch := first | omega | decide) only [go_sem, F, opn_cond, hc, aIndex_map, List.map, cellsL, reifyL_nil, reifyL_cons, reify_v]; (repeat (rw [mwp_reify_own (by simp (disch := first | omega | decide) only [go_sem, F, opn_cond, hc, aIndex_map, List.map, cellsL, reifyL_nil, reifyL_cons, reify_v]; rfl)]; (try simp (disch := first | omega | decide) only [go_sem, F, opn_cond, hc, aIndex_map, List.map, cellsL, reifyL_nil, reifyL_cons, reify_v]))); rw [if_pos (by constructor <;> rfl), mwp_newG]; (first | exact hK _ | exact hK))) : q := h x
theorem su {p q : Prop} (x : p) (h : p → q := by (intro hK; simp (disch := first | omega | decide) only [go_sem, F, opn_cond, hc, aIndex_map]; simp [-List.map_take, -List.map_drop, fillL, okOne, cellishAV, Value.oneCell', cellsL, cellsOf, setAt, M.bind, Mwp, mset_same, Obj.isArr, F]; (first | exact hK _ | exact hK))) : q := h x
theorem st {p q : Prop} (x : p) (h : p → q := by (intro hK; simp (disch := first | omega | decide) only [go_sem, F, opn_cond, hc, aIndex_map]; (first | rw [asg_tmp (by simp (disch := first | omega | decide) only [go_sem, F, opn_cond, hc, aIndex_map]; rfl)] | rw [asg_ft (by simp (disch := first | omega | decide) only [go_sem, F, opn_cond, hc, aIndex_map]; rfl)]); (first | exact hK _ | exact hK))) : q := h x
theorem sm {p q : Prop} (x : p) (h : p → q := by (intro hK; simp (disch := first | omega | decide) only [go_sem, F, opn_cond, hc, aIndex_map]; (first | rw [asg_mv (by rfl) (by decide) (by simp (disch := first | omega | decide) only [go_sem, F, opn_cond, hc, aIndex_map]; rfl)] | rw [asg_fz (by rfl) (by decide) (by simp (disch := first | omega | decide) only [go_sem, F, opn_cond, hc, aIndex_map]; rfl)] | rw [asg_ff (by rfl) (by decide) (by simp (disch := first | omega | decide) only [go_sem, F, opn_cond, hc, aIndex_map]; rfl)] | skip); (first | exact hK _ | exact hK))) : q := h x
theorem sn {p q : Prop} (x : p) (h : p → q := by (intro hK; simp (disch := first | omega | decide) only [go_sem, F, opn_cond, hc, aIndex_map]; (first | (exact hK _) | (exact hK) | ((first | rw [mwp_len_ownq (by simp only [go_sem]) (by simp (disch := first | omega | decide) only [go_sem, F, opn_cond, hc, aIndex_map]; rfl)] | rw [mwp_len_frzq (by simp only [go_sem]) (by simp (disch := first | omega | decide) only [go_sem, F, opn_cond, hc, aIndex_map]; rfl)]); (try rw [sub_full (by first | rfl | (simp only [List.length_map, List.length_replicate]; done) | (simp; done) | (simp; omega))]); (try simp only [List.length_map]); (first | exact hK _ | exact hK))))) : q := h x
theorem sz {p q : Prop} (x : p) (h : p → q := by (intro hK; simp (disch := first | omega | decide) only [go_sem, F, opn_cond, hc, aIndex_map]; rw [mwp_aSlice_own0 (by simp (disch := first | omega | decide) only [go_sem, F, opn_cond, hc, aIndex_map]; rfl)]; (first | exact hK _ | exact hK))) : q := h x
theorem sk {p q : Prop} (x : p) (h : p → q := by (intro hK; simp (disch := first | omega | decide) only [go_sem, F, opn_cond, hc, aIndex_map, act_make_q]; rw [mwp_make (by first | (simp [roomB]; done) | (simp [roomB]; omega))]; (first | exact hK _ | exact hK))) : q := h x
theorem sq {p q : Prop} (x : p) (h : p → q := by (intro hK; simp only [act_bs_q, go_sem]; first | (simp [-List.map_take, -List.map_drop, -BitVec.toNat_ofInt, -BitVec.ofInt_natCast, -BitVec.toNat_setWidth, -BitVec.toNat_ushiftRight, -BitVec.toNat_umod, -BitVec.toNat_udiv, go_sem, elems_v, cellishAV, Value.oneCell', isAggAV, partsOf, TI.z, TI.mk1, F]; (first | exact hK _ | exact hK)) | (simp (disch := first | omega | decide) only [go_sem, F, opn_cond, hc, aIndex_map, List.map, elems_cons]; rw [if_pos (by decide)]; simp (disch := first | omega | decide) only [go_sem, F, opn_cond, hc, aIndex_map, List.map, elems_cons]; rw [mwp_reify_own (by simp (disch := first | omega | decide) only [go_sem, F, opn_cond, hc, aIndex_map]; rfl)]; (try rw [sub_full (by simp)]); simp [-List.map_take, -List.map_drop, -BitVec.toNat_ofInt, go_sem, cellishAV, Value.oneCell', isAggAV, partsOf, TI.z, TI.mk1, mwp_if, cellsOf, sub]; (try simp only [List.set_cons_zero, List.set_cons_succ]); (first | exact hK _ | exact hK)) | (simp (disch := first | omega | decide) only [go_sem, F, opn_cond, hc, aIndex_map, List.map, elems_cons]; rw [if_pos (by decide)]; simp (disch := first | omega | decide) only [go_sem, F, opn_cond, hc, aIndex_map, List.map, elems_cons]; rw [mwp_reify_agg]; (repeat (first | rw [mwp_reifyL_v] | rw [mwp_reifyL_arr (by simp (disch := first | omega | decide) only [go_sem, F, opn_cond, hc, aIndex_map]; rfl)] | rw [mwp_reifyL_frz (by simp (disch := first | omega | decide) only [go_sem, F, opn_cond, hc, aIndex_map]; rfl)])); rw [mwp_reifyL_nil]; (repeat (rw [sub_full (by first | rfl | (simp; done) | (simp; omega))])); simp [-List.map_take, -List.map_drop, -BitVec.toNat_ofInt, go_sem, cellishAV, Value.oneCell', isAggAV, partsOf, TI.z, TI.mk1, mwp_if, cellsOf, sub]; (try simp only [List.set_cons_zero, List.set_cons_succ]); (first | exact hK _ | exact hK)))) : q := h x
theorem sc {p q : Prop} (x : p) (h : p → q := by (intro hK; rw [act_convB_q (by simp only [go_sem]) (by simp only [go_sem])]; simp (disch := first | omega | decide) only [go_sem, F, opn_cond, hc, aIndex_map]; rw [convN_eq (by simp (disch := first | omega | decide) only [go_sem, F, opn_cond, hc, aIndex_map]; rfl)]; (first | exact hK _ | exact hK))) : q := h x
theorem sp {p q : Prop} (x : p) (h : p → q := by (intro hK; simp (disch := first | omega | decide) only [go_sem, F, opn_cond, hc, aIndex_map]; apply mwp_append2q; (simp only [go_sem]; rfl); (simp only [go_sem]; rfl); (simp only [go_sem]); (intro Q hQ; first | exact hQ | (rw [peek_own (by simp (disch := first | omega | decide) only [go_sem, F, opn_cond, hc, aIndex_map]; rfl)]; (try rw [sub_full (by first | rfl | (simp only [List.length_map, List.length_replicate]; done) | (simp; done) | (simp; omega))]); exact hQ) | (rw [peek_frz (by simp (disch := first | omega | decide) only [go_sem, F, opn_cond, hc, aIndex_map]; rfl)]; (try rw [sub_full (by first | rfl | (simp only [List.length_map, List.length_replicate]; done) | (simp; done) | (simp; omega))]); exact hQ)); rfl; (simp (disch := first | omega | decide) only [go_sem, F, opn_cond, hc, aIndex_map]; rfl); rfl; (focus first | rfl | (simp; done) | (simp; omega)); (focus first | (simp only [List.length_cons, List.length_nil, List.length_map, Nat.zero_add, Nat.reduceAdd, roomB]; omega) | (simp [sub, roomB]; done) | (simp [sub, roomB]; omega)); (focus first | exact all_cells rfl | (simp [sub, cellsOf]; done) | (intro y hy; obtain ⟨x, _, rfl⟩ := List.mem_map.1 hy; rfl)); ((try simp only [List.nil_append, ← List.map_append, Bool.false_and]); (first | exact hK _ | exact hK)))) : q := h x
theorem cs {p q c : Prop} (h : c → p → q := by (intro gd hK; simp (disch := first | omega | decide) only [go_sem, F, opn_cond, hc, aIndex_map, act_call, List.map]; apply mwp_call_s rfl rfl rfl; (intro Q hQ; first | (simp only [go_sem, F, opn_cond, hc, aIndex_map, peekL, reifyL_nil, reifyL_cons, reify_v]; exact hQ) | (simp (disch := first | omega | decide) only [go_sem, F, opn_cond, hc, aIndex_map, peekL, reifyL_nil, reifyL_cons, reify_v]; (first | exact hQ | (((first | rw [peek_own (by simp (disch := first | omega | decide) only [go_sem, F, opn_cond, hc, aIndex_map, peekL, reifyL_nil, reifyL_cons, reify_v]; rfl)] | rw [mwp_reify_own (by simp (disch := first | omega | decide) only [go_sem, F, opn_cond, hc, aIndex_map, peekL, reifyL_nil, reifyL_cons, reify_v]; rfl)] | rw [peek_frz (by simp (disch := first | omega | decide) only [go_sem, F, opn_cond, hc, aIndex_map, peekL, reifyL_nil, reifyL_cons, reify_v]; rfl)] | rw [reify_frz (by simp (disch := first | omega | decide) only [go_sem, F, opn_cond, hc, aIndex_map, peekL, reifyL_nil, reifyL_cons, reify_v]; rfl)]); (try rw [sub_full (by first | rfl | (simp only [List.length_map, List.length_replicate]; done) | (simp; done) | (simp; omega))])); exact hQ) | (((first | rw [peek_own (by simp (disch := first | omega | decide) only [go_sem, F, opn_cond, hc, aIndex_map, peekL, reifyL_nil, reifyL_cons, reify_v]; rfl)] | rw [mwp_reify_own (by simp (disch := first | omega | decide) only [go_sem, F, opn_cond, hc, aIndex_map, peekL, reifyL_nil, reifyL_cons, reify_v]; rfl)] | rw [peek_frz (by simp (disch := first | omega | decide) only [go_sem, F, opn_cond, hc, aIndex_map, peekL, reifyL_nil, reifyL_cons, reify_v]; rfl)] | rw [reify_frz (by simp (disch := first | omega | decide) only [go_sem, F, opn_cond, hc, aIndex_map, peekL, reifyL_nil, reifyL_cons, reify_v]; rfl)]); (try rw [sub_full (by first | rfl | (simp only [List.length_map, List.length_replicate]; done) | (simp; done) | (simp; omega))])); (try simp (disch := first | omega | decide) only [go_sem, F, opn_cond, hc, aIndex_map, peekL, reifyL_nil, reifyL_cons, reify_v]); ((first | rw [peek_own (by simp (disch := first | omega | decide) only [go_sem, F, opn_cond, hc, aIndex_map, peekL, reifyL_nil, reifyL_cons, reify_v]; rfl)] | rw [mwp_reify_own (by simp (disch := first | omega | decide) only [go_sem, F, opn_cond, hc, aIndex_map, peekL, reifyL_nil, reifyL_cons, reify_v]; rfl)] | rw [peek_frz (by simp (disch := first | omega | decide) only [go_sem, F, opn_cond, hc, aIndex_map, peekL, reifyL_nil, reifyL_cons, reify_v]; rfl)] | rw [reify_frz (by simp (disch := first | omega | decide) only [go_sem, F, opn_cond, hc, aIndex_map, peekL, reifyL_nil, reifyL_cons, reify_v]; rfl)]); (try rw [sub_full (by first | rfl | (simp only [List.length_map, List.length_replicate]; done) | (simp; done) | (simp; omega))])); exact hQ) | (((first | rw [peek_own (by simp (disch := first | omega | decide) only [go_sem, F, opn_cond, hc, aIndex_map, peekL, reifyL_nil, reifyL_cons, reify_v]; rfl)] | rw [mwp_reify_own (by simp (disch := first | omega | decide) only [go_sem, F, opn_cond, hc, aIndex_map, peekL, reifyL_nil, reifyL_cons, reify_v]; rfl)] | rw [peek_frz (by simp (disch := first | omega | decide) only [go_sem, F, opn_cond, hc, aIndex_map, peekL, reifyL_nil, reifyL_cons, reify_v]; rfl)] | rw [reify_frz (by simp (disch := first | omega | decide) only [go_sem, F, opn_cond, hc, aIndex_map, peekL, reifyL_nil, reifyL_cons, reify_v]; rfl)]); (try rw [sub_full (by first | rfl | (simp only [List.length_map, List.length_replicate]; done) | (simp; done) | (simp; omega))])); simp (disch := first | omega | decide) only [go_sem, F, opn_cond, hc, aIndex_map, peekL, reifyL_nil, reifyL_cons, reify_v]; exact hQ))) | ((try simp only [opn_agg, opn_own, opn_v]); (try simp only [List.drop_zero, List.drop_succ_cons, List.take_succ_cons, List.take_zero]); (repeat (first | rw [mwp_peekL_agg] | rw [mwp_peekL_v] | rw [mwp_peekL_arr (by simp (disch := first | omega | decide) only [go_sem, F, opn_cond, hc, aIndex_map]; rfl)] | rw [mwp_peekL_frz (by simp (disch := first | omega | decide) only [go_sem, F, opn_cond, hc, aIndex_map]; rfl)] | rw [mwp_peekL_nil] | rw [mwp_reifyL_agg] | rw [mwp_reifyL_v] | rw [mwp_reifyL_arr (by simp (disch := first | omega | decide) only [go_sem, F, opn_cond, hc, aIndex_map]; rfl)] | rw [mwp_reifyL_frz (by simp (disch := first | omega | decide) only [go_sem, F, opn_cond, hc, aIndex_map]; rfl)] | rw [mwp_reifyL_nil])); (repeat (rw [sub_full (by first | rfl | (simp only [List.length_map, List.length_replicate]; done) | (simp; done) | (simp; omega))])); exact hQ)); exact gd; (focus first | (simp only [noPtrL, noPtr, noPtrL_bsl, Bool.and_self]; done) | (simp [-List.map_take, -List.map_drop, -List.map_append, -List.map_replicate, -List.reduceReplicate, noPtrL, noPtr, noPtrL_bsl, noPtrL_map, sub]; done) | (simp [noPtrL, noPtr, F]; done)); rfl; (first | exact hK _ | exact hK))) (w : c) (x : p) : q := h w x
theorem ct {p q c : Prop} (h : c → p → q := by (intro gd hK; simp (disch := first | omega | decide) only [go_sem, F, opn_cond, hc, aIndex_map, act_call, List.map]; apply mwp_call_st rfl rfl rfl; (intro Q hQ; first | (simp only [go_sem, F, opn_cond, hc, aIndex_map, peekL, reifyL_nil, reifyL_cons, reify_v]; exact hQ) | (simp (disch := first | omega | decide) only [go_sem, F, opn_cond, hc, aIndex_map, peekL, reifyL_nil, reifyL_cons, reify_v]; (first | exact hQ | (((first | rw [peek_own (by simp (disch := first | omega | decide) only [go_sem, F, opn_cond, hc, aIndex_map, peekL, reifyL_nil, reifyL_cons, reify_v]; rfl)] | rw [mwp_reify_own (by simp (disch := first | omega | decide) only [go_sem, F, opn_cond, hc, aIndex_map, peekL, reifyL_nil, reifyL_cons, reify_v]; rfl)] | rw [peek_frz (by simp (disch := first | omega | decide) only [go_sem, F, opn_cond, hc, aIndex_map, peekL, reifyL_nil, reifyL_cons, reify_v]; rfl)] | rw [reify_frz (by simp (disch := first | omega | decide) only [go_sem, F, opn_cond, hc, aIndex_map, peekL, reifyL_nil, reifyL_cons, reify_v]; rfl)]); (try rw [sub_full (by first | rfl | (simp only [List.length_map, List.length_replicate]; done) | (simp; done) | (simp; omega))])); exact hQ) | (((first | rw [peek_own (by simp (disch := first | omega | decide) only [go_sem, F, opn_cond, hc, aIndex_map, peekL, reifyL_nil, reifyL_cons, reify_v]; rfl)] | rw [mwp_reify_own (by simp (disch := first | omega | decide) only [go_sem, F, opn_cond, hc, aIndex_map, peekL, reifyL_nil, reifyL_cons, reify_v]; rfl)] | rw [peek_frz (by simp (disch := first | omega | decide) only [go_sem, F, opn_cond, hc, aIndex_map, peekL, reifyL_nil, reifyL_cons, reify_v]; rfl)] | rw [reify_frz (by simp (disch := first | omega | decide) only [go_sem, F, opn_cond, hc, aIndex_map, peekL, reifyL_nil, reifyL_cons, reify_v]; rfl)]); (try rw [sub_full (by first | rfl | (simp only [List.length_map, List.length_replicate]; done) | (simp; done) | (simp; omega))])); (try simp (disch := first | omega | decide) only [go_sem, F, opn_cond, hc, aIndex_map, peekL, reifyL_nil, reifyL_cons, reify_v]); ((first | rw [peek_own (by simp (disch := first | omega | decide) only [go_sem, F, opn_cond, hc, aIndex_map, peekL, reifyL_nil, reifyL_cons, reify_v]; rfl)] | rw [mwp_reify_own (by simp (disch := first | omega | decide) only [go_sem, F, opn_cond, hc, aIndex_map, peekL, reifyL_nil, reifyL_cons, reify_v]; rfl)] | rw [peek_frz (by simp (disch := first | omega | decide) only [go_sem, F, opn_cond, hc, aIndex_map, peekL, reifyL_nil, reifyL_cons, reify_v]; rfl)] | rw [reify_frz (by simp (disch := first | omega | decide) only [go_sem, F, opn_cond, hc, aIndex_map, peekL, reifyL_nil, reifyL_cons, reify_v]; rfl)]); (try rw [sub_full (by first | rfl | (simp only [List.length_map, List.length_replicate]; done) | (simp; done) | (simp; omega))])); exact hQ) | (((first | rw [peek_own (by simp (disch := first | omega | decide) only [go_sem, F, opn_cond, hc, aIndex_map, peekL, reifyL_nil, reifyL_cons, reify_v]; rfl)] | rw [mwp_reify_own (by simp (disch := first | omega | decide) only [go_sem, F, opn_cond, hc, aIndex_map, peekL, reifyL_nil, reifyL_cons, reify_v]; rfl)] | rw [peek_frz (by simp (disch := first | omega | decide) only [go_sem, F, opn_cond, hc, aIndex_map, peekL, reifyL_nil, reifyL_cons, reify_v]; rfl)] | rw [reify_frz (by simp (disch := first | omega | decide) only [go_sem, F, opn_cond, hc, aIndex_map, peekL, reifyL_nil, reifyL_cons, reify_v]; rfl)]); (try rw [sub_full (by first | rfl | (simp only [List.length_map, List.length_replicate]; done) | (simp; done) | (simp; omega))])); simp (disch := first | omega | decide) only [go_sem, F, opn_cond, hc, aIndex_map, peekL, reifyL_nil, reifyL_cons, reify_v]; exact hQ))) | ((try simp only [opn_agg, opn_own, opn_v]); (try simp only [List.drop_zero, List.drop_succ_cons, List.take_succ_cons, List.take_zero]); (repeat (first | rw [mwp_peekL_agg] | rw [mwp_peekL_v] | rw [mwp_peekL_arr (by simp (disch := first | omega | decide) only [go_sem, F, opn_cond, hc, aIndex_map]; rfl)] | rw [mwp_peekL_frz (by simp (disch := first | omega | decide) only [go_sem, F, opn_cond, hc, aIndex_map]; rfl)] | rw [mwp_peekL_nil] | rw [mwp_reifyL_agg] | rw [mwp_reifyL_v] | rw [mwp_reifyL_arr (by simp (disch := first | omega | decide) only [go_sem, F, opn_cond, hc, aIndex_map]; rfl)] | rw [mwp_reifyL_frz (by simp (disch := first | omega | decide) only [go_sem, F, opn_cond, hc, aIndex_map]; rfl)] | rw [mwp_reifyL_nil])); (repeat (rw [sub_full (by first | rfl | (simp only [List.length_map, List.length_replicate]; done) | (simp; done) | (simp; omega))])); exact hQ)); exact gd; (focus first | (simp only [noPtrL, noPtr, noPtrL_bsl, Bool.and_self]; done) | (simp [-List.map_take, -List.map_drop, -List.map_append, -List.map_replicate, -List.reduceReplicate, noPtrL, noPtr, noPtrL_bsl, noPtrL_map, sub]; done) | (simp [noPtrL, noPtr, F]; done)); rfl; (simp (disch := first | omega | decide) only [go_sem, F, opn_cond, hc, aIndex_map]; first | exact hK _ | exact hK))) (w : c) (x : p) : q := h w x
theorem cr {p q c : Prop} (h : c → p → q := by (intro gd hK; simp (disch := first | omega | decide) only [go_sem, F, opn_cond, hc, aIndex_map, act_call, List.map]; apply mwp_call_r rfl rfl rfl; (intro Q hQ; first | (simp only [go_sem, F, opn_cond, hc, aIndex_map, peekL, reifyL_nil, reifyL_cons, reify_v]; exact hQ) | (simp (disch := first | omega | decide) only [go_sem, F, opn_cond, hc, aIndex_map, peekL, reifyL_nil, reifyL_cons, reify_v]; (first | exact hQ | (((first | rw [peek_own (by simp (disch := first | omega | decide) only [go_sem, F, opn_cond, hc, aIndex_map, peekL, reifyL_nil, reifyL_cons, reify_v]; rfl)] | rw [mwp_reify_own (by simp (disch := first | omega | decide) only [go_sem, F, opn_cond, hc, aIndex_map, peekL, reifyL_nil, reifyL_cons, reify_v]; rfl)] | rw [peek_frz (by simp (disch := first | omega | decide) only [go_sem, F, opn_cond, hc, aIndex_map, peekL, reifyL_nil, reifyL_cons, reify_v]; rfl)] | rw [reify_frz (by simp (disch := first | omega | decide) only [go_sem, F, opn_cond, hc, aIndex_map, peekL, reifyL_nil, reifyL_cons, reify_v]; rfl)]); (try rw [sub_full (by first | rfl | (simp only [List.length_map, List.length_replicate]; done) | (simp; done) | (simp; omega))])); exact hQ) | (((first | rw [peek_own (by simp (disch := first | omega | decide) only [go_sem, F, opn_cond, hc, aIndex_map, peekL, reifyL_nil, reifyL_cons, reify_v]; rfl)] | rw [mwp_reify_own (by simp (disch := first | omega | decide) only [go_sem, F, opn_cond, hc, aIndex_map, peekL, reifyL_nil, reifyL_cons, reify_v]; rfl)] | rw [peek_frz (by simp (disch := first | omega | decide) only [go_sem, F, opn_cond, hc, aIndex_map, peekL, reifyL_nil, reifyL_cons, reify_v]; rfl)] | rw [reify_frz (by simp (disch := first | omega | decide) only [go_sem, F, opn_cond, hc, aIndex_map, peekL, reifyL_nil, reifyL_cons, reify_v]; rfl)]); (try rw [sub_full (by first | rfl | (simp only [List.length_map, List.length_replicate]; done) | (simp; done) | (simp; omega))])); (try simp (disch := first | omega | decide) only [go_sem, F, opn_cond, hc, aIndex_map, peekL, reifyL_nil, reifyL_cons, reify_v]); ((first | rw [peek_own (by simp (disch := first | omega | decide) only [go_sem, F, opn_cond, hc, aIndex_map, peekL, reifyL_nil, reifyL_cons, reify_v]; rfl)] | rw [mwp_reify_own (by simp (disch := first | omega | decide) only [go_sem, F, opn_cond, hc, aIndex_map, peekL, reifyL_nil, reifyL_cons, reify_v]; rfl)] | rw [peek_frz (by simp (disch := first | omega | decide) only [go_sem, F, opn_cond, hc, aIndex_map, peekL, reifyL_nil, reifyL_cons, reify_v]; rfl)] | rw [reify_frz (by simp (disch := first | omega | decide) only [go_sem, F, opn_cond, hc, aIndex_map, peekL, reifyL_nil, reifyL_cons, reify_v]; rfl)]); (try rw [sub_full (by first | rfl | (simp only [List.length_map, List.length_replicate]; done) | (simp; done) | (simp; omega))])); exact hQ) | (((first | rw [peek_own (by simp (disch := first | omega | decide) only [go_sem, F, opn_cond, hc, aIndex_map, peekL, reifyL_nil, reifyL_cons, reify_v]; rfl)] | rw [mwp_reify_own (by simp (disch := first | omega | decide) only [go_sem, F, opn_cond, hc, aIndex_map, peekL, reifyL_nil, reifyL_cons, reify_v]; rfl)] | rw [peek_frz (by simp (disch := first | omega | decide) only [go_sem, F, opn_cond, hc, aIndex_map, peekL, reifyL_nil, reifyL_cons, reify_v]; rfl)] | rw [reify_frz (by simp (disch := first | omega | decide) only [go_sem, F, opn_cond, hc, aIndex_map, peekL, reifyL_nil, reifyL_cons, reify_v]; rfl)]); (try rw [sub_full (by first | rfl | (simp only [List.length_map, List.length_replicate]; done) | (simp; done) | (simp; omega))])); simp (disch := first | omega | decide) only [go_sem, F, opn_cond, hc, aIndex_map, peekL, reifyL_nil, reifyL_cons, reify_v]; exact hQ))) | ((try simp only [opn_agg, opn_own, opn_v]); (try simp only [List.drop_zero, List.drop_succ_cons, List.take_succ_cons, List.take_zero]); (repeat (first | rw [mwp_peekL_agg] | rw [mwp_peekL_v] | rw [mwp_peekL_arr (by simp (disch := first | omega | decide) only [go_sem, F, opn_cond, hc, aIndex_map]; rfl)] | rw [mwp_peekL_frz (by simp (disch := first | omega | decide) only [go_sem, F, opn_cond, hc, aIndex_map]; rfl)] | rw [mwp_peekL_nil] | rw [mwp_reifyL_agg] | rw [mwp_reifyL_v] | rw [mwp_reifyL_arr (by simp (disch := first | omega | decide) only [go_sem, F, opn_cond, hc, aIndex_map]; rfl)] | rw [mwp_reifyL_frz (by simp (disch := first | omega | decide) only [go_sem, F, opn_cond, hc, aIndex_map]; rfl)] | rw [mwp_reifyL_nil])); (repeat (rw [sub_full (by first | rfl | (simp only [List.length_map, List.length_replicate]; done) | (simp; done) | (simp; omega))])); exact hQ)); exact gd; (focus first | (simp only [noPtrL, noPtr, noPtrL_bsl, Bool.and_self]; done) | (simp [-List.map_take, -List.map_drop, -List.map_append, -List.map_replicate, -List.reduceReplicate, noPtrL, noPtr, noPtrL_bsl, noPtrL_map, sub]; done) | (simp [noPtrL, noPtr, F]; done)); (simp (disch := first | omega | decide) only [go_sem, F, opn_cond, hc, aIndex_map]; first | exact hK _ | exact hK))) (w : c) (x : p) : q := h w x
theorem co1 {p q c : Prop} (h : c → p → q := by (intro gd hK; simp (disch := first | omega | decide) only [go_sem, F, opn_cond, hc, aIndex_map, act_call, List.map]; apply mwp_call_r rfl rfl rfl; (intro Q hQ; first | (simp only [go_sem, F, opn_cond, hc, aIndex_map, peekL, reifyL_nil, reifyL_cons, reify_v]; exact hQ) | (simp (disch := first | omega | decide) only [go_sem, F, opn_cond, hc, aIndex_map, peekL, reifyL_nil, reifyL_cons, reify_v]; (first | exact hQ | (((first | rw [peek_own (by simp (disch := first | omega | decide) only [go_sem, F, opn_cond, hc, aIndex_map, peekL, reifyL_nil, reifyL_cons, reify_v]; rfl)] | rw [mwp_reify_own (by simp (disch := first | omega | decide) only [go_sem, F, opn_cond, hc, aIndex_map, peekL, reifyL_nil, reifyL_cons, reify_v]; rfl)] | rw [peek_frz (by simp (disch := first | omega | decide) only [go_sem, F, opn_cond, hc, aIndex_map, peekL, reifyL_nil, reifyL_cons, reify_v]; rfl)] | rw [reify_frz (by simp (disch := first | omega | decide) only [go_sem, F, opn_cond, hc, aIndex_map, peekL, reifyL_nil, reifyL_cons, reify_v]; rfl)]); (try rw [sub_full (by first | rfl | (simp only [List.length_map, List.length_replicate]; done) | (simp; done) | (simp; omega))])); exact hQ) | (((first | rw [peek_own (by simp (disch := first | omega | decide) only [go_sem, F, opn_cond, hc, aIndex_map, peekL, reifyL_nil, reifyL_cons, reify_v]; rfl)] | rw [mwp_reify_own (by simp (disch := first | omega | decide) only [go_sem, F, opn_cond, hc, aIndex_map, peekL, reifyL_nil, reifyL_cons, reify_v]; rfl)] | rw [peek_frz (by simp (disch := first | omega | decide) only [go_sem, F, opn_cond, hc, aIndex_map, peekL, reifyL_nil, reifyL_cons, reify_v]; rfl)] | rw [reify_frz (by simp (disch := first | omega | decide) only [go_sem, F, opn_cond, hc, aIndex_map, peekL, reifyL_nil, reifyL_cons, reify_v]; rfl)]); (try rw [sub_full (by first | rfl | (simp only [List.length_map, List.length_replicate]; done) | (simp; done) | (simp; omega))])); (try simp (disch := first | omega | decide) only [go_sem, F, opn_cond, hc, aIndex_map, peekL, reifyL_nil, reifyL_cons, reify_v]); ((first | rw [peek_own (by simp (disch := first | omega | decide) only [go_sem, F, opn_cond, hc, aIndex_map, peekL, reifyL_nil, reifyL_cons, reify_v]; rfl)] | rw [mwp_reify_own (by simp (disch := first | omega | decide) only [go_sem, F, opn_cond, hc, aIndex_map, peekL, reifyL_nil, reifyL_cons, reify_v]; rfl)] | rw [peek_frz (by simp (disch := first | omega | decide) only [go_sem, F, opn_cond, hc, aIndex_map, peekL, reifyL_nil, reifyL_cons, reify_v]; rfl)] | rw [reify_frz (by simp (disch := first | omega | decide) only [go_sem, F, opn_cond, hc, aIndex_map, peekL, reifyL_nil, reifyL_cons, reify_v]; rfl)]); (try rw [sub_full (by first | rfl | (simp only [List.length_map, List.length_replicate]; done) | (simp; done) | (simp; omega))])); exact hQ) | (((first | rw [peek_own (by simp (disch := first | omega | decide) only [go_sem, F, opn_cond, hc, aIndex_map, peekL, reifyL_nil, reifyL_cons, reify_v]; rfl)] | rw [mwp_reify_own (by simp (disch := first | omega | decide) only [go_sem, F, opn_cond, hc, aIndex_map, peekL, reifyL_nil, reifyL_cons, reify_v]; rfl)] | rw [peek_frz (by simp (disch := first | omega | decide) only [go_sem, F, opn_cond, hc, aIndex_map, peekL, reifyL_nil, reifyL_cons, reify_v]; rfl)] | rw [reify_frz (by simp (disch := first | omega | decide) only [go_sem, F, opn_cond, hc, aIndex_map, peekL, reifyL_nil, reifyL_cons, reify_v]; rfl)]); (try rw [sub_full (by first | rfl | (simp only [List.length_map, List.length_replicate]; done) | (simp; done) | (simp; omega))])); simp (disch := first | omega | decide) only [go_sem, F, opn_cond, hc, aIndex_map, peekL, reifyL_nil, reifyL_cons, reify_v]; exact hQ))) | ((try simp only [opn_agg, opn_own, opn_v]); (try simp only [List.drop_zero, List.drop_succ_cons, List.take_succ_cons, List.take_zero]); (repeat (first | rw [mwp_peekL_agg] | rw [mwp_peekL_v] | rw [mwp_peekL_arr (by simp (disch := first | omega | decide) only [go_sem, F, opn_cond, hc, aIndex_map]; rfl)] | rw [mwp_peekL_frz (by simp (disch := first | omega | decide) only [go_sem, F, opn_cond, hc, aIndex_map]; rfl)] | rw [mwp_peekL_nil] | rw [mwp_reifyL_agg] | rw [mwp_reifyL_v] | rw [mwp_reifyL_arr (by simp (disch := first | omega | decide) only [go_sem, F, opn_cond, hc, aIndex_map]; rfl)] | rw [mwp_reifyL_frz (by simp (disch := first | omega | decide) only [go_sem, F, opn_cond, hc, aIndex_map]; rfl)] | rw [mwp_reifyL_nil])); (repeat (rw [sub_full (by first | rfl | (simp only [List.length_map, List.length_replicate]; done) | (simp; done) | (simp; omega))])); exact hQ)); exact gd; (focus first | (simp only [noPtrL, noPtr, noPtrL_bsl, Bool.and_self]; done) | (simp [-List.map_take, -List.map_drop, -List.map_append, -List.map_replicate, -List.reduceReplicate, noPtrL, noPtr, noPtrL_bsl, noPtrL_map, sub]; done) | (simp [noPtrL, noPtr, F]; done)); (rw [resOf_own1 (by first | (simp (disch := decide) only [mset_ne, hr]; done) | simp [Mem.set, hr])]; (first | exact hK _ | exact hK)))) (w : c) (x : p) : q := h w x
theorem co2 {p q c : Prop} (h : c → p → q := by (intro gd hK; simp (disch := first | omega | decide) only [go_sem, F, opn_cond, hc, aIndex_map, act_call, List.map]; apply mwp_call_r rfl rfl rfl; (intro Q hQ; first | (simp only [go_sem, F, opn_cond, hc, aIndex_map, peekL, reifyL_nil, reifyL_cons, reify_v]; exact hQ) | (simp (disch := first | omega | decide) only [go_sem, F, opn_cond, hc, aIndex_map, peekL, reifyL_nil, reifyL_cons, reify_v]; (first | exact hQ | (((first | rw [peek_own (by simp (disch := first | omega | decide) only [go_sem, F, opn_cond, hc, aIndex_map, peekL, reifyL_nil, reifyL_cons, reify_v]; rfl)] | rw [mwp_reify_own (by simp (disch := first | omega | decide) only [go_sem, F, opn_cond, hc, aIndex_map, peekL, reifyL_nil, reifyL_cons, reify_v]; rfl)] | rw [peek_frz (by simp (disch := first | omega | decide) only [go_sem, F, opn_cond, hc, aIndex_map, peekL, reifyL_nil, reifyL_cons, reify_v]; rfl)] | rw [reify_frz (by simp (disch := first | omega | decide) only [go_sem, F, opn_cond, hc, aIndex_map, peekL, reifyL_nil, reifyL_cons, reify_v]; rfl)]); (try rw [sub_full (by first | rfl | (simp only [List.length_map, List.length_replicate]; done) | (simp; done) | (simp; omega))])); exact hQ) | (((first | rw [peek_own (by simp (disch := first | omega | decide) only [go_sem, F, opn_cond, hc, aIndex_map, peekL, reifyL_nil, reifyL_cons, reify_v]; rfl)] | rw [mwp_reify_own (by simp (disch := first | omega | decide) only [go_sem, F, opn_cond, hc, aIndex_map, peekL, reifyL_nil, reifyL_cons, reify_v]; rfl)] | rw [peek_frz (by simp (disch := first | omega | decide) only [go_sem, F, opn_cond, hc, aIndex_map, peekL, reifyL_nil, reifyL_cons, reify_v]; rfl)] | rw [reify_frz (by simp (disch := first | omega | decide) only [go_sem, F, opn_cond, hc, aIndex_map, peekL, reifyL_nil, reifyL_cons, reify_v]; rfl)]); (try rw [sub_full (by first | rfl | (simp only [List.length_map, List.length_replicate]; done) | (simp; done) | (simp; omega))])); (try simp (disch := first | omega | decide) only [go_sem, F, opn_cond, hc, aIndex_map, peekL, reifyL_nil, reifyL_cons, reify_v]); ((first | rw [peek_own (by simp (disch := first | omega | decide) only [go_sem, F, opn_cond, hc, aIndex_map, peekL, reifyL_nil, reifyL_cons, reify_v]; rfl)] | rw [mwp_reify_own (by simp (disch := first | omega | decide) only [go_sem, F, opn_cond, hc, aIndex_map, peekL, reifyL_nil, reifyL_cons, reify_v]; rfl)] | rw [peek_frz (by simp (disch := first | omega | decide) only [go_sem, F, opn_cond, hc, aIndex_map, peekL, reifyL_nil, reifyL_cons, reify_v]; rfl)] | rw [reify_frz (by simp (disch := first | omega | decide) only [go_sem, F, opn_cond, hc, aIndex_map, peekL, reifyL_nil, reifyL_cons, reify_v]; rfl)]); (try rw [sub_full (by first | rfl | (simp only [List.length_map, List.length_replicate]; done) | (simp; done) | (simp; omega))])); exact hQ) | (((first | rw [peek_own (by simp (disch := first | omega | decide) only [go_sem, F, opn_cond, hc, aIndex_map, peekL, reifyL_nil, reifyL_cons, reify_v]; rfl)] | rw [mwp_reify_own (by simp (disch := first | omega | decide) only [go_sem, F, opn_cond, hc, aIndex_map, peekL, reifyL_nil, reifyL_cons, reify_v]; rfl)] | rw [peek_frz (by simp (disch := first | omega | decide) only [go_sem, F, opn_cond, hc, aIndex_map, peekL, reifyL_nil, reifyL_cons, reify_v]; rfl)] | rw [reify_frz (by simp (disch := first | omega | decide) only [go_sem, F, opn_cond, hc, aIndex_map, peekL, reifyL_nil, reifyL_cons, reify_v]; rfl)]); (try rw [sub_full (by first | rfl | (simp only [List.length_map, List.length_replicate]; done) | (simp; done) | (simp; omega))])); simp (disch := first | omega | decide) only [go_sem, F, opn_cond, hc, aIndex_map, peekL, reifyL_nil, reifyL_cons, reify_v]; exact hQ))) | ((try simp only [opn_agg, opn_own, opn_v]); (try simp only [List.drop_zero, List.drop_succ_cons, List.take_succ_cons, List.take_zero]); (repeat (first | rw [mwp_peekL_agg] | rw [mwp_peekL_v] | rw [mwp_peekL_arr (by simp (disch := first | omega | decide) only [go_sem, F, opn_cond, hc, aIndex_map]; rfl)] | rw [mwp_peekL_frz (by simp (disch := first | omega | decide) only [go_sem, F, opn_cond, hc, aIndex_map]; rfl)] | rw [mwp_peekL_nil] | rw [mwp_reifyL_agg] | rw [mwp_reifyL_v] | rw [mwp_reifyL_arr (by simp (disch := first | omega | decide) only [go_sem, F, opn_cond, hc, aIndex_map]; rfl)] | rw [mwp_reifyL_frz (by simp (disch := first | omega | decide) only [go_sem, F, opn_cond, hc, aIndex_map]; rfl)] | rw [mwp_reifyL_nil])); (repeat (rw [sub_full (by first | rfl | (simp only [List.length_map, List.length_replicate]; done) | (simp; done) | (simp; omega))])); exact hQ)); exact gd; (focus first | (simp only [noPtrL, noPtr, noPtrL_bsl, Bool.and_self]; done) | (simp [-List.map_take, -List.map_drop, -List.map_append, -List.map_replicate, -List.reduceReplicate, noPtrL, noPtr, noPtrL_bsl, noPtrL_map, sub]; done) | (simp [noPtrL, noPtr, F]; done)); (rw [resOf_own2 (by first | (simp (disch := decide) only [mset_ne, hr]; done) | simp [Mem.set, hr])]; (first | exact hK _ | exact hK)))) (w : c) (x : p) : q := h w x
theorem cg {p q c : Prop} (h : c → p → q := by (intro gd hK; simp (disch := first | omega | decide) only [go_sem, F, opn_cond, hc, aIndex_map, act_call, List.map]; apply mwp_call_g rfl rfl rfl; (intro Q hQ; first | (simp only [go_sem, F, opn_cond, hc, aIndex_map, peekL, reifyL_nil, reifyL_cons, reify_v]; exact hQ) | (simp (disch := first | omega | decide) only [go_sem, F, opn_cond, hc, aIndex_map, peekL, reifyL_nil, reifyL_cons, reify_v]; (first | exact hQ | (((first | rw [peek_own (by simp (disch := first | omega | decide) only [go_sem, F, opn_cond, hc, aIndex_map, peekL, reifyL_nil, reifyL_cons, reify_v]; rfl)] | rw [mwp_reify_own (by simp (disch := first | omega | decide) only [go_sem, F, opn_cond, hc, aIndex_map, peekL, reifyL_nil, reifyL_cons, reify_v]; rfl)] | rw [peek_frz (by simp (disch := first | omega | decide) only [go_sem, F, opn_cond, hc, aIndex_map, peekL, reifyL_nil, reifyL_cons, reify_v]; rfl)] | rw [reify_frz (by simp (disch := first | omega | decide) only [go_sem, F, opn_cond, hc, aIndex_map, peekL, reifyL_nil, reifyL_cons, reify_v]; rfl)]); (try rw [sub_full (by first | rfl | (simp only [List.length_map, List.length_replicate]; done) | (simp; done) | (simp; omega))])); exact hQ) | (((first | rw [peek_own (by simp (disch := first | omega | decide) only [go_sem, F, opn_cond, hc, aIndex_map, peekL, reifyL_nil, reifyL_cons, reify_v]; rfl)] | rw [mwp_reify_own (by simp (disch := first | omega | decide) only [go_sem, F, opn_cond, hc, aIndex_map, peekL, reifyL_nil, reifyL_cons, reify_v]; rfl)] | rw [peek_frz (by simp (disch := first | omega | decide) only [go_sem, F, opn_cond, hc, aIndex_map, peekL, reifyL_nil, reifyL_cons, reify_v]; rfl)] | rw [reify_frz (by simp (disch := first | omega | decide) only [go_sem, F, opn_cond, hc, aIndex_map, peekL, reifyL_nil, reifyL_cons, reify_v]; rfl)]); (try rw [sub_full (by first | rfl | (simp only [List.length_map, List.length_replicate]; done) | (simp; done) | (simp; omega))])); (try simp (disch := first | omega | decide) only [go_sem, F, opn_cond, hc, aIndex_map, peekL, reifyL_nil, reifyL_cons, reify_v]); ((first | rw [peek_own (by simp (disch := first | omega | decide) only [go_sem, F, opn_cond, hc, aIndex_map, peekL, reifyL_nil, reifyL_cons, reify_v]; rfl)] | rw [mwp_reify_own (by simp (disch := first | omega | decide) only [go_sem, F, opn_cond, hc, aIndex_map, peekL, reifyL_nil, reifyL_cons, reify_v]; rfl)] | rw [peek_frz (by simp (disch := first | omega | decide) only [go_sem, F, opn_cond, hc, aIndex_map, peekL, reifyL_nil, reifyL_cons, reify_v]; rfl)] | rw [reify_frz (by simp (disch := first | omega | decide) only [go_sem, F, opn_cond, hc, aIndex_map, peekL, reifyL_nil, reifyL_cons, reify_v]; rfl)]); (try rw [sub_full (by first | rfl | (simp only [List.length_map, List.length_replicate]; done) | (simp; done) | (simp; omega))])); exact hQ) | (((first | rw [peek_own (by simp (disch := first | omega | decide) only [go_sem, F, opn_cond, hc, aIndex_map, peekL, reifyL_nil, reifyL_cons, reify_v]; rfl)] | rw [mwp_reify_own (by simp (disch := first | omega | decide) only [go_sem, F, opn_cond, hc, aIndex_map, peekL, reifyL_nil, reifyL_cons, reify_v]; rfl)] | rw [peek_frz (by simp (disch := first | omega | decide) only [go_sem, F, opn_cond, hc, aIndex_map, peekL, reifyL_nil, reifyL_cons, reify_v]; rfl)] | rw [reify_frz (by simp (disch := first | omega | decide) only [go_sem, F, opn_cond, hc, aIndex_map, peekL, reifyL_nil, reifyL_cons, reify_v]; rfl)]); (try rw [sub_full (by first | rfl | (simp only [List.length_map, List.length_replicate]; done) | (simp; done) | (simp; omega))])); simp (disch := first | omega | decide) only [go_sem, F, opn_cond, hc, aIndex_map, peekL, reifyL_nil, reifyL_cons, reify_v]; exact hQ))) | ((try simp only [opn_agg, opn_own, opn_v]); (try simp only [List.drop_zero, List.drop_succ_cons, List.take_succ_cons, List.take_zero]); (repeat (first | rw [mwp_peekL_agg] | rw [mwp_peekL_v] | rw [mwp_peekL_arr (by simp (disch := first | omega | decide) only [go_sem, F, opn_cond, hc, aIndex_map]; rfl)] | rw [mwp_peekL_frz (by simp (disch := first | omega | decide) only [go_sem, F, opn_cond, hc, aIndex_map]; rfl)] | rw [mwp_peekL_nil] | rw [mwp_reifyL_agg] | rw [mwp_reifyL_v] | rw [mwp_reifyL_arr (by simp (disch := first | omega | decide) only [go_sem, F, opn_cond, hc, aIndex_map]; rfl)] | rw [mwp_reifyL_frz (by simp (disch := first | omega | decide) only [go_sem, F, opn_cond, hc, aIndex_map]; rfl)] | rw [mwp_reifyL_nil])); (repeat (rw [sub_full (by first | rfl | (simp only [List.length_map, List.length_replicate]; done) | (simp; done) | (simp; omega))])); exact hQ)); (first | exact hG | rfl | (simp only [mset_G, hG]; rfl)); exact gd; (skip; (simp (disch := first | omega | decide) only [go_sem, F, opn_cond, hc, aIndex_map]; first | exact hK _ | exact hK)))) (w : c) (x : p) : q := h w x
theorem cnd {P : Program} {c : Operand} {x y : Code} {σ : St} {Q : Exit → St → Prop} {b : Bool} (ht : b = true → AW P x σ Q) (hf : b = false → AW P y σ Q) (h : opn (σ.raw c) = .v (.base (.bool b)) := by first | (simp only [go_sem, F, opn_cond, hc, aIndex_map]; rfl) | (simp (disch := first | omega | decide) only [go_sem, F, opn_cond, hc, aIndex_map]; rfl)) : AW P (.cond c x y) σ Q := AW.cond h ht hf
section
variable {P : Program} {C : Contract} {cfg : Cfg} {ops : Array Oper} {n : Nat} {f : Nat → LV} {m : Mem} {Q : St → Prop} {rs : List Oper} {op : Op} {ty : TypeId} {pos : String} {aft : Array Edge} {g : Option (Nat × Bool)} {lv : LV} {m' : Mem} {i : Nat} {acc : List (Nat × Fp)} {fq : Fp} {d : Nat} {c : Bool}
theorem stp (h : ∀ K : LV → Mem → Fp → Prop, (∀ fp, K lv m' fp) → Mwp C (act P cfg (St.raw ⟨n, f, m⟩) ⟨some d, op, ty, pos, aft, g⟩) m {} K) (k : AOpsL P C cfg ops rs ⟨n, upd f d lv, m'⟩ Q)
    (hd : d < n := by decide) (hw : wantO ops ⟨n, f, m⟩ ⟨some d, op, ty, pos, aft, g⟩ = some true := by rfl) : AOpsL P C cfg ops (⟨some d, op, ty, pos, aft, g⟩ :: rs) ⟨n, f, m⟩ Q := aops_step hd hw h k
theorem stp0 (h : ∀ K : LV → Mem → Fp → Prop, (∀ fp, K lv m' fp) → Mwp C (act P cfg (St.raw ⟨n, f, m⟩) ⟨none, op, ty, pos, aft, g⟩) m {} K) (k : AOpsL P C cfg ops rs ⟨n, f, m'⟩ Q)
    (hw : wantO ops ⟨n, f, m⟩ ⟨none, op, ty, pos, aft, g⟩ = some true := by rfl) : AOpsL P C cfg ops (⟨none, op, ty, pos, aft, g⟩ :: rs) ⟨n, f, m⟩ Q := aops_step0 hw h k
theorem mrg (hw : wantO ops ⟨n, f, m⟩ ⟨some d, op, ty, pos, aft, g⟩ = some c) (h : c = true → ∀ K : LV → Mem → Fp → Prop, (∀ fp, K lv m fp) → Mwp C (act P cfg (St.raw ⟨n, f, m⟩) ⟨some d, op, ty, pos, aft, g⟩) m {} K) (k : AOpsL P C cfg ops rs ⟨n, upd f d (.cond c lv), m⟩ Q)
    (hd : d < n := by decide) : AOpsL P C cfg ops (⟨some d, op, ty, pos, aft, g⟩ :: rs) ⟨n, f, m⟩ Q := aops_merge' hd hw h k
theorem skp (k : AOpsL P C cfg ops rs ⟨n, upd f d (.v (.base undef)), m⟩ Q) (hd : d < n := by decide) (hw : wantO ops ⟨n, f, m⟩ ⟨some d, op, ty, pos, aft, g⟩ = some false := by rfl) : AOpsL P C cfg ops (⟨some d, op, ty, pos, aft, g⟩ :: rs) ⟨n, f, m⟩ Q := aops_skip' hd hw k
theorem dstp (h : ∀ K : LV → Mem → Fp → Prop, K lv m' fq → Mwp C (act P cfg (St.raw ⟨n, f, m⟩) ⟨some d, op, ty, pos, aft, g⟩) m {} K) (k : ADrawL P C cfg ops rs (i + 1) ⟨n, upd f d lv, m'⟩ ((i, fq) :: acc) Q)
    (hw : wantO ops ⟨n, f, m⟩ ⟨some d, op, ty, pos, aft, g⟩ = some true := by rfl) : ADrawL P C cfg ops (⟨some d, op, ty, pos, aft, g⟩ :: rs) i ⟨n, f, m⟩ acc Q := adraw_step hw h k
theorem dstp0 (h : ∀ K : LV → Mem → Fp → Prop, K lv m' fq → Mwp C (act P cfg (St.raw ⟨n, f, m⟩) ⟨none, op, ty, pos, aft, g⟩) m {} K) (k : ADrawL P C cfg ops rs (i + 1) ⟨n, f, m'⟩ ((i, fq) :: acc) Q)
    (hw : wantO ops ⟨n, f, m⟩ ⟨none, op, ty, pos, aft, g⟩ = some true := by rfl) : ADrawL P C cfg ops (⟨none, op, ty, pos, aft, g⟩ :: rs) i ⟨n, f, m⟩ acc Q := adraw_step0 hw h k
theorem dmrg (hw : wantO ops ⟨n, f, m⟩ ⟨some d, op, ty, pos, aft, g⟩ = some c) (h : c = true → ∀ K : LV → Mem → Fp → Prop, K lv m fq → Mwp C (act P cfg (St.raw ⟨n, f, m⟩) ⟨some d, op, ty, pos, aft, g⟩) m {} K) (k : ADrawL P C cfg ops rs (i + 1) ⟨n, upd f d (.cond c lv), m⟩ ((i, fq) :: acc) Q) : ADrawL P C cfg ops (⟨some d, op, ty, pos, aft, g⟩ :: rs) i ⟨n, f, m⟩ acc Q := adraw_merge' hw h k
theorem dskp (k : ADrawL P C cfg ops rs (i + 1) ⟨n, upd f d (.v (.base undef)), m⟩ ((i, {}) :: acc) Q) (hw : wantO ops ⟨n, f, m⟩ ⟨some d, op, ty, pos, aft, g⟩ = some false := by rfl) : ADrawL P C cfg ops (⟨some d, op, ty, pos, aft, g⟩ :: rs) i ⟨n, f, m⟩ acc Q := adraw_skip' hw k
end
end Go.Vai
namespace Go.Vai
section
variable {C : Contract} {m : Mem} {fp : Fp} {n : Nm} {gg : Nat} {nl : Bool} {sz : Nat} {α : Type} {f : α → AV} {l : List α}
end
section
variable {P : Program} {C : Contract} {m : Mem} {fp : Fp} {n : Nm} {gg : Nat} {nl : Bool} {sz : Nat} {xs : List AV}
def clearT (P : Program) (t : TypeId) (x : LV) : M LV := match elOf P t with
  | some e => (match tiOf P e with | some ti => (aClear ti.sz ti.z x).bind fun _ => .ret (.v (.base undef)) | none => .fail)
  | none => (match mapEl P t with | some _ => (aMapClear x).bind fun _ => .ret (.v (.base undef)) | none => .fail)
theorem clear_q {t : TypeId} {dst : Option Tmp} {x : LV} : builtinL P .clear #[t] dst [x] = clearT P t x := rfl
end
attribute [go_sem] clear_q clearT
end Go.Vai
namespace Go.Vai
theorem AW.frzVar {P : Program} {c : Code} {nt : Nat} {f : Nat → LV} {m : Mem} {Q : Exit → St → Prop} (t : Nat) {n : Nm} {g lo hi sz : Nat} {nil : Bool} {xs : List AV} (hx : f t = .own n g lo hi) (ho : m.objs n = (g, .arr nil sz xs))
    (h : AW P c ⟨nt, upd f t (.v (.sl sz nil (sub xs lo hi))), m.set n (g, .frz nil sz xs)⟩ Q) : AW P c ⟨nt, f, m⟩ Q := fun gh a w hs => by
  have hr0 : Run (Good P) (freezeN n g lo hi) m (.sl sz nil (sub xs lo hi)) (m.set n (g, .frz nil sz xs)) ((({} : Fp).addW n).addN n) := by
    unfold freezeN
    refine Run.getO ?_
    rw [ho]
    simp only [if_true]
    exact Run.setO Run.ret
  have hr : Run (Good P) (reify (.own n g lo hi)) m (.sl sz nil (sub xs lo hi)) (m.set n (g, .frz nil sz xs)) ((({} : Fp).addW n).addN n) := by simp only [reify]; exact hr0
  obtain ⟨gh', k1, k2, _, k4, _⟩ := reify_sound _ hr hs.mem
  have hst := hs.slots t
  simp only [hx] at hst
  have hR := k4 _ hst
  exact wp_mono (h gh' a w ⟨hs.n, hs.defers, fun u => by
    show LVRel gh' w _ (upd f t _ u) _
    by_cases e : u = t
    · subst e; rw [upd_same]; simp only [LVRel]; exact hR
    · rw [upd_ne _ _ e]; exact k2.lv (hs.slots u), k1⟩) fun e _ _ ⟨σ', gh'', q, s, x⟩ => ⟨σ', gh'', q, s, k2.trans x⟩
theorem Good.nil1 {P : Program} {f : FuncId} {a : AV × Bool} {rest : List (AV × Bool)} {G G' : List (List AV)} {r : List (AV × Bool)} {s s' : Nat} {o : Bool} (h : Good P f (a :: (.sl s true [], o) :: rest) G r G') : Good P f (a :: (.sl s' true [], o) :: rest) G r G' :=
  h.arg_nil rfl fun j x y hx hy => by
    match j with
    | 0 => simp at hx hy; rw [hx] at hy; exact .inl hy
    | 1 => simp at hx hy; subst hx hy; exact .inr ⟨s, s', o, rfl, rfl⟩
    | j + 2 => simp at hx hy; rw [hx] at hy; exact .inl (by simpa using hy)
end Go.Vai
namespace Go.Vai
theorem lenN0 : ((([] : List AV).length : Nat) : Int) = 0 := rfl
theorem kaz {p q : Prop} (x : p) (h : p → q := by (intro hK; simp (disch := first | omega | decide) only [go_sem, F, opn_cond, hc, aIndex_map]; apply mwp_append0N; (simp only [go_sem]; rfl); (simp only [go_sem]; rfl); (simp only [go_sem]; rfl); (simp [roomB]; omega); rfl; (first | exact hK _ | exact hK))) : q := h x
theorem kab {p q : Prop} (x : p) (h : p → q := by (intro hK; simp (disch := first | omega | decide) only [go_sem, F, opn_cond, hc, aIndex_map]; refine mwp_append0B (by simp only [go_sem]; rfl) (by simp only [go_sem]) (by simp only [go_sem]; rfl) (by first | omega | (simp; omega)) (by simp (disch := first | omega | decide) only [go_sem, F]; first | done | rfl) rfl (by first | omega | (simp; omega)) ?_; (first | exact hK _ | exact hK))) : q := h x
attribute [go_sem] lenN0
end Go.Vai
namespace Go.Vai
def Nm.up : Nm → Nm
  | .tmp t i => .tmp (t + 1000) i
  | .var t => .var (t + 1000)
  | .cell t j => .cell (t + 1000) j
  | .res i => .res (i + 1000)
def Nm.dn : Nm → Option Nm
  | .tmp t i => if 1000 ≤ t then some (.tmp (t - 1000) i) else none
  | .var t => if 1000 ≤ t then some (.var (t - 1000)) else none
  | .cell t j => if 1000 ≤ t then some (.cell (t - 1000) j) else none
  | .res i => if 1000 ≤ i then some (.res (i - 1000)) else none
mutual
def LV.up : LV → LV
  | .dead => .dead
  | .v a => .v a
  | .own n g lo hi => .own n.up g lo hi
  | .lptr n g o => .lptr n.up g o
  | .eptr n g i o => .eptr n.up g i o
  | .agg fs => .agg (upL fs)
  | .tup fs => .tup (upL fs)
  | .cond c x => .cond c x.up
def upL : List LV → List LV
  | [] => []
  | x :: xs => x.up :: upL xs
end
def Obj.up : Obj → Obj
  | .box cells => .box (upL cells)
  | x => x
def upO (x : Nat × Obj) : Nat × Obj := (x.1, x.2.up)
section
variable {gh gh1 : Gh} {w : World} {objs objs1 : Nm → Nat × Obj}
end
def HGood (P : Program) (f : FuncId) (args : List LV) (m : Mem) (r : LV) (m' : Mem) : Prop :=
  (∃ fn c, P.funcs[f]? = some fn ∧ (fn.name == "runtime.NumGoroutine") = false ∧ fn.body = some c) ∧
  ∀ gh w vs, MemRel gh w m → LVRels gh w m.objs args vs → Calls P f vs.toArray w fun e w' => ∃ v, e = .returned v ∧ Post gh w m m' r v w'
theorem hstep_call {P : Program} {fi : FuncId} {args : Array Operand} {ats : Array TypeId} {dst : Option Tmp} {ty : TypeId} {pos : String} {aft : Array Edge} {g : Option (Nat × Bool)} {σ : St} {r : LV} {m' : Mem}
    (h : HGood P fi (args.toList.map fun x => opn (σ.raw x)) σ.mem r m') : HStep P ⟨dst, .call ⟨.value (.func fi), args, ats⟩, ty, pos, aft, g⟩ σ r m' := by
  intro gh a w hs
  obtain ⟨⟨fn, c, e1, e2, e3⟩, j⟩ := h
  have ho : Ops gh w σ.mem σ.raw a := ⟨hs.mem, fun x => raw_rel hs x⟩
  have j := j gh w _ hs.mem (evs (h := ho) args.toList)
  rw [show (args.toList.map a.eval).toArray = args.map a.eval by rw [← Array.toList_map]] at j
  have e2 : ¬ fn.name = "runtime.NumGoroutine" := by simpa using e2
  refine .call (f := fi) (args := args.map a.eval) (w' := w) ?_ j
  simp [execOp, resolve, Deferred.ofValue, invoke, callFunc, e1, e2, e3, Act.eval]
structure UpMem (m m1 : Mem) : Prop where
  up : ∀ n : Nm, m1.objs n.up = upO (m.objs n)
  own : ∀ n : Nm, n.dn = none → m1.objs n = (0, .dead)
  G : m1.G = m.G
def giveHL (d : Nat) : Nat → List LV → M (List LV)
  | _, [] => .ret []
  | i, .own n g lo hi :: r => if n = .tmp (d + 1000) i then .fail else (rehome n g lo hi (.tmp (d + 1000) i)).bind fun y => (giveHL d (i + 1) r).bind fun l => .ret (y :: l)
  | i, .v a :: r => (giveHL d (i + 1) r).bind fun l => .ret (.v a :: l)
  | _, _ => .fail
def giveH (d : Nat) : LV → M LV
  | .agg fs => (giveHL d 0 fs).bind fun l => .ret (.agg l)
  | .v a => .ret (.v a)
  | _ => .fail
def leaveH (P : Program) (fn : Func) (d : Nat) (slots : Nat → LV) : M LV :=
  match fn.results.toList with
  | [x] => (srcOne P slots x).bind (giveH d)
  | _ => .fail
def HLeaves (P : Program) (C : Contract) (fn : Func) (d : Nat) (r : LV) (m' : Mem) (σ : St) : Prop :=
  ∃ m2 fp, Run C (leaveH P fn d σ.slots) σ.mem r.up m2 fp ∧ m2.G = m'.G ∧ ∀ n : Nm, m2.objs n.up = upO (m'.objs n)
section
variable {P : Program}
end
section
variable {P : Program} {cfg : Cfg} {ops : Array Oper} {n : Nat} {f : Nat → LV} {m : Mem} {Q : St → Prop} {rs : List Oper}
theorem hst {d fi : Nat} {args : Array Operand} {ats : Array TypeId} {ty : TypeId} {pos : String} {aft : Array Edge} {g : Option (Nat × Bool)} {r : LV} {m' : Mem} {as : List LV}
    (h : HGood P fi as m r m') (ha : args.toList.map (fun x => opn (St.raw ⟨n, f, m⟩ x)) = as) (k : AOpsL P (Good P) cfg ops rs ⟨n, upd f d r, m'⟩ Q)
    (hd : d < n := by decide) (hw : wantO ops ⟨n, f, m⟩ ⟨some d, .call ⟨.value (.func fi), args, ats⟩, ty, pos, aft, g⟩ = some true := by rfl) : AOpsL P (Good P) cfg ops (⟨some d, .call ⟨.value (.func fi), args, ats⟩, ty, pos, aft, g⟩ :: rs) ⟨n, f, m⟩ Q :=
  ⟨_, _, _, by simpa [dstOK] using hd, .heap hw (hstep_call (by rw [ha]; exact h)), k⟩
end
end Go.Vai
namespace Go.Vai
end Go.Vai
namespace Go.Vai
section
variable {P : Program} {cfg : Cfg} {raw : Operand → LV} {ty : TypeId} {pos : String} {aft : Array Edge} {g : Option (Nat × Bool)} {C : Contract} {m : Mem} {fp : Fp}
theorem extV_0 {x : AV} {xs : List AV} : extL 0 (.v (.tup (x :: xs))) = .ret (.v x) := rfl
theorem extV_1 {x y : AV} {xs : List AV} : extL 1 (.v (.tup (x :: y :: xs))) = .ret (.v y) := rfl
def lookT (P : Program) (t : TypeId) (ok : Bool) (x i : LV) : M LV := match mapEl P t, keyOf i with
  | some e, some k => match zeroOf P e with
    | some z => aLookup z ok k x
    | none => .fail
  | _, _ => .fail
theorem act_lookup_q {d : Option Tmp} {t : TypeId} {x i : Operand} {ok : Bool} : act P cfg raw ⟨d, .lookup t x i ok, ty, pos, aft, g⟩ = lookT P t ok (opn (raw x)) (opn (raw i)) := rfl
theorem act_mapUpdate_q {d : Option Tmp} {t : TypeId} {x k y : Operand} : act P cfg raw ⟨d, .mapUpdate t x k y, ty, pos, aft, g⟩ = match mapEl P t, keyOf (opn (raw k)) with
    | some _, some n => (reify (opn (raw y))).bind fun a => (aMapSet n (some a) (opn (raw x))).bind fun _ => .ret (.v (.base undef))
    | _, _ => .fail := rfl
theorem act_makeMap_q {d : Option Tmp} {t : TypeId} : act P cfg raw ⟨d, .makeMap t none, ty, pos, aft, g⟩ = match mapEl P t with | some _ => newM | none => .fail := by
  simp only [act]
  cases mapEl P t <;> rfl
theorem keyOf_i64 {n : Int} : keyOf (.v (.i .i64 n)) = some n := rfl
theorem mwp_look {K : LV → Mem → Fp → Prop} {z : AV} {ok : Bool} {k : Int} {id : Nat} {f : Int → Option AV} (h : m.G[id]? = some [.mp f]) : Mwp C (aLookup z ok k (.v (.gm id))) m fp K = K (lkp z ok (f k)) m fp.addG := by
  simp only [aLookup, Mwp, mapAt, h]
theorem mwp_mset {K : Unit → Mem → Fp → Prop} {k : Int} {a : Option AV} {id : Nat} {f : Int → Option AV} (h : m.G[id]? = some [.mp f]) : Mwp C (aMapSet k a (.v (.gm id))) m fp K = K () { m with G := m.G.set id [.mp (updM f k a)] } fp.addG.addGW := by
  simp only [aMapSet, Mwp, mapAt, h]
theorem mwp_mclr {K : Unit → Mem → Fp → Prop} {id : Nat} {f : Int → Option AV} (h : m.G[id]? = some [.mp f]) : Mwp C (aMapClear (.v (.gm id))) m fp K = K () { m with G := m.G.set id [.mp fun _ => none] } fp.addG.addGW := by
  simp only [aMapClear, Mwp, mapAt, h]
theorem mwp_newM {K : LV → Mem → Fp → Prop} : Mwp C newM m fp K = K (.v (.gm m.G.length)) { m with G := m.G ++ [[.mp fun _ => none]] } fp.addG.addGW := rfl
end
attribute [go_sem] extV_0 extV_1 act_lookup_q lookT act_mapUpdate_q act_makeMap_q keyOf_i64
theorem sM {p q : Prop} (x : p) (h : p → q := by (intro hK; simp (disch := first | omega | decide) only [go_sem, F, opn_cond, hc, aIndex_map]; (first | rw [mwp_look (by first | (rw [hG]; rfl) | (simp only [mset_G, hG]; assumption))] | rw [mwp_mset (by first | (rw [hG]; rfl) | (simp only [mset_G, hG]; assumption))] | rw [mwp_mclr (by first | (rw [hG]; rfl) | (simp only [mset_G, hG]; assumption))] | rw [mwp_newM]); (try simp only [go_sem, F]); (first | exact hK _ | exact hK))) : q := h x
theorem sU {p q : Prop} (x : p) (h : p → q := by (intro hK; simp (disch := first | omega | decide) only [go_sem, F, opn_cond, hc, aIndex_map]; (first | rw [mwp_reify_own (by simp (disch := first | omega | decide) only [go_sem, F, opn_cond, hc, aIndex_map]; rfl)] | skip); (try simp only [go_sem, F]); rw [mwp_mset (by first | (rw [hG]; rfl) | (simp only [mset_G, hG]; assumption))]; (try rw [sub_full (by first | rfl | (simp only [List.length_map, List.length_replicate]; done) | (simp; done) | (simp; omega))]); (try simp only [go_sem, F, mset_G, hG]); (first | exact hK _ | exact hK))) : q := h x
end Go.Vai
