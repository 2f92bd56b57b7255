import Derived.Test.YtencjgkeflibdaaGreatVaiA
import Derived.Laws.StructEq
import Derived.IntWalk
import Derived.Laws.BytesString
set_option linter.unusedSimpArgs false
set_option linter.unusedVariables false
set_option linter.constructorNameAsVariable false
namespace Go.Vai
theorem intOf_some {x : LV} {i : Int} (h : intOf x = some i) : ∃ k, x = .v (.base (.int k i)) := by
  unfold intOf at h
  split at h
  · simp only [Option.some.injEq] at h; subst h; exact ⟨_, rfl⟩
  · cases h
theorem base_val {gh w objs v v'} (h : LVRel gh w objs (.v (.base v)) v') : v' = v := by
  simp only [LVRel] at h; cases h; rfl
theorem bnd_rel {gh w objs} {o : Option LV} {v : Option Value} {i : Option Int} (h : bnd o = some i) (hr : ∀ x y, o = some x → v = some y → LVRel gh w objs x y) (hn : o.isSome = v.isSome) : bndRel i v := by
  cases o with
  | none =>
    simp only [bnd, Option.some.injEq] at h
    subst h
    cases v with
    | none => trivial
    | some _ => simp at hn
  | some x =>
    simp only [bnd, Option.map_eq_some_iff] at h
    obtain ⟨j, hj, rfl⟩ := h
    cases v with
    | none => simp at hn
    | some y =>
      obtain ⟨k, rfl⟩ := intOf_some hj
      exact ⟨k, base_val (hr _ y rfl rfl)⟩
theorem aSlice_sound {C P e ti gh w m x lv m' f lo hi mx} {vl vh vm : Option Value} (hti : TIok P e ti) (hr : Run C (aSlice ti.sz lo hi mx x) m lv m' f) (hm : MemRel gh w m) (v : Value) (hv : LVRel gh w m.objs x v)
    {t : TypeId} (ht : P.underlying t = some (.slice e)) (hl : bndRel lo vl) (hh : bndRel hi vh) (hmx : bndRel mx vm) (hns : ∀ s, x ≠ .v (.base (.string s))) :
    m' = m ∧ ∃ u, (Instr.slice t v vl vh vm).run P w = .ok u w ∧ LVRel gh w m.objs lv u := by
  obtain ⟨inf, z, d, k1, k2, k3, k0, k4, k10, k5, k6, k7, k8, k9⟩ := hti.info
  unfold aSlice at hr
  split at hr
  · rename_i s nil xs
    split at hr
    case h_2 => exact hr.fail_inv.elim
    rename_i l h hb
    split at hr
    case isFalse => exact hr.fail_inv.elim
    rename_i hs
    obtain ⟨rfl, rfl⟩ := hr.ret_inv
    refine ⟨rfl, ?_⟩
    simp only [LVRel] at hv ⊢
    exact sub_R hv ht k1 (by rcases hs with h | h; · left; rw [h, k5]
                             · right; simpa using h) hl hh hmx hb
  · rename_i s; exact absurd rfl (hns s)
  · rename_i n g a b
    obtain ⟨f1, h⟩ := hr.getO_inv
    split at h
    case isFalse => exact h.fail_inv.elim
    rename_i hg
    revert h
    rcases hx : m.objs n with ⟨g', o⟩
    rw [hx] at hg
    simp only at hg ⊢
    subst hg
    have hO := hm.objs n
    rw [hx] at hO
    simp only [LVRel, hx] at hv
    cases o with
    | arr nil s xs =>
      intro h
      cases mx with
      | some mv =>
        simp only at h
        cases hi with
        | none => exact h.fail_inv.elim
        | some hh' =>
          simp only at h
          split at h
          case isFalse => exact h.fail_inv.elim
          rename_i hb
          obtain ⟨b1, b2, b3, b4, b5, rfl, b7⟩ := hb
          obtain ⟨rfl, rfl⟩ := h.ret_inv
          refine ⟨rfl, ?_⟩
          obtain ⟨h1, h2, h3⟩ := hv.2 trivial
          simp only [Bool.false_eq_true, if_false] at h3
          obtain ⟨off, cap, rfl, h4, h5, h6, h7, h8⟩ := h3
          have e := run_sliceBounds (P := P) (w := w) (isS := true) (len := b - a) (cap := cap) hl hh hmx ⟨b1, b2, by simp only [Option.getD_some]; omega, by simp only [Option.getD_some]; omega, by simp⟩
          refine ⟨_, (by simp only [Instr.slice, Sem.run_bind, run_und ht, Result.andThen_ok, e, run_sizeOf k1, Sem.run_pure]; rfl), ?_⟩
          simp only [LVRel, hx, Option.getD_some, Int.toNat_natCast]
          refine ⟨Nat.le_refl _, fun _ => ⟨by omega, by omega, ?_⟩⟩
          simp only [Bool.false_eq_true, if_false]
          have hs' : s = inf.size := by rw [b5, k5]
          have h4 := h4 b7
          refine ⟨if mv.toNat = (lo.getD 0).toNat then off else off + (lo.getD 0).toNat * inf.size, mv.toNat - (lo.getD 0).toNat, ?_, fun hz => ?_, by omega, by omega, ?_, by omega⟩
          · have hd : a + hh'.toNat - (a + (lo.getD 0).toNat) = hh'.toNat - (lo.getD 0).toNat := by omega
            rw [hd]
            split
            · rfl
            · simp only [Option.map_some, add_off]
          · by_cases hc : mv.toNat = (lo.getD 0).toNat
            · rw [if_pos hc]
              have : a = 0 ∧ (lo.getD 0).toNat = 0 := by omega
              rw [this.2, h4, this.1]
            · rw [if_neg hc, Nat.add_mul, h4, hs']
          · obtain ⟨c, ty, fr, q1, q2⟩ := h7
            refine ⟨c, ty, fr, q1, ?_⟩
            have hmc : mv.toNat ≤ cap := by omega
            by_cases hc : mv.toNat = (lo.getD 0).toNat
            · rw [if_pos hc, hc]; simp; exact Nat.le_trans (Nat.le_add_right _ _) q2
            · rw [if_neg hc]
              subst hs'
              have e1 : (lo.getD 0).toNat * inf.size + (mv.toNat - (lo.getD 0).toNat) * inf.size = mv.toNat * inf.size := by rw [← Nat.add_mul]; congr 1; omega
              have e2 : mv.toNat * inf.size ≤ cap * inf.size := Nat.mul_le_mul_right _ hmc
              omega
      | none =>
        cases vm with
        | some _ => exact hmx.elim
        | none =>
          simp only at h
          split at h
          case isFalse => exact h.fail_inv.elim
          rename_i hb
          obtain ⟨b1, b2, b3, b4, b5⟩ := hb
          obtain ⟨rfl, rfl⟩ := h.ret_inv
          refine ⟨rfl, ?_⟩
          obtain ⟨h1, h2, h3⟩ := hv.2 trivial
          cases nil with
          | true =>
            have hx0 : xs = [] := by simpa [ObjRel] using hO
            subst hx0
            simp only [if_true] at h3
            subst h3
            simp only [List.length_nil] at h2 b3
            have hb0 : b = 0 := by omega
            have ha0 : a = 0 := by omega
            subst hb0 ha0
            simp only [Nat.sub_self, Nat.zero_add] at b2 b3
            have e := run_sliceBounds (P := P) (w := w) (isS := true) (len := 0) (cap := 0) hl hh hmx ⟨b1, b2, by simp only [Option.getD_none]; omega, by simp, by simp⟩
            refine ⟨.slice none 0 0, ?_, ?_⟩
            · simp only [Instr.slice, Sem.run_bind, run_und ht, Result.andThen_ok, e, run_sizeOf k1, Sem.run_pure, Option.map_none, Option.getD_none]
              have e1 : (hi.getD ((0 : Nat) : Int)).toNat = 0 := by omega
              rw [e1]
              have : ∀ x : Nat, (if ((0 : Nat) : Int).toNat = x then (none : Option Addr) else none) = none := fun x => by split <;> rfl
              rw [this]; simp
            · simp only [LVRel, hx]
              simp only [Nat.sub_self, Nat.zero_add, List.length_nil]
              exact ⟨Nat.le_refl _, fun _ => ⟨by omega, by omega, by simp⟩⟩
          | false =>
            simp only [Bool.false_eq_true, if_false] at h3
            obtain ⟨off, cap, rfl, h4, h5, h6, h7, h8⟩ := h3
            simp only [ObjRel, Bool.false_eq_true, if_false] at hO
            have hcl : (((b - a : Nat) : Int)) ≤ cap := by omega
            have e := run_sliceBounds (P := P) (w := w) (isS := true) (len := b - a) (cap := cap) hl hh hmx ⟨b1, b2, by simp only [Option.getD_none]; omega, by simp, by simp⟩
            refine ⟨_, (by simp only [Instr.slice, Sem.run_bind, run_und ht, Result.andThen_ok, e, run_sizeOf k1, Sem.run_pure]; rfl), ?_⟩
            simp only [LVRel, hx, Option.getD_none, Int.toNat_natCast]
            refine ⟨Nat.le_refl _, fun _ => ⟨by omega, by omega, ?_⟩⟩
            simp only [Bool.false_eq_true, if_false]
            have hs' : s = inf.size ∨ (hi.getD ((b - a : Nat) : Int)).toNat = 0 := by
              rcases b4 with h | h
              · exact .inl (by rw [h, k5])
              · right; have : xs = [] := by simpa using h
                subst this; simp at b3; omega
            refine ⟨if cap = (lo.getD 0).toNat then off else off + (lo.getD 0).toNat * inf.size, cap - (lo.getD 0).toNat, ?_, fun hz => ?_, by omega, by omega, ?_, by omega⟩
            · have hd : a + (hi.getD ((b - a : Nat) : Int)).toNat - (a + (lo.getD 0).toNat) = (hi.getD ((b - a : Nat) : Int)).toNat - (lo.getD 0).toNat := by omega
              rw [hd]
              split
              · rfl
              · simp only [Option.map_some, add_off]
            · by_cases hc : cap = (lo.getD 0).toNat
              · rw [if_pos hc]
                have : a = 0 ∧ (lo.getD 0).toNat = 0 := by omega
                rw [this.2, this.1, h4 (.inl this.1), this.1]
              · rw [if_neg hc, Nat.add_mul]
                rcases hs' with hs' | hs'
                · rw [hs', h4 (by omega), hs']
                · have hl0 : (lo.getD 0).toNat = 0 := by omega
                  have ha0 : a = 0 := by omega
                  rw [hl0, h4 (.inl ha0), ha0]; simp
            · by_cases hc : cap = (lo.getD 0).toNat
              · rw [if_pos hc, hc]
                obtain ⟨c, ty, fr, q1, q2⟩ := h7
                exact ⟨c, ty, fr, q1, by simp; exact Nat.le_trans (Nat.le_add_right _ _) q2⟩
              · rw [if_neg hc]
                obtain ⟨c, ty, fr, q1, q2⟩ := h7
                refine ⟨c, ty, fr, q1, ?_⟩
                have hle : (lo.getD 0).toNat ≤ cap := by omega
                rcases hs' with hs' | hs'
                · subst hs'
                  have : (lo.getD 0).toNat * inf.size + (cap - (lo.getD 0).toNat) * inf.size = cap * inf.size := by rw [← Nat.add_mul]; congr 1; omega
                  omega
                · have hl0 : (lo.getD 0).toNat = 0 := by omega
                  rw [hl0]; simpa using q2
    | frz nil s xs =>
      intro h
      simp only at h
      split at h
      case h_2 => exact h.fail_inv.elim
      rename_i l h' hb
      split at h
      case isFalse => exact h.fail_inv.elim
      rename_i hs
      obtain ⟨rfl, rfl⟩ := h.ret_inv
      refine ⟨rfl, ?_⟩
      simp only [LVRel]
      have hR : R gh w (.sl s nil (sub xs a b)) v := by
        cases nil with
        | true => exact R_nil (by simpa [ObjRel] using hO) (hv.2 trivial)
        | false =>
          simp only [ObjRel, Bool.false_eq_true, if_false] at hO
          obtain ⟨q1, cs, ty, q2, q3⟩ := hO
          exact R_row (fun _ => q1) q2 q3 (hv.2 trivial)
      exact sub_R hR ht k1 (by rcases hs with h | h; · left; rw [h, k5]
                               · right; simpa using h) hl hh hmx hb
    | dead => intro h; exact h.fail_inv.elim
    | box _ => intro h; exact h.fail_inv.elim
    | fbox _ => intro h; exact h.fail_inv.elim
  · exact hr.fail_inv.elim
theorem aSlice_str {C P gh w m s lv m' f lo hi mx} {vl vh vm : Option Value} (hr : Run C (aSlice 1 lo hi mx (.v (.base (.string s)))) m lv m' f)
    {t : TypeId} (ht : P.underlying t = some .string) (hl : bndRel lo vl) (hh : bndRel hi vh) (hmx : bndRel mx vm) :
    m' = m ∧ ∃ u, (Instr.slice t (.string s) vl vh vm).run P w = .ok u w ∧ LVRel gh w m.objs lv u := by
  simp only [aSlice] at hr
  split at hr
  · rename_i l h hb
    obtain ⟨rfl, rfl⟩ := hr.ret_inv
    refine ⟨rfl, ?_⟩
    cases vm with
    | some _ => exact hmx.elim
    | none =>
      obtain ⟨h1, h2, h3, h4, h5, rfl, rfl⟩ := aBounds_ok hb
      have e := run_sliceBounds (P := P) (w := w) (isS := false) (len := s.size) (cap := s.size) hl hh (mx := none) (vm := none) trivial ⟨h1, h2, h3, h4, h5⟩
      exact ⟨_, (by simp only [Instr.slice, Sem.run_bind, run_und ht, Result.andThen_ok, Option.isSome_none, Bool.false_eq_true, if_false, e, Sem.run_pure]; rfl), by simp only [LVRel]; exact .base _⟩
  · exact hr.fail_inv.elim
theorem intBin_sound {op k a b r} (h : intBin op k a b = some r) (hs : op ≠ .shl ∧ op ≠ .shr) (P : Program) (w : World) (t : TypeId) : ∃ v, r = .base v ∧ (binOp op t (.int k a) (.int k b)).run P w = .ok v w := by
  cases op <;> simp only [intBin] at h <;> first
    | (simp at hs; done)
    | (simp only [Option.some.injEq] at h; subst h; exact ⟨_, rfl, by simp [binOp, Op.intArith, Op.intBits, Op.intCmp]⟩)
    | (split at h
       · cases h
       · rename_i hb
         simp only [Option.some.injEq] at h; subst h; exact ⟨_, rfl, by simp [binOp, Op.intDiv, hb]⟩)
    | cases h
theorem shiftBin_sound {op k a k' b r} (h : shiftBin op k a b = some r) (P : Program) (w : World) (t : TypeId) : ∃ v, r = .base v ∧ (binOp op t (.int k a) (.int k' b)).run P w = .ok v w := by
  unfold shiftBin at h
  split at h
  · cases h
  · rename_i hb
    cases op <;> simp only at h <;> first
      | (simp only [Option.some.injEq] at h; subst h; exact ⟨_, rfl, by simp [binOp, Op.shift, hb]⟩)
      | (exact absurd h (by simp))
theorem eqScalar_i {x y b} (h : eqScalar .i x y = some b) : ∃ k p q, x = .base (.int k p) ∧ y = .base (.int k q) ∧ b = (p == q) := by
  unfold eqScalar at h
  split at h <;> first
    | (split at h
       · rename_i hk; subst hk; simp only [Option.some.injEq] at h; exact ⟨_, _, _, rfl, rfl, h.symm⟩
       · cases h)
    | contradiction
    | cases h
theorem eqScalar_b {x y b} (h : eqScalar .b x y = some b) : ∃ p q, x = .base (.bool p) ∧ y = .base (.bool q) ∧ b = (p == q) := by
  unfold eqScalar at h
  split at h <;> first
    | contradiction
    | (simp only [Option.some.injEq] at h; exact ⟨_, _, rfl, rfl, h.symm⟩)
    | cases h
theorem eqScalar_s {x y b} (h : eqScalar .s x y = some b) : ∃ p q, x = .base (.string p) ∧ y = .base (.string q) ∧ b = (p.toList == q.toList) := by
  unfold eqScalar at h
  split at h <;> first
    | contradiction
    | (simp only [Option.some.injEq] at h; exact ⟨_, _, rfl, rfl, h.symm⟩)
    | cases h
theorem eqCells_length : ∀ {ks : List SK} {a c : List AV} {r : Bool}, eqCells ks a c = some r → a.length = ks.length ∧ c.length = ks.length
  | [], [], [], _, _ => by simp
  | k :: ks, x :: a, y :: c, r, h => by
    simp only [eqCells] at h
    split at h
    · rename_i p q h1 h2
      have := eqCells_length h2
      simp [this]
    · cases h
  | [], _ :: _, _, _, h => by simp [eqCells] at h
  | [], [], _ :: _, _, h => by simp [eqCells] at h
  | _ :: _, [], _, _, h => by simp [eqCells] at h
  | _ :: _, _ :: _, [], _, h => by simp [eqCells] at h
theorem eqCells_append : ∀ {ks ls : List SK} {a c b d : List AV} {r : Bool}, a.length = ks.length → c.length = ks.length → eqCells (ks ++ ls) (a ++ b) (c ++ d) = some r → ∃ p q, eqCells ks a c = some p ∧ eqCells ls b d = some q ∧ r = (p && q)
  | [], ls, [], [], b, d, r, _, _, h => ⟨true, r, rfl, by simpa using h, by simp⟩
  | k :: ks, ls, x :: a, y :: c, b, d, r, h1, h2, h => by
    simp only [List.cons_append, eqCells] at h ⊢
    split at h
    · rename_i p q e1 e2
      obtain ⟨p', q', e3, e4, rfl⟩ := eqCells_append (by simpa using h1) (by simpa using h2) e2
      simp only [Option.some.injEq] at h
      subst h
      exact ⟨p && p', q', by rw [e1, e3], e4, by rw [Bool.and_assoc]⟩
    · cases h
  | [], _, _ :: _, _, _, _, _, h, _, _ => by simp at h
  | [], _, [], _ :: _, _, _, _, _, h, _ => by simp at h
  | _ :: _, _, [], _, _, _, _, h, _, _ => by simp at h
  | _ :: _, _, _ :: _, [], _, _, _, _, h, _ => by simp at h
def RCells (gh : Gh) (w : World) (ax : List AV) (X : Array Value) : Prop := X.size = ax.length ∧ ∀ (j : Nat) (x : AV) (v : Value), ax[j]? = some x → X[j]? = some v → R gh w x v
theorem sub_split {xs : List AV} {a b c : Nat} (h1 : a ≤ b) (h2 : b ≤ c) (h3 : c ≤ xs.length) : sub xs a c = sub xs a b ++ sub xs b c := by
  apply List.ext_getElem?
  intro j
  by_cases hj : j < b - a
  · rw [List.getElem?_append_left (by rw [sub_length (by omega)]; exact hj), sub_get (by omega), sub_get hj]
  · rw [List.getElem?_append_right (by rw [sub_length (by omega)]; omega), sub_length (by omega)]
    by_cases hj2 : j < c - a
    · rw [sub_get hj2, sub_get (by omega)]; congr 1; omega
    · rw [List.getElem?_eq_none (by rw [sub_length h3]; omega), List.getElem?_eq_none (by rw [sub_length h3]; omega)]
theorem sub_all (xs : List AV) : sub xs 0 xs.length = xs := by simp [sub]
theorem sub_one {xs : List AV} {o : Nat} (h : o < xs.length) : sub xs o (o + 1) = [xs[o]] := by
  apply List.ext_getElem?
  intro j
  cases j with
  | zero => rw [sub_get (by omega)]; simp [h]
  | succ j => rw [List.getElem?_eq_none (by rw [sub_length (by omega)]; omega)]; simp
theorem flat_eq {P : Program} {gh : Gh} {w : World} : ∀ (d : Nat) (t : TypeId) (n : List SK), flatT P d t = some n → ∀ (D : Nat), d ≤ D → ∀ (ax ay : List AV) (X Y : Array Value), RCells gh w ax X → RCells gh w ay Y →
    (∀ fs, P.underlying t = some (.struct fs) → ∀ b, eqCells n ax ay = some b → (Op.equalIn D t (.agg X) (.agg Y)).run P w = .ok b w) ∧
    ((P.info? t).map (·.size) = some n.length → ∀ o, o + n.length ≤ ax.length → o + n.length ≤ ay.length → ∀ b, eqCells n (sub ax o (o + n.length)) (sub ay o (o + n.length)) = some b →
      ∃ va vb, (part t X o).run P w = .ok va w ∧ (part t Y o).run P w = .ok vb w ∧ (Op.equalIn D t va vb).run P w = .ok b w)
  | 0, t, n, h => by simp [flatT] at h
  | d + 1, t, n, h => by
    intro D hD ax ay X Y hX hY
    obtain ⟨D, rfl⟩ : ∃ D', D = D' + 1 := ⟨D - 1, by omega⟩
    simp only [flatT] at h
    have scalar : ∀ {td : TypeDesc} {k : SK}, P.underlying t = some td → isAggD td = false → n = [k] →
        (∀ (p q : AV) (vp vq : Value), R gh w p vp → R gh w q vq → ∀ b, eqScalar k p q = some b → (Op.equalIn (D + 1) t vp vq).run P w = .ok b w) →
        ∀ o, o + n.length ≤ ax.length → o + n.length ≤ ay.length → ∀ b, eqCells n (sub ax o (o + n.length)) (sub ay o (o + n.length)) = some b →
          ∃ va vb, (part t X o).run P w = .ok va w ∧ (part t Y o).run P w = .ok vb w ∧ (Op.equalIn (D + 1) t va vb).run P w = .ok b w := by
      intro td k hu ha hn he o h1 h2 b hb
      subst hn
      simp only [List.length_singleton] at h1 h2 hb
      rw [sub_one (by omega), sub_one (by omega)] at hb
      simp only [eqCells] at hb
      split at hb
      · rename_i p q e1 e2
        simp only [Option.some.injEq] at e2 hb
        subst e2 hb
        have hXo : o < X.size := by rw [hX.1]; omega
        have hYo : o < Y.size := by rw [hY.1]; omega
        refine ⟨X[o], Y[o], ?_, ?_, ?_⟩
        · simp [part, run_isAgg hu, ha, hXo]
        · simp [part, run_isAgg hu, ha, hYo]
        · rw [Bool.and_true]
          exact he _ _ _ _ (hX.2 o _ _ (List.getElem?_eq_getElem (by omega)) (by simp [hXo])) (hY.2 o _ _ (List.getElem?_eq_getElem (by omega)) (by simp [hYo])) _ e1
      · cases hb
    split at h
    · rename_i k hu
      simp only [Option.some.injEq] at h
      refine ⟨fun fs h' => (by rw [hu] at h'; cases h'), fun _ => scalar hu rfl h.symm fun p q vp vq hp hq b hb => ?_⟩
      obtain ⟨k', x, y, rfl, rfl, rfl⟩ := eqScalar_i hb
      cases hp; cases hq; exact run_equalIn_int w D t k' k x y hu
    · rename_i hu
      simp only [Option.some.injEq] at h
      refine ⟨fun fs h' => (by rw [hu] at h'; cases h'), fun _ => scalar hu rfl h.symm fun p q vp vq hp hq b hb => ?_⟩
      obtain ⟨x, y, rfl, rfl, rfl⟩ := eqScalar_b hb
      cases hp; cases hq; exact run_equalIn_bool' w D t x y hu
    · rename_i hu
      simp only [Option.some.injEq] at h
      refine ⟨fun fs h' => (by rw [hu] at h'; cases h'), fun _ => scalar hu rfl h.symm fun p q vp vq hp hq b hb => ?_⟩
      obtain ⟨x, y, rfl, rfl, rfl⟩ := eqScalar_s hb
      cases hp; cases hq; exact run_equalIn_string w D t x y hu
    · rename_i fs hu
      split at h
      · cases h
      · rename_i hst
        have hst : P.stoodInHeld t = false := by simpa using hst
        have hfo : P.fieldsOf t = fs := by simp [Program.fieldsOf, hu]
        -- the fields, from one on
        have fields : ∀ (gs : List Field) (o n' : List SK), flatFs P (flatT P d) o gs = some n' → ∃ r, n' = o ++ r ∧
            ∀ (ax ay : List AV) (X Y : Array Value), RCells gh w ax X → RCells gh w ay Y → n'.length = ax.length → n'.length = ay.length → ∀ b, eqCells r (sub ax o.length ax.length) (sub ay o.length ay.length) = some b →
              (Op.eqFields D X Y gs).run P w = .ok b w := by
          intro gs
          induction gs with
          | nil =>
            intro o n' h
            simp only [flatFs, Option.some.injEq] at h
            subst h
            refine ⟨[], by simp, fun ax ay X Y hX hY h1 h2 b hb => ?_⟩
            rw [h1, show sub ax ax.length ax.length = [] by simp [sub], ← h1, h2, show sub ay ay.length ay.length = [] by simp [sub]] at hb
            simp only [eqCells, Option.some.injEq] at hb
            subst hb; rfl
          | cons f gs ih =>
            intro o n' h
            simp only [flatFs] at h
            split at h
            case isFalse => cases h
            rename_i hf
            split at h
            case h_2 => cases h
            rename_i m hm
            split at h
            case isFalse => cases h
            rename_i hsz
            obtain ⟨r, rfl, hr⟩ := ih _ _ h
            refine ⟨m ++ r, by rw [List.append_assoc], fun ax ay X Y hX hY h1 h2 b hb => ?_⟩
            simp only [List.length_append] at h1 h2
            rw [sub_split (xs := ax) (b := o.length + m.length) (by omega) (by omega) (Nat.le_refl _), sub_split (xs := ay) (b := o.length + m.length) (by omega) (by omega) (Nat.le_refl _)] at hb
            obtain ⟨p, q, e1, e2, rfl⟩ := eqCells_append (by rw [sub_length (by omega)]; omega) (by rw [sub_length (by omega)]; omega) hb
            have e3 := hr ax ay X Y hX hY (by simp; omega) (by simp; omega) q (by rw [List.length_append]; exact e2)
            obtain ⟨va, vb, e4, e5, e6⟩ := (flat_eq d f.type m hm D (by omega) ax ay X Y hX hY).2 hsz o.length (by omega) (by omega) p e1
            have hne : f.name ≠ "_" := hf.2
            rw [← hf.1] at e4 e5
            simp only [Op.eqFields, if_pos hne, Sem.run_bind, e4, e5, e6, Result.andThen_ok]
            cases p
            · simp
            · simpa using e3
        obtain ⟨r, hr1, hr2⟩ := fields _ _ _ h
        simp only [List.nil_append] at hr1
        subst hr1
        have top : ∀ (ax ay : List AV) (X Y : Array Value), RCells gh w ax X → RCells gh w ay Y → ∀ b, eqCells n ax ay = some b → (Op.equalIn (D + 1) t (.agg X) (.agg Y)).run P w = .ok b w := fun ax ay X Y hX hY b hb => by
          obtain ⟨l1, l2⟩ := eqCells_length hb
          rw [run_equalIn_struct w D t X Y (by rw [hfo]; exact hu) hst, hfo]
          exact hr2 ax ay X Y hX hY l1.symm l2.symm b (by simpa [sub_all] using hb)
        refine ⟨fun _ _ b hb => top ax ay X Y hX hY b hb, fun hs o h1 h2 b hb => ?_⟩
        obtain ⟨inf, hi, hsz⟩ := Option.map_eq_some_iff.1 hs
        have rc : ∀ {ax : List AV} {X : Array Value}, RCells gh w ax X → o + n.length ≤ ax.length → RCells gh w (sub ax o (o + n.length)) (X.extract o (o + n.length)) := fun {ax X} hX hl => by
          refine ⟨by rw [sub_length hl]; simp [hX.1]; omega, fun j x v hx hv => ?_⟩
          have hj : j < n.length := by
            have := (List.getElem?_eq_some_iff.1 hx).1
            rw [sub_length hl] at this; omega
          rw [sub_get (by omega)] at hx
          rw [Array.getElem?_extract] at hv
          split at hv
          · exact hX.2 _ x v hx hv
          · cases hv
        refine ⟨.agg (X.extract o (o + n.length)), .agg (Y.extract o (o + n.length)), ?_, ?_, top _ _ _ _ (rc hX h1) (rc hY h2) b hb⟩
        · simp [part, run_isAgg hu, isAggD, run_sizeOf hi, hsz]
        · simp [part, run_isAgg hu, isAggD, run_sizeOf hi, hsz]
    · cases h
end Go.Vai
namespace Go.Vai
theorem guard_scalar {P : Program} {op t ox oy} {a b : Value} {w : World} (h : (∀ cs, a ≠ .agg cs) ∨ (∀ cs, b ≠ .agg cs)) (h2 : a ≠ .nilIface ∨ b ≠ .nilIface) : (eqGuard op t ox oy a b).run P w = .ok () w := by
  unfold eqGuard
  cases op <;> simp only [Bool.not_true, Bool.not_false, Bool.false_eq_true, if_true, if_false, Sem.run_pure] <;> (split <;> simp_all)
theorem equalIn_ptr {P : Program} {w : World} {t e} (hu : P.underlying t = some (.pointer e)) (d : Nat) (a b : Option Addr) (h : a = none ∨ b = none) : (Op.equalIn (d + 1) t (.pointer a) (.pointer b)).run P w = .ok (a.isNone && b.isNone) w := by
  cases a <;> cases b <;> simp_all [Op.equalIn, run_und hu]
theorem equalIn_fn {P : Program} {w : World} {t p q r} (hu : P.underlying t = some (.func p q r)) (d : Nat) (f : Fn) (c e : Array Value) :
    (Op.equalIn (d + 1) t .nilFunc .nilFunc).run P w = .ok true w ∧ (Op.equalIn (d + 1) t .nilFunc (.func f c e)).run P w = .ok false w ∧ (Op.equalIn (d + 1) t (.func f c e) .nilFunc).run P w = .ok false w := by
  refine ⟨?_, ?_, ?_⟩ <;> simp [Op.equalIn, run_und hu]
theorem equalIn_sl {P : Program} {w : World} {t e} (hu : P.underlying t = some (.slice e)) (d : Nat) (a b : Option Addr) (n m c k : Nat) (h : a = none ∨ b = none) : (Op.equalIn (d + 1) t (.slice a n c) (.slice b m k)).run P w = .ok (a.isNone && b.isNone) w := by
  cases a <;> cases b <;> simp_all [Op.equalIn, run_und hu]
theorem aEq_sound {P t x y b} (h : aEq P t x y = some b) {gh w vx vy} (hx : R gh w x vx) (hy : R gh w y vy) :
    (Op.equal t vx vy).run P w = .ok b w ∧ (∀ op ox oy, (eqGuard op t ox oy vx vy).run P w = .ok () w) ∧
    binOp .eql t vx vy = (do pure (.bool (← Op.equal t vx vy))) ∧ binOp .neq t vx vy = (do pure (.bool (!(← Op.equal t vx vy)))) := by
  unfold aEq at h
  split at h
  · rename_i hu
    split at h
    · simp only [Option.some.injEq] at h
      subst h
      cases hx; cases hy
      exact ⟨run_equalIn_bool' w _ t _ _ hu, fun _ _ _ => guard_scalar (.inl (by simp)) (.inl (by simp)), rfl, rfl⟩
    · cases h
  · rename_i e hu
    split at h
    · simp only [Option.some.injEq] at h
      subst h
      cases hx; cases hy
      exact ⟨equalIn_ptr hu 9999 _ _ (by simp), fun _ _ _ => guard_scalar (.inl (by simp)) (.inl (by simp)), rfl, rfl⟩
    · simp only [Option.some.injEq] at h
      subst h
      cases hx; cases hy
      exact ⟨equalIn_ptr hu 9999 _ _ (by simp), fun _ _ _ => guard_scalar (.inl (by simp)) (.inl (by simp)), rfl, rfl⟩
    · simp only [Option.some.injEq] at h
      subst h
      cases hx; cases hy
      exact ⟨equalIn_ptr hu 9999 _ _ (by simp), fun _ _ _ => guard_scalar (.inl (by simp)) (.inl (by simp)), rfl, rfl⟩
    · cases h
  · rename_i hu
    split at h
    · simp only [Option.some.injEq] at h
      subst h
      cases hx; cases hy
      exact ⟨(equalIn_fn hu 9999 default #[] #[]).1, fun _ _ _ => guard_scalar (.inl (by simp)) (.inl (by simp)), rfl, rfl⟩
    · simp only [Option.some.injEq] at h
      subst h
      cases hx; cases hy
      exact ⟨(equalIn_fn hu 9999 _ _ _).2.1, fun _ _ _ => guard_scalar (.inl (by simp)) (.inl (by simp)), rfl, rfl⟩
    · simp only [Option.some.injEq] at h
      subst h
      cases hx; cases hy
      exact ⟨(equalIn_fn hu 9999 _ _ _).2.2, fun _ _ _ => guard_scalar (.inl (by simp)) (.inl (by simp)), rfl, rfl⟩
    · cases h
  · rename_i e hu
    split at h
    · split at h
      case isFalse => cases h
      rename_i hnm
      simp only [Option.some.injEq] at h
      subst h
      cases hx <;> cases hy <;> first
        | (simp at hnm; done)
        | exact ⟨equalIn_sl hu 9999 _ _ _ _ _ _ (by simp), fun _ _ _ => guard_scalar (.inl (by simp)) (.inl (by simp)), rfl, rfl⟩
    · cases h
  · rename_i fs hu
    split at h
    · rename_i xs ys
      split at h
      case h_2 => cases h
      rename_i n hn
      split at h
      case isFalse => cases h
      rename_i hg
      cases hx with
      | agg _ X hl hr =>
        cases hy with
        | agg _ Y hl' hr' =>
          have rx : RCells gh w xs X := ⟨hl, fun j x v hx hv => by
            obtain ⟨hj, rfl⟩ := List.getElem?_eq_some_iff.1 hx
            obtain ⟨hj', rfl⟩ := Array.getElem?_eq_some_iff.1 hv
            exact hr j hj⟩
          have ry : RCells gh w ys Y := ⟨hl', fun j x v hx hv => by
            obtain ⟨hj, rfl⟩ := List.getElem?_eq_some_iff.1 hx
            obtain ⟨hj', rfl⟩ := Array.getElem?_eq_some_iff.1 hv
            exact hr' j hj⟩
          exact ⟨(flat_eq 5 t n hn 10000 (by omega) xs ys X Y rx ry).1 fs hu b h, fun op ox oy => run_eqGuard_agg w op t ox oy X Y hg, rfl, rfl⟩
    · cases h
  · cases h
theorem aEql_sound {P t x y b} (h : aEql P t x y = some b) {gh w vx vy} (ox oy : Operand) (hx : R gh w x vx) (hy : R gh w y vy) :
    (do eqGuard .eql t ox oy vx vy; binOp .eql t vx vy : Sem Value).run P w = .ok (.bool b) w ∧ (do eqGuard .neq t ox oy vx vy; binOp .neq t vx vy : Sem Value).run P w = .ok (.bool (!b)) w := by
  unfold aEql at h
  split at h
  · rename_i k p k' q
    split at h
    case isFalse => cases h
    rename_i hk; subst hk
    simp only [Option.some.injEq] at h
    subst h
    cases hx; cases hy
    have g : ∀ op, (eqGuard op t ox oy (.int k p) (.int k q)).run P w = .ok () w := fun op => guard_scalar (.inl (by simp)) (.inl (by simp))
    refine ⟨?_, ?_⟩ <;> simp only [Sem.run_bind, g, Result.andThen_ok] <;> simp [binOp, Op.intCmp, bne]
  · rename_i p q
    simp only [Option.some.injEq] at h
    subst h
    cases hx; cases hy
    have g : ∀ op, (eqGuard op t ox oy (.string p) (.string q)).run P w = .ok () w := fun op => guard_scalar (.inl (by simp)) (.inl (by simp))
    refine ⟨?_, ?_⟩ <;> simp only [Sem.run_bind, g, Result.andThen_ok] <;> simp [binOp, Op.stringOp]
  · obtain ⟨e1, e2, e3, e4⟩ := aEq_sound h hx hy
    refine ⟨?_, ?_⟩ <;> simp only [Sem.run_bind, e2, Result.andThen_ok, e3, e4, e1, Sem.run_pure]
theorem arith_sound {P op t x y r} (h1 : op ≠ .shl) (h2 : op ≠ .shr) (h : aArith op x y = some r) : ∃ v, r = .base v ∧ ∀ gh w vx vy (ox oy : Operand), R gh w x vx → R gh w y vy → (do eqGuard op t ox oy vx vy; binOp op t vx vy : Sem Value).run P w = .ok v w := by
  unfold aArith at h
  split at h
  · rename_i k a k' b
    split at h
    case isFalse => cases h
    rename_i hk
    subst hk
    obtain ⟨v, rfl, _⟩ := intBin_sound h ⟨h1, h2⟩ P default t
    refine ⟨v, rfl, fun gh w vx vy ox oy hx hy => ?_⟩
    cases hx; cases hy
    obtain ⟨v', e1, e2⟩ := intBin_sound h ⟨h1, h2⟩ P w t
    cases e1
    simp only [Sem.run_bind, guard_scalar (P := P) (op := op) (t := t) (ox := ox) (oy := oy) (w := w) (a := .int k a) (b := .int k b) (.inl (by simp)) (.inl (by simp)), Result.andThen_ok, e2]
  · cases h
theorem shift_sound {P op t x y r} (h : aShift op x y = some r) : ∃ v, r = .base v ∧ ∀ gh w vx vy (ox oy : Operand), R gh w x vx → R gh w y vy → (do eqGuard op t ox oy vx vy; binOp op t vx vy : Sem Value).run P w = .ok v w := by
  unfold aShift at h
  split at h
  · rename_i k a k' b
    obtain ⟨v, rfl, _⟩ := shiftBin_sound h P default t (k' := k')
    refine ⟨v, rfl, fun gh w vx vy ox oy hx hy => ?_⟩
    cases hx; cases hy
    obtain ⟨v', e1, e2⟩ := shiftBin_sound h P w t (k' := k')
    cases e1
    simp only [Sem.run_bind, guard_scalar (P := P) (op := op) (t := t) (ox := ox) (oy := oy) (w := w) (a := .int k a) (b := .int k' b) (.inl (by simp)) (.inl (by simp)), Result.andThen_ok, e2]
  · cases h
theorem aBin_sound {P op t x y r} (h : aBin P op t x y = some r) : ∃ v, r = .base v ∧ ∀ gh w vx vy (ox oy : Operand), R gh w x vx → R gh w y vy →
    (do eqGuard op t ox oy vx vy; binOp op t vx vy : Sem Value).run P w = .ok v w := by
  cases op
  case shl => exact shift_sound h
  case shr => exact shift_sound h
  case eql =>
    simp only [aBin] at h
    obtain ⟨b, hb, rfl⟩ := Option.map_eq_some_iff.1 h
    exact ⟨_, rfl, fun gh w vx vy ox oy hx hy => (aEql_sound hb ox oy hx hy).1⟩
  case neq =>
    simp only [aBin] at h
    obtain ⟨b, hb, rfl⟩ := Option.map_eq_some_iff.1 h
    exact ⟨_, rfl, fun gh w vx vy ox oy hx hy => (aEql_sound hb ox oy hx hy).2⟩
  all_goals exact arith_sound (by simp) (by simp) h
theorem aUn_sound {op x r} (h : aUn op x = some r) : ∃ v, r = .base v ∧ ∀ (P : Program) gh w vx, R gh w x vx → (Op.unary op vx).run P w = .ok v w := by
  unfold aUn at h
  split at h
  · cases op <;> simp only at h <;> first
      | (simp only [Option.some.injEq] at h; subst h; exact ⟨_, rfl, fun P gh w vx hx => by cases hx; simp [Op.unary]⟩)
      | (exact absurd h (by simp))
  · rename_i k n
    cases op <;> simp only at h <;> first
      | (simp only [Option.some.injEq] at h; subst h; exact ⟨_, rfl, fun P gh w vx hx => by cases hx; simp [Op.unary, Op.intArith]⟩)
      | (simp only [intBin, Option.some.injEq] at h; subst h; exact ⟨_, rfl, fun P gh w vx hx => by cases hx; simp [Op.unary, Op.intBits]⟩)
      | (exact absurd h (by simp))
  · cases h
end Go.Vai
namespace Go.Vai
theorem okOne_sound {C x m u m' f} (hr : Run C (okOne x) m u m' f) : m' = m ∧ ∀ gh w v, LVRel gh w m.objs x v → LVRels gh w m.objs (cellsL x) v.cells.toList := by
  have one : ∀ {gh : Gh} {w : World} {objs : Nm → Nat × Obj} {y : LV} {v : Value}, cellsL x = [y] → LVRel gh w objs y v → v.oneCell' = true → LVRels gh w objs (cellsL x) v.cells.toList := fun {gh w objs y v} e h h1 => by
    rw [e, cells_one h1]; simp only [LVRels]; exact ⟨v, [], rfl, h, rfl⟩
  unfold okOne at hr
  split at hr
  · obtain ⟨_, rfl⟩ := hr.ret_inv
    refine ⟨rfl, fun gh w v hv => ?_⟩
    simp only [LVRel] at hv
    cases hv with
    | agg _ cs0 hl hrr =>
      refine LVRels.of_get (by simp [cellsL, cellsOf, hl, Value.cells]) fun j y u hy hu => ?_
      simp only [cellsL, cellsOf, List.getElem?_map, Option.map_eq_some_iff] at hy
      obtain ⟨z, hz, rfl⟩ := hy
      obtain ⟨hj, rfl⟩ := List.getElem?_eq_some_iff.1 hz
      simp only [Value.cells, Array.getElem?_toList] at hu
      obtain ⟨hj', rfl⟩ := Array.getElem?_eq_some_iff.1 hu
      simp only [LVRel]
      exact hrr j hj
  · obtain ⟨_, rfl⟩ := hr.ret_inv
    refine ⟨rfl, fun gh w v hv => ?_⟩
    simp only [LVRel] at hv
    obtain ⟨cs0, rfl, hv⟩ := hv
    exact hv
  · split at hr
    case isFalse => exact hr.fail_inv.elim
    rename_i a hna hc
    obtain ⟨_, rfl⟩ := hr.ret_inv
    refine ⟨rfl, fun gh w v hv => ?_⟩
    have h1 : v.oneCell' = true := cellish_one hc (by simpa only [LVRel] using hv)
    cases a with
    | agg fs => simp [cellishAV] at hc
    | tup fs => simp [cellishAV] at hc
    | base _ => exact one (y := .v (.base _)) rfl hv h1
    | sl _ _ _ => exact one (y := .v (.sl _ _ _)) rfl hv h1
    | iptr _ _ => exact one (y := .v (.iptr _ _)) rfl hv h1
    | clo _ _ => exact one (y := .v (.clo _ _)) rfl hv h1
    | gp _ _ => exact one (y := .v (.gp _ _)) rfl hv h1
    | gm _ => exact one (y := .v (.gm _)) rfl hv h1
    | mp _ => exact one (y := .v (.mp _)) rfl hv h1
  · obtain ⟨f1, h⟩ := hr.getO_inv
    split at h
    case isFalse => exact h.fail_inv.elim
    rename_i n g lo hi hg
    obtain ⟨_, rfl⟩ := h.ret_inv
    refine ⟨rfl, fun gh w v hv => one (y := .own n g lo hi) rfl hv ?_⟩
    obtain ⟨hg1, hg2⟩ := hg
    simp only [LVRel] at hv
    have h2 := hv.2 hg1
    revert h2 hg2
    generalize (m'.objs n).2 = o'
    cases o' <;> intro hg2 h2 <;> first
      | (simp [Obj.isArr] at hg2; done)
      | exact ownRel_cell h2
  · obtain ⟨f1, h⟩ := hr.getO_inv
    split at h
    case isFalse => exact h.fail_inv.elim
    rename_i n g o hg
    obtain ⟨_, rfl⟩ := h.ret_inv
    refine ⟨rfl, fun gh w v hv => one (y := .lptr n g o) rfl hv ?_⟩
    obtain ⟨hg1, hg2⟩ := hg
    simp only [LVRel] at hv
    have h2 := hv.2 hg1
    revert h2 hg2
    generalize (m'.objs n).2 = o'
    cases o' <;> intro hg2 h2 <;> first
      | (simp [Obj.isBox] at hg2; done)
      | (rw [h2]; rfl)
  · obtain ⟨f1, h⟩ := hr.getO_inv
    split at h
    case isFalse => exact h.fail_inv.elim
    rename_i n g i o hg
    obtain ⟨_, rfl⟩ := h.ret_inv
    refine ⟨rfl, fun gh w v hv => one (y := .eptr n g i o) rfl hv ?_⟩
    obtain ⟨hg1, hg2⟩ := hg
    simp only [LVRel] at hv
    have h2 := hv.2 hg1
    revert h2 hg2
    generalize (m'.objs n).2 = o'
    cases o' <;> intro hg2 h2 <;> first
      | (simp [Obj.isArr] at hg2; done)
      | (rw [h2.2]; rfl)
  · exact hr.fail_inv.elim
theorem fold_setAt (off : Nat) : ∀ (l : List Value) (k : Nat) (cs : Array Value), ((l.zipIdx k).foldl (fun cs (c : Value × Nat) => cs.setIfInBounds (off + c.2) c.1) cs).toList = setAt cs.toList (off + k) l
  | [], k, cs => rfl
  | v :: l, k, cs => by
    simp only [List.zipIdx_cons, List.foldl_cons, setAt]
    rw [fold_setAt off l (k + 1)]
    simp [Nat.add_assoc]
theorem fill_step {place : Nat → Option (Nat × Nat)} {cells : Array Value} {i off size : Nat} {v : Value} {rest : List (Nat × Value)} (hp : place i = some (off, size)) (hs : v.cells.size = size) (hf : off + size ≤ cells.size) :
    ∃ cells' : Array Value, cells'.toList = setAt cells.toList off v.cells.toList ∧ Instr.fill place cells ((i, v) :: rest) = Instr.fill place cells' rest := by
  refine ⟨v.cells.zipIdx.foldl (fun cs (x : Value × Nat) => cs.setIfInBounds (off + x.2) x.1) cells, ?_, ?_⟩
  · rw [← Array.foldl_toList, Array.toList_zipIdx]
    have := fold_setAt off v.cells.toList 0 cells
    simpa using this
  · simp only [Instr.fill, hp]
    rw [if_neg (by simp [hs]; omega)]
theorem LVRels.setAt {gh w objs} {cells ys : List LV} {vs us : List Value} (h : LVRels gh w objs cells vs) (k : LVRels gh w objs ys us) {off : Nat} (hf : off + ys.length ≤ cells.length) :
    LVRels gh w objs (setAt cells off ys) (Vai.setAt vs off us) := by
  have hl := h.length
  have kl := k.length
  refine LVRels.of_get (by rw [setAt_length, setAt_length, hl]) fun j y v hy hv => ?_
  rw [setAt_get _ _ _ _ hf] at hy
  rw [setAt_get _ _ _ _ (by omega), kl] at hv
  split at hy
  · rename_i hj
    rw [if_pos hj] at hv
    obtain ⟨v', e1, e2⟩ := k.get _ y hy
    rw [e1] at hv; cases hv; exact e2
  · rename_i hj
    rw [if_neg hj] at hv
    obtain ⟨v', e1, e2⟩ := h.get _ y hy
    rw [e1] at hv; cases hv; exact e2
def PartsRel (gh : Gh) (w : World) (objs : Nm → Nat × Obj) (ps : List (Nat × LV)) (vs : List (Nat × Value)) : Prop :=
  ps.length = vs.length ∧ ∀ (j : Nat) (p : Nat × LV) (q : Nat × Value), ps[j]? = some p → vs[j]? = some q → p.1 = q.1 ∧ LVRel gh w objs p.2 q.2
theorem PartsRel.cons {gh w objs p ps vs} (h : PartsRel gh w objs (p :: ps) vs) : ∃ v vs', vs = (p.1, v) :: vs' ∧ LVRel gh w objs p.2 v ∧ PartsRel gh w objs ps vs' := by
  obtain ⟨h1, h2⟩ := h
  cases vs with
  | nil => simp at h1
  | cons q vs' =>
    have := h2 0 p q (by simp) (by simp)
    refine ⟨q.2, vs', by rw [this.1], this.2, by simpa using h1, fun j p' q' hp hq => h2 (j + 1) p' q' (by simpa using hp) (by simpa using hq)⟩
theorem fillL_sound {C pl} {place : Nat → Option (Nat × Nat)} (hpl : ∀ i x, pl[i]? = some x → place i = some x) : ∀ (ps : List (Nat × LV)) {cells : List LV} {m cs m' f}, Run C (fillL pl cells ps) m cs m' f →
    m' = m ∧ ∀ gh w (cv : Array Value) (vs : List (Nat × Value)), LVRels gh w m.objs cells cv.toList → PartsRel gh w m.objs ps vs → ∃ csV : Array Value, Instr.fill place cv vs = some csV ∧ LVRels gh w m.objs cs csV.toList
  | [], cells, m, cs, m', f, hr => by
    simp only [fillL] at hr
    obtain ⟨rfl, rfl⟩ := hr.ret_inv
    refine ⟨rfl, fun gh w cv vs hc hp => ?_⟩
    have : vs = [] := List.eq_nil_of_length_eq_zero hp.1.symm
    subst this
    exact ⟨cv, rfl, hc⟩
  | (i, x) :: ps, cells, m, cs, m', f, hr => by
    simp only [fillL] at hr
    obtain ⟨u, m1, f1, f2, h1, h2⟩ := hr.bind_inv
    obtain ⟨rfl, hok⟩ := okOne_sound h1
    split at h2
    case h_2 => exact h2.fail_inv.elim
    rename_i off sz hpi
    split at h2
    case isFalse => exact h2.fail_inv.elim
    rename_i hsz
    obtain ⟨rfl, ih⟩ := fillL_sound hpl ps h2
    refine ⟨rfl, fun gh w cv vs hc hp => ?_⟩
    obtain ⟨v, vs', rfl, hv, hp'⟩ := hp.cons
    have hx := hok gh w v hv
    have hxl := hx.length
    have hcl := hc.length
    obtain ⟨cv', e1, e2⟩ := fill_step (cells := cv) (v := v) (rest := vs') (hpl i _ hpi) (by have := hxl; simp at this; omega) (by simp at hcl; omega)
    rw [e2]
    exact ih gh w cv' vs' (by rw [e1]; exact hc.setAt hx (by omega)) hp'
theorem run_mapM_places {P : Program} {w : World} : ∀ (fs : List Field) (pl : List (Nat × Nat)), (fs.mapM fun f => (P.info? f.type).map fun i => (f.offset, i.size)) = some pl →
    (fs.mapM fun f => do pure (f.offset, ← sizeOf f.type) : Sem (List (Nat × Nat))).run P w = .ok pl w
  | [], pl, h => by simp at h; subst h; simp
  | f :: fs, pl, h => by
    simp only [List.mapM_cons, Option.bind_eq_bind, Option.bind_eq_some_iff, Option.pure_def, Option.some.injEq] at h
    obtain ⟨x, hx, xs, hxs, rfl⟩ := h
    obtain ⟨i, hi, rfl⟩ := Option.map_eq_some_iff.1 hx
    have ih := run_mapM_places (w := w) fs xs hxs
    simp only [List.mapM_cons, Sem.run_bind, run_sizeOf hi, Result.andThen_ok, Sem.run_pure, ih]
theorem run_zeroValue {P : Program} {w : World} {t : TypeId} {i : TypeInfo} {z : Value} (h : P.info? t = some i) (hz : i.zero = some z) : (zeroValue t).run P w = .ok z w := by
  simp [zeroValue, typeInfo, h, hz]
theorem zero_rel {P t ti} (hti : TIok P t ti) {i z} (hi : P.info? t = some i) (hz : i.zero = some z) (gh : Gh) (w : World) (objs : Nm → Nat × Obj) : LVRels gh w objs (ti.zero.map .v) z.cells.toList := by
  obtain ⟨i', z', d, k1, k2, k3, k0, k4, k10, k5, k6, k7, k8, k9⟩ := hti.info
  rw [hi] at k1; simp only [Option.some.injEq] at k1; subst k1
  rw [hz] at k3; simp only [Option.some.injEq] at k3; subst k3
  obtain ⟨ss, k7⟩ := k7
  rw [k7]
  refine LVRels.of_get (by simp [zeroL_length]) fun j y v hy hv => ?_
  simp only [List.getElem?_map, Option.map_eq_some_iff] at hy
  obtain ⟨a, ha, rfl⟩ := hy
  obtain ⟨s, u, hu, rfl⟩ := zeroL_get _ _ _ _ ha
  rw [hu] at hv; cases hv
  simp only [LVRel]
  exact R_ofCellS gh w _ _
theorem build_sound {C P t ti pl gh w m cs m' f ps} {vs : Array (Nat × Value)} (hti : tiOf P t = some ti) (hpl : placesOf P t = some pl) (hr : Run C (fillL pl (ti.zero.map .v) ps) m cs m' f) (hp : PartsRel gh w m.objs ps vs.toList) :
    m' = m ∧ ∃ v, (Instr.build t vs).run P w = .ok v w ∧ LVRel gh w m.objs (.agg cs) v := by
  have hok := tiOf_ok hti
  obtain ⟨i, z, d, k1, k2, k3, k0, k4, k10, k5, k6, k7, k8, k9⟩ := hok.info
  unfold placesOf at hpl
  split at hpl
  case h_2 => cases hpl
  rename_i fs hu
  obtain ⟨rfl, h⟩ := fillL_sound (place := fun i => (pl.toArray)[i]?) (fun i x hx => by simpa using hx) _ hr
  refine ⟨rfl, ?_⟩
  obtain ⟨csV, e1, e2⟩ := h gh w z.cells vs.toList (zero_rel hok k1 k3 gh w _) hp
  refine ⟨.agg csV, ?_, by simp only [LVRel]; exact ⟨csV, rfl, e2⟩⟩
  have hm := run_mapM_places (w := w) fs.toList pl hpl
  have hm' : (fs.mapM fun f => do pure (f.offset, ← sizeOf f.type) : Sem (Array (Nat × Nat))).run P w = .ok pl.toArray w := by
    rw [Array.mapM_eq_mapM_toList, Sem.run_map, hm]; rfl
  simp only [Instr.build, Sem.run_bind, run_zeroValue k1 k3, Result.andThen_ok, run_und hu, hm', e1, Sem.run_pure]
theorem cells_of_R {gh w a v} (h : R gh w a v) (hc : (cellsOf a).all cellishAV = true) : v.cells.size = (cellsOf a).length ∧ ∀ (j : Nat) (y : AV) (u : Value), (cellsOf a)[j]? = some y → v.cells[j]? = some u → R gh w y u ∧ u.oneCell' = true := by
  have one : cellsOf a = [a] → v.cells.size = (cellsOf a).length ∧ ∀ (j : Nat) (y : AV) (u : Value), (cellsOf a)[j]? = some y → v.cells[j]? = some u → R gh w y u ∧ u.oneCell' = true := fun e => by
    rw [e] at hc ⊢
    have h1 : v.oneCell' = true := cellish_one (by simpa using hc) h
    rw [cells_one h1]
    refine ⟨rfl, fun j y u hy hu => ?_⟩
    cases j with
    | zero => simp at hy hu; subst hy hu; exact ⟨h, h1⟩
    | succ j => simp at hy
  cases a with
  | agg fs =>
    cases h with
    | agg _ cs hl hr =>
      refine ⟨hl, fun j y u hy hu => ?_⟩
      obtain ⟨hj, rfl⟩ := List.getElem?_eq_some_iff.1 hy
      obtain ⟨hj', rfl⟩ := Array.getElem?_eq_some_iff.1 hu
      have := hr j hj
      exact ⟨this, cellish_one (List.all_eq_true.1 hc _ (List.getElem_mem hj)) this⟩
  | base _ => exact one rfl
  | sl _ _ _ => exact one rfl
  | tup _ => exact one rfl
  | iptr _ _ => exact one rfl
  | clo _ _ => exact one rfl
  | gp _ _ => exact one rfl
  | gm _ => exact one rfl
  | mp _ => exact one rfl
def ElemRel (gh : Gh) (w : World) (sz : Nat) (a : AV) (v : Value) : Prop :=
  (cellsOf a).length = sz ∧ v.cells.size = sz ∧ ∀ (j : Nat) (y : AV) (u : Value), (cellsOf a)[j]? = some y → v.cells[j]? = some u → R gh w y u ∧ u.oneCell' = true
theorem ElemRel.mono {gh w gh' w' sz a v} (he : Ext gh w gh' w') (h : ElemRel gh w sz a v) : ElemRel gh' w' sz a v :=
  ⟨h.1, h.2.1, fun j y u hy hu => ⟨(h.2.2 j y u hy hu).1.mono he, (h.2.2 j y u hy hu).2⟩⟩
theorem elems_sound {C ti} : ∀ (xs : List LV) {gh w m as m' f}, Run C (elems ti xs) m as m' f → MemRel gh w m →
    ∃ gh', MemRel gh' w m' ∧ Keeps gh w m gh' w m' ∧ ∀ vs, LVRels gh w m.objs xs vs → as.length = vs.length ∧ ∀ (j : Nat) (a : AV) (v : Value), as[j]? = some a → vs[j]? = some v → ElemRel gh' w ti.sz a v
  | [], gh, w, m, as, m', f, hr, hm => by
    simp only [elems] at hr
    obtain ⟨rfl, rfl⟩ := hr.ret_inv
    exact ⟨gh, hm, Keeps.refl _ _ _, fun vs h => by simp only [LVRels] at h; subst h; simp⟩
  | x :: xs, gh, w, m, as, m', f, hr, hm => by
    simp only [elems] at hr
    obtain ⟨a, m1, f1, f2, h1, h2⟩ := hr.bind_inv
    split at h2
    case isFalse => exact h2.fail_inv.elim
    rename_i hc
    obtain ⟨l, m2, f3, f4, h3, h4⟩ := h2.bind_inv
    obtain ⟨rfl, rfl⟩ := h4.ret_inv
    obtain ⟨gh1, k1, k2, k3, k4, _⟩ := reify_sound x h1 hm
    obtain ⟨gh2, j1, j2, j3⟩ := elems_sound xs h3 k1
    refine ⟨gh2, j1, k2.trans j2, fun vs hv => ?_⟩
    simp only [LVRels] at hv
    obtain ⟨v, vs, rfl, hv1, hv2⟩ := hv
    obtain ⟨e, hj⟩ := j3 vs (k2.lvs hv2)
    refine ⟨by simp [e], fun j b v' hb hv' => ?_⟩
    cases j with
    | zero =>
      simp at hb hv'; subst hb hv'
      obtain ⟨q1, q2⟩ := cells_of_R (k4 _ hv1) hc.2.2
      exact ElemRel.mono j2.ext ⟨hc.1, by rw [q1, hc.1], q2⟩
    | succ j => exact hj j b v' (by simpa using hb) (by simpa using hv')
theorem rowRel_put {gh w sz i a v} {cs cs' : Array Value} {xs : List AV} (hr : rowRel gh w cs sz xs) (he : ElemRel gh w sz a v) (hi : i < xs.length) (hc : cs'.toList = setAt cs.toList (i * sz) v.cells.toList) : rowRel gh w cs' sz (xs.set i a) := by
  have hsz := hr.1
  have hmul : (i + 1) * sz ≤ xs.length * sz := Nat.mul_le_mul_right _ hi
  rw [Nat.add_mul, Nat.one_mul] at hmul
  have hget : ∀ k, cs'[k]? = if i * sz ≤ k ∧ k < i * sz + sz then v.cells[k - i * sz]? else cs[k]? := fun k => by
    have := setAt_get v.cells.toList cs.toList (i * sz) k (by simp [he.2.1]; omega)
    rw [← hc] at this
    simpa [he.2.1] using this
  have hsize : cs'.size = cs.size := by
    have := congrArg List.length hc
    rw [setAt_length] at this; simpa using this
  refine ⟨by rw [hsize]; simpa using hsz, fun k x hx => ?_⟩
  by_cases e1 : k = i
  · subst e1
    rw [List.getElem?_set_self hi] at hx
    simp only [Option.some.injEq] at hx
    subst hx
    refine ⟨he.1, fun j y hy => ?_⟩
    have hj : j < sz := by rw [← he.1]; exact (List.getElem?_eq_some_iff.1 hy).1
    have hjv : j < v.cells.size := by rw [he.2.1]; exact hj
    obtain ⟨q1, q2⟩ := he.2.2 j y _ hy (Array.getElem?_eq_getElem hjv)
    refine ⟨v.cells[j], ?_, q2, q1⟩
    rw [hget, if_pos (by omega), show k * sz + j - k * sz = j by omega]
    exact Array.getElem?_eq_getElem hjv
  · rw [List.getElem?_set_ne (Ne.symm e1)] at hx
    obtain ⟨h2, h3⟩ := hr.2 k x hx
    refine ⟨h2, fun j y hy => ?_⟩
    have hj : j < sz := by rw [← h2]; exact (List.getElem?_eq_some_iff.1 hy).1
    rw [hget, if_neg ?_]
    · exact h3 j y hy
    · rcases Nat.lt_or_ge k i with h4 | h4
      · have : (k + 1) * sz ≤ i * sz := Nat.mul_le_mul_right _ h4
        rw [Nat.add_mul, Nat.one_mul] at this
        omega
      · have : (i + 1) * sz ≤ k * sz := Nat.mul_le_mul_right _ (by omega)
        rw [Nat.add_mul, Nat.one_mul] at this
        omega
theorem partsOf_sound {gh w sz z len} : ∀ (is : List Nat) (as : List AV) (vs : List Value) {xs xs' : List AV} {cs : Array Value}, partsOf z len (is.zip as) xs = some xs' → is.length = as.length → as.length = vs.length →
    (∀ (j : Nat) (a : AV) (v : Value), as[j]? = some a → vs[j]? = some v → ElemRel gh w sz a v) → rowRel gh w cs sz xs → xs.length = len →
    ∃ cs' : Array Value, Instr.fill (fun i => some (i * sz, sz)) cs (is.zip vs) = some cs' ∧ rowRel gh w cs' sz xs' ∧ xs'.length = len ∧ cs'.size = cs.size
  | [], as, vs, xs, xs', cs, h, h1, h2, _, hr, hl => by
    simp only [List.zip_nil_left, partsOf, Option.some.injEq] at h
    subst h
    exact ⟨cs, by simp [Instr.fill], hr, hl, rfl⟩
  | i :: is, [], vs, xs, xs', cs, h, h1, _, _, _, _ => by simp at h1
  | i :: is, a :: as, [], xs, xs', cs, h, h1, h2, _, _, _ => by simp at h2
  | i :: is, a :: as, v :: vs, xs, xs', cs, h, h1, h2, he, hr, hl => by
    simp only [List.zip_cons_cons, partsOf] at h ⊢
    split at h
    case isFalse => cases h
    rename_i hi
    have he0 := he 0 a v (by simp) (by simp)
    have hsz := hr.1
    have hmul : (i + 1) * sz ≤ xs.length * sz := Nat.mul_le_mul_right _ (by omega)
    rw [Nat.add_mul, Nat.one_mul] at hmul
    obtain ⟨cv', e1, e2⟩ := fill_step (place := fun i => some (i * sz, sz)) (cells := cs) (i := i) (v := v) (rest := is.zip vs) rfl he0.2.1 (by omega)
    rw [e2]
    obtain ⟨cs', q1, q2, q3, q4⟩ := partsOf_sound is as vs h (by simpa using h1) (by simpa using h2) (fun j b u hb hu => he (j + 1) b u (by simpa using hb) (by simpa using hu)) (rowRel_put hr he0 (by omega) e1) (by simpa using hl)
    refine ⟨cs', q1, q2, q3, ?_⟩
    have := congrArg List.length e1
    rw [setAt_length] at this
    rw [q4]; simpa using this
theorem TI.z_cells {P t ti} (h : TIok P t ti) : cellsOf ti.z = ti.zero := by
  obtain ⟨i, z, d, k1, k2, k3, k0, k4, k10, k5, k6, k7, k8, k9⟩ := h.info
  unfold TI.z TI.mk1
  split
  · rfl
  · rename_i hn
    have h1 : ti.sz = 1 := k10.resolve_left hn
    obtain ⟨ss, k7⟩ := k7
    have hl : ti.zero.length = 1 := by rw [k7, zeroL_length]; simp; omega
    match hz : ti.zero, hl with
    | [x], _ =>
      obtain ⟨s, v, _, rfl⟩ := zeroL_get z.cells.toList ss 0 x (by rw [← k7, hz]; rfl)
      unfold ofCellS
      simp only [List.headD_cons]
      split <;> rfl
theorem TI.zero_length {P t ti} (h : TIok P t ti) : ti.zero.length = ti.sz := by
  obtain ⟨i, z, d, k1, k2, k3, k0, k4, k10, k5, k6, k7, k8, k9⟩ := h.info
  obtain ⟨ss, k7⟩ := k7
  rw [k7, zeroL_length]; simp; omega
theorem rowRel_zero {P t ti} (h : TIok P t ti) {i z} (hi : P.info? t = some i) (hz : i.zero = some z) (gh : Gh) (w : World) (n : Nat) :
    rowRel gh w ((Array.range (n * ti.sz)).map (z.cells[· % z.cells.size]!)) ti.sz (List.replicate n ti.z) := by
  obtain ⟨i', z', d, k1, k2, k3, k0, k4, k10, k5, k6, k7, k8, k9⟩ := h.info
  rw [hi] at k1; simp only [Option.some.injEq] at k1; subst k1
  rw [hz] at k3; simp only [Option.some.injEq] at k3; subst k3
  refine ⟨by simp, fun k x hx => ?_⟩
  rw [List.getElem?_replicate] at hx
  split at hx
  case isFalse => cases hx
  rename_i hk
  simp only [Option.some.injEq] at hx
  subst hx
  rw [TI.z_cells h]
  refine ⟨TI.zero_length h, fun j y hy => ?_⟩
  have hj : j < ti.sz := by rw [← TI.zero_length h]; exact (List.getElem?_eq_some_iff.1 hy).1
  obtain ⟨ss, k7⟩ := k7
  rw [k7] at hy
  obtain ⟨s, v, hv, rfl⟩ := zeroL_get _ _ _ _ hy
  have hmul : (k + 1) * ti.sz ≤ n * ti.sz := Nat.mul_le_mul_right _ hk
  rw [Nat.add_mul, Nat.one_mul] at hmul
  have hzs : z.cells.size = ti.sz := by omega
  have hmod : (k * ti.sz + j) % z.cells.size = j := by rw [hzs, Nat.add_comm, Nat.add_mul_mod_self_right, Nat.mod_eq_of_lt hj]
  refine ⟨v, ?_, k9 v (List.mem_of_getElem? hv), R_ofCellS gh w s v⟩
  have hjz : j < z.cells.size := by omega
  simp only [Array.getElem?_map]
  rw [Array.getElem?_range, if_pos (by omega)]
  simp only [Option.map_some, hmod]
  simp at hv
  obtain ⟨_, hv⟩ := Array.getElem?_eq_some_iff.1 hv
  simp [hjz, hv]
end Go.Vai
namespace Go.Vai
theorem buildSlice_run {P t e ti gh w len} {is : List Nat} {as : List AV} {vs : List Value} {xs : List AV} {parts : Array (Nat × Value)} (ht : P.underlying t = some (.slice e)) (hti : TIok P e ti) (hlen : len * ti.sz ≤ 16777216)
    (hp : parts.toList = is.zip vs) (h1 : is.length = as.length) (h2 : as.length = vs.length) (he : ∀ (j : Nat) (a : AV) (v : Value), as[j]? = some a → vs[j]? = some v → ElemRel gh w ti.sz a v)
    (hx : partsOf ti.z len (is.zip as) (List.replicate len ti.z) = some xs) :
    ∃ cs : Array Value, (Instr.buildSlice t len parts).run P w = .ok (.slice (some ⟨w.heap.size, 0, none⟩) len len) (w.alloc (.cells cs e)) ∧ rowRel gh w cs ti.sz xs ∧ xs.length = len ∧ cs.size = len * ti.sz := by
  obtain ⟨i, z, d, k1, k2, k3, k0, k4, k10, k5, k6, k7, k8, k9⟩ := hti.info
  obtain ⟨cs, q1, q2, q3, q4⟩ := partsOf_sound is as vs hx h1 h2 he (rowRel_zero hti k1 k3 gh w len) (by simp)
  refine ⟨cs, ?_, q2, q3, by rw [q4]; simp⟩
  have hzero : ∀ (zz : Array Value), (zz = z.cells ∨ len * ti.sz = 0) → (Array.range (len * ti.sz)).map (zz[· % zz.size]!) = (Array.range (len * ti.sz)).map (z.cells[· % z.cells.size]!) := fun zz h => by
    rcases h with rfl | h
    · rfl
    · rw [h]; simp
  simp only [Instr.buildSlice, Sem.run_bind, run_und ht, Result.andThen_ok, run_sizeOf k1, ← k5]
  rw [if_neg (by omega)]
  by_cases h0 : len * ti.sz = 0
  · simp only [h0, if_true, Sem.run_bind, Sem.run_pure, Result.andThen_ok]
    have := hzero #[] (.inr h0)
    rw [h0] at this q1
    rw [this, hp, q1]
    simp [newRow]
  · simp only [h0, if_false, Sem.run_bind, Sem.run_pure, Result.andThen_ok, run_zeroValue k1 k3]
    rw [hp, q1]
    simp [newRow]
theorem makeSlice_run {P t e ti gh w} {n m : Int} {k k'} (ht : P.underlying t = some (.slice e)) (hti : TIok P e ti) (h0 : 0 ≤ n) (h1 : n ≤ m) (hb : m * ti.bytes ≤ roomB) (hm : m < 9223372036854775808) :
    ∃ cs : Array Value, (Instr.makeSlice t (.int k n) (.int k' m)).run P w = .ok (.slice (some ⟨w.heap.size, 0, none⟩) n.toNat m.toNat) (w.alloc (.cells cs e)) ∧ rowRel gh w cs ti.sz (List.replicate m.toNat ti.z) ∧ cs.size = m.toNat * ti.sz := by
  obtain ⟨i, z, d, k1, k2, k3, k0, k4, k10, k5, k6, k7, k8, k9⟩ := hti.info
  refine ⟨(Array.range (m.toNat * ti.sz)).map (z.cells[· % z.cells.size]!), ?_, rowRel_zero hti k1 k3 gh w m.toNat, by simp⟩
  have wn : IntKind.i64.wrap n = n := IntWalk.i64_in n (by omega)
  have wm : IntKind.i64.wrap m = m := IntWalk.i64_in m (by omega)
  have hbb : ¬ ((i.bytes : Int) * m > 2 ^ 48) := by
    rw [← k6, Int.mul_comm]
    simp only [roomB] at hb
    omega
  have hbb' : ¬ ((281474976710656 : Int) < (i.bytes : Int) * m) := by simpa using hbb
  have hm0 : ¬ m < 0 := by omega
  have hn0 : ¬ n < 0 := by omega
  have hnm : ¬ m < n := by omega
  simp only [Instr.makeSlice, Sem.run_bind, run_und ht, Result.andThen_ok, asInt, asIntOf, Sem.run_pure, run_typeInfo k1, wn, wm]
  rw [if_neg (by simp [hm0, hn0, hnm, hbb'])]
  simp only [Sem.run_bind, run_askRoom, Result.andThen_ok, run_sizeOf k1, ← k5]
  by_cases hz : m.toNat * ti.sz = 0
  · have hr : Array.range 0 = #[] := rfl
    simp only [hz, if_true, Sem.run_bind, Sem.run_pure, Result.andThen_ok]
    simp [newRow, hr]
  · simp only [hz, if_false, Sem.run_bind, Sem.run_pure, Result.andThen_ok, run_zeroValue k1 k3]
    simp [newRow]
structure News (P : Program) (w : World) (xt : TypeId) (x : Value) (size n : Nat) (news : Array Value) : Prop where
  ty : ∃ d, P.underlying xt = some d ∧ ∀ k, d ≠ .int k
  len : (Builtin.lenOf x).run P w = .ok n w
  cells : ∀ w' : World, w'.heap = w.heap → (Builtin.firstCells size n x).run P w' = .ok news w'
theorem run_app_room {P w t xt ty e i x n news} {a : Addr} {sLen sCap : Nat} (ht : P.underlying t = some (.slice e)) (hi : P.info? e = some i) (hn : News P w xt x i.size n news) (hroom : sLen + n ≤ sCap) :
    (Builtin.append_ #[t, xt] ty #[.slice (some a) sLen sCap, x]).run P w = ((storeCells (a.add (sLen * i.size)) news.toList).run P w).andThen fun _ w' => .ok (.slice (some a) (sLen + n) sCap) w' := by
  obtain ⟨d, hd, hk⟩ := hn.ty
  have hc := hn.cells w rfl
  simp [Builtin.append_, run_und ht, run_und hd, run_sizeOf hi, hn.len, hroom, hc]
theorem run_app_nil0 {P w t xt ty e i x news} (ht : P.underlying t = some (.slice e)) (hi : P.info? e = some i) (hn : News P w xt x i.size 0 news) :
    (Builtin.append_ #[t, xt] ty #[.slice none 0 0, x]).run P w = .ok (.slice none 0 0) w := by
  obtain ⟨d, hd, hk⟩ := hn.ty
  have hc := hn.cells w rfl
  simp [Builtin.append_, run_und ht, run_und hd, run_sizeOf hi, hn.len, hc]
theorem run_app_grow {P w t xt ty e i z x n news} {base : Option Addr} {sLen sCap : Nat} {olds : Array Value} (ht : P.underlying t = some (.slice e)) (hi : P.info? e = some i) (hz : i.zero = some z) (hn : News P w xt x i.size n news)
    (hg : sCap < sLen + n) (hold : ∀ w' : World, w'.heap = w.heap → (Builtin.firstCells i.size sLen (.slice base sLen sCap)).run P w' = .ok olds w')
    (h63 : ((sLen + n : Nat) : Int) ≤ 9223372036854775807) (hfit : Builtin.nextslicecap (sLen + n) sCap * i.bytes ≤ 281474976710656) :
    (Builtin.append_ #[t, xt] ty #[.slice base sLen sCap, x]).run P w =
      .ok (.slice (some ⟨w.heap.size, 0, none⟩) (sLen + n) (grownCap w (sLen + n) sCap e)) (w.drew.alloc (.cells (olds ++ news ++ Builtin.zeroCells z.cells (grownCap w (sLen + n) sCap e - (sLen + n))) e)) := by
  obtain ⟨d, hd, hk⟩ := hn.ty
  have hc := hn.cells w.drew rfl
  have ho := hold w.drew rfl
  have h1 : ¬ (sLen + n ≤ sCap) := by omega
  have h2 : ¬ (9223372036854775807 < ((sLen : Int) + (n : Int))) := by omega
  have h3 : ¬ (281474976710656 < Builtin.nextslicecap (sLen + n) sCap * i.bytes) := by omega
  have h4 : IntKind.i64.max = 9223372036854775807 := rfl
  simp [Builtin.append_, run_und ht, run_und hd, run_sizeOf hi, run_typeInfo hi, run_zeroValue hi hz, hn.len, h1, h2, h3, h4, hc, ho, Question.forced, newRow, grownCap]
theorem spine_news {P gh w xt sz nil ys v} {et : TypeId} (h : Spine gh w sz nil ys v) (hu : P.underlying xt = some (.slice et)) :
    ∃ news : Array Value, News P w xt v sz ys.length news ∧ news.size = ys.length * sz ∧ ∀ (i : Nat) (x : AV), ys[i]? = some x → (cellsOf x).length = sz ∧ ∀ (j : Nat) (y : AV), (cellsOf x)[j]? = some y → ∃ u : Value, news[i * sz + j]? = some u ∧ u.oneCell' = true ∧ R gh w y u := by
  rcases h with ⟨rfl, rfl, rfl⟩ | ⟨rfl, ad, cap, rfl, hc⟩
  · exact ⟨#[], ⟨⟨_, hu, by simp⟩, by simp [Builtin.lenOf], fun w' _ => by simp [Builtin.firstCells]⟩, by simp, by simp⟩
  · let g : Nat → Value := fun k => (w.cell? (ad.add k)).getD undef
    have hg : ∀ k, k < ys.length * sz → w.cell? (ad.add k) = some (g k) := fun k hk => by
      have hs : 0 < sz := by rcases Nat.eq_zero_or_pos sz with h | h; · subst h; simp at hk
                             · exact h
      have hi : k / sz < ys.length := by rw [Nat.div_lt_iff_lt_mul hs]; exact hk
      obtain ⟨h1, h2⟩ := hc (k / sz) _ (List.getElem?_eq_getElem hi)
      obtain ⟨v, h3, _⟩ := h2 (k % sz) _ (List.getElem?_eq_getElem (by rw [h1]; exact Nat.mod_lt _ hs))
      rw [Nat.div_add_mod' k sz] at h3
      simp [g, h3]
    refine ⟨((List.range (ys.length * sz)).map g).toArray, ⟨⟨_, hu, by simp⟩, by simp [Builtin.lenOf], fun w' hw => ?_⟩, by simp, fun i x hx => ⟨(hc i x hx).1, fun j y hy => ?_⟩⟩
    · have hcell : ∀ a, w'.cell? a = w.cell? a := fun a => by simp [World.cell?, hw]
      have := run_loadCells (P := P) w' ad (ys.length * sz) g (fun k hk => by rw [hcell]; exact hg k hk)
      simpa [Builtin.firstCells] using this
    · obtain ⟨h1, h2⟩ := hc i x hx
      obtain ⟨u, h3, h4, h5⟩ := h2 j y hy
      have hi := (List.getElem?_eq_some_iff.1 hx).1
      have hj : j < sz := by rw [← h1]; exact (List.getElem?_eq_some_iff.1 hy).1
      have hmul : (i + 1) * sz ≤ ys.length * sz := Nat.mul_le_mul_right _ hi
      rw [Nat.add_mul, Nat.one_mul] at hmul
      refine ⟨u, ?_, h4, h5⟩
      simp only [List.getElem?_toArray, List.getElem?_map]
      rw [List.getElem?_range (by omega)]
      simp [g, h3]
theorem string_news {P gh w xt} {s : ByteArray} (hu : P.underlying xt = some .string) :
    ∃ news : Array Value, News P w xt (.string s) 1 (bytesAV s).length news ∧ news.size = (bytesAV s).length * 1 ∧ ∀ (i : Nat) (x : AV), (bytesAV s)[i]? = some x → (cellsOf x).length = 1 ∧ ∀ (j : Nat) (y : AV), (cellsOf x)[j]? = some y → ∃ u : Value, news[i * 1 + j]? = some u ∧ u.oneCell' = true ∧ R gh w y u := by
  have hl : (bytesAV s).length = s.size := by simp [bytesAV] <;> rfl
  refine ⟨s.data.map fun b => .int .u8 b.toNat, ⟨⟨_, hu, by simp⟩, by rw [hl] <;> rfl, fun w' _ => ?_⟩, by rw [hl] <;> simp, fun i x hx => ?_⟩
  · simp only [Builtin.firstCells, Sem.run_pure, hl]
    congr 2
    rw [show s.extract 0 s.size = s by simp]
  · simp only [bytesAV, List.getElem?_map, Option.map_eq_some_iff] at hx
    obtain ⟨b, hb, rfl⟩ := hx
    refine ⟨rfl, fun j y hy => ?_⟩
    cases j with
    | succ j => simp [cellsOf] at hy
    | zero =>
      simp only [cellsOf, List.getElem?_cons_zero, Option.some.injEq] at hy
      subst hy
      refine ⟨.int .u8 b.toNat, ?_, rfl, .base _⟩
      simp only [Nat.mul_one, Nat.add_zero, Array.getElem?_map]
      rw [Array.getElem?_toList] at hb
      rw [hb]; rfl
def CellsOK (gh : Gh) (w : World) (sz : Nat) (ys : List AV) (news : Array Value) : Prop :=
  news.size = ys.length * sz ∧ ∀ (i : Nat) (x : AV), ys[i]? = some x → (cellsOf x).length = sz ∧ ∀ (j : Nat) (y : AV), (cellsOf x)[j]? = some y → ∃ u : Value, news[i * sz + j]? = some u ∧ u.oneCell' = true ∧ R gh w y u
theorem CellsOK.one {gh w sz ys news} (h : CellsOK gh w sz ys news) : ∀ u ∈ news.toList, u.oneCell' = true := by
  intro u hu
  obtain ⟨k, hk⟩ := List.mem_iff_getElem?.1 hu
  have hkl : k < ys.length * sz := by rw [← h.1]; exact (Array.getElem?_eq_some_iff.1 (by simpa using hk)).1
  have hs : 0 < sz := by rcases Nat.eq_zero_or_pos sz with h | h; · subst h; simp at hkl
                         · exact h
  have hi : k / sz < ys.length := by rw [Nat.div_lt_iff_lt_mul hs]; exact hkl
  obtain ⟨h1, h2⟩ := h.2 (k / sz) _ (List.getElem?_eq_getElem hi)
  obtain ⟨v, h3, h4, _⟩ := h2 (k % sz) _ (List.getElem?_eq_getElem (by rw [h1]; exact Nat.mod_lt _ hs))
  rw [Nat.div_add_mod' k sz] at h3
  simp at hk
  rw [hk] at h3; cases h3; exact h4
theorem rowRel_app {gh w sz hi} {xs ys : List AV} {cs news tail : Array Value} (hr : rowRel gh w cs sz xs) (hhi : hi ≤ xs.length) (hn : CellsOK gh w sz ys news) :
    rowRel gh w ((cs.toList.take (hi * sz)).toArray ++ news ++ tail) sz (xs.take hi ++ ys) := by
  have hsz := hr.1
  have hm : hi * sz ≤ xs.length * sz := Nat.mul_le_mul_right _ hhi
  have hl : (cs.toList.take (hi * sz)).toArray.size = hi * sz := by simp; omega
  refine ⟨?_, fun k x hx => ?_⟩
  · simp only [List.length_append, List.length_take, Array.size_append, hl, hn.1, Nat.min_eq_left hhi, Nat.add_mul]; omega
  · by_cases hk : k < hi
    · rw [List.getElem?_append_left (by simp; omega), List.getElem?_take_of_lt hk] at hx
      obtain ⟨h1, h2⟩ := hr.2 k x hx
      refine ⟨h1, fun j y hy => ?_⟩
      obtain ⟨u, h3, h4⟩ := h2 j y hy
      refine ⟨u, ?_, h4⟩
      have hj : j < sz := by rw [← h1]; exact (List.getElem?_eq_some_iff.1 hy).1
      have hmul : (k + 1) * sz ≤ hi * sz := Nat.mul_le_mul_right _ hk
      rw [Nat.add_mul, Nat.one_mul] at hmul
      rw [Array.append_assoc, Array.getElem?_append_left (by rw [hl]; omega)]
      simp only [List.getElem?_toArray]
      rw [List.getElem?_take_of_lt (by omega)]
      simpa using h3
    · have hk' : hi ≤ k := Nat.le_of_not_lt hk
      rw [List.getElem?_append_right (by simp; omega)] at hx
      simp only [List.length_take, Nat.min_eq_left hhi] at hx
      obtain ⟨h1, h2⟩ := hn.2 (k - hi) x hx
      refine ⟨h1, fun j y hy => ?_⟩
      obtain ⟨u, h3, h4⟩ := h2 j y hy
      refine ⟨u, ?_, h4⟩
      have hj : j < sz := by rw [← h1]; exact (List.getElem?_eq_some_iff.1 hy).1
      have hkl : k - hi < ys.length := (List.getElem?_eq_some_iff.1 hx).1
      have hmul : (k - hi + 1) * sz ≤ ys.length * sz := Nat.mul_le_mul_right _ hkl
      rw [Nat.add_mul, Nat.one_mul] at hmul
      have hks : k * sz = hi * sz + (k - hi) * sz := by rw [← Nat.add_mul]; congr 1; omega
      rw [Array.getElem?_append_left (by rw [Array.size_append, hl, hn.1]; omega), Array.getElem?_append_right (by rw [hl]; omega), hl, show k * sz + j - hi * sz = (k - hi) * sz + j by omega]
      exact h3
theorem rowRel_over {gh w sz hi} {xs ys : List AV} {cs news : Array Value} (hr : rowRel gh w cs sz xs) (hhi : hi + ys.length ≤ xs.length) (hn : CellsOK gh w sz ys news) :
    rowRel gh w (spl cs (hi * sz) news.toList) sz (xs.take hi ++ ys ++ xs.drop (hi + ys.length)) := by
  have hsz := hr.1
  have hm : (hi + ys.length) * sz ≤ xs.length * sz := Nat.mul_le_mul_right _ hhi
  rw [Nat.add_mul] at hm
  have hfit : hi * sz + news.toList.length ≤ cs.size := by simp [hn.1]; omega
  refine ⟨by rw [spl_size hfit]; simp only [List.length_append, List.length_take, List.length_drop]; rw [show min hi xs.length + ys.length + (xs.length - (hi + ys.length)) = xs.length by omega]; exact hsz, fun k x hx => ?_⟩
  by_cases hk : k < hi
  · rw [List.append_assoc, List.getElem?_append_left (by simp; omega), List.getElem?_take_of_lt hk] at hx
    obtain ⟨h1, h2⟩ := hr.2 k x hx
    refine ⟨h1, fun j y hy => ?_⟩
    obtain ⟨u, h3, h4⟩ := h2 j y hy
    refine ⟨u, ?_, h4⟩
    have hj : j < sz := by rw [← h1]; exact (List.getElem?_eq_some_iff.1 hy).1
    have hmul : (k + 1) * sz ≤ hi * sz := Nat.mul_le_mul_right _ hk
    rw [Nat.add_mul, Nat.one_mul] at hmul
    rw [spl_get hfit, if_neg (by omega)]
    exact h3
  · by_cases hk2 : k < hi + ys.length
    · rw [List.getElem?_append_left (by simp; omega), List.getElem?_append_right (by simp; omega)] at hx
      simp only [List.length_take, Nat.min_eq_left (show hi ≤ xs.length by omega)] at hx
      obtain ⟨h1, h2⟩ := hn.2 (k - hi) x hx
      refine ⟨h1, fun j y hy => ?_⟩
      obtain ⟨u, h3, h4⟩ := h2 j y hy
      refine ⟨u, ?_, h4⟩
      have hj : j < sz := by rw [← h1]; exact (List.getElem?_eq_some_iff.1 hy).1
      have hkl : k - hi < ys.length := (List.getElem?_eq_some_iff.1 hx).1
      have hmul : (k - hi + 1) * sz ≤ ys.length * sz := Nat.mul_le_mul_right _ hkl
      rw [Nat.add_mul, Nat.one_mul] at hmul
      have hks : k * sz = hi * sz + (k - hi) * sz := by rw [← Nat.add_mul]; congr 1; omega
      have hnl : news.toList.length = ys.length * sz := by simp [hn.1]
      rw [spl_get hfit, if_pos (by omega), show k * sz + j - hi * sz = (k - hi) * sz + j by omega]
      simpa using h3
    · rw [List.getElem?_append_right (by simp; omega)] at hx
      simp only [List.length_append, List.length_take, Nat.min_eq_left (show hi ≤ xs.length by omega), List.getElem?_drop] at hx
      rw [show hi + ys.length + (k - (hi + ys.length)) = k by omega] at hx
      obtain ⟨h1, h2⟩ := hr.2 k x hx
      refine ⟨h1, fun j y hy => ?_⟩
      obtain ⟨u, h3, h4⟩ := h2 j y hy
      refine ⟨u, ?_, h4⟩
      have hmul : (hi + ys.length) * sz ≤ k * sz := Nat.mul_le_mul_right _ (by omega)
      rw [Nat.add_mul] at hmul
      have hnl : news.toList.length = ys.length * sz := by simp [hn.1]
      rw [spl_get hfit, if_neg (by omega)]
      exact h3
end Go.Vai
namespace Go.Vai
structure AppRuns (P : Program) (w : World) (t xt ty e : TypeId) (i : TypeInfo) (z : Value) (x : Value) (n : Nat) (news : Array Value) : Prop where
  room : ∀ (a : Addr) (sLen sCap : Nat), sLen + n ≤ sCap → (Builtin.append_ #[t, xt] ty #[.slice (some a) sLen sCap, x]).run P w = ((storeCells (a.add (sLen * i.size)) news.toList).run P w).andThen fun _ w' => .ok (.slice (some a) (sLen + n) sCap) w'
  nil0 : n = 0 → (Builtin.append_ #[t, xt] ty #[.slice none 0 0, x]).run P w = .ok (.slice none 0 0) w
  grow : ∀ (base : Option Addr) (sLen sCap : Nat) (olds : Array Value), sCap < sLen + n → (∀ w' : World, w'.heap = w.heap → (Builtin.firstCells i.size sLen (.slice base sLen sCap)).run P w' = .ok olds w') →
    ((sLen + n : Nat) : Int) ≤ 9223372036854775807 → Builtin.nextslicecap (sLen + n) sCap * i.bytes ≤ 281474976710656 →
    (Builtin.append_ #[t, xt] ty #[.slice base sLen sCap, x]).run P w =
      .ok (.slice (some ⟨w.heap.size, 0, none⟩) (sLen + n) (grownCap w (sLen + n) sCap e)) (w.drew.alloc (.cells (olds ++ news ++ Builtin.zeroCells z.cells (grownCap w (sLen + n) sCap e - (sLen + n))) e))
theorem appRuns_of {P w t xt ty e i z x n news} (ht : P.underlying t = some (.slice e)) (hi : P.info? e = some i) (hz : i.zero = some z) (hn : News P w xt x i.size n news) : AppRuns P w t xt ty e i z x n news :=
  ⟨fun _ _ _ h => run_app_room ht hi hn h, fun h => by subst h; exact run_app_nil0 ht hi hn, fun _ _ _ _ h1 h2 h3 h4 => run_app_grow ht hi hz hn h1 h2 h3 h4⟩
theorem appRuns_zeros {P w t xt ty e i z k k'} {n : Int} (ht : P.underlying t = some (.slice e)) (hi : P.info? e = some i) (hz : i.zero = some z) (hxt : P.underlying xt = some (.int k)) (h0 : 0 ≤ n) (hn : n ≤ 9223372036854775807) (hb : n * i.bytes ≤ 281474976710656) (_hzs : z.cells.size = i.size) (hs : i.size ≠ 0) :
    AppRuns P w t xt ty e i z (.int k' n) n.toNat (Builtin.zeroCells z.cells n.toNat) := by
  have wn : IntKind.i64.wrap n = n := IntWalk.i64_in n (by omega)
  have hn0 : ¬ n < 0 := by omega
  have hbb : ¬ (281474976710656 < n * (i.bytes : Int)) := by omega
  have hzv : ∀ w' : World, (zeroValue e).run P w' = .ok z w' := fun w' => run_zeroValue hi hz
  have h0z : n.toNat * i.size = 0 → Builtin.zeroCells z.cells n.toNat = #[] := fun h => by
    have : n.toNat = 0 := (Nat.mul_eq_zero.1 h).resolve_right hs
    rw [this]; simp [Builtin.zeroCells]
  refine ⟨fun a sLen sCap h => ?_, fun h => ?_, fun base sLen sCap olds h1 h2 h3 h4 => ?_⟩
  · by_cases hz0 : n.toNat * i.size = 0
    · simp [Builtin.append_, run_und ht, run_und hxt, run_sizeOf hi, run_typeInfo hi, asInt, asIntOf, wn, hn0, hbb, h, hz0, h0z hz0]
    · simp [Builtin.append_, run_und ht, run_und hxt, run_sizeOf hi, run_typeInfo hi, asInt, asIntOf, wn, hn0, hbb, h, hz0, hzv]
  · obtain rfl : n = 0 := by omega
    simp [Builtin.append_, run_und ht, run_und hxt, run_sizeOf hi, run_typeInfo hi, asInt, asIntOf, wn]
  · have h1' : ¬ (sLen + n.toNat ≤ sCap) := by omega
    have h2' : ¬ (9223372036854775807 < ((sLen : Int) + max n 0)) := by omega
    have h3' : ¬ (281474976710656 < Builtin.nextslicecap (sLen + n.toNat) sCap * i.bytes) := by omega
    have h4' : IntKind.i64.max = 9223372036854775807 := rfl
    have ho := h2 w.drew rfl
    by_cases hz0 : n.toNat * i.size = 0
    · simp [Builtin.append_, run_und ht, run_und hxt, run_sizeOf hi, run_typeInfo hi, asInt, asIntOf, wn, hn0, hbb, h1', h2', h3', h4', ho, hz0, h0z hz0, hzv, Question.forced, newRow, grownCap]
    · simp [Builtin.append_, run_und ht, run_und hxt, run_sizeOf hi, run_typeInfo hi, asInt, asIntOf, wn, hn0, hbb, h1', h2', h3', h4', ho, hz0, hzv, Question.forced, newRow, grownCap]
theorem kill_obj {gh w m n} {x : Nat × Obj} (hm : MemRel gh w m) (hx : x.2 = .dead) (hg : (m.objs n).1 < x.1) : MemRel gh w (m.set n x) ∧ Keeps gh w m gh w (m.set n x) := by
  have hk : Keeps gh w m gh w (m.set n x) := ⟨Ext.refl _ _, fun k => by
    by_cases e : k = n
    · subst e; rw [Mem.set_same]; exact .inl hg
    · rw [Mem.set_ne _ _ e]; exact Turned.refl _ _⟩
  refine ⟨hm.step hk (· = n) hm.alloc (fun k e => ?_) (fun k e => ⟨Mem.set_ne _ _ e, rfl, fun h => ⟨h, rfl⟩⟩) rfl rfl (fun _ _ _ h => ⟨h, rfl⟩), hk⟩
  subst e; rw [Mem.set_same, hx]; trivial
theorem app_grow {C P t xt ty e ti gh w m d hi lv m' f} {i : TypeInfo} {z : Value} {x : Value} {ys pre : List AV} {olds news : Array Value} {base : Option Addr} {cap : Nat} (hti : TIok P e ti) (hie : P.info? e = some i) (hze : i.zero = some z)
    (hr : Run C (newArr d 0 false ti.sz (pre ++ ys) (hi + ys.length)) m lv m' f) (hm : MemRel gh w m) (ha : AppRuns P w t xt ty e i z x ys.length news) (hn : CellsOK gh w ti.sz ys news)
    (hpl : pre.length = hi) (hpre : rowRel gh w olds ti.sz pre) (hos : olds.size = hi * ti.sz) (hg : cap < hi + ys.length) (hb : (hi + ys.length) * ti.bytes ≤ roomB)
    (hold : ∀ w' : World, w'.heap = w.heap → (Builtin.firstCells i.size hi (.slice base hi cap)).run P w' = .ok olds w') :
    ∃ u w' gh', (Builtin.append_ #[t, xt] ty #[.slice base hi cap, x]).run P w = .ok u w' ∧ Keeps gh w m gh' w' m' ∧ MemRel gh' w' m' ∧ LVRel gh' w' m'.objs lv u := by
  obtain ⟨i', z', dd, k1, k2, k3, k0, k4, k10, k5, k6, k7, k8, k9⟩ := hti.info
  rw [hie] at k1; simp only [Option.some.injEq] at k1; subst k1
  rw [hze] at k3; simp only [Option.some.injEq] at k3; subst k3
  have hb1 : hi + ys.length ≤ (hi + ys.length) * ti.bytes := Nat.le_mul_of_pos_right _ (by omega)
  have hneed : hi + ys.length ≤ roomB := Nat.le_trans hb1 hb
  simp only [roomB] at hneed hb
  have hfit := growslice_fits (need := hi + ys.length) (old := cap) (bytes := i.bytes) hg (by rw [← k6]; exact hb)
  have hrun := ha.grow base hi cap olds hg hold (by omega) hfit
  have hge := grownCap_ge w (hi + ys.length) cap e
  have hle := grownCap_le_maxLen w (hi + ys.length) cap e (by simp only [maxLen]; omega)
  have hrow : rowRel gh w (olds ++ news ++ Builtin.zeroCells z.cells (grownCap w (hi + ys.length) cap e - (hi + ys.length))) ti.sz (pre ++ ys) := by
    have := rowRel_app (hi := hi) (tail := Builtin.zeroCells z.cells (grownCap w (hi + ys.length) cap e - (hi + ys.length))) hpre (by omega) hn
    rw [List.take_of_length_le (by simp [hos]), List.take_of_length_le (by omega)] at this
    simpa using this
  obtain ⟨gh', q1, q2, q3, _⟩ := newArr_sound (w1 := w.drew.alloc (.cells (olds ++ news ++ Builtin.zeroCells z.cells (grownCap w (hi + ys.length) cap e - (hi + ys.length))) e)) (b := w.heap.size) hr hm rfl rfl rfl (by simp)
    (fun k h _ => alloc_same w.drew _ k h (by simp; omega)) (fun h => absurd h (Nat.lt_irrefl _)) (fun j h => absurd (capOK_lt h) (Nat.lt_irrefl _)) (alloc_new w.drew _) hrow (by simp; omega)
  refine ⟨_, _, gh', hrun, q2, q1, q3 _ (by simp; omega) ?_ hle⟩
  have hzs : z.cells.size = ti.sz := by omega
  simp only [Array.size_append, hos, hn.1, size_zeroCells, hzs, ← Nat.add_mul]
  rw [show hi + ys.length + (grownCap w (hi + ys.length) cap e - (hi + ys.length)) = grownCap w (hi + ys.length) cap e by omega]
  exact Nat.le_refl _
theorem app_nil {C P t xt ty e ti gh w m d lv m' f} {i : TypeInfo} {z : Value} {x : Value} {ys : List AV} {news : Array Value} (hti : TIok P e ti) (hie : P.info? e = some i) (hze : i.zero = some z)
    (hr : Run C (newArr d 0 ys.isEmpty ti.sz ys ys.length) m lv m' f) (hm : MemRel gh w m) (ha : AppRuns P w t xt ty e i z x ys.length news) (hn : CellsOK gh w ti.sz ys news) (hb : ys.length * ti.bytes ≤ roomB) :
    ∃ u w' gh', (Builtin.append_ #[t, xt] ty #[.slice none 0 0, x]).run P w = .ok u w' ∧ Keeps gh w m gh' w' m' ∧ MemRel gh' w' m' ∧ LVRel gh' w' m'.objs lv u := by
  by_cases h0 : ys = []
  · subst h0
    obtain ⟨q1, q2, q3⟩ := newArr_nil hr hm
    exact ⟨_, w, gh, ha.nil0 rfl, q2, q1, q3⟩
  · have hpos : 0 < ys.length := List.length_pos_iff.2 h0
    rw [show ys.isEmpty = false by simpa using h0] at hr
    exact app_grow (pre := []) (hi := 0) (olds := #[]) (base := none) (cap := 0) hti hie hze (by simpa using hr) hm ha hn rfl ⟨by simp, by simp⟩ (by simp) (by omega) (by simpa using hb)
      (fun w' _ => by simp [Builtin.firstCells])
theorem aAppend_sound {C P t xt ty e ti gh w m d ys s lv m' f} {i : TypeInfo} {z : Value} {x : Value} {news : Array Value} (hti : TIok P e ti) (hie : P.info? e = some i) (hze : i.zero = some z)
    (hr : Run C (aAppend d ti.sz ti.bytes ys s) m lv m' f) (hm : MemRel gh w m) (v : Value) (hv : LVRel gh w m.objs s v) (hn : CellsOK gh w ti.sz ys news) (ha : AppRuns P w t xt ty e i z x ys.length news) :
    ∃ u w' gh', (Builtin.append_ #[t, xt] ty #[v, x]).run P w = .ok u w' ∧ Keeps gh w m gh' w' m' ∧ MemRel gh' w' m' ∧ LVRel gh' w' m'.objs lv u := by
  obtain ⟨i', z', dd, k1, k2, k3, k0, k4, k10, k5, k6, k7, k8, k9⟩ := hti.info
  rw [hie] at k1; simp only [Option.some.injEq] at k1; subst k1
  rw [hze] at k3; simp only [Option.some.injEq] at k3; subst k3
  unfold aAppend at hr
  split at hr
  · rename_i n g hi
    obtain ⟨f1, h⟩ := hr.getO_inv
    split at h
    case isFalse => exact h.fail_inv.elim
    rename_i hg
    revert h
    rcases hx : m.objs n with ⟨g', o⟩
    rw [hx] at hg
    simp only at hg ⊢
    subst hg
    have hO := hm.objs n
    rw [hx] at hO
    simp only [LVRel, hx] at hv
    cases o with
    | arr nil s xs =>
      intro h
      simp only at h
      split at h
      case isFalse => exact h.fail_inv.elim
      rename_i hc
      obtain ⟨c1, c2, c3⟩ := hc
      obtain ⟨f2, h⟩ := h.setO_inv
      obtain ⟨q1, q2⟩ := kill_obj (n := n) (x := (g' + 1, .dead)) hm rfl (by rw [hx]; simp)
      obtain ⟨h1, h2, h3⟩ := hv.2 trivial
      cases nil with
      | true =>
        have hx0 : xs = [] := by simpa [ObjRel] using hO
        subst hx0
        simp only [if_true] at h3
        subst h3
        obtain rfl : hi = 0 := by simpa using h2
        have hh : Run C (newArr d 0 ys.isEmpty ti.sz ys ys.length) (m.set n (g' + 1, .dead)) lv m' f2 := by
          have e1 : (if 0 + ys.length ≤ ([] : List AV).length then List.take 0 [] ++ ys ++ List.drop (0 + ys.length) [] else List.take 0 [] ++ ys) = ys := by split <;> simp
          rw [e1] at h
          simpa using h
        obtain ⟨u, w', gh', r1, r2, r3, r4⟩ := app_nil hti hie hze hh q1 ha hn (by simpa using c2)
        exact ⟨u, w', gh', r1, q2.trans r2, r3, r4⟩
      | false =>
        simp only [Bool.false_eq_true, if_false] at h3
        obtain ⟨off, cap, rfl, h4, h5, h6, h7, h8⟩ := h3
        obtain rfl : off = 0 := by simpa using h4 (.inl trivial)
        simp only [Bool.false_eq_true, or_false] at c1
        subst c1
        simp only [ObjRel, Bool.false_eq_true, if_false] at hO
        obtain ⟨o1, cs, tyb, o2, o3⟩ := hO
        simp only [Nat.sub_zero, Nat.zero_add] at h6 ⊢
        have hmul : hi * ti.sz ≤ xs.length * ti.sz := Nat.mul_le_mul_right _ h2
        have hsz := o3.1
        have hd : (m.set n (g' + 1, Obj.dead)).objs n = (g' + 1, .dead) := Mem.set_same _ _ _
        by_cases hroom : hi + ys.length ≤ cap
        · have hrun := ha.room ⟨gh.κ n, 0, none⟩ hi cap hroom
          have hcapsz : cap * ti.sz ≤ cs.size := by
            obtain ⟨cs', ty', fr', e1, e2⟩ := h7
            rw [o2] at e1
            simp only [Option.some.injEq, Go.Obj.cells.injEq] at e1
            rw [← e1.1] at e2
            simpa using e2
          have hmul2 : (hi + ys.length) * ti.sz ≤ cap * ti.sz := Nat.mul_le_mul_right _ hroom
          rw [Nat.add_mul] at hmul2
          have hfit : hi * ti.sz + news.toList.length ≤ cs.size := by simp [hn.1]; omega
          have hst := run_storeCells_at P (gh.κ n) (hi * ti.sz) tyb news.toList 0 cs w o2 (by simpa using hfit) hn.one
          rw [← k5, add_plain, hst] at hrun
          simp only [Result.andThen_ok, Nat.add_zero] at hrun
          have hrow : rowRel gh w (spl cs (hi * ti.sz) news.toList) ti.sz (if hi + ys.length ≤ xs.length then xs.take hi ++ ys ++ xs.drop (hi + ys.length) else xs.take hi ++ ys) := by
            split
            · rename_i hl; exact rowRel_over o3 hl hn
            · have := rowRel_app (tail := (cs.toList.drop (hi * ti.sz + news.toList.length)).toArray) o3 h2 hn
              have e : (cs.toList.take (hi * ti.sz)).toArray ++ news ++ (cs.toList.drop (hi * ti.sz + news.toList.length)).toArray = spl cs (hi * ti.sz) news.toList := by
                apply Array.ext'; simp [spl]
              rwa [e] at this
          have hlen : hi + ys.length ≤ (if hi + ys.length ≤ xs.length then xs.take hi ++ ys ++ xs.drop (hi + ys.length) else xs.take hi ++ ys).length ∧ (if hi + ys.length ≤ xs.length then xs.take hi ++ ys ++ xs.drop (hi + ys.length) else xs.take hi ++ ys).length ≤ cap := by
            split
            · simp; omega
            · simp; omega
          have hne : ∀ k, k < w.heap.size → k ≠ gh.κ n → (w.setRow (gh.κ n) (spl cs (hi * ti.sz) news.toList)).heap[k]? = w.heap[k]? := fun k _ hk => setRow_other w _ k _ hk
          obtain ⟨gh', r1, r2, r3, _⟩ := newArr_sound (w1 := w.setRow (gh.κ n) (spl cs (hi * ti.sz) news.toList)) (b := gh.κ n) (by simpa using h) q1 rfl rfl rfl (by simp) hne
            (fun _ => ⟨n, o1, by rw [hd]⟩) (fun j hj => capOK_setRow o2 (spl_size hfit) hj) (setRow_heap w _ cs _ tyb _ o2) hrow hlen.1
          refine ⟨_, _, gh', (by rw [hrun]; simp [spl]; rfl), q2.trans r2, r1, ?_⟩
          exact r3 cap hlen.2 (by rw [spl_size hfit]; exact hcapsz) h8
        · have hnl : ¬ (hi + ys.length ≤ xs.length) := by omega
          rw [if_neg hnl] at h
          let olds : Array Value := (cs.toList.take (hi * ti.sz)).toArray
          have hos : olds.size = hi * ti.sz := by simp [olds]; omega
          have hpre : rowRel gh w olds ti.sz (xs.take hi) := by
            have := rowRel_app (hi := hi) (ys := []) (news := #[]) (tail := #[]) o3 h2 ⟨by simp, by simp⟩
            simpa [olds] using this
          obtain ⟨u, w', gh', r1, r2, r3, r4⟩ := app_grow (pre := xs.take hi) (hi := hi) (olds := olds) (base := some ⟨gh.κ n, 0, none⟩) (cap := cap) hti hie hze (by simpa using h) q1 ha hn (by simp; omega) hpre hos (by omega) c2
            (fun w' hw => by
              have hb' : w'.heap[gh.κ n]? = some (.cells cs tyb (0, 0)) := by rw [hw]; exact o2
              have := run_firstCells_some (P := P) w' i.size hi ⟨gh.κ n, 0, none⟩ hi cap olds.toList (by rw [← k5]; simp [olds]; omega) (fun j v hv => by
                rw [add_plain]
                simp only [olds, List.getElem?_take] at hv
                split at hv
                · simp [World.cell?, hb']; simpa using hv
                · cases hv)
              simpa using this)
          exact ⟨u, w', gh', r1, q2.trans r2, r3, r4⟩
    | frz _ _ _ => intro h; exact h.fail_inv.elim
    | dead => intro h; exact h.fail_inv.elim
    | box _ => intro h; exact h.fail_inv.elim
    | fbox _ => intro h; exact h.fail_inv.elim
  · split at hr
    case isFalse => exact hr.fail_inv.elim
    rename_i hc
    simp only [LVRel] at hv
    cases hv with
    | nilsl => exact app_nil hti hie hze hr hm ha hn hc.1
  · exact hr.fail_inv.elim
theorem aClear_sound {C P t e ti gh w m x u m' f ty} (ht : P.underlying t = some (.slice e)) (hti : TIok P e ti) (hr : Run C (aClear ti.sz ti.z x) m u m' f) (hm : MemRel gh w m) (v : Value) (hv : LVRel gh w m.objs x v) :
    ∃ w' gh', (Builtin.clear_ #[t] ty #[v]).run P w = .ok (.tuple #[]) w' ∧ Keeps gh w m gh' w' m' ∧ MemRel gh' w' m' := by
  obtain ⟨i, z, dd, k1, k2, k3, k0, k4, k10, k5, k6, k7, k8, k9⟩ := hti.info
  have emp : ∀ {a : Option Addr} {c : Nat}, (Builtin.clear_ #[t] ty #[.slice a 0 c]).run P w = .ok (.tuple #[]) w := fun {a c} => by
    cases a <;> simp [Builtin.clear_, run_und ht]
  unfold aClear at hr
  split at hr
  · rename_i n g lo hi
    obtain ⟨f1, h⟩ := hr.getO_inv
    split at h
    case isFalse => exact h.fail_inv.elim
    rename_i hg
    revert h
    rcases hx : m.objs n with ⟨g', o⟩
    rw [hx] at hg
    simp only at hg ⊢
    subst hg
    have hO := hm.objs n
    rw [hx] at hO
    simp only [LVRel, hx] at hv
    have none_ : ∀ {nil : Bool} {s len : Nat}, ownRel w (gh.κ n) nil s len lo hi v → hi ≤ lo → (Builtin.clear_ #[t] ty #[v]).run P w = .ok (.tuple #[]) w := fun {nil s len} ho hl => by
      obtain ⟨_, _, h3⟩ := ho
      cases nil with
      | true => simp only [if_true] at h3; subst h3; exact emp
      | false =>
        simp only [Bool.false_eq_true, if_false] at h3
        obtain ⟨off, cap, rfl, _⟩ := h3
        rw [Nat.sub_eq_zero_of_le hl]; exact emp
    cases o with
    | arr nil s xs =>
      intro h
      simp only at h
      have hv := hv.2 trivial
      split at h
      · rename_i hc
        obtain ⟨rfl, c1, c2⟩ := hc
        obtain ⟨f2, h⟩ := h.setO_inv
        obtain ⟨_, rfl⟩ := h.ret_inv
        cases nil with
        | true =>
          have hx0 : xs = [] := by simpa [ObjRel] using hO
          subst hx0
          have hhi : hi = 0 := by simpa using c2
          subst hhi
          obtain rfl : lo = 0 := by omega
          refine ⟨w, gh, none_ hv (Nat.le_refl _), ?_⟩
          have e : m.set n (g', Obj.arr true ti.sz (List.take 0 [] ++ List.replicate (0 - 0) ti.z ++ List.drop 0 [])) = m := by
            have := Mem.set_eta m n
            rw [hx] at this; simpa using this
          rw [e]
          exact ⟨Keeps.refl _ _ _, hm⟩
        | false =>
          obtain ⟨h1, h2, h3⟩ := hv
          simp only [Bool.false_eq_true, if_false] at h3
          obtain ⟨off, cap, rfl, h4, h5, h6, h7, h8⟩ := h3
          simp only [ObjRel, Bool.false_eq_true, if_false] at hO
          obtain ⟨o1, cs, tyb, o2, o3⟩ := hO
          let zs : Array Value := Builtin.zeroCells z.cells (hi - lo)
          have hzs : z.cells.size = ti.sz := by omega
          have hzsz : zs.size = (hi - lo) * ti.sz := by simp [zs, size_zeroCells, hzs]
          have hze : (Array.range ((hi - lo) * z.cells.size)).map (fun i => z.cells[i % z.cells.size]!) = zs := rfl
          have hcells : CellsOK gh w ti.sz (List.replicate (hi - lo) ti.z) zs := by
            have := rowRel_zero hti k1 k3 gh w (hi - lo)
            refine ⟨by simp [hzsz], fun k x hx => ?_⟩
            have h := this.2 k x hx
            rw [← hzs, hze] at h
            rw [← hzs]; exact h
          by_cases hlt : lo < hi
          · obtain rfl : off = lo * ti.sz := h4 (.inr hlt)
            have hover := rowRel_over (hi := lo) (ys := List.replicate (hi - lo) ti.z) o3 (by simp; omega) hcells
            have hmul : hi * ti.sz ≤ xs.length * ti.sz := Nat.mul_le_mul_right _ h2
            have hmul2 : lo * ti.sz + (hi - lo) * ti.sz = hi * ti.sz := by rw [← Nat.add_mul]; congr 1; omega
            have hsz := o3.1
            have hfit : lo * ti.sz + zs.toList.length ≤ cs.size := by simp [hzsz]; omega
            have hst := run_storeCells_at P (gh.κ n) (lo * ti.sz) tyb zs.toList 0 cs w o2 (by simpa using hfit) hcells.one
            have hrun : (Builtin.clear_ #[t] ty #[.slice (some ⟨gh.κ n, lo * ti.sz, none⟩) (hi - lo) cap]).run P w = .ok (.tuple #[]) (w.setRow (gh.κ n) (spl cs (lo * ti.sz) zs.toList)) := by
              obtain ⟨q, hq⟩ : ∃ q, hi - lo = q + 1 := ⟨hi - lo - 1, by omega⟩
              simp only [zs] at hst ⊢
              rw [hq] at hst ⊢
              simp [Builtin.clear_, run_und ht, run_zeroValue k1 k3, hst, spl]
            refine ⟨_, gh, hrun, ?_⟩
            have e2 : lo + (List.replicate (hi - lo) ti.z).length = hi := by simp; omega
            rw [e2] at hover
            have := touch_obj (x := (g', .arr false ti.sz (xs.take lo ++ List.replicate (hi - lo) ti.z ++ xs.drop hi))) hm o1 o2 (spl_size hfit) (by rw [hx]) (by rw [hx]; simp [Obj.like]; omega) (fun he hk => by
              simp only [ObjRel, Bool.false_eq_true, if_false]
              exact ⟨o1, _, tyb, setRow_heap w _ cs _ tyb _ o2, hover.keep he⟩)
            exact ⟨this.2, this.1⟩
          · have e : hi = lo := by omega
            subst e
            refine ⟨w, gh, by rw [Nat.sub_self]; exact emp, ?_⟩
            have e : m.set n (g', Obj.arr false ti.sz (List.take hi xs ++ List.replicate (hi - hi) ti.z ++ List.drop hi xs)) = m := by
              have := Mem.set_eta m n
              rw [hx] at this; simpa using this
            rw [e]
            exact ⟨Keeps.refl _ _ _, hm⟩
      · split at h
        case isFalse => exact h.fail_inv.elim
        rename_i hl
        obtain ⟨_, rfl⟩ := h.ret_inv
        exact ⟨w, gh, none_ hv hl, Keeps.refl _ _ _, hm⟩
    | frz _ _ _ =>
      intro h
      simp only at h
      split at h
      case isFalse => exact h.fail_inv.elim
      rename_i hl
      obtain ⟨_, rfl⟩ := h.ret_inv
      exact ⟨w, gh, none_ (hv.2 trivial) hl, Keeps.refl _ _ _, hm⟩
    | dead => intro h; exact h.fail_inv.elim
    | box _ => intro h; exact h.fail_inv.elim
    | fbox _ => intro h; exact h.fail_inv.elim
  · obtain ⟨_, rfl⟩ := hr.ret_inv
    simp only [LVRel] at hv
    refine ⟨w, gh, ?_, Keeps.refl _ _ _, hm⟩
    cases hv with
    | nilsl => exact emp
    | sl _ _ ad cap => exact emp
  · exact hr.fail_inv.elim
theorem aCopy_sound {C P t xt e et ti gh w m x lv m' f ty nil ys vs} (ht : P.underlying t = some (.slice e)) (hu : P.underlying xt = some (.slice et)) (hti : TIok P e ti) (hr : Run C (aCopy ti.sz ys x) m lv m' f) (hm : MemRel gh w m) (v : Value) (hv : LVRel gh w m.objs x v) (hp : Spine gh w ti.sz nil ys vs) :
    ∃ u w', (Builtin.copy_ #[t, xt] ty #[v, vs]).run P w = .ok u w' ∧ Keeps gh w m gh w' m' ∧ MemRel gh w' m' ∧ LVRel gh w' m'.objs lv u := by
  obtain ⟨i, z, dd, k1, k2, k3, k0, k4, k10, k5, k6, k7, k8, k9⟩ := hti.info
  unfold aCopy at hr
  split at hr
  case h_2 => exact hr.fail_inv.elim
  rename_i n g lo hi
  obtain ⟨f1, h⟩ := hr.getO_inv
  split at h
  case isFalse => exact h.fail_inv.elim
  rename_i hg
  revert h
  rcases hx : m.objs n with ⟨g', o⟩
  rw [hx] at hg
  simp only at hg ⊢
  subst hg
  have hO := hm.objs n
  rw [hx] at hO
  simp only [LVRel, hx] at hv
  intro h
  split at h
  case h_2 => exact h.fail_inv.elim
  rename_i s xs
  have hv := hv.2 trivial
  split at h
  case isFalse => exact h.fail_inv.elim
  rename_i hc
  obtain ⟨rfl, c1, c2⟩ := hc
  obtain ⟨f2, h⟩ := h.setO_inv
  obtain ⟨rfl, rfl⟩ := h.ret_inv
  obtain ⟨h1, h2, h3⟩ := hv
  simp only [Bool.false_eq_true, if_false] at h3
  obtain ⟨off, cap, rfl, h4, h5, h6, h7, h8⟩ := h3
  simp only [ObjRel, Bool.false_eq_true, if_false] at hO
  obtain ⟨o1, cs, tyb, o2, o3⟩ := hO
  -- what is read
  have hmin : (ys.take (hi - lo)).length = Nat.min ys.length (hi - lo) := by rw [List.length_take]; exact Nat.min_comm _ _
  have hnews : ∃ news : Array Value, ((Builtin.firstCells i.size (Nat.min ys.length (hi - lo)) vs).run P w = .ok news w) ∧ (Builtin.lenOf vs).run P w = .ok ys.length w ∧ CellsOK gh w ti.sz (ys.take (hi - lo)) news := by
    rcases hp with ⟨rfl, rfl, rfl⟩ | ⟨rfl, ad, cap2, rfl, hcc⟩
    · exact ⟨#[], by simp [Builtin.firstCells], by simp [Builtin.lenOf], by simp [CellsOK]⟩
    · let gg : Nat → Value := fun k => (w.cell? (ad.add k)).getD undef
      have hle : Nat.min ys.length (hi - lo) ≤ ys.length := Nat.min_le_left _ _
      have hgg : ∀ k, k < ys.length * ti.sz → w.cell? (ad.add k) = some (gg k) := fun k hk => by
        have hs : 0 < ti.sz := by rcases Nat.eq_zero_or_pos ti.sz with h | h; · rw [h] at hk; simp at hk
                                  · exact h
        have hi' : k / ti.sz < ys.length := by rw [Nat.div_lt_iff_lt_mul hs]; exact hk
        obtain ⟨h1, h2⟩ := hcc (k / ti.sz) _ (List.getElem?_eq_getElem hi')
        obtain ⟨v, h3, _⟩ := h2 (k % ti.sz) _ (List.getElem?_eq_getElem (by rw [h1]; exact Nat.mod_lt _ hs))
        rw [Nat.div_add_mod' k ti.sz] at h3
        simp [gg, h3]
      have hmul : Nat.min ys.length (hi - lo) * ti.sz ≤ ys.length * ti.sz := Nat.mul_le_mul_right _ hle
      have hload := run_loadCells (P := P) w ad (Nat.min ys.length (hi - lo) * ti.sz) gg (fun k hk => hgg k (by omega))
      refine ⟨((List.range (Nat.min ys.length (hi - lo) * ti.sz)).map gg).toArray, by rw [← k5]; simpa [Builtin.firstCells] using hload, by simp [Builtin.lenOf], by simp [hmin], fun i x hx => ?_⟩
      have hil : i < (ys.take (hi - lo)).length := (List.getElem?_eq_some_iff.1 hx).1
      have hx' : ys[i]? = some x := by rw [List.getElem?_take_of_lt (by rw [List.length_take] at hil; omega)] at hx; exact hx
      obtain ⟨e1, e2⟩ := hcc i x hx'
      refine ⟨e1, fun j y hy => ?_⟩
      obtain ⟨u, e3, e4, e5⟩ := e2 j y hy
      have hj : j < ti.sz := by rw [← e1]; exact (List.getElem?_eq_some_iff.1 hy).1
      have hm2 : (i + 1) * ti.sz ≤ Nat.min ys.length (hi - lo) * ti.sz := Nat.mul_le_mul_right _ (by omega)
      rw [Nat.add_mul, Nat.one_mul] at hm2
      refine ⟨u, ?_, e4, e5⟩
      simp only [List.getElem?_toArray, List.getElem?_map]
      rw [List.getElem?_range (by omega)]
      simp [gg, e3]
  obtain ⟨news, n1, n2, n3⟩ := hnews
  have hn : news.size = (ys.take (hi - lo)).length * ti.sz := n3.1
  by_cases hz : (ys.take (hi - lo)).length = 0
  · have hyn : ys.take (hi - lo) = [] := List.eq_nil_of_length_eq_zero hz
    rw [hmin] at hz
    have hnn : news = #[] := by
      apply Array.eq_empty_of_size_eq_zero
      rw [hn, hmin, hz, Nat.zero_mul]
    subst hnn
    refine ⟨goInt 0, w, ?_, ?_⟩
    · rw [hz] at n1
      simp [Builtin.copy_, run_und ht, n2, hz, run_sizeOf k1, n1, storeCells]
    · have e : m.set n (g', Obj.arr false ti.sz (List.take lo xs ++ List.take (hi - lo) ys ++ List.drop (lo + (List.take (hi - lo) ys).length) xs)) = m := by
        have := Mem.set_eta m n
        rw [hx] at this; rw [hyn]; simpa using this
      rw [e, hyn]
      exact ⟨Keeps.refl _ _ _, hm, by simp only [LVRel]; exact .base _⟩
  · have hlt : lo < hi := by rw [List.length_take] at hz; omega
    obtain rfl : off = lo * ti.sz := h4 (.inr hlt)
    have hle : (ys.take (hi - lo)).length ≤ hi - lo := by rw [List.length_take]; omega
    have hover := rowRel_over (hi := lo) (ys := ys.take (hi - lo)) o3 (by omega) n3
    have hmul : (lo + (ys.take (hi - lo)).length) * ti.sz ≤ xs.length * ti.sz := Nat.mul_le_mul_right _ (by omega)
    rw [Nat.add_mul] at hmul
    have hsz := o3.1
    have hfit : lo * ti.sz + news.toList.length ≤ cs.size := by rw [Array.length_toList, hn]; omega
    have hst := run_storeCells_at P (gh.κ n) (lo * ti.sz) tyb news.toList 0 cs w o2 (by simpa using hfit) n3.one
    refine ⟨goInt (ys.take (hi - lo)).length, w.setRow (gh.κ n) (spl cs (lo * ti.sz) news.toList), ?_, ?_⟩
    · rw [hmin]
      simp only [Nat.add_zero] at hst
      simp [Builtin.copy_, run_und ht, n2, run_sizeOf k1, n1, hst, spl]
    · have := touch_obj (x := (g', .arr false ti.sz (xs.take lo ++ ys.take (hi - lo) ++ xs.drop (lo + (ys.take (hi - lo)).length)))) hm o1 o2 (spl_size hfit) (by rw [hx]) (by rw [hx]; simp [Obj.like]; omega) (fun he hk => by
        simp only [ObjRel, Bool.false_eq_true, if_false]
        exact ⟨o1, _, tyb, setRow_heap w _ cs _ tyb _ o2, hover.keep he⟩)
      exact ⟨this.2, this.1, by simp only [LVRel]; exact .base _⟩
end Go.Vai
namespace Go.Vai
def OwnVal (gh : Gh) (w : World) (n : Nm) (a : AV) (v : Value) : Prop :=
  ∃ sz nil xs, a = .sl sz nil xs ∧ ((nil = true ∧ xs = [] ∧ v = .slice none 0 0) ∨
    (nil = false ∧ ∃ (b cap : Nat) (cs : Array Value) (ty : TypeId), v = .slice (some ⟨b, 0, none⟩) xs.length cap ∧ gh.ρ b = .loc n ∧ w.heap[b]? = some (.cells cs ty (0, 0)) ∧ rowRel gh w cs sz xs ∧ xs.length ≤ cap ∧ cap * sz ≤ cs.size ∧ cap ≤ maxLen))
def CompRel (gh : Gh) (w : World) (n : Nm) (x : AV × Bool) (v : Value) : Prop := if x.2 then OwnVal gh w n x.1 v else R gh w x.1 v
def ArgsRel (gh : Gh) (w : World) (args : List (AV × Bool)) (vs : Array Value) : Prop :=
  vs.size = args.length ∧ ∀ (j : Nat) (x : AV × Bool) (v : Value), args[j]? = some x → vs[j]? = some v → CompRel gh w (.var j) x v
def ResRel (gh : Gh) (w : World) (r : List (AV × Bool)) (v : Value) : Prop :=
  match r with
  | [x] => CompRel gh w (.res 0) x v
  | r => ∃ vs : Array Value, v = .tuple vs ∧ vs.size = r.length ∧ ∀ (j : Nat) (x : AV × Bool) (u : Value), r[j]? = some x → vs[j]? = some u → CompRel gh w (.res j) x u
def bare (G : List (List AV)) : Mem := ⟨fun _ => (0, .dead), G⟩
def GMem (gh : Gh) (w : World) (G : List (List AV)) : Prop := MemRel gh w (bare G)
def Good (P : Program) : Contract := fun f args G r G' =>
  (∃ fn c, P.funcs[f]? = some fn ∧ (fn.name == "runtime.NumGoroutine") = false ∧ fn.body = some c) ∧
  ∀ gh w vs, GMem gh w G → ArgsRel gh w args vs →
    Calls P f vs w fun e w' => ∃ v gh', e = .returned v ∧ Ext gh w gh' w' ∧ GMem gh' w' G' ∧ ResRel gh' w' r v
mutual
theorem peek_alive {C} : ∀ (lv : LV) {m a m' f}, Run C (peek lv) m a m' f → ∀ n ∈ lv.names, (m.objs n).2 ≠ .dead
  | .v _, _, _, _, _, _ => by simp [LV.names]
  | .own n g lo hi, m, a, m', f, hr => by
    intro k hk
    simp only [LV.names, List.mem_singleton] at hk
    subst hk
    simp only [peek] at hr
    unfold peekN at hr
    obtain ⟨f1, h⟩ := hr.getO_inv
    split at h
    case isFalse => exact h.fail_inv.elim
    intro e
    rw [e] at h
    exact h.fail_inv.elim
  | .agg fs, m, a, m', f, hr => by
    simp only [peek] at hr
    obtain ⟨l, m1, f1, f2, h1, _⟩ := hr.bind_inv
    simpa only [LV.names] using peekL_alive fs h1
  | .dead, _, _, _, _, _ => by simp [LV.names]
  | .lptr .., _, _, _, _, _ => by simp [LV.names]
  | .eptr .., _, _, _, _, _ => by simp [LV.names]
  | .tup .., _, _, _, _, _ => by simp [LV.names]
  | .cond .., _, _, _, _, _ => by simp [LV.names]
theorem peekL_alive {C} : ∀ (ys : List LV) {m l m' f}, Run C (peekL ys) m l m' f → ∀ n ∈ namesL ys, (m.objs n).2 ≠ .dead
  | [], _, _, _, _, _ => by simp [namesL]
  | y :: ys, m, l, m', f, hr => by
    simp only [peekL] at hr
    obtain ⟨a, m1, f1, f2, h1, h2⟩ := hr.bind_inv
    obtain ⟨r, m2, f3, f4, h3, _⟩ := h2.bind_inv
    obtain ⟨rfl, _⟩ := peek_sound y h1
    intro n hn
    simp only [namesL, List.mem_append] at hn
    rcases hn with hn | hn
    · exact peek_alive y h1 n hn
    · exact peekL_alive ys h3 n hn
end
theorem noPtrL_mem : ∀ {l : List AV}, noPtrL l = true → ∀ a ∈ l, noPtr a = true
  | [], _, a, ha => by simp at ha
  | x :: xs, h, a, ha => by
    simp only [noPtrL, Bool.and_eq_true] at h
    rcases List.mem_cons.1 ha with rfl | ha
    · exact h.1
    · exact noPtrL_mem h.2 a ha
theorem noPtr_cells {a : AV} (h : noPtr a = true) : ∀ x ∈ cellsOf a, noPtr x = true := by
  intro x hx
  cases a with
  | agg fs => simp only [noPtr] at h; exact noPtrL_mem h x hx
  | _ => simp only [cellsOf, List.mem_singleton] at hx; subst hx; exact h
theorem R.noγ {gh w gh' w'} (hi : ∀ b, gh.imm b → gh'.imm b ∧ w'.heap[b]? = w.heap[b]?) {a : AV} {v : Value} (h : R gh w a v) (hn : noPtr a = true) : R gh' w' a v := by
  induction h with
  | base v => exact .base v
  | nilsl sz => exact .nilsl sz
  | sl sz xs ad cap f hI hcap hsz hc ho hr ih =>
    simp only [noPtr] at hn
    refine .sl sz xs ad cap f (fun h => (hi _ (hI h)).1) hcap hsz (fun i j h1 h2 => ?_) ho (fun i j h1 h2 => ih i j h1 h2 (noPtr_cells (noPtrL_mem hn _ (List.getElem_mem h1)) _ (List.getElem_mem h2)))
    exact (cell_same (w := w) (w' := w') (a := ad.add (i * sz + j)) (by rw [add_block]; exact (hi _ (hI (by intro e; subst e; simp at h1))).2)).trans (hc i j h1 h2)
  | agg fs cs hl hr ih => simp only [noPtr] at hn; exact .agg fs cs hl fun j h => ih j h (noPtrL_mem hn _ (List.getElem_mem h))
  | tup fs cs hl hr ih => simp only [noPtr] at hn; exact .tup fs cs hl fun j h => ih j h (noPtrL_mem hn _ (List.getElem_mem h))
  | iptr cells off ad f hI hc ho hr ih =>
    simp only [noPtr] at hn
    refine .iptr cells off ad f (fun h => (hi _ (hI h)).1) (fun j h1 => ?_) ho (fun j h => ih j h (noPtrL_mem hn _ (List.getElem_mem h)))
    exact (cell_same (w := w) (w' := w') (a := ad.add j) (by rw [add_block]; exact (hi _ (hI (by intro e; subst e; simp at h1))).2)).trans (hc j h1)
  | clo f caps cs hl hr ih => simp only [noPtr] at hn; exact .clo f caps cs hl fun j h => ih j h (noPtrL_mem hn _ (List.getElem_mem h))
  | gp id off b h => simp [noPtr] at hn
  | gm id b h => simp [noPtr] at hn
theorem rowRel.mono' {gh w gh' w'} (hi : ∀ b, gh.imm b → gh'.imm b ∧ w'.heap[b]? = w.heap[b]?) (hg : ∀ (id b : Nat), gh.γ[id]? = some b → gh'.γ[id]? = some b) {cs sz xs} (h : rowRel gh w cs sz xs) : rowRel gh' w' cs sz xs :=
  ⟨h.1, fun i x hx => ⟨(h.2 i x hx).1, fun j y hy => let ⟨v, h1, h2, h3⟩ := (h.2 i x hx).2 j y hy; ⟨v, h1, h2, h3.mono' hi hg⟩⟩⟩
theorem rowRel.noγ {gh w gh' w'} (hi : ∀ b, gh.imm b → gh'.imm b ∧ w'.heap[b]? = w.heap[b]?) {cs sz xs} (h : rowRel gh w cs sz xs) (hn : noPtrL xs = true) : rowRel gh' w' cs sz xs :=
  ⟨h.1, fun i x hx => ⟨(h.2 i x hx).1, fun j y hy => let ⟨v, h1, h2, h3⟩ := (h.2 i x hx).2 j y hy; ⟨v, h1, h2, h3.noγ hi (noPtr_cells (noPtrL_mem hn _ (List.mem_of_getElem? hx)) _ (List.mem_of_getElem? hy))⟩⟩⟩
theorem resL_sound {C d} : ∀ (r : List (AV × Bool)) (i : Nat) {gh w m l m' f}, Run C (resL d i r) m l m' f → MemRel gh w m → ∀ (vs : List Value), vs.length = r.length →
    (∀ (j : Nat) (x : AV × Bool) (u : Value), r[j]? = some x → vs[j]? = some u → CompRel gh w (.res (i + j)) x u) →
    ∃ gh', MemRel gh' w m' ∧ Keeps gh w m gh' w m' ∧ LVRels gh' w m'.objs l vs
  | [], i, gh, w, m, l, m', f, hr, hm, vs, hl, _ => by
    simp only [resL] at hr
    obtain ⟨rfl, rfl⟩ := hr.ret_inv
    exact ⟨gh, hm, Keeps.refl _ _ _, by simp only [LVRels]; exact List.eq_nil_of_length_eq_zero (by simpa using hl)⟩
  | (a, own) :: r, i, gh, w, m, l, m', f, hr, hm, vs, hl, hc => by
    simp only [resL] at hr
    obtain ⟨y, m1, f1, f2, h1, h2⟩ := hr.bind_inv
    obtain ⟨l', m2, f3, f4, h3, h4⟩ := h2.bind_inv
    obtain ⟨rfl, rfl⟩ := h4.ret_inv
    cases vs with
    | nil => simp at hl
    | cons v vs =>
      have hc0 : CompRel gh w (.res i) (a, own) v := by simpa using hc 0 (a, own) v (by simp) (by simp)
      have one : ∃ gh1, MemRel gh1 w m1 ∧ Keeps gh w m gh1 w m1 ∧ LVRel gh1 w m1.objs y v ∧ (∀ k j, i < j → gh.ρ k = .loc (.res j) → gh1.ρ k = .loc (.res j)) := by
        unfold resOne at h1
        cases own with
        | false =>
          simp only [Bool.false_eq_true, if_false] at h1
          obtain ⟨rfl, rfl⟩ := h1.ret_inv
          exact ⟨gh, hm, Keeps.refl _ _ _, by simp only [LVRel]; simpa [CompRel] using hc0, fun _ _ _ h => h⟩
        | true =>
          simp only [if_true] at h1
          split at h1
          case h_2 => exact h1.fail_inv.elim
          rename_i sz nil xs
          obtain ⟨f5, h⟩ := h1.getO_inv
          split at h
          case h_2 => exact h.fail_inv.elim
          rename_i hdead
          simp only [CompRel, if_true] at hc0
          obtain ⟨sz', nil', xs', e, hv⟩ := hc0
          simp only [AV.sl.injEq] at e
          obtain ⟨rfl, rfl, rfl⟩ := e
          rcases hv with ⟨rfl, rfl, rfl⟩ | ⟨rfl, b, cap, cs, ty, rfl, hρ, hb, hrow, q1, q2, q3⟩
          · obtain ⟨r1, r2, r3⟩ := newArr_nil h hm
            exact ⟨gh, r1, r2, r3, fun _ _ _ h => h⟩
          · obtain ⟨gh1, r1, r2, r3, r4⟩ := newArr_sound (w1 := w) (b := b) h hm rfl rfl rfl (Nat.le_refl _) (fun _ _ _ => rfl) (fun _ => ⟨.res i, hρ, hdead⟩) (fun _ h => h) hb hrow (Nat.le_refl _)
            refine ⟨gh1, r1, r2, r3 cap q1 q2 q3, fun k j hj hk => ?_⟩
            rw [r4 k (fun e => by subst e; rw [hρ] at hk; simp at hk; omega)]; exact hk
      obtain ⟨gh1, k1, k2, k3, k4⟩ := one
      obtain ⟨gh2, j1, j2, j3⟩ := resL_sound r (i + 1) h3 k1 vs (by simpa using hl) (fun j x u hx hu => by
        have := hc (j + 1) x u (by simpa using hx) (by simpa using hu)
        rw [show i + (j + 1) = i + 1 + j by omega] at this
        unfold CompRel at this ⊢
        split
        · rename_i ho
          rw [if_pos ho] at this
          obtain ⟨sz, nil, xs, e, hv⟩ := this
          refine ⟨sz, nil, xs, e, ?_⟩
          rcases hv with h | ⟨h0, b, cap, cs, ty, q0, q1, q2, q3, q4⟩
          · exact .inl h
          · exact .inr ⟨h0, b, cap, cs, ty, q0, k4 b _ (by omega) q1, q2, q3.keep k2.ext, q4⟩
        · rename_i ho
          rw [if_neg ho] at this
          exact this.mono k2.ext)
      exact ⟨gh2, j1, k2.trans j2, by simp only [LVRels]; exact ⟨v, vs, rfl, j2.lv k3, j3⟩⟩
theorem resOf_sound {C dst r gh w m lv m' f v} (hr : Run C (resOf dst r) m lv m' f) (hm : MemRel gh w m) (hv : ResRel gh w r v) :
    ∃ gh', MemRel gh' w m' ∧ Keeps gh w m gh' w m' ∧ LVRel gh' w m'.objs lv v := by
  unfold resOf at hr
  split at hr
  · obtain ⟨rfl, rfl⟩ := hr.ret_inv
    exact ⟨gh, hm, Keeps.refl _ _ _, by simp [LVRel]⟩
  · obtain ⟨l, m1, f1, f2, h1, h2⟩ := hr.bind_inv
    have many : ∀ vs : Array Value, v = .tuple vs → vs.size = r.length → r.length ≠ 1 → (∀ (j : Nat) (x : AV × Bool) (u : Value), r[j]? = some x → vs[j]? = some u → CompRel gh w (.res j) x u) →
        ∃ gh', MemRel gh' w m' ∧ Keeps gh w m gh' w m' ∧ LVRel gh' w m'.objs lv v := by
      intro vs hvs hl hne hc
      obtain ⟨gh', k1, k2, k3⟩ := resL_sound r 0 h1 hm vs.toList (by simpa using hl) (fun j x u hx hu => by rw [Nat.zero_add]; exact hc j x u hx (by simpa using hu))
      have hll : l.length = r.length := by have := k3.length; simp at this; omega
      split at h2
      · simp at hll; omega
      · obtain ⟨rfl, rfl⟩ := h2.ret_inv
        exact ⟨gh', k1, k2, by simp only [LVRel]; exact ⟨vs, hvs, k3⟩⟩
    match r, hv, many with
    | [x], hv, _ =>
      obtain ⟨gh', k1, k2, k3⟩ := resL_sound [x] 0 h1 hm [v] rfl (fun j y u hy hu => by
        cases j with
        | zero => simp at hy hu; subst hy hu; exact hv
        | succ j => simp at hy)
      have hll : l.length = 1 := by have := k3.length; simp at this; omega
      match l, hll, h2, k3 with
      | [y], _, h2, k3 =>
        obtain ⟨rfl, rfl⟩ := h2.ret_inv
        simp only [LVRels] at k3
        obtain ⟨u, _, e, hy, rfl⟩ := k3
        simp only [List.cons.injEq, and_true] at e
        subst e
        exact ⟨gh', k1, k2, hy⟩
    | [], hv, many => obtain ⟨vs, e1, e2, e3⟩ := hv; exact many vs e1 e2 (by simp) e3
    | x :: y :: r, hv, many => obtain ⟨vs, e1, e2, e3⟩ := hv; exact many vs e1 e2 (by simp) e3
end Go.Vai
namespace Go.Vai
def lentBy (cfg : Cfg) (f : FuncId) (rest : List LV) : List Nm := if cfg.scalar f && cfg.pure f then namesL rest else []
theorem prep_sound {C cfg f rest gh w m as m1 fp} (hr : Run C (prep cfg f rest) m as m1 fp) (hm : MemRel gh w m) :
    ∃ gh1, MemRel gh1 w m1 ∧ Keeps gh w m gh1 w m1 ∧ (∀ n ∈ lentBy cfg f rest, (m1.objs n).2 ≠ .dead) ∧
      ∀ vs, LVRels gh w m.objs rest vs → as.length = vs.length ∧ ∀ (j : Nat) (a : AV) (v : Value), as[j]? = some a → vs[j]? = some v → R (gh1.lend (lentBy cfg f rest)) w a v := by
  unfold prep at hr
  unfold lentBy
  split at hr
  · rename_i hs
    have ha := peekL_alive rest hr
    obtain ⟨rfl, h⟩ := peekL_sound rest hr
    simp only [hs, if_true]
    exact ⟨gh, hm, Keeps.refl _ _ _, ha, fun vs hv => h gh w _ hm (fun n hn => hn) vs hv⟩
  · rename_i hs
    simp only [hs, if_false, Bool.false_eq_true]
    obtain ⟨gh1, k1, k2, k3, k4, _⟩ := reifyL_sound rest hr hm
    exact ⟨gh1, k1, k2, by simp, fun vs hv => ⟨(k4 vs hv).1, fun j a v ha hv' => ((k4 vs hv).2 j a v ha hv').lend⟩⟩
theorem Run.call_inv {C : Contract} {α : Type} {f : FuncId} {args : List (AV × Bool)} {k : List (AV × Bool) → M α} {m : Mem} {a : α} {m' : Mem} {fp : Fp} (h : Run C (.call f args k) m a m' fp) :
    ∃ r G' f1, C f args m.G r G' ∧ Run C (k r) { m with G := G' } a m' f1 := by
  cases h with
  | call h1 h2 => exact ⟨_, _, _, h1, h2⟩
theorem Run.pcall_inv {C : Contract} {α : Type} {f : FuncId} {args : List (AV × Bool)} {k : List (AV × Bool) → M α} {m : Mem} {a : α} {m' : Mem} {fp : Fp} (h : Run C (.pcall f args k) m a m' fp) :
    ∃ r f1, C f args [] r [] ∧ Run C (k r) m a m' f1 := by
  cases h with
  | pcall h1 h2 => exact ⟨_, _, h1, h2⟩
def Gh.sub (gh : Gh) (pure : Bool) (h0 : Option Nm) (S : List Nm) : Gh :=
  { ρ := fun b => match gh.ρ b with
      | .loc n => if h0 = some n then .loc (.var 0) else if n ∈ S ∧ b = gh.κ n then .imm else .free
      | .glob id => if pure then .free else .glob id
      | r => r
    κ := fun _ => 0
    γ := if pure then [] else gh.γ }
def Gh.back (gh : Gh) (n : Nat) (pure : Bool) (S : List Nm) (gr : Gh) : Gh :=
  { ρ := fun b => match gr.ρ b with
      | .loc (.res i) => .loc (.res i)
      | .glob id => if pure then (if b < n then gh.ρ b else .free) else .glob id
      | .imm => if b < n then (match gh.ρ b with | .loc k => if k ∈ S ∧ b = gh.κ k then .loc k else .imm | _ => .imm) else .imm
      | _ => if b < n then gh.ρ b else .free
    κ := gh.κ
    γ := if pure then gh.γ else gr.γ }
theorem fin_sound {P cfg dst f hd as gh w m lv m' fp} (hr : Run (Good P) (fin cfg dst f hd as) m lv m' fp) (hm : MemRel gh w m) (h0 : Option Nm) (S : List Nm) (hdv vas : List Value)
    (hS : (cfg.scalar f && cfg.pure f) = false → S = []) (hal : ∀ n ∈ S, (m.objs n).2 ≠ .dead)
    (hhd : (hd = [] ∧ hdv = [] ∧ h0 = none) ∨ (∃ a v n0, hd = [(a, true)] ∧ hdv = [v] ∧ h0 = some n0 ∧ (m.objs n0).2 = .dead ∧ OwnVal gh w n0 a v))
    (hal2 : as.length = vas.length) (has : ∀ (j : Nat) (a : AV) (v : Value), as[j]? = some a → vas[j]? = some v → R (gh.lend S) w a v) :
    (∃ fn c, P.funcs[f]? = some fn ∧ (fn.name == "runtime.NumGoroutine") = false ∧ fn.body = some c) ∧
    Calls P f (hdv ++ vas).toArray w fun e w' => ∃ v, e = .returned v ∧ Post gh w m m' lv v w' := by
  -- what is called, and what goes on behind it
  have core : ∀ (pure : Bool) (G G' : List (List AV)) (r : List (AV × Bool)) (m2 : Mem) (fp2 : Fp), Good P f (hd ++ as.map fun a => (a, false)) G r G' → (pure = true → cfg.pure f = true ∧ G = [] ∧ G' = [] ∧ m2 = m ∧ noPtrL ((hd ++ as.map fun a => (a, false)).map (·.1)) = true) → (pure = false → cfg.pure f = false ∧ G = m.G ∧ m2 = { m with G := G' }) →
      Run (Good P) (if cfg.scalar f then (if r.all (fun x => scalarAV x.1 && !x.2) then resOf dst r else .fail) else resOf dst r) m2 lv m' fp2 →
      (∃ fn c, P.funcs[f]? = some fn ∧ (fn.name == "runtime.NumGoroutine") = false ∧ fn.body = some c) ∧
      Calls P f (hdv ++ vas).toArray w fun e w' => ∃ v, e = .returned v ∧ Post gh w m m' lv v w' := by
    intro pure G G' r m2 fp2 hG hp hnp hrun
    obtain ⟨hcall, hgood⟩ := hG
    refine ⟨hcall, ?_⟩
    let gc := gh.sub pure h0 S
    have hdead : ∀ n0, h0 = some n0 → (m.objs n0).2 = .dead := fun n0 e => by
      rcases hhd with ⟨_, _, h⟩ | ⟨a, v, n1, _, _, h, h', _⟩
      · rw [h] at e; cases e
      · rw [h] at e; cases e; exact h'
    have hnot : ∀ n ∈ S, h0 ≠ some n := fun n hn e => hal n hn (hdead n e)
    -- blocks that the callee may read
    have himm : ∀ b, gh.imm b → gc.imm b := fun b hb => by
      have hb : gh.ρ b = .imm := hb
      simp only [Gh.imm, gc, Gh.sub, hb]
    have hlend : ∀ b, (gh.lend S).imm b → gc.imm b ∧ w.heap[b]? = w.heap[b]? := fun b hb => by
      refine ⟨?_, rfl⟩
      simp only [Gh.imm, Gh.lend] at hb
      simp only [Gh.imm, gc, Gh.sub]
      revert hb
      cases hρ : gh.ρ b with
      | imm => intro _; rfl
      | free => intro h; cases h
      | glob id => intro h; cases h
      | loc n =>
        intro h
        simp only at h ⊢
        split at h
        · rename_i hn
          rw [if_neg (hnot n hn.1), if_pos hn]
        · cases h
    have hgmem : GMem gc w G := by
      refine ⟨fun b hb => ?_, fun n => trivial, ?_, fun id b cells h1 h2 => ?_⟩
      · refine hm.alloc b fun e => hb ?_
        simp only [gc, Gh.sub, e]
      · cases pure with
        | true => obtain ⟨_, rfl, _⟩ := hp rfl; rfl
        | false => obtain ⟨_, rfl, _⟩ := hnp rfl; exact hm.glen
      · cases pure with
        | true => obtain ⟨_, rfl, _⟩ := hp rfl; simp [bare] at h2
        | false =>
          obtain ⟨_, rfl, _⟩ := hnp rfl
          obtain ⟨e1, e2⟩ := hm.glob id b cells h1 h2
          exact ⟨by simp [gc, Gh.sub, e1], e2.mono rfl fun _ _ h => h.mono' (fun b hb => ⟨himm b hb, rfl⟩) (fun _ _ h => h)⟩
    -- a value read with what is lent
    have hval : ∀ (a : AV) (v : Value), (pure = true → noPtr a = true) → R (gh.lend S) w a v → R gc w a v := fun a v hn h => by
      cases hpu : pure with
      | true => exact h.noγ hlend (hn hpu)
      | false => exact h.mono' hlend (fun id b h => by simpa [gc, Gh.sub, hpu, Gh.lend] using h)
    have hnp' : ∀ x ∈ (hd ++ as.map fun a => (a, false)), pure = true → noPtr x.1 = true := fun x hx e => noPtrL_mem (hp e).2.2.2.2 _ (List.mem_map.2 ⟨x, hx, rfl⟩)
    have hargs : ArgsRel gc w (hd ++ as.map fun a => (a, false)) (hdv ++ vas).toArray := by
      have tail : ∀ (j : Nat) (x : AV × Bool) (v : Value), (as.map fun a => (a, false))[j]? = some x → vas[j]? = some v → x ∈ (hd ++ as.map fun a => (a, false)) → ∀ k, CompRel gc w (.var k) x v := fun j x v hx hv hmem k => by
        simp only [List.getElem?_map, Option.map_eq_some_iff] at hx
        obtain ⟨a, ha, rfl⟩ := hx
        simp only [CompRel, Bool.false_eq_true, if_false]
        exact hval a v (hnp' _ hmem) (has j a v ha hv)
      rcases hhd with ⟨rfl, rfl, rfl⟩ | ⟨a, v0, n0, rfl, rfl, rfl, hd0, sz, nil, xs, rfl, hv⟩
      · refine ⟨by simp [hal2], fun j x v hx hv => tail j x v (by simpa using hx) (by simpa using hv) (by simpa using List.mem_of_getElem? hx) j⟩
      · refine ⟨by simp [hal2], fun j x v hx hv' => ?_⟩
        cases j with
        | zero =>
          simp at hx hv'
          subst hx hv'
          simp only [CompRel, if_true]
          refine ⟨sz, nil, xs, rfl, ?_⟩
          rcases hv with h | ⟨e0, b, cap, cs, ty, e1, e2, e3, e4, e5⟩
          · exact .inl h
          · refine .inr ⟨e0, b, cap, cs, ty, e1, by simp [gc, Gh.sub, e2], e3, ?_, e5⟩
            cases hpu : pure with
            | true => exact e4.noγ (fun b hb => ⟨himm b hb, rfl⟩) (by have := hnp' (.sl sz nil xs, true) (by simp) hpu; simpa only [noPtr] using this)
            | false => exact e4.mono' (fun b hb => ⟨himm b hb, rfl⟩) (fun id b h => by simpa [gc, Gh.sub, hpu] using h)
        | succ j => exact tail j x v (by simpa using hx) (by simpa using hv') (List.mem_of_getElem? hx) (j + 1)
    refine (hgood gc w _ hgmem hargs).mono fun e w' ⟨v, gr, he, hext, hgm, hres⟩ => ⟨v, he, ?_⟩
    -- the caller's view
    let gb := gh.back w.heap.size pure S gr
    have keepρ : ∀ b, b < w.heap.size → gc.ρ b = .free → gb.ρ b = gh.ρ b ∧ w'.heap[b]? = w.heap[b]? := fun b hb hf => by
      obtain ⟨e1, e2⟩ := hext.free b hb hf
      exact ⟨by simp [gb, Gh.back, e1, hb], e2⟩
    have keepI : ∀ b, b < w.heap.size → gc.ρ b = .imm → gb.ρ b = gh.ρ b ∧ w'.heap[b]? = w.heap[b]? := fun b hb hf => by
      obtain ⟨e1, e2⟩ := hext.imm b hf
      refine ⟨?_, e2⟩
      have e1 : gr.ρ b = .imm := e1
      simp only [gb, Gh.back, e1, hb, if_true]
      revert hf
      simp only [gc, Gh.sub]
      cases gh.ρ b with
      | imm => intro _; rfl
      | free => intro h; cases h
      | glob id => simp only; intro h; split at h <;> simp at h
      | loc k =>
        simp only
        intro h
        split at h
        · simp at h
        · split at h
          · rename_i h3; rw [if_pos h3]
          · simp at h
    have hgb_imm : ∀ b, gh.imm b → gb.imm b ∧ w'.heap[b]? = w.heap[b]? := fun b hb => by
      have hlt := hm.alloc b (by rw [show gh.ρ b = .imm from hb]; simp)
      obtain ⟨e1, e2⟩ := keepI b hlt (himm b hb)
      exact ⟨e1.trans hb, e2⟩
    have hgb_γ : ∀ (id b : Nat), gh.γ[id]? = some b → gb.γ[id]? = some b := fun id b h => by
      cases hpu : pure with
      | true => simpa [gb, Gh.back, hpu] using h
      | false =>
        have : gr.γ[id]? = some b := hext.γ id b (by simpa [gc, Gh.sub, hpu] using h)
        simpa [gb, Gh.back, hpu] using this
    have hE : Ext gh w gb w' := by
      refine ⟨hext.os, hext.tape, hext.output, hext.size, hgb_imm, fun b hb hf => ?_, hgb_γ⟩
      obtain ⟨e1, e2⟩ := keepρ b hb (by simp [gc, Gh.sub, hf])
      exact ⟨e1.trans hf, e2⟩
    -- local blocks of live objects
    have hlive : ∀ n, (m.objs n).2 ≠ .dead → gh.ρ (gh.κ n) = .loc n → gb.ρ (gh.κ n) = .loc n ∧ w'.heap[gh.κ n]? = w.heap[gh.κ n]? := fun n hn hl => by
      have hlt := hm.alloc (gh.κ n) (by rw [hl]; simp)
      have hne : h0 ≠ some n := fun e => hn (hdead n e)
      by_cases hs : n ∈ S
      · obtain ⟨e1, e2⟩ := keepI _ hlt (by simp [gc, Gh.sub, hl, hne, hs])
        exact ⟨e1.trans hl, e2⟩
      · obtain ⟨e1, e2⟩ := keepρ _ hlt (by simp [gc, Gh.sub, hl, hne, hs])
        exact ⟨e1.trans hl, e2⟩
    have hobjs : m2.objs = m.objs := by
      cases hpu : pure with
      | true => rw [(hp hpu).2.2.2.1]
      | false => rw [(hnp hpu).2.2]
    have hK : Keeps gh w m gb w' m2 := ⟨hE, fun n => by
      rw [hobjs]
      refine .inr ⟨rfl, Obj.like_refl _, fun hn => ⟨rfl, fun hs k hk => ?_⟩⟩
      have hsame : w'.heap[gh.κ n]? = w.heap[gh.κ n]? := by
        have hO := hm.objs n
        revert hO hs hn
        cases hob : (m.objs n).2 with
        | arr nil sz xs =>
          intro hn hs hO
          simp only [Obj.solid] at hs
          have : nil = false := by simpa using hs
          subst this
          simp only [ObjRel, Bool.false_eq_true, if_false] at hO
          exact (hlive n (by rw [hob]; exact hn) hO.1).2
        | frz nil sz xs =>
          intro hn hs hO
          simp only [Obj.solid] at hs
          have : nil = false := by simpa using hs
          subst this
          simp only [ObjRel, Bool.false_eq_true, if_false] at hO
          exact (hgb_imm _ hO.1).2
        | dead => intro hn hs; simp [Obj.solid] at hs
        | box _ => intro hn hs; simp [Obj.solid] at hs
        | fbox _ => intro hn hs; simp [Obj.solid] at hs
      obtain ⟨cs, ty, fr, e1, e2⟩ := hk
      exact ⟨cs, ty, fr, by rw [hsame]; exact e1, e2⟩⟩
    have himmB : S = [] → ∀ b, gr.imm b → gb.imm b ∧ w'.heap[b]? = w'.heap[b]? := fun hs b hb => by
      have hb : gr.ρ b = .imm := hb
      refine ⟨?_, rfl⟩
      simp only [Gh.imm, gb, Gh.back, hb, hs]
      split
      · cases gh.ρ b <;> simp
      · rfl
    have himmS : pure = false → ∀ b, gr.imm b → gb.imm b ∧ w'.heap[b]? = w'.heap[b]? := fun hpu => himmB (hS (by simp [(hnp hpu).1]))
    have hγr : ∀ (id b : Nat), gr.γ[id]? = some b → gb.γ[id]? = some b := fun id b h => by
      cases hpu : pure with
      | true =>
        have := hgm.glen
        simp only [bare, (hp hpu).2.2.1, List.length_nil] at this
        have h0 : gr.γ = [] := List.eq_nil_of_length_eq_zero (by omega)
        rw [h0] at h; simp at h
      | false => simpa [gb, Gh.back, hpu] using h
    have hM : MemRel gb w' m2 := by
      refine ⟨fun b hb => ?_, fun n => ?_, ?_, fun id b cells h1 h2 => ?_⟩
      · by_cases hbr : gr.ρ b = .free
        · by_cases hlt : b < w.heap.size
          · exact Nat.lt_of_lt_of_le hlt hext.size
          · exact absurd (by simp [gb, Gh.back, hbr, hlt]) hb
        · exact hgm.alloc b hbr
      · rw [hobjs]
        by_cases hd : (m.objs n).2 = .dead
        · rw [hd]; trivial
        · have := ObjRel.keep (m' := m2) hK (n := n) (o := (m.objs n).2) rfl (fun h => hlive n hd h) (hm.objs n)
          rwa [hobjs] at this
      · cases hpu : pure with
        | true => rw [(hp hpu).2.2.2.1]; simpa [gb, Gh.back, hpu] using hm.glen
        | false => rw [(hnp hpu).2.2]; simpa [gb, Gh.back, hpu, bare] using hgm.glen
      · cases hpu : pure with
        | true =>
          rw [(hp hpu).2.2.2.1] at h2
          have h1 : gh.γ[id]? = some b := by simpa [gb, Gh.back, hpu] using h1
          obtain ⟨e1, e2⟩ := hm.glob id b cells h1 h2
          have hlt := hm.alloc b (by rw [e1]; simp)
          obtain ⟨e5, e6⟩ := keepρ b hlt (by simp [gc, Gh.sub, e1, hpu])
          exact ⟨e5.trans e1, e2.mono e6 fun _ _ h => h.mono hE⟩
        | false =>
          rw [(hnp hpu).2.2] at h2
          have h1 : gr.γ[id]? = some b := by simpa [gb, Gh.back, hpu] using h1
          obtain ⟨e1, e2⟩ := hgm.glob id b cells h1 h2
          exact ⟨by simp [gb, Gh.back, e1, hpu], e2.mono rfl fun _ _ h => h.mono' (himmS hpu) hγr⟩
    -- the results
    have hres' : (cfg.scalar f = true → r.all (fun x => scalarAV x.1 && !x.2) = true) → ResRel gb w' r v := by
      intro hsc
      have comp : ∀ (j : Nat) (x : AV × Bool) (u : Value), r[j]? = some x → CompRel gr w' (.res j) x u → CompRel gb w' (.res j) x u := by
        intro j x u hx hc
        by_cases hs : (cfg.scalar f && cfg.pure f) = true
        · simp only [Bool.and_eq_true] at hs
          have := List.all_eq_true.1 (hsc hs.1) x (List.mem_of_getElem? hx)
          obtain ⟨a, own⟩ := x
          simp only [Bool.and_eq_true, Bool.not_eq_true'] at this
          obtain ⟨h1, h2⟩ := this
          subst h2
          simp only [CompRel, Bool.false_eq_true, if_false] at hc ⊢
          cases a <;> simp [scalarAV] at h1
          cases hc
          exact .base _
        · have hs := hS (by simpa using hs)
          unfold CompRel at hc ⊢
          split
          · rename_i ho
            rw [if_pos ho] at hc
            obtain ⟨sz, nil, xs, e, hv⟩ := hc
            refine ⟨sz, nil, xs, e, ?_⟩
            rcases hv with h | ⟨h0, b, cap, cs, ty, q0, q1, q2, q3, q4⟩
            · exact .inl h
            · exact .inr ⟨h0, b, cap, cs, ty, q0, by simp [gb, Gh.back, q1], q2, q3.mono' (himmB hs) hγr, q4⟩
          · rename_i ho
            rw [if_neg ho] at hc
            exact hc.mono' (himmB hs) hγr
      unfold ResRel at hres ⊢
      split
      · exact comp 0 _ v (by simp) hres
      · rename_i hne
        split at hres
        · exact (hne _ rfl).elim
        · obtain ⟨vs, h1, h2, h3⟩ := hres
          exact ⟨vs, h1, h2, fun j x u hx hu => comp j x u hx (h3 j x u hx hu)⟩
    have hrun' : Run (Good P) (resOf dst r) m2 lv m' fp2 ∧ (cfg.scalar f = true → r.all (fun x => scalarAV x.1 && !x.2) = true) := by
      split at hrun
      · rename_i hs
        split at hrun
        · rename_i ha; exact ⟨hrun, fun _ => ha⟩
        · exact hrun.fail_inv.elim
      · rename_i hs; exact ⟨hrun, fun h => absurd h hs⟩
    obtain ⟨g3, k1, k2, k3⟩ := resOf_sound hrun'.1 hM (hres' hrun'.2)
    exact ⟨g3, hK.trans k2, k1, k3⟩
  unfold fin at hr
  simp only at hr
  split at hr
  · rename_i hpu
    split at hr
    · rename_i hn
      obtain ⟨r, f2, h1, h2⟩ := hr.pcall_inv
      exact core true [] [] r m f2 h1 (fun _ => ⟨hpu, rfl, rfl, rfl, hn⟩) (fun h => by cases h) h2
    · exact hr.fail_inv.elim
  · rename_i hpu
    obtain ⟨r, G', f2, h1, h2⟩ := hr.call_inv
    exact core false m.G G' r _ f2 h1 (fun h => by cases h) (fun _ => ⟨by simpa using hpu, rfl, rfl⟩) h2
end Go.Vai
namespace Go.Vai
theorem Post.after {gh w m gh1 w1 m1 m' lv v w'} (hk : Keeps gh w m gh1 w1 m1) (h : Post gh1 w1 m1 m' lv v w') : Post gh w m m' lv v w' :=
  let ⟨g, a, b, c⟩ := h; ⟨g, hk.trans a, b, c⟩
theorem callL_sound {P cfg dst f caps args gh w m lv m' fp} (hr : Run (Good P) (callL cfg dst f caps args) m lv m' fp) (hm : MemRel gh w m) (vs : List Value) (cvs : Array Value)
    (hv : LVRels gh w m.objs args vs) (hcl : cvs.size = caps.length) (hc : ∀ j (h : j < caps.length), R gh w caps[j] (cvs[j]'(hcl ▸ h))) :
    (∃ fn c, P.funcs[f]? = some fn ∧ (fn.name == "runtime.NumGoroutine") = false ∧ fn.body = some c) ∧
    Calls P f (vs.toArray ++ cvs) w fun e w' => ∃ v, e = .returned v ∧ Post gh w m m' lv v w' := by
  -- arguments and what the closure has
  have both : ∀ {gh1 : Gh} {S : List Nm} {as : List AV} {us : List Value}, Ext gh w gh1 w → as.length = us.length →
      (∀ (j : Nat) (a : AV) (v : Value), as[j]? = some a → us[j]? = some v → R (gh1.lend S) w a v) →
      (as ++ caps).length = (us ++ cvs.toList).length ∧ ∀ (j : Nat) (a : AV) (v : Value), (as ++ caps)[j]? = some a → (us ++ cvs.toList)[j]? = some v → R (gh1.lend S) w a v := by
    intro gh1 S as us he hl h
    refine ⟨by simp [hl, hcl], fun j a v ha hv => ?_⟩
    by_cases hj : j < as.length
    · rw [List.getElem?_append_left hj] at ha
      rw [List.getElem?_append_left (by omega)] at hv
      exact h j a v ha hv
    · rw [List.getElem?_append_right (by omega)] at ha
      rw [List.getElem?_append_right (by omega)] at hv
      rw [← hl] at hv
      obtain ⟨h1, rfl⟩ := List.getElem?_eq_some_iff.1 ha
      obtain ⟨h2, rfl⟩ := List.getElem?_eq_some_iff.1 hv
      have := hc (j - as.length) h1
      simpa using (this.mono he).lend
  unfold callL at hr
  split at hr
  · split at hr
    case h_2 => exact hr.fail_inv.elim
    rename_i n g hi rest
    split at hr
    · exact hr.fail_inv.elim
    rename_i hnc
    obtain ⟨as, m1, f1, f2, h1, h2⟩ := hr.bind_inv
    obtain ⟨f3, h3⟩ := h2.getO_inv
    split at h3
    case isFalse => exact h3.fail_inv.elim
    rename_i hg
    split at h3
    case h_2 => exact h3.fail_inv.elim
    rename_i nil sz l hob
    obtain ⟨f4, h4⟩ := h3.setO_inv
    simp only [LVRels] at hv
    obtain ⟨v0, us, rfl, hv0, hv1⟩ := hv
    obtain ⟨gh1, k1, k2, k3, k4⟩ := prep_sound h1 hm
    obtain ⟨hl, has⟩ := k4 us hv1
    obtain ⟨kd, kk⟩ := kill_obj (n := n) (x := (g + 1, .dead)) k1 rfl (by rw [hg]; simp)
    have hS : (cfg.scalar f && cfg.pure f) = false → lentBy cfg f rest = [] := fun h => by simp [lentBy, h]
    have hnS : n ∉ lentBy cfg f rest := by
      unfold lentBy
      split
      · simpa using hnc
      · simp
    have how := (k2.lv hv0)
    simp only [LVRel] at how
    have how := how.2 hg
    rw [hob] at how
    have hO := k1.objs n
    rw [hob] at hO
    obtain ⟨q1, q2, q3⟩ := how
    have hown : OwnVal gh1 w n (.sl sz nil (sub l 0 hi)) v0 := by
      refine ⟨sz, nil, _, rfl, ?_⟩
      cases nil with
      | true =>
        simp only [ObjRel, if_true] at hO
        subst hO
        exact .inl ⟨rfl, by simp [sub], by simpa using q3⟩
      | false =>
        simp only [ObjRel, Bool.false_eq_true, if_false] at hO q3
        obtain ⟨e1, cs, ty, e2, e3⟩ := hO
        obtain ⟨off, cap, e4, e5, e6, e7, e8, e9⟩ := q3
        have e5 := e5 (.inl trivial)
        rw [Nat.zero_mul] at e5
        subst e5
        obtain ⟨cs', ty', fr', e10, e11⟩ := e8
        rw [e2] at e10
        simp only [Option.some.injEq, Go.Obj.cells.injEq] at e10
        obtain ⟨rfl, rfl, rfl⟩ := e10
        have hsl : (sub l 0 hi).length = hi := by rw [sub_length q2]; omega
        refine .inr ⟨rfl, gh1.κ n, cap, cs, ty, ?_, e1, e2, ⟨?_, fun i x hx => ?_⟩, by omega, by simpa using e11, e9⟩
        · rw [e4, hsl]; rfl
        · rw [hsl]
          exact Nat.le_trans (Nat.mul_le_mul_right _ q2) e3.1
        · refine e3.2 i x ?_
          simp only [sub, List.drop_zero] at hx
          rw [List.getElem?_take] at hx
          split at hx
          · exact hx
          · cases hx
    obtain ⟨j1, j2⟩ := both k2.ext hl has
    have := fin_sound h4 kd (some n) (lentBy cfg f rest) [v0] (us ++ cvs.toList) hS (fun k hk => by
        rw [Mem.set_ne _ _ (fun e => by subst e; exact hnS hk)]; exact k3 k hk)
      (.inr ⟨_, v0, n, rfl, rfl, rfl, by rw [Mem.set_same], hown⟩) j1 j2
    refine ⟨this.1, ?_⟩
    have := this.2
    have e : ([v0] ++ (us ++ cvs.toList)).toArray = (v0 :: us).toArray ++ cvs := by simp
    rw [e] at this
    exact this.mono fun e w' ⟨v, he, hp⟩ => ⟨v, he, (hp.after kk).after k2⟩
  · obtain ⟨as, m1, f1, f2, h1, h2⟩ := hr.bind_inv
    obtain ⟨gh1, k1, k2, k3, k4⟩ := prep_sound h1 hm
    obtain ⟨hl, has⟩ := k4 vs hv
    obtain ⟨j1, j2⟩ := both k2.ext hl has
    have := fin_sound h2 k1 none (lentBy cfg f args) [] (vs ++ cvs.toList) (fun h => by simp [lentBy, h]) k3 (.inl ⟨rfl, rfl, rfl⟩) j1 j2
    refine ⟨this.1, ?_⟩
    have := this.2
    have e : ([] ++ (vs ++ cvs.toList)).toArray = vs.toArray ++ cvs := by simp
    rw [e] at this
    exact this.mono fun e w' ⟨v, he, hp⟩ => ⟨v, he, hp.after k2⟩
end Go.Vai
namespace Go.Vai
theorem elOf_some {P t e} (h : elOf P t = some e) : P.underlying t = some (.slice e) := by
  unfold elOf at h
  split at h
  · simp only [Option.some.injEq] at h; subst h; assumption
  · cases h
theorem conv_run {P : Program} {w : World} {t e : TypeId} {b off len cap : Nat} {cs : Array Value} {ty : TypeId} (ht : P.underlying t = some (.slice e)) (he : P.underlying e = some (.int .u8)) (hb : w.heap[b]? = some (.cells cs ty (0, 0))) :
    ∃ w', (convert t t (.slice (some ⟨b, off, none⟩) len cap)).run P w = .ok (.slice (some ⟨b, off, none⟩) len cap) w' ∧ w'.os = w.os ∧ w'.tape = w.tape ∧ w'.output = w.output ∧ w'.heap.size = w.heap.size ∧
      (∀ k, k ≠ b → w'.heap[k]? = w.heap[k]?) ∧ w'.heap[b]? = some (.cells cs ty (cs.size, cs.size + 1)) := by
  have hsh : w.shape? b = some (ty, cs.size) := by unfold World.shape?; rw [hb]
  have hlt : b < w.heap.size := (Array.getElem?_eq_some_iff.1 hb).1
  refine ⟨w.freeze ⟨b, cs.size, none⟩ 1, by simp [convert, run_und ht, run_und he, markStringish, hsh], ?_, ?_, ?_, ?_, fun k hk => ?_, ?_⟩
  · simp [World.freeze]
  · simp [World.freeze]
  · simp [World.freeze]
  · simp [World.freeze]
  · simp only [World.freeze, if_neg (show ¬ (1 = 0) by decide)]
    rw [Array.getElem?_modify, if_neg (fun e => hk e.symm)]
  · simp only [World.freeze, if_neg (show ¬ (1 = 0) by decide)]
    rw [Array.getElem?_modify, if_pos rfl, hb]
    simp
theorem convN_sound {C P t e gh w m lv m' f n g lo hi v} (ht : P.underlying t = some (.slice e)) (he : P.underlying e = some (.int .u8)) (hr : Run C (convN n g lo hi) m lv m' f) (hm : MemRel gh w m) (hv : LVRel gh w m.objs (.own n g lo hi) v) :
    ∃ w' gh', (convert t t v).run P w = .ok v w' ∧ Keeps gh w m gh' w' m' ∧ MemRel gh' w' m' ∧ LVRel gh' w' m'.objs lv v := by
  unfold convN at hr
  obtain ⟨f1, h⟩ := hr.getO_inv
  split at h
  case isFalse => exact h.fail_inv.elim
  rename_i hg
  split at h
  case h_2 => exact h.fail_inv.elim
  rename_i sz xs hob
  obtain ⟨f2, h⟩ := h.setO_inv
  obtain ⟨rfl, rfl⟩ := h.ret_inv
  simp only [LVRel] at hv
  have how := hv.2 hg
  rw [hob] at how
  have hO := hm.objs n
  rw [hob] at hO
  simp only [ObjRel, Bool.false_eq_true, if_false] at hO
  obtain ⟨hρ, cs, ty, hb, hrow⟩ := hO
  have how' := how
  obtain ⟨q1, q2, q3⟩ := how
  simp only [Bool.false_eq_true, if_false] at q3
  obtain ⟨off, cap, rfl, q4, q5, q6, q7, q8⟩ := q3
  obtain ⟨w', k1, k2, k3, k4, k5, k6, k7⟩ := conv_run (P := P) (off := off) (len := hi - lo) (cap := cap) ht he hb
  have hE : Ext gh w (gh.frz n) w' := by
    refine ⟨k2, k3, k4, by omega, fun b hb' => ?_, fun b h1 h2 => ?_, fun _ _ h => h⟩
    · have hne : b ≠ gh.κ n := fun e => by subst e; rw [Gh.imm, hρ] at hb'; cases hb'
      exact ⟨by show (gh.frz n).ρ b = _; rw [Gh.frz_other (fun e => by rw [Gh.imm, e] at hb'; cases hb')]; exact hb', k6 b hne⟩
    · have hne : b ≠ gh.κ n := fun e => by subst e; rw [hρ] at h2; cases h2
      exact ⟨by rw [Gh.frz_other (fun e => by rw [e] at h2; cases h2)]; exact h2, k6 b hne⟩
  have hcap : ∀ b j, capOK w b j → capOK w' b j := fun b j ⟨cs', ty', fr', e1, e2⟩ => by
    by_cases e : b = gh.κ n
    · subst e
      rw [hb] at e1
      simp only [Option.some.injEq, Go.Obj.cells.injEq] at e1
      obtain ⟨rfl, rfl, rfl⟩ := e1
      exact ⟨cs, ty, _, k7, e2⟩
    · exact ⟨cs', ty', fr', by rw [k6 b e]; exact e1, e2⟩
  have hK : Keeps gh w m (gh.frz n) w' (m.set n (g + 1, .dead)) := ⟨hE, fun k => by
    by_cases e : k = n
    · subst e; rw [Mem.set_same]; exact .inl (by rw [hg]; simp)
    · rw [Mem.set_ne _ _ e]
      exact .inr ⟨rfl, Obj.like_refl _, fun _ => ⟨rfl, fun _ j h => hcap _ j h⟩⟩⟩
  refine ⟨w', gh.frz n, k1, hK, hm.step hK (· = n) (fun b hb' => by rw [k5]; exact hm.alloc b (Gh.frz_free hb')) (fun k e => ?_) (fun k e => ⟨Mem.set_ne _ _ e, rfl, fun h => ?_⟩) rfl rfl (fun id b _ h => ?_), ?_⟩
  · subst e; rw [Mem.set_same]; trivial
  · have hne : gh.κ k ≠ gh.κ n := fun e' => by rw [e', hρ] at h; cases h; exact e rfl
    exact ⟨by rw [Gh.frz_other (fun e' => by rw [e'] at h; cases h; exact e rfl)]; exact h, k6 _ hne⟩
  · have hne : b ≠ gh.κ n := fun e' => by subst e'; rw [hρ] at h; cases h
    exact ⟨by rw [Gh.frz_other (fun e' => by rw [e'] at h; cases h)]; exact h, k6 _ hne⟩
  · simp only [LVRel]
    refine R_row (fun _ => Gh.frz_imm hρ) k7 (hrow.keep hE) ?_
    refine ⟨q1, q2, ?_⟩
    simp only [Bool.false_eq_true, if_false]
    exact ⟨off, cap, rfl, q4, q5, q6, hcap _ _ q7, q8⟩
theorem run_getObj {P : Program} {w : World} {b : Nat} {es : Array MapEntry} {clock : Nat} (h : w.heap[b]? = some (.map es clock)) : (getObj b).run P w = .ok (.map es clock) w := by
  simp [getObj, Sem.run, h]
theorem run_setObj {P : Program} {w : World} {b : Nat} {o : Go.Obj} {es : Array MapEntry} {clock : Nat} (h : w.heap[b]? = some (.map es clock)) : (setObj b o).run P w = .ok () { w with heap := w.heap.setIfInBounds b o } := by
  simp [setObj, Sem.run, h]
theorem mapEl_some {P t e} (h : mapEl P t = some e) : ∃ kt, P.underlying t = some (.map kt e) ∧ P.underlying kt = some (.int .i64) := by
  unfold mapEl at h
  split at h
  · split at h
    · simp only [Option.some.injEq] at h; subst h; exact ⟨_, by assumption, by assumption⟩
    · cases h
  · cases h
theorem zeroOf_run {P : Program} {t : TypeId} {z : AV} {w : World} (h : zeroOf P t = some z) : ∃ v, (zeroValue t).run P w = .ok v w ∧ ∀ gh w, R gh w z v := by
  unfold zeroOf at h
  split at h
  · rename_i i hi
    split at h
    · rename_i v hv
      have : z = ofCellS (szOf P t) v := by
        revert h
        cases v <;> simp <;> exact fun e => e.symm
      exact ⟨v, run_zeroValue hi hv, fun gh w => by rw [this]; exact R_ofCellS gh w _ _⟩
    · cases h
  · cases h
theorem findNow_i64 (kd : IntKind) (k : Int) : ∀ {l : List MapEntry}, (∀ e ∈ l, ∃ n, e.key = .int .i64 n) → ∀ i : Nat,
    (Instr.findNow (.int kd) (.int .i64 k) l i = some none ∧ ∀ e ∈ l, e.key ≠ .int .i64 k) ∨ ∃ j e, l[j]? = some e ∧ e.key = .int .i64 k ∧ Instr.findNow (.int kd) (.int .i64 k) l i = some (some (i + j, e.val))
  | [], _, i => .inl ⟨rfl, by simp⟩
  | e :: l, h, i => by
    obtain ⟨n, hn⟩ := h e (by simp)
    simp only [Instr.findNow, hn, Instr.sameNow, if_true]
    by_cases hk : k = n
    · subst hk
      right
      exact ⟨0, e, rfl, hn, by simp⟩
    · rw [show (k == n) = false by simpa using hk]
      simp only
      rcases findNow_i64 kd k (l := l) (fun x hx => h x (List.mem_cons_of_mem _ hx)) (i + 1) with ⟨h1, h2⟩ | ⟨j, x, h1, h2, h3⟩
      · refine .inl ⟨h1, fun x hx => ?_⟩
        rcases List.mem_cons.1 hx with rfl | hx
        · rw [hn]; simp; omega
        · exact h2 x hx
      · exact .inr ⟨j + 1, x, by simpa using h1, h2, by rw [h3, show i + 1 + j = i + (j + 1) by omega]⟩
theorem findKey_run {P : Program} {w : World} {kt : TypeId} {k : Int} {es : List MapEntry} (hk : P.underlying kt = some (.int .i64)) (h : ∀ e ∈ es, ∃ n, e.key = .int .i64 n) :
    ((Instr.findKey kt (.int .i64 k) es).run P w = .ok none w ∧ ∀ e ∈ es, e.key ≠ .int .i64 k) ∨ ∃ j e, es[j]? = some e ∧ e.key = .int .i64 k ∧ (Instr.findKey kt (.int .i64 k) es).run P w = .ok (some (j, e.val)) w := by
  rcases findNow_i64 .i64 k h 0 with ⟨h1, h2⟩ | ⟨j, x, h1, h2, h3⟩
  · exact .inl ⟨by simp [Instr.findKey, run_und hk, h1], h2⟩
  · exact .inr ⟨j, x, h1, h2, by simp [Instr.findKey, run_und hk, h3]⟩
theorem checkKey_run {P : Program} {w : World} {b : Bool} {n : Nat} {kt : TypeId} {k : Int} (hk : P.underlying kt = some (.int .i64)) : (Instr.checkKey b (n + 1) kt (.int .i64 k)).run P w = .ok () w := by
  simp [Instr.checkKey, run_und hk]
theorem key_one {es : List MapEntry} (h : es.Pairwise fun x y => x.key ≠ y.key) {x y : MapEntry} (hx : x ∈ es) (hy : y ∈ es) (e : x.key = y.key) : x = y := by
  induction h with
  | nil => cases hx
  | cons hd _ ih =>
    rcases List.mem_cons.1 hx with rfl | hx'
    · rcases List.mem_cons.1 hy with rfl | hy'
      · rfl
      · exact absurd e (hd y hy')
    · rcases List.mem_cons.1 hy with rfl | hy'
      · exact absurd e.symm (hd x hx')
      · exact ih hx' hy'
theorem MapHas.at {T : AV → Value → Prop} {es : Array MapEntry} {f : Int → Option AV} (h : MapHas T es f) (hp : es.toList.Pairwise fun x y => x.key ≠ y.key) (k : Int) :
    (∀ e ∈ es.toList, e.key = .int .i64 k → ∃ a, f k = some a ∧ T a e.val) ∧ ((∀ e ∈ es.toList, e.key ≠ .int .i64 k) → f k = none) := by
  have hk := h k
  refine ⟨fun e he hek => ?_, fun hn => ?_⟩
  · cases hf : f k with
    | none => rw [hf] at hk; exact absurd hek (hk e he)
    | some a =>
      rw [hf] at hk
      obtain ⟨x, h1, h2, h3⟩ := hk
      obtain rfl := key_one hp h1 he (h2.trans hek.symm)
      exact ⟨a, rfl, h3⟩
  · cases hf : f k with
    | none => rfl
    | some a =>
      rw [hf] at hk
      obtain ⟨x, h1, h2, _⟩ := hk
      exact absurd h2 (hn x h1)
def World.setB (w : World) (b : Nat) (o : Go.Obj) : World := { w with heap := w.heap.setIfInBounds b o }
theorem touchG {gh : Gh} {w : World} {m : Mem} {id b : Nat} {cells cells' : List AV} {es : Array MapEntry} {clock : Nat} {o : Go.Obj} (hm : MemRel gh w m) (hb : gh.γ[id]? = some b) (hG : m.G[id]? = some cells) (hold : w.heap[b]? = some (.map es clock))
    (hnew : ∀ w', Ext gh w gh w' → w'.heap[b]? = some o → GRel gh w' b cells') : MemRel gh (World.setB w b o) { m with G := m.G.set id cells' } ∧ Keeps gh w m gh (World.setB w b o) { m with G := m.G.set id cells' } := by
  obtain ⟨hρ, _⟩ := hm.glob id b cells hb hG
  have hlt : b < w.heap.size := (Array.getElem?_eq_some_iff.1 hold).1
  have hne : ∀ k, k ≠ b → (World.setB w b o).heap[k]? = w.heap[k]? := fun k hk => by
    show (w.heap.setIfInBounds b o)[k]? = _
    rw [Array.getElem?_setIfInBounds_ne (Ne.symm hk)]
  have hself : (World.setB w b o).heap[b]? = some o := by
    show (w.heap.setIfInBounds b o)[b]? = _
    rw [Array.getElem?_setIfInBounds_self_of_lt hlt]
  have hbk : ∀ k, gh.ρ k ≠ .glob id → k ≠ b := fun k hk e => hk (e ▸ hρ)
  have he : Ext gh w gh (World.setB w b o) := ⟨rfl, rfl, rfl, by simp [World.setB], fun k hk => ⟨hk, hne k (hbk k (by rw [hk]; simp))⟩, fun k _ hk => ⟨hk, hne k (hbk k (by rw [hk]; simp))⟩, fun _ _ h => h⟩
  have hk : Keeps gh w m gh (World.setB w b o) { m with G := m.G.set id cells' } := ⟨he, fun n => .inr ⟨rfl, Obj.like_refl _, fun _ => ⟨rfl, fun _ j ⟨cs, ty, fr, h1, h2⟩ => by
    refine ⟨cs, ty, fr, ?_, h2⟩
    rw [hne _ (fun e => by rw [e, hold] at h1; cases h1)]; exact h1⟩⟩⟩
  refine ⟨⟨fun k h => by have := hm.alloc k h; simpa [World.setB] using this, fun n => ?_, by simpa using hm.glen, fun id' b' cl e1 e2 => ?_⟩, hk⟩
  · exact ObjRel.keep hk rfl (fun h => ⟨h, hne _ (hbk _ (by rw [h]; simp))⟩) (hm.objs n)
  · change (m.G.set id cells')[id']? = some cl at e2
    by_cases e : id' = id
    · subst e
      rw [hb] at e1
      simp only [Option.some.injEq] at e1
      subst e1
      rw [List.getElem?_set_self (List.getElem?_eq_some_iff.1 hG).1] at e2
      simp only [Option.some.injEq] at e2
      subst e2
      exact ⟨hρ, hnew _ he hself⟩
    · rw [List.getElem?_set_ne (Ne.symm e)] at e2
      obtain ⟨e3, e4⟩ := hm.glob id' b' cl e1 e2
      exact ⟨e3, e4.mono (hne b' (hbk b' (by rw [e3]; simpa using e))) fun _ _ h => h.mono he⟩
theorem mapAt_some {G : List (List AV)} {id : Nat} {f : Int → Option AV} (h : mapAt G id = some f) : G[id]? = some [.mp f] := by
  unfold mapAt at h
  split at h
  · rename_i g e; simp only [Option.some.injEq] at h; subst h; exact e
  · cases h
theorem map_block {gh : Gh} {w : World} {m : Mem} {id b : Nat} {f : Int → Option AV} (hm : MemRel gh w m) (hb : gh.γ[id]? = some b) (hG : m.G[id]? = some [.mp f]) : MapRel gh w b f := by
  obtain ⟨_, ⟨cs, ty, h1, h2, h3⟩ | ⟨g, e, h⟩⟩ := hm.glob id b _ hb hG
  · obtain ⟨v, _, _, hr⟩ := h3 0 (.mp f) rfl
    cases hr
  · simp only [List.cons.injEq, AV.mp.injEq, and_true] at e
    subst e; exact h
theorem newM_sound {C : Contract} {gh : Gh} {w : World} {m : Mem} {lv : LV} {m' : Mem} {f : Fp} (hr : Run C newM m lv m' f) (hm : MemRel gh w m) :
    ∃ gh', MemRel gh' (w.alloc (.map #[] 0)) m' ∧ Keeps gh w m gh' (w.alloc (.map #[] 0)) m' ∧ LVRel gh' (w.alloc (.map #[] 0)) m'.objs lv (.map (some w.heap.size)) := by
  unfold newM at hr
  obtain ⟨f1, h⟩ := hr.getG_inv
  obtain ⟨f2, h⟩ := h.setG_inv
  obtain ⟨rfl, rfl⟩ := h.ret_inv
  obtain ⟨gh', k1, k2, k3⟩ := pushG (o := .map #[] 0) (cells := [.mp fun _ => none]) hm fun gh' w' he hb =>
    .inr ⟨_, rfl, #[], 0, hb, ⟨by simp, .nil, by simp, .nil⟩, fun k => by simp⟩
  exact ⟨gh', k1, k2, by simp only [LVRel]; exact .gm _ _ k3⟩
theorem aLookup_sound {C : Contract} {P : Program} {t e kt : TypeId} {gh : Gh} {w : World} {m : Mem} {z : AV} {ok : Bool} {k : Int} {x lv : LV} {m' : Mem} {f : Fp} {v : Value} (ht : P.underlying t = some (.map kt e)) (hkt : P.underlying kt = some (.int .i64)) (hz : zeroOf P e = some z)
    (hr : Run C (aLookup z ok k x) m lv m' f) (hm : MemRel gh w m) (hx : LVRel gh w m.objs x v) : m' = m ∧ ∃ u, (Instr.lookup t v (.int .i64 k) ok).run P w = .ok u w ∧ LVRel gh w m.objs lv u := by
  obtain ⟨zv, hz1, hz2⟩ := zeroOf_run (w := w) hz
  have zero : ∃ u, (if ok then .tuple #[zv, .bool false] else zv) = u ∧ LVRel gh w m.objs (lkp z ok none) u := by
    refine ⟨_, rfl, ?_⟩
    cases ok with
    | false => simp only [lkp, Bool.false_eq_true, if_false, LVRel]; exact hz2 gh w
    | true =>
      simp only [lkp, if_true, LVRel]
      exact .tup _ _ (by simp) fun j h => by
        match j, h with
        | 0, _ => exact hz2 gh w
        | 1, _ => exact .base _
  unfold aLookup at hr
  split at hr
  · rename_i id
    obtain ⟨f1, h⟩ := hr.getG_inv
    split at h
    case h_2 => exact h.fail_inv.elim
    rename_i g hg
    obtain ⟨rfl, rfl⟩ := h.ret_inv
    simp only [LVRel] at hx
    obtain ⟨b, hb, rfl⟩ : ∃ b, gh.γ[id]? = some b ∧ v = .map (some b) := by cases hx with | gm _ b hb => exact ⟨b, hb, rfl⟩
    obtain ⟨es, clock, h1, h2, h3⟩ := map_block hm hb (mapAt_some hg)
    obtain ⟨q1, q2⟩ := h3.at h2.keys k
    refine ⟨rfl, ?_⟩
    rcases findKey_run (w := w) (k := k) hkt h2.int with ⟨r1, r2⟩ | ⟨j, x, r1, r2, r3⟩
    · rw [q2 r2]
      obtain ⟨u, hu, hv⟩ := zero
      refine ⟨u, ?_, hv⟩
      rw [← hu]
      simp [Instr.lookup, run_und ht, checkKey_run hkt, run_getObj h1, r1, hz1]
    · obtain ⟨a, ha, hT⟩ := q1 x (List.mem_of_getElem? r1) r2
      rw [ha]
      refine ⟨if ok then .tuple #[x.val, .bool true] else x.val, by simp [Instr.lookup, run_und ht, checkKey_run hkt, run_getObj h1, r3], ?_⟩
      cases ok with
      | false => simp only [lkp, Bool.false_eq_true, if_false, LVRel]; exact hT
      | true =>
        simp only [lkp, if_true, LVRel]
        exact .tup _ _ (by simp) fun j h => by
          match j, h with
          | 0, _ => exact hT
          | 1, _ => exact .base _
  · obtain ⟨rfl, rfl⟩ := hr.ret_inv
    have hv := base_val hx
    subst hv
    obtain ⟨u, hu, hv⟩ := zero
    refine ⟨rfl, u, ?_, hv⟩
    rw [← hu]
    simp [Instr.lookup, run_und ht, checkKey_run hkt, Instr.findKey, run_und hkt, Instr.findNow, hz1]
  · exact hr.fail_inv.elim
theorem aMapPut_sound {C : Contract} {P : Program} {t e kt : TypeId} {gh : Gh} {w : World} {m : Mem} {k : Int} {a : AV} {x : LV} {y : Unit} {m' : Mem} {f : Fp} {v u : Value} (ht : P.underlying t = some (.map kt e)) (hkt : P.underlying kt = some (.int .i64))
    (hr : Run C (aMapSet k (some a) x) m y m' f) (hm : MemRel gh w m) (hx : LVRel gh w m.objs x v) (ha : R gh w a u) : ∃ w', (Instr.mapUpdate t v (.int .i64 k) u).run P w = .ok () w' ∧ MemRel gh w' m' ∧ Keeps gh w m gh w' m' := by
  unfold aMapSet at hr
  split at hr
  · rename_i id
    obtain ⟨f1, h⟩ := hr.getG_inv
    split at h
    case h_2 => exact h.fail_inv.elim
    rename_i g hg
    obtain ⟨f2, h⟩ := h.setG_inv
    obtain ⟨_, rfl⟩ := h.ret_inv
    simp only [LVRel] at hx
    obtain ⟨b, hb, rfl⟩ : ∃ b, gh.γ[id]? = some b ∧ v = .map (some b) := by cases hx with | gm _ b hb => exact ⟨b, hb, rfl⟩
    have hG := mapAt_some hg
    obtain ⟨es, clock, h1, h2, h3⟩ := map_block hm hb hG
    rcases findKey_run (w := w) (k := k) hkt h2.int with ⟨r1, r2⟩ | ⟨j, x, r1, r2, r3⟩
    · obtain ⟨k1, k2⟩ := touchG (o := .map (es.push { key := .int .i64 k, val := u, born := clock }) (clock + 1)) (cells' := [.mp (updM g k (some a))]) hm hb hG h1 fun w' he hb' => .inr ⟨_, rfl, _, _, hb', by
        refine ⟨fun e he => ?_, ?_, fun e he => ?_, ?_⟩
        · simp only [Array.toList_push, List.mem_append, List.mem_singleton] at he
          rcases he with he | rfl
          · exact h2.int e he
          · exact ⟨k, rfl⟩
        · rw [Array.toList_push, List.pairwise_append]
          exact ⟨h2.keys, List.pairwise_singleton .., fun e he e' he' => by rw [List.mem_singleton.1 he']; exact r2 e he⟩
        · simp only [Array.toList_push, List.mem_append, List.mem_singleton] at he
          rcases he with he | rfl
          · have := h2.born e he; omega
          · simp
        · rw [Array.toList_push, List.pairwise_append]
          exact ⟨h2.once, List.pairwise_singleton .., fun e he e' he' => by rw [List.mem_singleton.1 he']; have := h2.born e he; simp only; omega⟩, fun k' => by
        have h4 := h3 k'
        simp only [updM]
        by_cases hk' : k' = k
        · subst hk'
          simp only [if_true]
          exact ⟨{ key := .int .i64 k', val := u, born := clock }, by simp, rfl, ha.mono he⟩
        · simp only [if_neg hk']
          revert h4
          cases g k' with
          | none =>
            intro h4 e he
            simp only [Array.toList_push, List.mem_append, List.mem_singleton] at he
            rcases he with he | rfl
            · exact h4 e he
            · simp; omega
          | some c =>
            rintro ⟨e, h5, h6, h7⟩
            exact ⟨e, by simp [Array.toList_push]; exact .inl (by simpa using h5), h6, h7.mono he⟩⟩
      exact ⟨_, by simp [Instr.mapUpdate, run_und ht, checkKey_run hkt, run_getObj h1, r1, run_setObj h1]; rfl, k1, k2⟩
    · have hj : j < es.size := by simpa using (List.getElem?_eq_some_iff.1 r1).1
      have hxj : es[j] = x := by simpa using (List.getElem?_eq_some_iff.1 r1).2
      have hes : (es.modify j fun e => { e with key := .int .i64 k, val := u }).toList = es.toList.set j { x with key := .int .i64 k, val := u } := by
        rw [Array.toList_modify]
        refine List.ext_getElem? fun i => ?_
        rw [List.getElem?_modify, List.getElem?_set]
        by_cases e : j = i
        · subst e
          simp [r1, hj, hxj]
        · simp [e]
      have hmap : (es.toList.set j { x with key := .int .i64 k, val := u }).map (fun e => (e.key, e.born)) = es.toList.map fun e => (e.key, e.born) := by
        rw [List.map_set]
        refine List.ext_getElem? fun i => ?_
        rw [List.getElem?_set]
        split
        · rename_i e; subst e
          have hj' : j < es.toList.length := by simpa using hj
          simp only [List.length_map, hj', if_true, List.getElem?_map, r1, Option.map_some, r2]
        · rfl
      have hkeys : (es.toList.set j { x with key := .int .i64 k, val := u }).map (·.key) = es.toList.map (·.key) := by
        have := congrArg (List.map Prod.fst) hmap
        simpa [List.map_map, Function.comp_def] using this
      have hborn : (es.toList.set j { x with key := .int .i64 k, val := u }).map (·.born) = es.toList.map (·.born) := by
        have := congrArg (List.map Prod.snd) hmap
        simpa [List.map_map, Function.comp_def] using this
      have hmem : ∀ e ∈ es.toList.set j { x with key := .int .i64 k, val := u }, ∃ e0 ∈ es.toList, e0.key = e.key ∧ e0.born = e.born := fun e he => by
        have : (e.key, e.born) ∈ (es.toList.set j { x with key := .int .i64 k, val := u }).map (fun e => (e.key, e.born)) := List.mem_map.2 ⟨e, he, rfl⟩
        rw [hmap] at this
        obtain ⟨e0, h5, h6⟩ := List.mem_map.1 this
        simp only [Prod.mk.injEq] at h6
        exact ⟨e0, h5, h6.1, h6.2⟩
      obtain ⟨k1, k2⟩ := touchG (o := .map (es.modify j fun e => { e with key := .int .i64 k, val := u }) clock) (cells' := [.mp (updM g k (some a))]) hm hb hG h1 fun w' he hb' => .inr ⟨_, rfl, _, _, hb', by
        refine ⟨fun e he => ?_, ?_, fun e he => ?_, ?_⟩
        · rw [hes] at he
          obtain ⟨e0, h5, h6, _⟩ := hmem e he
          rw [← h6]; exact h2.int e0 h5
        · rw [hes]
          have := List.pairwise_map.2 h2.keys
          rw [← hkeys] at this
          exact List.pairwise_map.1 this
        · rw [hes] at he
          obtain ⟨e0, h5, _, h6⟩ := hmem e he
          rw [← h6]; exact h2.born e0 h5
        · rw [hes]
          have := List.pairwise_map.2 h2.once
          rw [← hborn] at this
          exact List.pairwise_map.1 this, fun k' => by
        have h4 := h3 k'
        have hjl : j < es.toList.length := by simpa using hj
        rw [hes]
        simp only [updM]
        by_cases hk' : k' = k
        · subst hk'
          simp only [if_true]
          exact ⟨{ x with key := .int .i64 k', val := u }, List.mem_of_getElem? (List.getElem?_set_self hjl), rfl, ha.mono he⟩
        · simp only [if_neg hk']
          revert h4
          cases g k' with
          | none =>
            intro h4 e he
            obtain ⟨e0, h5, h6, _⟩ := hmem e he
            rw [← h6]; exact h4 e0 h5
          | some c =>
            rintro ⟨e, h5, h6, h7⟩
            obtain ⟨i, hi⟩ := List.mem_iff_getElem?.1 h5
            have hij : j ≠ i := fun q => by
              subst q; rw [r1] at hi; simp only [Option.some.injEq] at hi; subst hi
              rw [r2] at h6; simp at h6; exact hk' h6.symm
            exact ⟨e, List.mem_of_getElem? ((List.getElem?_set_ne hij).trans hi), h6, h7.mono he⟩⟩
      refine ⟨_, ?_, k1, k2⟩
      have hge : (es[j]?).map (·.key) = some (.int .i64 k) := by simp [hj, hxj, r2]
      simp [Instr.mapUpdate, run_und ht, checkKey_run hkt, run_getObj h1, r3, hj, hxj, r2, Instr.keyThatStays, Instr.sameBits, run_setObj h1]
      rfl
  · exact hr.fail_inv.elim
theorem aMapDel_sound {C : Contract} {P : Program} {t ta ty e kt : TypeId} {gh : Gh} {w : World} {m : Mem} {k : Int} {x : LV} {y : Unit} {m' : Mem} {f : Fp} {v : Value} (ht : P.underlying t = some (.map kt e)) (hkt : P.underlying kt = some (.int .i64))
    (hr : Run C (aMapSet k none x) m y m' f) (hm : MemRel gh w m) (hx : LVRel gh w m.objs x v) : ∃ w', (Builtin.delete_ #[t, ta] ty #[v, .int .i64 k]).run P w = .ok (.tuple #[]) w' ∧ MemRel gh w' m' ∧ Keeps gh w m gh w' m' := by
  unfold aMapSet at hr
  split at hr
  case h_2 => exact hr.fail_inv.elim
  rename_i id
  obtain ⟨f1, h⟩ := hr.getG_inv
  split at h
  case h_2 => exact h.fail_inv.elim
  rename_i g hg
  obtain ⟨f2, h⟩ := h.setG_inv
  obtain ⟨_, rfl⟩ := h.ret_inv
  simp only [LVRel] at hx
  obtain ⟨b, hb, rfl⟩ : ∃ b, gh.γ[id]? = some b ∧ v = .map (some b) := by cases hx with | gm _ b hb => exact ⟨b, hb, rfl⟩
  have hG := mapAt_some hg
  obtain ⟨es, clock, h1, h2, h3⟩ := map_block hm hb hG
  rcases findKey_run (w := w) (k := k) hkt h2.int with ⟨r1, r2⟩ | ⟨j, x, r1, r2, r3⟩
  · obtain ⟨k1, k2⟩ := touchG (o := .map es clock) (cells' := [.mp (updM g k none)]) hm hb hG h1 fun w' he hb' => .inr ⟨_, rfl, _, _, hb', h2, fun k' => by
      have h4 := h3 k'
      simp only [updM]
      by_cases hk' : k' = k
      · subst hk'
        simp only [if_true]
        exact r2
      · simp only [if_neg hk']
        revert h4
        cases g k' with
        | none => exact fun h4 => h4
        | some c => exact fun ⟨e, h5, h6, h7⟩ => ⟨e, h5, h6, h7.mono he⟩⟩
    exact ⟨_, by simp [Builtin.delete_, run_und ht, checkKey_run hkt, run_getObj h1, r1, run_setObj h1]; rfl, k1, k2⟩
  · have hes : (es.eraseIdxIfInBounds j).toList = es.toList.eraseIdx j := by simp
    have hsub : (es.toList.eraseIdx j).Sublist es.toList := List.eraseIdx_sublist ..
    obtain ⟨k1, k2⟩ := touchG (o := .map (es.eraseIdxIfInBounds j) clock) (cells' := [.mp (updM g k none)]) hm hb hG h1 fun w' he hb' => .inr ⟨_, rfl, _, _, hb', by
      refine ⟨fun e he => ?_, ?_, fun e he => ?_, ?_⟩
      · rw [hes] at he; exact h2.int e (hsub.subset he)
      · rw [hes]; exact h2.keys.sublist hsub
      · rw [hes] at he; exact h2.born e (hsub.subset he)
      · rw [hes]; exact h2.once.sublist hsub, fun k' => by
      have h4 := h3 k'
      rw [hes]
      simp only [updM]
      by_cases hk' : k' = k
      · subst hk'
        simp only [if_true]
        intro e he' hk
        obtain ⟨i, hi, h5⟩ := List.mem_eraseIdx_iff_getElem?.1 he'
        obtain ⟨hi1, hi2⟩ := List.getElem?_eq_some_iff.1 h5
        obtain ⟨hj1, hj2⟩ := List.getElem?_eq_some_iff.1 r1
        have hp := List.pairwise_iff_getElem.1 h2.keys
        rcases Nat.lt_or_gt_of_ne hi with q | q
        · have := hp i j hi1 hj1 q
          rw [hi2, hj2] at this
          exact this (hk.trans r2.symm)
        · have := hp j i hj1 hi1 q
          rw [hi2, hj2] at this
          exact this (r2.trans hk.symm)
      · simp only [if_neg hk']
        revert h4
        cases g k' with
        | none => exact fun h4 e he' => h4 e (hsub.subset he')
        | some c =>
          rintro ⟨e, h5, h6, h7⟩
          obtain ⟨i, hi⟩ := List.mem_iff_getElem?.1 h5
          refine ⟨e, List.mem_eraseIdx_iff_getElem?.2 ⟨i, fun q => ?_, hi⟩, h6, h7.mono he⟩
          subst q; rw [r1] at hi; simp only [Option.some.injEq] at hi; subst hi
          rw [r2] at h6; simp at h6; exact hk' h6.symm⟩
    exact ⟨_, by simp [Builtin.delete_, run_und ht, checkKey_run hkt, run_getObj h1, r3, run_setObj h1]; rfl, k1, k2⟩
theorem aMapClear_sound {C : Contract} {P : Program} {t ty e kt : TypeId} {gh : Gh} {w : World} {m : Mem} {x : LV} {y : Unit} {m' : Mem} {f : Fp} {v : Value} (ht : P.underlying t = some (.map kt e))
    (hr : Run C (aMapClear x) m y m' f) (hm : MemRel gh w m) (hx : LVRel gh w m.objs x v) : ∃ w', (Builtin.clear_ #[t] ty #[v]).run P w = .ok (.tuple #[]) w' ∧ MemRel gh w' m' ∧ Keeps gh w m gh w' m' := by
  unfold aMapClear at hr
  split at hr
  · rename_i id
    obtain ⟨f1, h⟩ := hr.getG_inv
    split at h
    case h_2 => exact h.fail_inv.elim
    rename_i g hg
    obtain ⟨f2, h⟩ := h.setG_inv
    obtain ⟨_, rfl⟩ := h.ret_inv
    simp only [LVRel] at hx
    obtain ⟨b, hb, rfl⟩ : ∃ b, gh.γ[id]? = some b ∧ v = .map (some b) := by cases hx with | gm _ b hb => exact ⟨b, hb, rfl⟩
    have hG := mapAt_some hg
    obtain ⟨es, clock, h1, h2, h3⟩ := map_block hm hb hG
    obtain ⟨k1, k2⟩ := touchG (o := .map #[] clock) (cells' := [.mp fun _ => none]) hm hb hG h1 fun w' he hb' => .inr ⟨_, rfl, _, _, hb', ⟨by simp, .nil, by simp, .nil⟩, fun k' => by simp⟩
    exact ⟨_, by simp [Builtin.clear_, run_und ht, run_getObj h1, run_setObj h1]; rfl, k1, k2⟩
  · obtain ⟨rfl, rfl⟩ := hr.ret_inv
    have hv := base_val hx
    subst hv
    exact ⟨w, by simp [Builtin.clear_, run_und ht], hm, .refl _ _ _⟩
  · exact hr.fail_inv.elim
theorem lv_base {gh : Gh} {w : World} {objs : Nm → Nat × Obj} (v : Value) : LVRel gh w objs (.v (.base v)) v := by simp only [LVRel]; exact .base v
theorem keyOf_some {gh : Gh} {w : World} {objs : Nm → Nat × Obj} {x : LV} {n : Int} {v : Value} (h : keyOf x = some n) (hx : LVRel gh w objs x v) : v = .int .i64 n := by
  unfold keyOf at h
  split at h
  · simp only [Option.some.injEq] at h; subst h; exact base_val hx
  · cases h
theorem part_sound {P t ti gh w objs off lv} {fs : List LV} {cs : Array Value} (hti : TIok P t ti) (hv : LVRels gh w objs fs cs.toList) (h1 : off + ti.sz ≤ fs.length)
    (h2 : (ti.agg = true ∧ lv = .agg ((fs.drop off).take ti.sz)) ∨ (ti.agg = false ∧ fs[off]? = some lv ∧ ti.sz = 1)) :
    ∃ v, (part t cs off).run P w = .ok v w ∧ LVRel gh w objs lv v := by
  obtain ⟨i, z, d, k1, k2, k3, k0, k4, k10, k5, k6, k7, k8, k9⟩ := hti.info
  have hl := hv.length
  simp only [Array.length_toList] at hl
  rcases h2 with ⟨h3, rfl⟩ | ⟨h3, h4, h5⟩
  · refine ⟨.agg (cs.extract off (off + i.size)), by simp [part, run_isAgg k2, ← k8, h3, run_sizeOf k1], ?_⟩
    simp only [LVRel]
    refine ⟨_, rfl, LVRels.of_get (by simp; omega) fun j y v hy hv' => ?_⟩
    rw [List.getElem?_take] at hy
    split at hy
    case isFalse => cases hy
    rw [List.getElem?_drop] at hy
    obtain ⟨u, e1, e2⟩ := hv.get _ _ hy
    simp only [Array.toList_extract, List.extract_eq_take_drop] at hv'
    rw [List.getElem?_take] at hv'
    split at hv'
    case isFalse => cases hv'
    rw [List.getElem?_drop, e1] at hv'
    simp only [Option.some.injEq] at hv'
    subst hv'
    exact e2
  · obtain ⟨u, e1, e2⟩ := hv.get _ _ h4
    refine ⟨u, ?_, e2⟩
    have : isAggD d = false := by rw [← k8]; exact h3
    have e1' : cs[off]? = some u := by simpa using e1
    simp [part, run_isAgg k2, this, e1']
theorem cellsL_agg {gh : Gh} {w : World} {objs : Nm → Nat × Obj} {x : LV} {v : Value} (h : LVRel gh w objs x v) (hx : (∃ a, x = .v (.agg a)) ∨ ∃ f, x = .agg f) : ∃ cs, v = .agg cs ∧ LVRels gh w objs (cellsL x) cs.toList := by
  rcases hx with ⟨a, rfl⟩ | ⟨f, rfl⟩
  · simp only [LVRel] at h
    cases h with
    | agg _ cs hl hr =>
      refine ⟨cs, rfl, LVRels.of_get (by simp [cellsL, cellsOf, hl]) fun j y v hy hv => ?_⟩
      simp only [cellsL, cellsOf, List.getElem?_map, Option.map_eq_some_iff] at hy
      obtain ⟨a', ha, rfl⟩ := hy
      obtain ⟨h1, rfl⟩ := List.getElem?_eq_some_iff.1 ha
      obtain ⟨h2, rfl⟩ := List.getElem?_eq_some_iff.1 hv
      simp only [LVRel]
      simpa using hr j h1
  · simp only [LVRel] at h
    obtain ⟨cs, rfl, h⟩ := h
    exact ⟨cs, rfl, by simpa only [cellsL] using h⟩
structure Ops (gh : Gh) (w : World) (m : Mem) (raw : Operand → LV) (a : Act) : Prop where
  mem : MemRel gh w m
  raw : ∀ x, LVRel gh w m.objs (raw x) (a.eval x)
theorem Ops.ev {gh w m raw a} (h : Ops gh w m raw a) (x : Operand) : LVRel gh w m.objs (opn (raw x)) (a.eval x) := opn_rel _ (h.raw x)
section
variable {P : Program} {cfg : Cfg} {raw : Operand → LV} {gh : Gh} {w : World} {m : Mem} {a : Act} {m' : Mem} {lv : LV} {f : Fp} {dst : Option Tmp} {ty : TypeId}
theorem evs {h : Ops gh w m raw a} (xs : List Operand) : LVRels gh w m.objs (xs.map fun x => opn (raw x)) (xs.map a.eval) :=
  LVRels.of_get (by simp) fun j y v hy hv => by
    simp only [List.getElem?_map, Option.map_eq_some_iff] at hy hv
    obtain ⟨x, hx, rfl⟩ := hy
    obtain ⟨x', hx', rfl⟩ := hv
    rw [hx] at hx'; simp only [Option.some.injEq] at hx'; subst hx'
    exact h.ev x
theorem builtin_sound {b : Builtin} {ats : Array TypeId} {args : List LV} (hr : Run (Good P) (builtinL P b ats dst args) m lv m' f) (hm : MemRel gh w m) (vs : List Value) (hv : LVRels gh w m.objs args vs) :
    ∃ v w', (∀ consts, (builtin b ats ty consts vs.toArray).run P w = .ok (.value v) w') ∧ Post gh w m m' lv v w' := by
  unfold builtinL at hr
  split at hr
  · -- len
    rename_i t x hat
    simp only [LVRels] at hv
    obtain ⟨v, _, rfl, hx, rfl⟩ := hv
    obtain ⟨y, m1, f1, f2, h1, h2⟩ := hr.bind_inv
    obtain ⟨rfl, hp⟩ := peek_sound x h1
    replace hp := hp gh w x.names hm (fun _ h => h) v hx
    have hat : ats = #[t] := by apply Array.toList_inj.1; exact hat
    subst hat
    split at h2
    · rename_i sz n' xs hu
      obtain ⟨rfl, rfl⟩ := h2.ret_inv
      refine ⟨.int .i64 xs.length, w, ?_, .same hm (lv_base _)⟩
      cases hp <;> simp [builtin, Builtin.len_, run_und hu, goInt]
    · rename_i s hu
      obtain ⟨rfl, rfl⟩ := h2.ret_inv
      refine ⟨.int .i64 s.size, w, ?_, .same hm (lv_base _)⟩
      cases hp; simp [builtin, Builtin.len_, run_und hu, goInt]
    · exact h2.fail_inv.elim
  · -- cap
    rename_i t x hat
    simp only [LVRels] at hv
    obtain ⟨v, _, rfl, hx, rfl⟩ := hv
    obtain ⟨y, m1, f1, f2, h1, h2⟩ := hr.bind_inv
    obtain ⟨rfl, hp⟩ := peek_sound x h1
    replace hp := hp gh w x.names hm (fun _ h => h) v hx
    have hat : ats = #[t] := by apply Array.toList_inj.1; exact hat
    subst hat
    split at h2
    · rename_i sz hu
      obtain ⟨rfl, rfl⟩ := h2.ret_inv
      refine ⟨.int .i64 0, w, ?_, .same hm (lv_base _)⟩
      cases hp; simp [builtin, Builtin.cap_, run_und hu, goInt]
    · exact h2.fail_inv.elim
  · -- min
    rename_i k p k' q
    split at hr
    case isFalse => exact hr.fail_inv.elim
    obtain ⟨rfl, rfl⟩ := hr.ret_inv
    simp only [LVRels] at hv
    obtain ⟨v, _, rfl, hx, u, _, rfl, hy, rfl⟩ := hv
    obtain rfl := base_val hx
    obtain rfl := base_val hy
    exact ⟨_, w, by simp [builtin, Builtin.min_, Builtin.min2], .same hm (lv_base _)⟩
  · -- max
    rename_i k p k' q
    split at hr
    case isFalse => exact hr.fail_inv.elim
    obtain ⟨rfl, rfl⟩ := hr.ret_inv
    simp only [LVRels] at hv
    obtain ⟨v, _, rfl, hx, u, _, rfl, hy, rfl⟩ := hv
    obtain rfl := base_val hx
    obtain rfl := base_val hy
    exact ⟨_, w, by simp [builtin, Builtin.max_, Builtin.max2], .same hm (lv_base _)⟩
  · -- append
    rename_i t xt s x hat
    simp only [LVRels] at hv
    obtain ⟨vs0, _, rfl, hs, vx, _, rfl, hx, rfl⟩ := hv
    have hat : ats = #[t, xt] := by apply Array.toList_inj.1; exact hat
    subst hat
    split at hr
    case h_2 => exact hr.fail_inv.elim
    rename_i e d he
    have ht := elOf_some he
    split at hr
    case h_2 => exact hr.fail_inv.elim
    rename_i ti hti
    have hok := tiOf_ok hti
    obtain ⟨i, z, dd, k1, k2, k3, k0, k4, k10, k5, k6, k7, k8, k9⟩ := hok.info
    have fin : ∀ {u : Value} {w' : World} {gh' : Gh}, (Builtin.append_ #[t, xt] ty #[vs0, vx]).run P w = .ok u w' → Keeps gh w m gh' w' m' → MemRel gh' w' m' → LVRel gh' w' m'.objs lv u → ∃ v w', (∀ consts, (builtin .append #[t, xt] ty consts [vs0, vx].toArray).run P w = .ok (.value v) w') ∧ Post gh w m m' lv v w' :=
      fun {u w' gh'} h1 h2 h3 h4 => ⟨u, w', by simp [builtin, h1], gh', h2, h3, h4⟩
    split at hr
    · rename_i k n hu
      split at hr
      case isFalse => exact hr.fail_inv.elim
      rename_i hn
      obtain rfl := base_val hx
      have hnz : n ≤ 9223372036854775807 := by
        have hb0 : (1 : Int) ≤ ti.bytes := by have := k0.2; rw [← k6] at this; omega
        have h5 : n * 1 ≤ n * (ti.bytes : Int) := Int.mul_le_mul_of_nonneg_left hb0 hn.1
        have := hn.2; unfold roomB at this; omega
      have hz := rowRel_zero hok k1 k3 gh w n.toNat
      have hc : CellsOK gh w ti.sz (List.replicate n.toNat ti.z) (Builtin.zeroCells z.cells n.toNat) := by
        refine ⟨by simp [Builtin.zeroCells, k4, k5], fun k x hx => ⟨(hz.2 k x hx).1, fun j y hy => ?_⟩⟩
        have := (hz.2 k x hx).2 j y hy
        rw [show Builtin.zeroCells z.cells n.toNat = (Array.range (n.toNat * ti.sz)).map (z.cells[· % z.cells.size]!) by rw [Builtin.zeroCells, k4, k5]]
        exact this
      have ha := appRuns_zeros (w := w) (ty := ty) (k' := .i64) ht k1 k3 hu hn.1 hnz (by have := hn.2; rw [k6] at this; unfold roomB at this; omega) k4 k0.1
      rw [show n.toNat = (List.replicate n.toNat ti.z).length by simp] at ha hc
      obtain ⟨u, w', gh', h1, h2, h3, h4⟩ := aAppend_sound (x := .int .i64 n) (ty := ty) hok k1 k3 hr hm vs0 hs (by simpa using hc) (by simpa using ha)
      exact fin h1 h2 h3 h4
    · rename_i e' x' hu
      obtain ⟨y, m1, f1, f2, h1, h2⟩ := hr.bind_inv
      split at h2
      case h_2 => exact h2.fail_inv.elim
      rename_i sz nil ys
      split at h2
      case isFalse => exact h2.fail_inv.elim
      rename_i hsz
      obtain ⟨rfl, hp⟩ := peek_spine h1 rfl
      have hp := hp gh w hm vx hx
      have hp : Spine gh w ti.sz nil ys vx := by
        rcases hsz with h | h
        · exact h ▸ hp
        · have h : ys = [] := by simpa using h
          subst h
          rcases hp with h | ⟨h1, ad, cap, h2, _⟩
          · exact .inl h
          · exact .inr ⟨h1, ad, cap, h2, by simp⟩
      obtain ⟨news, hn, hc⟩ := spine_news hp hu
      obtain ⟨u, w', gh', h1, h2, h3, h4⟩ := aAppend_sound (x := vx) (ty := ty) hok k1 k3 h2 hm vs0 hs hc (appRuns_of ht k1 k3 (by rw [← k5]; exact hn))
      exact fin h1 h2 h3 h4
    · rename_i y hu
      split at hr
      case isFalse => exact hr.fail_inv.elim
      rename_i hsz
      obtain rfl := base_val hx
      obtain ⟨news, hn, hc⟩ := string_news (gh := gh) (w := w) (s := y) hu
      rw [← hsz] at hc
      obtain ⟨u, w', gh', h1, h2, h3, h4⟩ := aAppend_sound (x := .string y) (ty := ty) hok k1 k3 hr hm vs0 hs hc (appRuns_of ht k1 k3 (by rw [← k5, hsz]; exact hn))
      exact fin h1 h2 h3 h4
    · exact hr.fail_inv.elim
  · -- clear
    rename_i t x hat
    simp only [LVRels] at hv
    obtain ⟨v, _, rfl, hx, rfl⟩ := hv
    have hat : ats = #[t] := by apply Array.toList_inj.1; exact hat
    subst hat
    split at hr
    case h_2 =>
      split at hr
      case h_2 => exact hr.fail_inv.elim
      rename_i et het
      obtain ⟨kt, ht, _⟩ := mapEl_some het
      obtain ⟨y, m1, f1, f2, h1, h2⟩ := hr.bind_inv
      obtain ⟨rfl, rfl⟩ := h2.ret_inv
      obtain ⟨w', h3, h4, h5⟩ := aMapClear_sound (ty := ty) ht h1 hm hx
      exact ⟨.tuple #[], w', by simp [builtin, h3], gh, h5, h4, lv_base _⟩
    rename_i e he
    split at hr
    case h_2 => exact hr.fail_inv.elim
    rename_i ti hti
    obtain ⟨y, m1, f1, f2, h1, h2⟩ := hr.bind_inv
    obtain ⟨rfl, rfl⟩ := h2.ret_inv
    obtain ⟨w', gh', h3, h4, h5⟩ := aClear_sound (ty := ty) (elOf_some he) (tiOf_ok hti) h1 hm v hx
    exact ⟨.tuple #[], w', by simp [builtin, h3], gh', h4, h5, lv_base _⟩
  · -- copy
    rename_i t xt s x hat
    simp only [LVRels] at hv
    obtain ⟨vs0, _, rfl, hs, vx, _, rfl, hx, rfl⟩ := hv
    have hat : ats = #[t, xt] := by apply Array.toList_inj.1; exact hat
    subst hat
    split at hr
    case h_2 => exact hr.fail_inv.elim
    rename_i e he
    split at hr
    case h_2 => exact hr.fail_inv.elim
    rename_i ti hti
    split at hr
    case h_2 => exact hr.fail_inv.elim
    rename_i et hu
    obtain ⟨y, m1, f1, f2, h1, h2⟩ := hr.bind_inv
    split at h2
    case h_2 => exact h2.fail_inv.elim
    rename_i sz nil ys
    split at h2
    case isFalse => exact h2.fail_inv.elim
    rename_i hsz
    obtain ⟨rfl, hp⟩ := peek_spine h1 rfl
    have hp := hp gh w hm vx hx
    have hp : Spine gh w ti.sz nil ys vx := by
      rcases hsz with h | h
      · exact h ▸ hp
      · have h : ys = [] := by simpa using h
        subst h
        rcases hp with h | ⟨h1, ad, cap, h2, _⟩
        · exact .inl h
        · exact .inr ⟨h1, ad, cap, h2, by simp⟩
    obtain ⟨u, w', h3, h4, h5, h6⟩ := aCopy_sound (ty := ty) (elOf_some he) hu (tiOf_ok hti) h2 hm vs0 hs hp
    exact ⟨u, w', by simp [builtin, h3], gh, h4, h5, h6⟩
  · -- delete
    rename_i t ta x k hat
    simp only [LVRels] at hv
    obtain ⟨v, _, rfl, hx, u, _, rfl, hk, rfl⟩ := hv
    have hat : ats = #[t, ta] := by apply Array.toList_inj.1; exact hat
    subst hat
    split at hr
    case h_2 => exact hr.fail_inv.elim
    rename_i et n het hn
    obtain ⟨kt, ht, hkt⟩ := mapEl_some het
    obtain rfl := keyOf_some hn hk
    obtain ⟨y, m1, f1, f2, h1, h2⟩ := hr.bind_inv
    obtain ⟨rfl, rfl⟩ := h2.ret_inv
    obtain ⟨w', h3, h4, h5⟩ := aMapDel_sound (ta := ta) (ty := ty) ht hkt h1 hm hx
    exact ⟨.tuple #[], w', by simp [builtin, h3], gh, h5, h4, lv_base _⟩
  · exact hr.fail_inv.elim
end
theorem bytesNs_get : ∀ {xs : List AV} {ns : List Int}, bytesNs xs = some ns → xs.length = ns.length ∧ ∀ (i : Nat) (h : i < xs.length) (h' : i < ns.length), xs[i] = .base (.int .u8 ns[i])
  | [], ns, h => by simp [bytesNs] at h; subst h; simp
  | x :: xs, ns, h => by
    cases x with
    | base v =>
      cases v with
      | int k n =>
        cases k with
        | u8 =>
          simp only [bytesNs, Option.map_eq_some_iff] at h
          obtain ⟨r, h1, rfl⟩ := h
          obtain ⟨h2, h3⟩ := bytesNs_get h1
          refine ⟨by simp [h2], fun i hi hi' => ?_⟩
          cases i with
          | zero => rfl
          | succ i => simpa using h3 i (by simpa using hi) (by simpa using hi')
        | _ => simp [bytesNs] at h
      | _ => simp [bytesNs] at h
    | _ => simp [bytesNs] at h
theorem strL_sound {C : Contract} {P : Program} {gh w src dst e v a m lv m' f} (hs : P.underlying src = some (.slice e)) (he : P.underlying e = some (.int .u8)) (hd : P.underlying dst = some .string) (hR : R gh w a v) (hr : Run C (strL a) m lv m' f) :
    ∃ s : ByteArray, m' = m ∧ lv = .v (.base (.string s)) ∧ (convert src dst v).run P w = .ok (.string s) w := by
  unfold strL at hr
  split at hr
  case h_2 => exact hr.fail_inv.elim
  rename_i sz nil xs
  split at hr
  case h_2 => exact hr.fail_inv.elim
  rename_i ns hns
  obtain ⟨rfl, rfl⟩ := hr.ret_inv
  refine ⟨_, rfl, rfl, ?_⟩
  obtain ⟨hl, hg⟩ := bytesNs_get hns
  cases hR with
  | nilsl _ =>
    obtain rfl : ns = [] := by simpa using hl.symm
    rw [run_convert_bytes_string w src dst e none 0 0 hs he hd]
    rfl
  | sl _ _ ad cap g hI hcap hsz hc ho hrr =>
    rw [run_convert_bytes_string w src dst e (some ad) xs.length cap hs he hd]
    refine run_bytesToString w ad xs.length cap ns ?_
    have hcell : ∀ j, j < xs.length → w.cell? (ad.add j) = some ((fun j => Value.int .u8 (ns.getD j 0)) j) := fun j hj => by
      have h1 := hg j hj (by omega)
      have hz : sz = 1 := by rw [← hsz j hj, h1]; rfl
      have h2 := hc j 0 hj (by omega)
      have h3 := hrr j 0 hj (by rw [h1]; simp [cellsOf])
      rw [hz, Nat.mul_one, Nat.add_zero] at h2
      have h4 : R gh w (.base (.int .u8 ns[j])) (g j 0) := by
        have : (cellsOf xs[j])[0]'(by rw [h1]; simp [cellsOf]) = .base (.int .u8 ns[j]) := by simp [h1, cellsOf]
        rw [← this]; exact h3
      have h5 : g j 0 = .int .u8 ns[j] := base_val (objs := fun _ => default) (by simpa only [LVRel] using h4)
      rw [h2, h5]
      simp [List.getD_eq_getElem?_getD, List.getElem?_eq_getElem (show j < ns.length by omega)]
    rw [run_loadCells w ad xs.length _ hcell, hl]
    congr 2
    apply List.ext_getElem?
    intro i
    by_cases hi : i < ns.length
    · simp [List.getElem?_range hi, List.getD_eq_getElem?_getD, List.getElem?_eq_getElem hi]
    · rw [List.getElem?_eq_none (by simp; omega), List.getElem?_eq_none (by simp; omega)]
end Go.Vai
