import Derived.Test.YtencjgkeflibdaaGreatVaiB
import Derived.Orders
import Derived.Below
import Derived.Carry
import Derived.OpenShut
import Derived.ChangeShapes
import Derived.ChangeArms
set_option linter.unusedSimpArgs false
set_option linter.unusedVariables false
set_option linter.constructorNameAsVariable false
namespace Go.Vai
section
variable {P : Program} {cfg : Cfg} {raw : Operand → LV} {gh : Gh} {w : World} {m : Mem} {a : Act} {m' : Mem} {lv : LV} {f : Fp}
theorem ptr_ok {gh : Gh} {w : World} {objs : Nm → Nat × Obj} {cs : List AV} {o : Nat} {v : Value} (h : LVRel gh w objs (.v (.iptr cs o)) v) : ∃ ad, v = .pointer (some ad) := by
  simp only [LVRel] at h; cases h; exact ⟨_, rfl⟩
theorem gp_ok {gh : Gh} {w : World} {objs : Nm → Nat × Obj} {id o : Nat} {v : Value} (h : LVRel gh w objs (.v (.gp id o)) v) : ∃ ad, v = .pointer (some ad) := by
  simp only [LVRel] at h; cases h; exact ⟨_, rfl⟩
theorem aMapSet_gm {C : Contract} {k : Int} {a : Option AV} {x : LV} {y : Unit} {m m' : Mem} {f : Fp} (hr : Run C (aMapSet k a x) m y m' f) : ∃ id, x = .v (.gm id) := by
  unfold aMapSet at hr
  split at hr
  · exact ⟨_, rfl⟩
  · exact hr.fail_inv.elim
theorem act_sound {o : Oper} (h : Ops gh w m raw a) (hr : Run (Good P) (act P cfg raw o) m lv m' f) : OpsTo P o a w (Post gh w m m' lv) := by
  obtain ⟨dst, op, ty, pos, aft, rst⟩ := o
  unfold act at hr
  cases op
  case move x =>
    simp only at hr
    obtain ⟨rfl, rfl⟩ := hr.ret_inv
    exact .val (by simp [execOp]) (.same h.mem (h.ev x))
  case assign x =>
    simp only at hr
    refine .val (v := a.eval x) (w' := w) (by simp [execOp]) ?_
    split at hr
    · exact hr.fail_inv.elim
    rename_i d
    split at hr
    · rename_i hn
      unfold isNilConst at hn
      split at hn
      · obtain ⟨gh', k1, k2, k3⟩ := newNil_sound hr h.mem
        exact ⟨gh', k2, k1, k3⟩
      · cases hn
    · have hx := h.ev x
      revert hx hr
      generalize opn (raw x) = y
      intro hr hx
      cases y <;> (try simp only at hr) <;> first
        | (obtain ⟨rfl, rfl⟩ := hr.ret_inv; exact .same h.mem hx)
        | (split at hr
           · rename_i hc
             obtain ⟨gh', k1, k2, k3⟩ := rehome_sound hc.2 hr h.mem
             exact ⟨gh', k2, k1, k3 _ hx⟩
           · obtain ⟨gh', k1, k2, k3⟩ := settle_sound hr h.mem (by simp)
             exact ⟨gh', k2, k1, (k3 _ hx).1⟩)
  case pick c x y =>
    simp only at hr
    split at hr
    case h_2 => exact hr.fail_inv.elim
    rename_i c' hc
    obtain ⟨rfl, rfl⟩ := hr.ret_inv
    have h0 := h.ev c
    rw [hc] at h0
    refine .val (v := if c' then a.eval x else a.eval y) (w' := w) (by simp [execOp, base_val h0, asBool]) (.same h.mem ?_)
    unfold pickLV
    split
    · exact h.ev x
    · exact h.ev y
  case alloc e =>
    simp only at hr
    split at hr
    case h_2 => exact hr.fail_inv.elim
    rename_i ti d hti
    obtain ⟨i, z, dd, k1, k2, k3, k0, k4, k10, k5, k6, k7, k8, k9⟩ := (tiOf_ok hti).info
    have hz := zero_rel (tiOf_ok hti) k1 k3 gh w m.objs
    obtain ⟨gh', j1, j2, j3⟩ : ∃ gh', MemRel gh' (w.alloc (.cells z.cells e)) m' ∧ Keeps gh w m gh' (w.alloc (.cells z.cells e)) m' ∧ LVRel gh' (w.alloc (.cells z.cells e)) m'.objs lv (.pointer (some ⟨w.heap.size, 0, none⟩)) := by
      split at hr
      · refine newG_alloc hr h.mem (by simpa using hz.length) fun j x hx => ?_
        obtain ⟨v, h3, h4⟩ := hz.get j (.v x) (by simp [hx])
        simp only [LVRel] at h4
        exact ⟨v, by simpa using h3, k9 v (List.mem_of_getElem? h3), h4⟩
      · exact newBox_alloc (ty := e) hr h.mem hz k9
    refine .val (v := .pointer (some ⟨w.heap.size, 0, none⟩)) (w' := w.alloc (.cells z.cells e)) ?_ ⟨gh', j2, j1, j3⟩
    simp [execOp, Instr.alloc, run_zeroValue k1 k3, newVar, newRow]
  case box e x =>
    simp only at hr
    split at hr
    case h_2 => exact hr.fail_inv.elim
    rename_i ti d hti
    split at hr
    · obtain ⟨cs, m1, f1, f2, h1, h2⟩ := hr.bind_inv
      split at h2
      case isFalse => exact h2.fail_inv.elim
      rename_i hcc
      obtain ⟨gh1, k1, k2, _, k3, k4, k5⟩ := reify_cells h1 hcc.2 h.mem (h.ev x)
      obtain ⟨gh', j1, j2, j3⟩ := newG_alloc (cs := (a.eval x).cells) (ty := e) h2 k1 k3.symm fun j y hy => by
        have hj : j < (a.eval x).cells.size := by rw [← k3]; exact (List.getElem?_eq_some_iff.1 hy).1
        exact ⟨_, Array.getElem?_eq_getElem hj, k5 _ (by simp), k4 j y _ hy (Array.getElem?_eq_getElem hj)⟩
      refine .val (v := .pointer (some ⟨w.heap.size, 0, none⟩)) (w' := w.alloc (.cells (a.eval x).cells e)) ?_ (.after k2 ⟨gh', j2, j1, j3⟩)
      simp [execOp, Instr.box, newVar, newRow]
    obtain ⟨cs, m1, f1, f2, h1, h2⟩ := hr.bind_inv
    split at h2
    case isFalse => exact h2.fail_inv.elim
    obtain ⟨gh1, k1, k2, k3, k4⟩ := settle_cells h1 h.mem (h.ev x)
    obtain ⟨gh', j1, j2, j3⟩ := newBox_alloc (ty := e) h2 k1 k3 k4
    refine .val (v := .pointer (some ⟨w.heap.size, 0, none⟩)) (w' := w.alloc (.cells (a.eval x).cells e)) ?_ (.after k2 ⟨gh', j2, j1, j3⟩)
    simp [execOp, Instr.box, newVar, newRow]
  case build t parts =>
    simp only at hr
    split at hr
    case h_2 => exact hr.fail_inv.elim
    rename_i ti pl hti hpl
    obtain ⟨cs, m1, f1, f2, h1, h2⟩ := hr.bind_inv
    obtain ⟨rfl, rfl⟩ := h2.ret_inv
    obtain ⟨rfl, v, j1, j2⟩ := build_sound (gh := gh) (w := w) (vs := parts.map fun (i, x) => (i, a.eval x)) hti hpl h1 ⟨by simp, fun j p q hp hq => by
      simp only [Array.toList_map, List.getElem?_map, Option.map_eq_some_iff] at hp hq
      obtain ⟨p', hp', rfl⟩ := hp
      obtain ⟨q', hq', rfl⟩ := hq
      rw [hp'] at hq'; simp only [Option.some.injEq] at hq'; subst hq'
      exact ⟨rfl, h.ev _⟩⟩
    exact .val (v := v) (w' := w) (by simp [execOp, j1]) (.same h.mem j2)
  case load t x =>
    simp only at hr
    split at hr
    case h_2 => exact hr.fail_inv.elim
    rename_i ti hti
    obtain ⟨rfl, ad, u, j1, j2, j3⟩ := aLoad_sound (tiOf_ok hti) hr h.mem _ (h.ev x)
    exact .val (v := u) (w' := w) (by simp [execOp, Instr.loadAt, j1, Instr.sureAddr, j2]) (.same h.mem j3)
  case store t x y =>
    simp only at hr
    split at hr
    case h_2 => exact hr.fail_inv.elim
    rename_i ti hti
    obtain ⟨u, m1, f1, f2, h1, h2⟩ := hr.bind_inv
    obtain ⟨rfl, rfl⟩ := h2.ret_inv
    obtain ⟨ad, w', gh', j1, j2, j3, j4⟩ := aStore_sound (tiOf_ok hti) h1 h.mem _ _ (h.ev x) (h.ev y)
    exact .skip (w' := w') (by simp [execOp, Instr.storeAt, j1, Instr.sureAddr, j2]) ⟨gh', j4, j3, lv_base _⟩
  case nilCheck x =>
    have hx := h.ev x
    have go : ∀ {y : LV} {v : Value}, Run (Good P) (aFieldAddr 0 y) m lv m' f → LVRel gh w m.objs y v → a.eval x = v → OpsTo P ⟨dst, .nilCheck x, ty, pos, aft, rst⟩ a w (Post gh w m m' lv) := fun {y v} hr hy e => by
      obtain ⟨rfl, ad, rfl, h3⟩ := aFieldAddr_sound hr v hy
      rw [add_zero] at h3
      exact .val (v := .pointer (some ad)) (w' := w) (by simp [execOp, e]) (.same h.mem h3)
    simp only at hr
    split at hr
    · rename_i e; rw [e] at hx; exact go hr hx rfl
    · rename_i e; rw [e] at hx; exact go hr hx rfl
    · rename_i e; rw [e] at hx
      obtain ⟨rfl, rfl⟩ := hr.ret_inv
      obtain ⟨ad, e'⟩ := gp_ok hx
      exact .val (v := .pointer (some ad)) (w' := w) (by simp [execOp, e']) (.same h.mem (e' ▸ hx))
    · rename_i e; rw [e] at hx
      obtain ⟨rfl, rfl⟩ := hr.ret_inv
      obtain ⟨ad, e'⟩ := ptr_ok hx
      exact .val (v := .pointer (some ad)) (w' := w) (by simp [execOp, e']) (.same h.mem (e' ▸ hx))
    · exact hr.fail_inv.elim
  case binOp op t x y c =>
    simp only at hr
    obtain ⟨p, m1, f1, f2, h1, h2⟩ := hr.bind_inv
    obtain ⟨q, m2, f3, f4, h3, h4⟩ := h2.bind_inv
    obtain ⟨rfl, hp⟩ := peek_sound _ h1
    obtain ⟨rfl, hq⟩ := peek_sound _ h3
    unfold lvOpt at h4
    split at h4
    case h_2 => exact h4.fail_inv.elim
    rename_i r hb
    obtain ⟨rfl, rfl⟩ := h4.ret_inv
    obtain ⟨v, rfl, hv⟩ := aBin_sound hb
    have hv := hv (gh.lend ((opn (raw x)).names ++ (opn (raw y)).names)) w _ _ x y (hp gh w _ h.mem (fun n hn => List.mem_append_left _ hn) _ (h.ev x)) (hq gh w _ h.mem (fun n hn => List.mem_append_right _ hn) _ (h.ev y))
    refine .val (v := v) (w' := w) ?_ (.same h.mem (lv_base _))
    simp only [execOp]
    rw [Sem.run_bind, hv]
    simp
  case unOp op t x =>
    simp only at hr
    obtain ⟨p, m1, f1, f2, h1, h2⟩ := hr.bind_inv
    obtain ⟨rfl, hp⟩ := peek_sound _ h1
    unfold lvOpt at h2
    split at h2
    case h_2 => exact h2.fail_inv.elim
    rename_i r hb
    obtain ⟨rfl, rfl⟩ := h2.ret_inv
    obtain ⟨v, rfl, hv⟩ := aUn_sound hb
    have hv := hv P (gh.lend _) w _ (hp gh w _ h.mem (fun n hn => hn) _ (h.ev x))
    exact .val (v := v) (w' := w) (by simp [execOp, hv]) (.same h.mem (lv_base _))
  case convert src dt x =>
    simp only at hr
    have h0 := h.ev x
    split at hr
    · rename_i k k' n hs hu hx
      obtain ⟨rfl, rfl⟩ := hr.ret_inv
      rw [hx] at h0
      have e := base_val h0
      refine .val (v := .int k (k.wrap n)) (w' := w) ?_ (.same h.mem (lv_base _))
      simp [execOp, e, convert, run_und hs, run_und hu, Conv.intToInt]
    · rename_i e' e n g lo hi hs hu hx
      rw [hx] at h0
      split at hr
      · rename_i he
        split at hr
        · rename_i hsd
          subst hsd
          obtain ⟨w', gh', k1, k2, k3, k4⟩ := convN_sound hu he hr h.mem h0
          exact .val (v := a.eval x) (w' := w') (by simp [execOp, k1]) ⟨gh', k2, k3, k4⟩
        · exact hr.fail_inv.elim
      · exact hr.fail_inv.elim
    · rename_i e hs hu
      split at hr
      case h_2 => exact hr.fail_inv.elim
      rename_i he
      obtain ⟨p, m1, f1, f2, h1, h2⟩ := hr.bind_inv
      obtain ⟨rfl, hp⟩ := peek_sound _ h1
      obtain ⟨s, rfl, rfl, h3⟩ := strL_sound hs he hu (hp gh w _ h.mem (fun n hn => hn) _ h0) h2
      exact .val (v := .string s) (w' := w) (by simp [execOp, h3]) (.same h.mem (lv_base _))
    · exact hr.fail_inv.elim
  case makeFunc fn first captured =>
    simp only at hr
    split at hr
    case h_2 => exact hr.fail_inv.elim
    rename_i fi hfi
    have hfi : first = #[] := by apply Array.toList_inj.1; simpa using hfi
    subst hfi
    obtain ⟨cs, m1, f1, f2, h1, h2⟩ := hr.bind_inv
    obtain ⟨rfl, rfl⟩ := h2.ret_inv
    obtain ⟨gh1, k1, k2, k3⟩ := captureL_sound _ h1 h.mem
    obtain ⟨k4, k5⟩ := k3 _ (evs (h := h) captured.toList)
    simp only [List.length_map, Array.length_toList] at k4
    refine .val (v := .func (.func fi) #[] (captured.map a.eval)) (w' := w) (by simp [execOp, Instr.makeFunc]) ⟨gh1, k2, k1, ?_⟩
    simp only [LVRel]
    refine .clo fi cs _ (by simp [k4]) fun j hj => ?_
    exact k5 j _ _ (List.getElem?_eq_getElem hj) (by simp; exact ⟨captured[j]'(by omega), by simp, rfl⟩)
  case makeSlice t l c =>
    simp only at hr
    split at hr
    case h_2 => exact hr.fail_inv.elim
    rename_i e d n m0 he hl hc
    split at hr
    case h_2 => exact hr.fail_inv.elim
    rename_i ti hti
    split at hr
    case isFalse => exact hr.fail_inv.elim
    rename_i hb
    have hl0 := h.ev l
    have hc0 := h.ev c
    rw [hl] at hl0
    rw [hc] at hc0
    have el := base_val hl0
    have ec := base_val hc0
    obtain ⟨cs, k1, k2, k3⟩ := makeSlice_run (gh := gh) (w := w) (k := .i64) (k' := .i64) (elOf_some he) (tiOf_ok hti) hb.1 hb.2.1 hb.2.2.1 hb.2.2.2
    obtain ⟨gh', j1, j2, j3, j4⟩ := newArr_alloc (ty := e) hr h.mem k2 (by simp; omega)
    refine .val (v := .slice (some ⟨w.heap.size, 0, none⟩) n.toNat m0.toNat) (w' := w.alloc (.cells cs e)) (by simp [execOp, el, ec, k1]) ⟨gh', j2, j1, j3 m0.toNat (by simp) (by omega) (by unfold maxLen; omega)⟩
  case slice t x lo hi mx =>
    simp only at hr
    split at hr
    case h_2 => exact hr.fail_inv.elim
    rename_i l h' mm hl hh hmx
    have bnds : ∀ {o : Option Operand} {i : Option Int}, bnd (o.map fun x => opn (raw x)) = some i → bndRel i (o.map a.eval) := fun {o i} hb =>
      bnd_rel hb (fun x y hx hy => by
        simp only [Option.map_eq_some_iff] at hx hy
        obtain ⟨x', rfl, rfl⟩ := hx
        obtain ⟨y', e, rfl⟩ := hy
        simp only [Option.some.injEq] at e; subst e
        exact h.ev _) (by cases o <;> rfl)
    split at hr
    · rename_i e ht
      split at hr
      · exact hr.fail_inv.elim
      · rename_i ti hti hns
        obtain ⟨rfl, u, k1, k2⟩ := aSlice_sound (tiOf_ok hti) hr h.mem _ (h.ev x) ht (bnds hl) (bnds hh) (bnds hmx) (fun s e => hns _ e)
        exact .val (v := u) (w' := w) (by simp [execOp, run_sliceAt ht, k1]) (.same h.mem k2)
      · exact hr.fail_inv.elim
    · rename_i ht
      split at hr
      case h_2 => exact hr.fail_inv.elim
      rename_i s hx
      have h0 := h.ev x
      rw [hx] at h0
      have e0 := base_val h0
      obtain ⟨rfl, u, k1, k2⟩ := aSlice_str hr (gh := gh) (w := w) ht (bnds hl) (bnds hh) (bnds hmx)
      exact .val (v := u) (w' := w) (by simp [execOp, e0, run_sliceAt_str ht, k1]) (.same h.mem k2)
    · exact hr.fail_inv.elim
  case fieldAddr t x fl =>
    simp only at hr
    split at hr
    case h_2 => exact hr.fail_inv.elim
    rename_i off sz hf
    obtain ⟨rfl, ad, e, k2⟩ := aFieldAddr_sound hr _ (h.ev x)
    exact .val (v := .pointer (some (ad.add off))) (w' := w) (by simp [execOp, e, run_fieldAt hf]) (.same h.mem k2)
  case field t x fl =>
    simp only at hr
    split at hr
    case h_2 => exact hr.fail_inv.elim
    rename_i off sz fs hf hu
    split at hr
    case h_2 => exact hr.fail_inv.elim
    rename_i ti hti
    split at hr
    case isFalse => exact hr.fail_inv.elim
    rename_i hsz
    obtain ⟨fs', fd, i, e1, e2, e3, e4, e5, e6⟩ := fieldOf_ok hf
    rw [hu] at e1
    simp only [Option.some.injEq, TypeDesc.struct.injEq] at e1
    subst e1
    simp only [e2, Option.bind_some] at hti
    have go : ∀ {l : List LV}, Run (Good P) (loadL ti l off) m lv m' f → (∃ cs, a.eval x = .agg cs ∧ LVRels gh w m.objs l cs.toList) → OpsTo P ⟨dst, .field t x fl, ty, pos, aft, rst⟩ a w (Post gh w m m' lv) := by
      intro l hr ⟨cs, ea, hl⟩
      obtain ⟨rfl, k1, k2⟩ := loadL_run hr
      obtain ⟨v, j1, j2⟩ := part_sound (w := w) (tiOf_ok hti) hl k1 k2
      subst e6
      exact .val (v := v) (w' := w) (by simp [execOp, ea, Instr.field, run_und hu, e2, asAgg, j1]) (.same h.mem j2)
    have hx := h.ev x
    split at hr
    · rename_i fs e; rw [e] at hx; obtain ⟨cs, e1, h1⟩ := cellsL_agg hx (.inl ⟨_, rfl⟩); exact go hr ⟨cs, e1, h1⟩
    · rename_i fs e; rw [e] at hx; obtain ⟨cs, e1, h1⟩ := cellsL_agg hx (.inr ⟨_, rfl⟩); exact go hr ⟨cs, e1, h1⟩
    · exact hr.fail_inv.elim
  case indexAddr t x i =>
    simp only at hr
    have hx := h.ev x
    split at hr
    · rename_i ii e hi ht
      obtain ⟨k, hi⟩ := intOf_some hi
      have h0 := h.ev i
      rw [hi] at h0
      have e0 := base_val h0
      split at hr
      case h_2 => exact hr.fail_inv.elim
      rename_i ti hti
      obtain ⟨rfl, u, k1, k2⟩ := aIndex_sound (k := k) (tiOf_ok hti) hr h.mem _ hx ht
      exact .val (v := u) (w' := w) (by simp [execOp, e0, k1]) (.same h.mem k2)
    · rename_i ii n e hi ht
      obtain ⟨k, hi⟩ := intOf_some hi
      have h0 := h.ev i
      rw [hi] at h0
      have e0 := base_val h0
      split at hr
      case h_2 => exact hr.fail_inv.elim
      rename_i ti hti
      split at hr
      · exact hr.fail_inv.elim
      unfold aIndexArr at hr
      split at hr
      case isFalse => exact hr.fail_inv.elim
      rename_i hb
      obtain ⟨inf, z, dd, k1, k2, k3, k0, k4, k10, k5, k6, k7, k8, k9⟩ := (tiOf_ok hti).info
      obtain ⟨rfl, ad, e1, j2⟩ := aFieldAddr_sound hr _ hx
      refine .val (v := .pointer (some (ad.add (ii.toNat * ti.sz)))) (w' := w) ?_ (.same h.mem j2)
      have hlt : ii < n := by omega
      simp [execOp, e0, e1, Instr.indexAt, asIntOf, run_und ht, Instr.sureAddr, hb.1, hlt, run_sizeOf k1, k5]
    · exact hr.fail_inv.elim
  case index t x i =>
    simp only at hr
    split at hr
    case h_2 => exact hr.fail_inv.elim
    rename_i ii s hi ht hx
    obtain ⟨k, hi⟩ := intOf_some hi
    have h0 := h.ev i
    rw [hi] at h0
    have e0 := base_val h0
    have h1 := h.ev x
    rw [hx] at h1
    have e1 := base_val h1
    split at hr
    case isFalse => exact hr.fail_inv.elim
    rename_i hb
    split at hr
    case h_2 => exact hr.fail_inv.elim
    rename_i b hsb
    obtain ⟨rfl, rfl⟩ := hr.ret_inv
    refine .val (v := .int .u8 b.toNat) (w' := w) ?_ (.same h.mem (lv_base _))
    simp [execOp, e0, e1, Instr.index, asIntOf, run_und ht, hb, hsb]
  case extract t ix =>
    simp only at hr
    have hx := h.ev t
    split at hr
    · rename_i fs ht
      rw [ht] at hx
      split at hr
      case h_2 => exact hr.fail_inv.elim
      rename_i y hy
      obtain ⟨rfl, rfl⟩ := hr.ret_inv
      simp only [LVRel] at hx
      obtain ⟨cs, e, hx⟩ := hx
      obtain ⟨v, h1, h2⟩ := hx.get _ _ hy
      have h1 : cs[ix]? = some v := by simpa using h1
      exact .val (v := v) (w' := w) (by simp [execOp, e, Instr.extract, h1]) (.same h.mem h2)
    · rename_i fs ht
      rw [ht] at hx
      split at hr
      case h_2 => exact hr.fail_inv.elim
      rename_i y hy
      obtain ⟨rfl, rfl⟩ := hr.ret_inv
      simp only [LVRel] at hx
      generalize hv : a.eval t = tv at hx
      cases hx with
      | tup _ cs hl hrr =>
        obtain ⟨h1, rfl⟩ := List.getElem?_eq_some_iff.1 hy
        have h2 : cs[ix]? = some (cs[ix]'(by omega)) := by simp
        exact .val (v := cs[ix]'(by omega)) (w' := w) (by simp [execOp, hv, Instr.extract, h2]) (.same h.mem (by simp only [LVRel]; exact hrr ix h1))
    · exact hr.fail_inv.elim
  case buildSlice t len parts =>
    simp only at hr
    split at hr
    case h_2 => exact hr.fail_inv.elim
    rename_i e d he
    split at hr
    case h_2 => exact hr.fail_inv.elim
    rename_i ti hti
    split at hr
    case isFalse => exact hr.fail_inv.elim
    rename_i hlen
    obtain ⟨as, m1, f1, f2, h1, h2⟩ := hr.bind_inv
    split at h2
    case h_2 => exact h2.fail_inv.elim
    rename_i xs hxs
    obtain ⟨gh1, k1, k2, k3⟩ := elems_sound _ h1 h.mem
    obtain ⟨k4, k5⟩ := k3 (parts.toList.map fun p => a.eval p.2) (by have := evs (h := h) (parts.toList.map (·.2)); rw [List.map_map, List.map_map] at this; exact this)
    have := buildSlice_run (gh := gh1) (w := w) (parts := parts.map fun (i, x) => (i, a.eval x)) (elOf_some he) (tiOf_ok hti) hlen (is := parts.toList.map (·.1)) (vs := parts.toList.map fun p => a.eval p.2) (by
      simp [List.zip_map']) (by rw [k4]; simp) k4 k5 hxs
    obtain ⟨cs, j1, j2, j3, j4⟩ := this
    obtain ⟨gh', i1, i2, i3, i4⟩ := newArr_alloc (ty := e) h2 k1 j2 (by omega)
    refine .val (v := .slice (some ⟨w.heap.size, 0, none⟩) len len) (w' := w.alloc (.cells cs e)) (by simp [execOp, j1]) (.after k2 ⟨gh', i2, i1, i3 len (by omega) (by omega) ?_⟩)
    have hok := (tiOf_ok hti).info
    obtain ⟨inf, z, dd, q1, q2, q3, q0, q4, q10, q5, q6, q7, q8, q9⟩ := hok
    have : len * 1 ≤ len * ti.sz := Nat.mul_le_mul_left _ (by have := q0.1; omega)
    unfold maxLen; omega
  case call c =>
    obtain ⟨callee, args, ats⟩ := c
    simp only at hr
    split at hr
    · rename_i b
      obtain ⟨v, w', j1, j2⟩ := builtin_sound (ty := ty) hr h.mem _ (evs (h := h) args.toList)
      refine .val (v := v) (w' := w') ?_ j2
      simp only [execOp, resolve, Sem.run_bind, Sem.run_pure, Result.andThen_ok, invoke]
      rw [show (args.toList.map a.eval).toArray = args.map a.eval by rw [← Array.toList_map]] at j1
      rw [j1]
    · rename_i fo
      split at hr
      case h_2 => exact hr.fail_inv.elim
      rename_i fi caps hfo
      have h0 := h.ev fo
      rw [hfo] at h0
      simp only [LVRel] at h0
      generalize hv : a.eval fo = fv at h0
      cases h0 with
      | clo _ _ cvs hl hrc =>
        obtain ⟨⟨fn, c, e1, e2, e3⟩, j⟩ := callL_sound hr h.mem _ cvs (evs (h := h) args.toList) hl hrc
        rw [show (args.toList.map a.eval).toArray = args.map a.eval by rw [← Array.toList_map]] at j
        have e2 : ¬ fn.name = "runtime.NumGoroutine" := by simpa using e2
        refine .call (f := fi) (args := args.map a.eval ++ cvs) (w' := w) ?_ j
        simp [execOp, resolve, hv, Deferred.ofValue, invoke, callFunc, e1, e2, e3]
    · exact hr.fail_inv.elim
  case makeMap t r =>
    simp only at hr
    split at hr
    case h_2 => exact hr.fail_inv.elim
    obtain ⟨gh', j1, j2, j3⟩ := newM_sound hr h.mem
    exact .val (v := .map (some w.heap.size)) (w' := w.alloc (.map #[] 0)) (by simp [execOp, Instr.makeMap, newObj, Sem.run]) ⟨gh', j2, j1, j3⟩
  case lookup t x i ok =>
    simp only at hr
    split at hr
    case h_2 => exact hr.fail_inv.elim
    rename_i e k he hk
    split at hr
    case h_2 => exact hr.fail_inv.elim
    rename_i z hz
    obtain ⟨kt, ht, hkt⟩ := mapEl_some he
    obtain ⟨rfl, u, j1, j2⟩ := aLookup_sound ht hkt hz hr h.mem (h.ev x)
    have e := keyOf_some hk (h.ev i)
    exact .val (v := u) (w' := w) (by simp [execOp, e, j1]) (.same h.mem j2)
  case mapUpdate t x k y =>
    simp only at hr
    split at hr
    case h_2 => exact hr.fail_inv.elim
    rename_i e n he hk
    obtain ⟨kt, ht, hkt⟩ := mapEl_some he
    obtain ⟨u, m1, f1, f2, h1, h2⟩ := hr.bind_inv
    obtain ⟨_, m2, f3, f4, h3, h4⟩ := h2.bind_inv
    obtain ⟨rfl, rfl⟩ := h4.ret_inv
    obtain ⟨gh1, k1, k2, _, k3, _⟩ := reify_sound _ h1 h.mem
    obtain ⟨id, hid⟩ := aMapSet_gm h3
    have hx := h.ev x
    rw [hid] at hx
    simp only [LVRel] at hx
    obtain ⟨w', j1, j2, j3⟩ := aMapPut_sound ht hkt h3 k1 (by rw [hid]; simp only [LVRel]; exact hx.mono k2.ext) (k3 _ (h.ev y))
    have e := keyOf_some hk (h.ev k)
    exact .skip (w' := w') (by simp [execOp, e, j1]) (.after k2 ⟨gh1, j3, j2, lv_base _⟩)
  all_goals exact hr.fail_inv.elim
end
end Go.Vai
namespace Go.Vai
def wantOf : LV → Bool → Option Bool
 | .v (.base v), want => match v with
  | .bool b => some (b == want)
  | _ => some false
 | .cond c x, want => (wantOf x want).map (c && ·)
 | _, _ => none
def wantO (ops : Array Oper) (σ : St) (o : Oper) : Option Bool :=
 match o.guard with
 | none => some true
 | some (j, want) => match (ops[j]?).bind (·.dst) with
  | none => some false
  | some t => wantOf (σ.slots t) want
def HStep (P : Program) (o : Oper) (σ : St) (lv : LV) (m' : Mem) : Prop := ∀ gh a w, Sim gh σ a w → OpsTo P o a w (Post gh w σ.mem m' lv)
inductive AStep (P : Program) (C : Contract) (cfg : Cfg) (ops : Array Oper) (o : Oper) (σ : St) : LV → Mem → Fp → Prop where
 | run {lv m' fp} (h : wantO ops σ o = some true) (hr : Run C (act P cfg σ.raw o) σ.mem lv m' fp) : AStep P C cfg ops o σ lv m' fp
 | skip (h : wantO ops σ o = some false) : AStep P C cfg ops o σ (.v (.base undef)) σ.mem {}
 | merge {c lv fp} (h : wantO ops σ o = some c) (hf : (∀ n, n ∈ fp.ws → n ∈ fp.ns) ∧ (fp.gw = true → fp.g = true)) (hr : c = true → Run C (act P cfg σ.raw o) σ.mem lv σ.mem fp) : AStep P C cfg ops o σ (.cond c lv) σ.mem fp
 | heap {lv m'} (h : wantO ops σ o = some true) (hs : HStep P o σ lv m') : AStep P C cfg ops o σ lv m' { h := true }
def St.next (σ : St) (o : Oper) (lv : LV) (m' : Mem) : St := ({ σ with mem := m' } : St).put o.dst lv
def dstOK (o : Oper) (n : Nat) : Bool := match o.dst with | some d => decide (d < n) | none => true
def boolOf : Value → Option Bool
 | .bool b => some b
 | _ => none
theorem wantOf_sound {gh w objs} : ∀ {x : LV} {v : Value} {want c : Bool}, LVRel gh w objs x v → wantOf x want = some c → (boolOf v == some want) = c
 | .v (.base u), v, want, c, h, hw => by
  obtain rfl := base_val h
  unfold wantOf at hw
  split at hw
  ·simp only [Option.some.injEq] at hw; subst hw; simp [boolOf]
  ·rename_i hb
   simp only [Option.some.injEq] at hw; subst hw
   cases v <;> first
    | rfl
    | exact (hb _ rfl).elim
 | .cond d x, v, want, c, h, hw => by
  simp only [wantOf, Option.map_eq_some_iff] at hw
  obtain ⟨e, h1, rfl⟩ := hw
  simp only [LVRel] at h
  cases d with
  | true => simpa using wantOf_sound (h.1 rfl) h1
  | false => rw [h.2 rfl]; simp [boolOf, undef]
 | .v (.sl ..), _, _, _, _, hw => by simp [wantOf] at hw
 | .v (.agg ..), _, _, _, _, hw => by simp [wantOf] at hw
 | .v (.tup ..), _, _, _, _, hw => by simp [wantOf] at hw
 | .v (.iptr ..), _, _, _, _, hw => by simp [wantOf] at hw
 | .v (.clo ..), _, _, _, _, hw => by simp [wantOf] at hw
 | .v (.gp ..), _, _, _, _, hw => by simp [wantOf] at hw
 | .v (.gm ..), _, _, _, _, hw => by simp [wantOf] at hw
 | .v (.mp ..), _, _, _, _, hw => by simp [wantOf] at hw
 | .dead, _, _, _, _, hw => by simp [wantOf] at hw
 | .own .., _, _, _, _, hw => by simp [wantOf] at hw
 | .lptr .., _, _, _, _, hw => by simp [wantOf] at hw
 | .eptr .., _, _, _, _, hw => by simp [wantOf] at hw
 | .agg .., _, _, _, _, hw => by simp [wantOf] at hw
 | .tup .., _, _, _, _, hw => by simp [wantOf] at hw
theorem wantO_sound {gh σ a w ops o c} (hs : Sim gh σ a w) (h : wantO ops σ o = some c) : Region.wanted o (yielded ops a.tmps) = c := by
 unfold wantO at h
 unfold Region.wanted
 cases hg : o.guard with
 | none => rw [hg] at h; simp only [Option.some.injEq] at h; subst h; rfl
 | some jw =>
  obtain ⟨j, want⟩ := jw
  rw [hg] at h
  simp only at h ⊢
  unfold yielded
  cases hd : (ops[j]?).bind (·.dst) with
  | none => rw [hd] at h; simp at h; subst h; simp
  | some t =>
   rw [hd] at h
   simp only at h
   have := wantOf_sound (hs.slots t) h
   rw [← this]
   simp only [Option.bind_some]
   congr 1
   rw [Array.getD_eq_getD_getElem?]
   cases ht : a.tmps[t]? with
   | none => simp [boolOf, undef]
   | some v => cases v <;> simp [boolOf]
theorem St.next_mem {σ : St} {o : Oper} {lv : LV} {m' : Mem} : (σ.next o lv m').mem = m' := by
 unfold St.next St.put; cases o.dst <;> rfl
theorem Sim.put {gh σ a w m' lv v w' o} (hs : Sim gh σ a w) (hd : dstOK o σ.n = true) (h : Post gh w σ.mem m' lv v w') :
  ∃ gh', Sim gh' (σ.next o lv m') (a.put o.dst v) w' ∧ Keeps gh w σ.mem gh' w' m' := by
 obtain ⟨gh', h1, h2, h3⟩ := h
 refine ⟨gh', ?_, h1⟩
 unfold St.next St.put Act.put
 unfold dstOK at hd
 cases hdst : o.dst with
 | none => exact ⟨hs.n, hs.defers, fun t => h1.lv (hs.slots t), h2⟩
 | some d =>
  rw [hdst] at hd
  have hd : d < σ.n := by simpa using hd
  refine ⟨by simp [hs.n], hs.defers, fun t => ?_, h2⟩
  simp only [upd]
  rw [Array.getD_eq_getD_getElem?, Array.getElem?_setIfInBounds]
  by_cases e : t = d
  ·subst e
   simp only [if_true, if_pos (show t < a.tmps.size by rw [hs.n]; exact hd), Option.getD_some]
   exact h3
  ·rw [if_neg e, if_neg (fun h => e h.symm), ← Array.getD_eq_getD_getElem?]
   exact h1.lv (hs.slots t)
theorem AStep.sound {P cfg ops o σ lv m' fp gh a w i Q} (hi : ops[i]? = some o) (h : AStep P (Good P) cfg ops o σ lv m' fp) (hd : dstOK o σ.n = true) (hs : Sim gh σ a w) {K : Act → World → Prop}
  (hK : ∀ gh' a' w', Sim gh' (σ.next o lv m') a' w' → Keeps gh w σ.mem gh' w' m' → K a' w') : wpOp P ops Q i K a w := by
 unfold wpOp
 simp only [hi]
 have doit : ∀ {lv m' fp}, Run (Good P) (act P cfg σ.raw o) σ.mem lv m' fp → (∀ gh' a' w', Sim gh' (σ.next o lv m') a' w' → Keeps gh w σ.mem gh' w' m' → K a' w') → o.wp P a w K Q := fun hr hK =>
  act_sound ⟨hs.mem, fun x => raw_rel hs x⟩ hr _ Q fun v w' hp => by
   obtain ⟨gh', h1, h2⟩ := hs.put hd hp
   exact hK gh' _ w' h1 h2
 cases h with
 | run h hr =>
  rw [wantO_sound hs h, if_pos rfl]
  exact .inl (doit hr hK)
 | heap h hr =>
  rw [wantO_sound hs h, if_pos rfl]
  refine .inl (hr gh a w hs _ Q fun v w' hp => ?_)
  obtain ⟨gh', h1, h2⟩ := hs.put hd hp
  exact hK gh' _ w' h1 h2
 | skip h =>
  rw [wantO_sound hs h, if_neg (by simp)]
  obtain ⟨gh', h1, h2⟩ := hs.put hd (Post.same hs.mem (lv_base undef))
  exact hK gh' _ w h1 h2
 | @merge c lv _ h _ hr =>
  rw [wantO_sound hs h]
  cases c with
  | true =>
   rw [if_pos rfl]
   refine .inl (act_sound ⟨hs.mem, fun x => raw_rel hs x⟩ (hr rfl) _ Q fun v w' ⟨g, q1, q2, q3⟩ => ?_)
   obtain ⟨gh', h1, h2⟩ := hs.put (lv := .cond true lv) hd ⟨g, q1, q2, by simp [LVRel]; exact q3⟩
   exact hK gh' _ w' h1 h2
  | false =>
   rw [if_neg (by simp)]
   obtain ⟨gh', h1, h2⟩ := hs.put (lv := .cond false lv) hd (Post.same (v := undef) hs.mem (by simp [LVRel]))
   exact hK gh' _ w h1 h2
def AOps (P : Program) (C : Contract) (cfg : Cfg) (ops : Array Oper) : List Nat → St → (St → Prop) → Prop
 | [], σ, Q => Q σ
 | i :: r, σ, Q => ∃ o lv m' fp, ops[i]? = some o ∧ dstOK o σ.n = true ∧ AStep P C cfg ops o σ lv m' fp ∧ AOps P C cfg ops r (σ.next o lv m') Q
theorem AOps.sound {P cfg ops R} {Q : Exit → Act → World → Prop} : ∀ (l : List Nat) {σ gh a w}, AOps P (Good P) cfg ops l σ R → Sim gh σ a w →
  (∀ σ' gh' a' w', R σ' → Sim gh' σ' a' w' → Keeps gh w σ.mem gh' w' σ'.mem → Q .normal a' w') → wpOps P ops Q l a w
 | [], σ, gh, a, w, h, hs, hQ => hQ σ gh a w h hs (Keeps.refl _ _ _)
 | i :: r, σ, gh, a, w, ⟨o, lv, m', fp, hi, hd, hst, hr⟩, hs, hQ => by
  rw [wpOps_cons]
  exact hst.sound hi hd hs fun gh' a' w' hs' he => AOps.sound r hr hs' fun σ'' gh'' a'' w'' hR h1 h2 => hQ σ'' gh'' a'' w'' hR h1 (he.trans (by rw [St.next_mem] at h2; exact h2))
end Go.Vai
namespace Go.Vai
structure Ev where
 lv : LV
 mem : Mem
 fp : Fp
def Ev.over (e : Ev) (m : Mem) : Mem := ⟨fun n => if n ∈ e.fp.ws ∨ e.fp.h = true then e.mem.objs n else m.objs n, if e.fp.gw = true ∨ e.fp.h = true then e.mem.G else m.G⟩
def Ev.app (e : Ev) (o : Oper) (σ : St) : St := σ.next o e.lv (e.over σ.mem)
section
variable {P : Program} {C : Contract} {cfg : Cfg} {ops : Array Oper}
def Ev.ok (P : Program) (C : Contract) (cfg : Cfg) (ops : Array Oper) (e : Ev) (o : Oper) (σ : St) : Prop := AStep P C cfg ops o σ e.lv (e.over σ.mem) e.fp
theorem Mem.ext' {m m' : Mem} (h : ∀ n, m.objs n = m'.objs n) (h' : m.G = m'.G) : m = m' := by
 cases m; cases m'; simp only [Mem.mk.injEq]; exact ⟨funext h, h'⟩
theorem over_self {p : M LV} {m : Mem} {lv : LV} {m' : Mem} {f : Fp} (h : Run C p m lv m' f) : (⟨lv, m', f⟩ : Ev).over m = m' := by
 obtain ⟨⟨h1, h2⟩, _⟩ := h.frame
 refine Mem.ext' (fun n => ?_) ?_
 ·simp only [Ev.over]; split
  ·rfl
  ·rename_i hn; exact (h1 n (fun e => hn (.inl e))).symm
 ·simp only [Ev.over]; split
  ·rfl
  ·rename_i hn; exact (h2 (by simpa using fun e => hn (.inl e))).symm
theorem AStep.ev {o : Oper} {σ : St} {lv : LV} {m' : Mem} {f : Fp} (h : AStep P C cfg ops o σ lv m' f) : ∃ e : Ev, e.lv = lv ∧ e.fp = f ∧ e.over σ.mem = m' ∧ e.ok P C cfg ops o σ := by
 cases h with
 | run h hr => exact ⟨⟨lv, m', f⟩, rfl, rfl, over_self hr, .run h (by rw [over_self hr]; exact hr)⟩
 | heap h hr =>
  have e : (⟨lv, m', { h := true }⟩ : Ev).over σ.mem = m' := Mem.ext' (fun n => by simp [Ev.over]) (by simp [Ev.over])
  refine ⟨⟨lv, m', { h := true }⟩, rfl, rfl, e, ?_⟩
  unfold Ev.ok; rw [e]; exact .heap h hr
 | skip h =>
  have e : (⟨.v (.base undef), σ.mem, {}⟩ : Ev).over σ.mem = σ.mem := Mem.ext' (fun n => by simp [Ev.over]) (by simp [Ev.over])
  refine ⟨⟨.v (.base undef), σ.mem, {}⟩, rfl, rfl, e, ?_⟩
  unfold Ev.ok; rw [e]; exact .skip h
 | @merge c lv _ h hf hr =>
  have e : (⟨.cond c lv, σ.mem, f⟩ : Ev).over σ.mem = σ.mem := Mem.ext' (fun n => by simp [Ev.over]) (by simp [Ev.over])
  refine ⟨⟨.cond c lv, σ.mem, f⟩, rfl, rfl, e, ?_⟩
  unfold Ev.ok; rw [e]; exact .merge h hf hr
theorem act_congr {raw raw' : Operand → LV} (o : Oper) (h : ∀ x ∈ o.op.operands, raw x = raw' x) : act P cfg raw o = act P cfg raw' o := by
 obtain ⟨dst, op, ty, pos, aft, g⟩ := o
 have lst : ∀ xs : List Operand, (∀ x ∈ xs, raw x = raw' x) → (xs.map fun x => opn (raw x)) = xs.map fun x => opn (raw' x) := fun xs hx => List.map_congr_left fun x hm => by rw [hx x hm]
 have opt : ∀ o : Option Operand, (∀ x, o = some x → raw x = raw' x) → (o.map fun x => opn (raw x)) = o.map fun x => opn (raw' x) := fun o ho => by cases o <;> simp; rw [ho _ rfl]
 cases op <;> simp only [Op.operands] at h <;> try (simp only [act]; done)
 case build t ps =>
  simp only [act]
  rw [List.map_congr_left (l := ps.toList) (g := fun p => (p.1, opn (raw' p.2))) fun p hp => by rw [h p.2 (by simp; exact ⟨p.1, by simpa using hp⟩)]]
 case buildSlice t n ps =>
  simp only [act]
  rw [List.map_congr_left (l := ps.toList) (g := fun p => opn (raw' p.2)) fun p hp => by rw [h p.2 (by simp; exact ⟨p.1, by simpa using hp⟩)]]
 case makeFunc fn first captured =>
  simp only [act]
  rw [lst _ fun x hx => h x (by simp; exact .inr (by simpa using hx))]
 case call c =>
  obtain ⟨callee, args, ats⟩ := c
  simp only [act]
  rw [lst _ fun x hx => h x (by cases callee <;> simp [Call.operands] <;> simp_all)]
  cases callee with
  | value f => simp only; rw [h f (by simp [Call.operands])]
  | builtin b => rfl
  | invoke r n => rfl
 case slice t x lo hi mx =>
  simp only [act]
  rw [opt lo fun y e => h y (by simp [e]), opt hi fun y e => h y (by simp [e]), opt mx fun y e => h y (by simp [e]), h x (by simp)]
 all_goals (simp only [act]; simp_all)
theorem raw_put {σ : St} {o : Oper} {lv : LV} {m : Mem} {x : Operand} (h : ∀ d, o.dst = some d → x ≠ .tmp d) : (σ.next o lv m).raw x = σ.raw x := by
 unfold St.next St.put
 cases hd : o.dst with
 | none => rfl
 | some d =>
  cases x with
  | tmp t => simp only [St.raw, upd]; rw [if_neg]; intro e; subst e; exact h t hd rfl
  | _ => rfl
theorem want_put {σ : St} {o o' : Oper} {lv : LV} {m : Mem} (h : ∀ d, o.dst = some d → d ∉ o'.looksAt ops) : wantO ops (σ.next o lv m) o' = wantO ops σ o' := by
 unfold wantO
 cases hg : o'.guard with
 | none => rfl
 | some jw =>
  obtain ⟨j, want⟩ := jw
  simp only
  cases ht : (ops[j]?).bind (·.dst) with
  | none => rfl
  | some t =>
   simp only
   unfold St.next St.put
   cases hd : o.dst with
   | none => rfl
   | some d =>
    simp only [upd]
    rw [if_neg]
    intro e
    subst e
    exact h t hd (by simp [Oper.looksAt, hg, ht])
theorem Ev.ok_of {e : Ev} {o : Oper} {σ σ' : St} (h : e.ok P C cfg ops o σ) (hr : ∀ x ∈ o.op.operands, σ'.raw x = σ.raw x) (hw : wantO ops σ' o = wantO ops σ o)
  (hm : ∀ n ∈ e.fp.ns, σ'.mem.objs n = σ.mem.objs n) (hG : e.fp.g = true → σ'.mem.G = σ.mem.G) (hh : e.fp.h = false) : e.ok P C cfg ops o σ' := by
 unfold Ev.ok at h ⊢
 generalize ho : e.over σ.mem = m1 at h
 have over2 : (⟨fun n => if n ∈ e.fp.ws then m1.objs n else σ'.mem.objs n, if e.fp.gw then m1.G else σ'.mem.G⟩ : Mem) = e.over σ'.mem := by
  subst ho
  refine Mem.ext' (fun n => ?_) ?_
  ·simp only [Ev.over, hh, Bool.false_eq_true, or_false]; split <;> simp_all
  ·simp only [Ev.over, hh, Bool.false_eq_true, or_false]; split <;> simp_all
 obtain ⟨lv, em, fp⟩ := e
 simp only at h ho hm hG over2 hh ⊢
 cases h with
 | heap h1 h2 => cases hh
 | run h1 h2 =>
  refine .run (hw.trans h1) ?_
  rw [act_congr o hr, ← over2]
  exact h2.frame.2.2 σ'.mem hm hG
 | skip h1 =>
  have : (⟨.v (.base undef), em, {}⟩ : Ev).over σ'.mem = σ'.mem := Mem.ext' (fun n => by simp [Ev.over]) (by simp [Ev.over])
  rw [this]
  exact .skip (hw.trans h1)
 | @merge c lv _ h1 hf h2 =>
  have same : (⟨.cond c lv, em, fp⟩ : Ev).over σ'.mem = σ'.mem := by
   refine Mem.ext' (fun n => ?_) ?_
   ·simp only [Ev.over]; split
    ·rename_i hn
     have := congrArg (fun m : Mem => m.objs n) ho
     simp only [hh, Bool.false_eq_true, or_false] at hn
     simp only [Ev.over, hn, true_or, if_true] at this
     rw [this, hm n (hf.1 n hn)]
    ·rfl
   ·simp only [Ev.over]; split
    ·rename_i hn
     have := congrArg (fun m : Mem => m.G) ho
     simp only [hh, Bool.false_eq_true, or_false] at hn
     simp only [Ev.over, hn, true_or, if_true] at this
     rw [this, hG (hf.2 hn)]
    ·rfl
  rw [same]
  refine .merge (hw.trans h1) hf fun hc => ?_
  rw [act_congr o hr]
  have := (h2 hc).frame.2.2 σ'.mem hm hG
  have e2 : (⟨fun n => if n ∈ fp.ws then σ.mem.objs n else σ'.mem.objs n, if fp.gw then σ.mem.G else σ'.mem.G⟩ : Mem) = σ'.mem := by
   refine Mem.ext' (fun n => ?_) ?_
   ·simp only; split
    ·rename_i hn; exact (hm n (hf.1 n hn)).symm
    ·rfl
   ·simp only; split
    ·rename_i hn; exact (hG (hf.2 hn)).symm
    ·rfl
  rwa [e2] at this
theorem disj_ws {x y : Fp} (h : x.disj y = true) (n : Nm) (h1 : n ∈ x.ws) : n ∉ y.ns := by
 simp only [Fp.disj, Bool.and_eq_true, List.all_eq_true] at h
 simpa using h.1.1.1 n h1
theorem disj_gw {x y : Fp} (h : x.disj y = true) (h1 : x.gw = true) : y.g = false := by
 simp only [Fp.disj, Bool.and_eq_true] at h
 simpa [h1] using h.1.2.1
theorem disj_h {x y : Fp} (h : x.disj y = true) : x.h = false ∧ y.h = false := by
 simp only [Fp.disj, Bool.and_eq_true] at h
 simpa using h.2
theorem disj_symm {x y : Fp} (h : x.disj y = true) : y.disj x = true := by
 simp only [Fp.disj, Bool.and_eq_true] at h ⊢
 exact ⟨⟨⟨h.1.1.2, h.1.1.1⟩, by simpa [Bool.and_comm] using h.1.2.2, by simpa [Bool.and_comm] using h.1.2.1⟩, h.2.2, h.2.1⟩
theorem AStep.sub {o : Oper} {σ : St} {lv : LV} {m' : Mem} {f : Fp} (h : AStep P C cfg ops o σ lv m' f) : (∀ n, n ∈ f.ws → n ∈ f.ns) ∧ (f.gw = true → f.g = true) := by
 cases h with
 | run _ hr => exact hr.frame.2.1
 | skip _ => exact ⟨fun _ h => h, fun h => h⟩
 | merge _ hf _ => exact hf
 | heap _ _ => exact ⟨fun _ h => by simp at h, fun h => by simp at h⟩
structure Comm (ops : Array Oper) (x y : Oper × Ev) : Prop where
 slots : x.1.apart ops y.1 = true
 fps : x.2.fp.disj y.2.fp = true
theorem Comm.swap {x y : Oper × Ev} {σ : St} (h : Comm ops x y) (h1 : x.2.ok P C cfg ops x.1 σ) (h2 : y.2.ok P C cfg ops y.1 (x.2.app x.1 σ)) :
  y.2.ok P C cfg ops y.1 σ ∧ x.2.ok P C cfg ops x.1 (y.2.app y.1 σ) ∧ x.2.app x.1 (y.2.app y.1 σ) = y.2.app y.1 (x.2.app x.1 σ) := by
 obtain ⟨a1, a2, a3⟩ := Oper.apart_spec h.slots
 have lk : ∀ {o : Oper} {d : Tmp} {z : Operand}, d ∉ o.looksAt ops → z ∈ o.op.operands → z ≠ .tmp d := fun {o d z} hd hz e => by
  subst e
  exact hd (List.mem_append_left _ (List.mem_filterMap.2 ⟨.tmp d, by simpa using hz, rfl⟩))
 obtain ⟨hhx, hhy⟩ := disj_h h.fps
 refine ⟨Ev.ok_of h2 (fun z hz => ?_) ?_ (fun n hn => ?_) (fun hg => ?_) hhy, Ev.ok_of h1 (fun z hz => ?_) ?_ (fun n hn => ?_) (fun hg => ?_) hhx, ?_⟩
 ·exact (raw_put fun d hd => lk (a1 d hd) hz).symm
 ·exact (want_put fun d hd => a1 d hd).symm
 ·simp only [Ev.app, St.next_mem, Ev.over, hhx, Bool.false_eq_true, or_false]
  rw [if_neg fun hx => disj_ws h.fps n hx hn]
 ·simp only [Ev.app, St.next_mem, Ev.over]
  have : x.2.fp.gw = false := by
   cases hx : x.2.fp.gw with
   | false => rfl
   | true => have := disj_gw h.fps hx; rw [hg] at this; cases this
  rw [this]; simp [hhx, hhy]
 ·exact raw_put fun d hd => lk (a3 d hd) hz
 ·exact want_put fun d hd => a3 d hd
 ·simp only [Ev.app, St.next_mem, Ev.over, hhy, Bool.false_eq_true, or_false]
  rw [if_neg fun hx => disj_ws (disj_symm h.fps) n hx hn]
 ·simp only [Ev.app, St.next_mem, Ev.over]
  have : y.2.fp.gw = false := by
   cases hx : y.2.fp.gw with
   | false => rfl
   | true => have := disj_gw (disj_symm h.fps) hx; rw [hg] at this; cases this
  rw [this]; simp [hhx, hhy]
 ·have hm : x.2.over (y.2.over σ.mem) = y.2.over (x.2.over σ.mem) := by
   have hy := AStep.sub (f := y.2.fp) h2
   refine Mem.ext' (fun n => ?_) ?_
   ·simp only [Ev.over, hhx, hhy, Bool.false_eq_true, or_false]
    by_cases hx : n ∈ x.2.fp.ws
    ·have hn : n ∉ y.2.fp.ws := fun h' => disj_ws h.fps n hx (hy.1 n h')
     simp [hx, hn]
    ·simp [hx]
   ·simp only [Ev.over, hhx, hhy, Bool.false_eq_true, or_false]
    cases hx : x.2.fp.gw with
    | true =>
     have hn : y.2.fp.gw = false := by
      cases hyw : y.2.fp.gw with
      | false => rfl
      | true => have := hy.2 hyw; rw [disj_gw h.fps hx] at this; cases this
     simp [hn]
    | false => simp
  simp only [Ev.app, St.next, St.put]
  cases hx : x.1.dst with
  | none =>
   cases hy : y.1.dst with
   | none => simp [hm]
   | some e => simp [hm]
  | some d =>
   cases hy : y.1.dst with
   | none => simp [hm]
   | some e =>
    have hne : d ≠ e := fun he => a2 d hx (by rw [hy, he])
    simp only [hm, St.mk.injEq, true_and, and_true]
    funext t
    simp only [upd]
    by_cases h1 : t = d
    ·subst h1; simp [hne]
    ·simp [h1]
def Row (P : Program) (C : Contract) (cfg : Cfg) (ops : Array Oper) : List (Oper × Ev) → St → St → Prop
 | [], σ, σ' => σ' = σ
 | x :: r, σ, σ' => x.2.ok P C cfg ops x.1 σ ∧ Row P C cfg ops r (x.2.app x.1 σ) σ'
theorem Row.front {x : Oper × Ev} {post : List (Oper × Ev)} {σ' : St} : ∀ (pre : List (Oper × Ev)) {σ : St}, Row P C cfg ops (pre ++ x :: post) σ σ' → (∀ y ∈ pre, Comm ops y x) →
  x.2.ok P C cfg ops x.1 σ ∧ Row P C cfg ops (pre ++ post) (x.2.app x.1 σ) σ'
 | [], σ, h, _ => h
 | y :: pre, σ, h, hc => by
  obtain ⟨h1, h2⟩ := h
  obtain ⟨h3, h4⟩ := Row.front pre h2 fun z hz => hc z (List.mem_cons_of_mem _ hz)
  obtain ⟨k1, k2, k3⟩ := (hc y (List.mem_cons_self ..)).swap h1 h3
  exact ⟨k1, k2, by rw [k3]; exact h4⟩
def depends (ops : Array Oper) : Nat → Nat → Nat → Bool
 | 0, _, _ => false
 | f + 1, i, k => match ops[i]? with
  | none => false
  | some o => (o.after.any fun e => Region.binds .any e && e.on == k) || o.after.any fun e => Region.binds .any e && depends ops f e.on k
def Closed (ops : Array Oper) (listed : Array Bool) : Prop :=
 ∀ (i : Nat) (o : Oper), ops[i]? = some o → listed.getD i true = true → ∀ e ∈ o.after, Region.binds .any e = true → listed.getD e.on false = true
theorem getD_ff {l : Array Bool} {i : Nat} (h : l.getD i false = true) : l.getD i true = true := by
 rw [Array.getD_eq_getD_getElem?] at *
 cases hl : l[i]? with
 | none => rfl
 | some b => rw [hl] at h; simpa using h
theorem depends_listed {listed : Array Bool} (hc : Closed ops listed) : ∀ (f i k : Nat), (∀ o, ops[i]? = some o → ∀ e ∈ o.after, Region.binds .any e = true → listed.getD e.on false = true) → depends ops f i k = true → listed.getD k false = true
 | 0, _, _, _, h => by simp [depends] at h
 | f + 1, i, k, hi, h => by
  simp only [depends] at h
  cases ho : ops[i]? with
  | none => rw [ho] at h; simp at h
  | some o =>
   rw [ho] at h
   simp only [Bool.or_eq_true] at h
   rcases h with h | h
   ·obtain ⟨e, he, hb⟩ := Array.any_eq_true'.1 h
    simp only [Bool.and_eq_true, beq_iff_eq] at hb
    have hl := hi o ho e he hb.1
    rw [← hb.2]; exact hl
   ·obtain ⟨e, he, hb⟩ := Array.any_eq_true'.1 h
    simp only [Bool.and_eq_true] at hb
    have hl := hi o ho e he hb.1
    have h1 := hb.2
    exact depends_listed hc f e.on k (fun o' ho' e' he' hb' => hc e.on o' ho' (getD_ff hl) e' he' hb') h1
def pairOK (ops : Array Oper) (x y : Nat × Fp) : Bool :=
 (match ops[x.1]?, ops[y.1]? with
  | some a, some b => a.apart ops b && x.2.disj y.2
  | _, _ => false) || depends ops ops.size y.1 x.1
def pairsOK (ops : Array Oper) : List (Nat × Fp) → Bool
 | [] => true
 | x :: r => r.all (pairOK ops x) && pairsOK ops r
def lowOK (ops : Array Oper) : Bool := ops.toList.zipIdx.all fun p => p.1.after.all fun e => !Region.binds .any e || decide (e.on < p.2)
abbrev Still := Nat × Oper × Ev
structure Left (P : Program) (C : Contract) (cfg : Cfg) (ops : Array Oper) (listed : Array Bool) (rem : List Still) (σ σ' : St) : Prop where
 mem : ∀ i, i ∈ rem.map (·.1) ↔ i < ops.size ∧ listed.getD i true = false
 at_ : ∀ x ∈ rem, ops[x.1]? = some x.2.1
 sorted : rem.Pairwise fun x y => x.1 < y.1
 pairs : rem.Pairwise fun x y => depends ops ops.size y.1 x.1 = true ∨ Comm ops x.2 y.2
 closed : Closed ops listed
 row : Row P C cfg ops (rem.map (·.2)) σ σ'
theorem Row.dst {x : Oper × Ev} (σ : St) : (x.2.app x.1 σ).n = σ.n := by
 unfold Ev.app St.next St.put; cases x.1.dst <;> rfl
theorem wpAny_left {Q : Exit → Act → World → Prop} (hlow : lowOK ops = true) {n : Nat} (hdst : ∀ (i : Nat) (o : Oper), ops[i]? = some o → dstOK o n = true) {σ' : St} :
  ∀ (fuel : Nat) {listed : Array Bool} {rem : List Still} {σ : St} {gh : Gh} {a : Act} {w : World}, Left P (Good P) cfg ops listed rem σ σ' → rem.length ≤ fuel → σ.n = n → Sim gh σ a w →
   (∀ gh' a' w', Sim gh' σ' a' w' → Keeps gh w σ.mem gh' w' σ'.mem → Q .normal a' w') → wpAny P .any ops Q fuel listed a w := by
 intro fuel
 induction fuel with
 | zero =>
  intro listed rem σ gh a w hl hf hn hs hQ
  have : rem = [] := List.eq_nil_of_length_eq_zero (by omega)
  subst this
  have hr := hl.row
  simp only [List.map_nil, Row] at hr
  subst hr
  refine ⟨?_, hQ gh a w hs (Keeps.refl _ _ _)⟩
  cases hrd : Region.ready .any ops listed with
  | nil => rfl
  | cons i r =>
   have : i ∈ Region.ready .any ops listed := by rw [hrd]; exact List.mem_cons_self ..
   obtain ⟨h0, o, ho, _⟩ := mem_ready.1 this
   have := (hl.mem i).2 ⟨(Array.getElem?_eq_some_iff.1 ho).1, h0⟩
   simp at this
 | succ fuel ih =>
  intro listed rem σ gh a w hl hf hn hs hQ
  refine ⟨fun hrd => ?_, fun i hi => ?_⟩
  ·cases rem with
   | nil =>
    have hr := hl.row
    simp only [List.map_nil, Row] at hr
    subst hr
    exact hQ gh a w hs (Keeps.refl _ _ _)
   | cons x r =>
    exfalso
    have hx := (hl.mem x.1).1 (by simp)
    have ho := hl.at_ x (by simp)
    have : x.1 ∈ Region.ready .any ops listed := by
     refine mem_ready.2 ⟨hx.2, x.2.1, ho, fun e he hb => ?_⟩
     have hlt : e.on < x.1 := by
      have := List.all_eq_true.1 hlow (x.2.1, x.1) (by rw [List.mem_zipIdx_iff_getElem?]; simpa using ho)
      have := Array.all_eq_true_iff_forall_mem.1 this e he
      simpa [hb] using this
     cases hel : listed.getD e.on true with
     | true =>
      have hes : e.on < listed.size := by
       rcases Nat.lt_or_ge e.on listed.size with h | h
       ·exact h
       ·have hxs : listed.getD x.1 true = true := by
         rw [Array.getD_eq_getD_getElem?, Array.getElem?_eq_none (by omega)]; rfl
        rw [hx.2] at hxs; cases hxs
      rw [Array.getD_eq_getD_getElem?, Array.getElem?_eq_getElem hes] at hel ⊢
      simpa using hel
     | false =>
      have hm := (hl.mem e.on).2 ⟨by omega, hel⟩
      simp only [List.map_cons, List.mem_cons] at hm
      rcases hm with h | h
      ·omega
      ·obtain ⟨y, hy, e1⟩ := List.mem_map.1 h
       have := (List.pairwise_cons.1 hl.sorted).1 y hy
       omega
    rw [hrd] at this
    cases this
  ·obtain ⟨h0, o, ho, hall⟩ := mem_ready.1 hi
   have hm := (hl.mem i).2 ⟨(Array.getElem?_eq_some_iff.1 ho).1, h0⟩
   obtain ⟨x, hx, rfl⟩ := List.mem_map.1 hm
   obtain ⟨pre, post, rfl⟩ := List.append_of_mem hx
   have hox := hl.at_ x hx
   have hcomm : ∀ y ∈ pre.map (·.2), Comm ops y x.2 := by
    intro y' hy'
    obtain ⟨y, hy, rfl⟩ := List.mem_map.1 hy'
    rcases (List.pairwise_append.1 hl.pairs).2.2 y hy x (by simp) with h | h
    ·exfalso
     have h1 := depends_listed hl.closed _ _ _ (fun o' ho' => by rw [ho] at ho'; simp only [Option.some.injEq] at ho'; subst ho'; exact hall) h
     have h2 := (hl.mem y.1).1 (by simp; exact .inl ⟨_, _, hy⟩)
     rw [getD_ff h1] at h2
     cases h2.2
    ·exact h
   have hr := hl.row
   rw [List.map_append, List.map_cons] at hr
   obtain ⟨k1, k2⟩ := Row.front _ hr hcomm
   rw [hox] at ho
   simp only [Option.some.injEq] at ho
   refine AStep.sound hox k1 (hn ▸ hdst _ _ hox) hs fun gh' a' w' hs' he' => ?_
   refine ih (rem := pre ++ post) (σ := x.2.2.app x.2.1 σ) ⟨fun j => ?_, fun y hy => hl.at_ y (by simp at hy ⊢; rcases hy with h | h <;> simp [h]), ?_, ?_, fun j oj hj hlj e he hb => ?_, by rw [List.map_append]; exact k2⟩
    (by simp at hf ⊢; omega) (by rw [Row.dst]; exact hn) hs' fun gh'' a'' w'' h1 h2 => hQ _ _ _ h1 (he'.trans (by have e : (x.2.2.app x.2.1 σ).mem = x.2.2.over σ.mem := St.next_mem; rw [e] at h2; exact h2))
   ·have hxs : x.1 < listed.size := by
     rcases Nat.lt_or_ge x.1 listed.size with h | h
     ·exact h
     ·rw [Array.getD_eq_getD_getElem?, Array.getElem?_eq_none h] at h0; cases h0
    have hnot : ∀ y ∈ pre ++ post, y.1 ≠ x.1 := fun y hy => by
     have hs := List.pairwise_append.1 hl.sorted
     rcases List.mem_append.1 hy with h | h
     ·have := hs.2.2 y h x (by simp); omega
     ·have := (List.pairwise_cons.1 hs.2.1).1 y h; omega
    by_cases hj : j = x.1
    ·subst hj
     constructor
     ·intro h
      obtain ⟨y, hy, e⟩ := List.mem_map.1 h
      exact absurd e (hnot y hy)
     ·intro h
      simp [hxs] at h
    ·rw [getD_set_ne true (fun e => hj e.symm), ← hl.mem j]
     simp only [List.map_append, List.map_cons, List.mem_append, List.mem_cons]
     grind
   ·exact (hl.sorted.sublist (by simp))
   ·exact (hl.pairs.sublist (by simp))
   ·by_cases hjx : j = x.1
    ·subst hjx
     rw [hox] at hj; simp only [Option.some.injEq] at hj; subst hj
     rw [ho] at he
     exact getD_set_true (hall e he hb)
    ·rw [getD_set_ne true (fun e => hjx e.symm)] at hlj
     exact getD_set_true (hl.closed j oj hj hlj e he hb)
def Sub (x y : Fp) : Prop := (∀ n, n ∈ x.ns → n ∈ y.ns) ∧ (∀ n, n ∈ x.ws → n ∈ y.ws) ∧ (x.g = true → y.g = true) ∧ (x.gw = true → y.gw = true) ∧ (x.h = true → y.h = true)
def ADraw (P : Program) (C : Contract) (cfg : Cfg) (ops : Array Oper) : List Nat → St → List (Nat × Fp) → (St → Prop) → Prop
 | [], σ, acc, Q => pairsOK ops acc.reverse = true ∧ Q σ
 | i :: r, σ, acc, Q => ∃ o lv m' fp fq, ops[i]? = some o ∧ AStep P C cfg ops o σ lv m' fp ∧ Sub fp fq ∧ ADraw P C cfg ops r (σ.next o lv m') ((i, fq) :: acc) Q
def dstsOK (ops : Array Oper) (n : Nat) : Bool := ops.all fun o => dstOK o n
theorem sub_of_same {x y : Fp} (h : Same x (({} : Fp).app y)) : Sub y x := by
 obtain ⟨h1, h2, h3, h4, h5⟩ := h
 refine ⟨fun n hn => (h1 n).2 (by simpa [Fp.app] using hn), fun n hn => (h2 n).2 (by simpa [Fp.app] using hn), fun hg => ?_, fun hg => ?_, fun hg => ?_⟩
 ·rw [h3]; simpa [Fp.app] using hg
 ·rw [h4]; simpa [Fp.app] using hg
 ·rw [h5]; simpa [Fp.app] using hg
theorem sub_none (x : Fp) : Sub {} x := ⟨fun _ h => by simp at h, fun _ h => by simp at h, fun h => by simp at h, fun h => by simp at h, fun h => by simp at h⟩
theorem disj_sub {x y x' y' : Fp} (h : x.disj y = true) (hx : Sub x' x) (hy : Sub y' y) : x'.disj y' = true := by
 simp only [Fp.disj, Bool.and_eq_true, List.all_eq_true] at h ⊢
 obtain ⟨⟨⟨h1, h2⟩, h3, h4⟩, h5, h6⟩ := h
 obtain ⟨x1, x2, x3, x4, x5⟩ := hx
 obtain ⟨y1, y2, y3, y4, y5⟩ := hy
 simp only [Bool.not_eq_true', List.contains_eq_mem, decide_eq_false_iff_not, Bool.and_eq_false_iff] at h1 h2 h3 h4 h5 h6 ⊢
 refine ⟨⟨⟨fun n hn hm => h1 n (x2 n hn) (y1 n hm), fun n hn hm => h2 n (y2 n hn) (x1 n hm)⟩, ?_, ?_⟩, ?_, ?_⟩
 ·cases hg : x'.gw <;> cases hk : y'.g <;> simp_all
 ·cases hg : x'.g <;> cases hk : y'.gw <;> simp_all
 ·cases hg : x'.h <;> simp_all
 ·cases hg : y'.h <;> simp_all
theorem ADraw.row {Q : St → Prop} : ∀ (l : List Nat) {σ : St} {acc : List (Nat × Fp)}, ADraw P C cfg ops l σ acc Q →
  ∃ (rem : List Still) (fqs : List (Nat × Fp)) (σ' : St), rem.map (·.1) = l ∧ (∀ x ∈ rem, ops[x.1]? = some x.2.1) ∧ Row P C cfg ops (rem.map (·.2)) σ σ' ∧ Q σ' ∧
   fqs.length = rem.length ∧ (∀ (j : Nat) (x : Still) (q : Nat × Fp), rem[j]? = some x → fqs[j]? = some q → q.1 = x.1 ∧ Sub x.2.2.fp q.2) ∧ pairsOK ops (acc.reverse ++ fqs) = true
 | [], σ, acc, h => ⟨[], [], σ, rfl, by simp, rfl, h.2, rfl, by simp, by simpa using h.1⟩
 | i :: r, σ, acc, ⟨o, lv, m', fp, fq, h1, h2, h3, h4⟩ => by
  obtain ⟨e, e1, e2, e3, e4⟩ := h2.ev
  subst e1 e2 e3
  obtain ⟨rem, fqs, σ', k1, k2, k3, k4, k5, k6, k7⟩ := ADraw.row r h4
  refine ⟨(i, o, e) :: rem, (i, fq) :: fqs, σ', by simp [k1], fun x hx => ?_, ⟨e4, k3⟩, k4, by simp [k5], fun j x q hx hq => ?_, by simpa using k7⟩
  ·rcases List.mem_cons.1 hx with rfl | hx
   ·exact h1
   ·exact k2 x hx
  ·cases j with
   | zero => simp at hx hq; subst hx hq; exact ⟨rfl, h3⟩
   | succ j => exact k6 j x q (by simpa using hx) (by simpa using hq)
theorem pairsOK_pairwise : ∀ {l : List (Nat × Fp)}, pairsOK ops l = true → l.Pairwise fun x y => pairOK ops x y = true
 | [], _ => .nil
 | x :: r, h => by
  simp only [pairsOK, Bool.and_eq_true, List.all_eq_true] at h
  exact .cons h.1 (pairsOK_pairwise h.2)
theorem ADraw.sound {Q : Exit → Act → World → Prop} {R : St → Prop} {σ : St} {gh : Gh} {a : Act} {w : World} (hlow : lowOK ops = true) (hd : dstsOK ops σ.n = true) (h : ADraw P (Good P) cfg ops (List.range ops.size) σ [] R)
  (hs : Sim gh σ a w) (hQ : ∀ σ' gh' a' w', R σ' → Sim gh' σ' a' w' → Keeps gh w σ.mem gh' w' σ'.mem → Q .normal a' w') : wpAny P .any ops Q ops.size (Array.replicate ops.size false) a w := by
 obtain ⟨rem, fqs, σ', k1, k2, k3, k4, k5, k6, k7⟩ := ADraw.row _ h
 have hlen : rem.length = ops.size := by have := congrArg List.length k1; simpa using this
 have hat : ∀ (j : Nat) (hj : j < rem.length), rem[j].1 = j := fun j hj => by
  have := congrArg (·[j]?) k1
  simp only [List.getElem?_map, List.getElem?_eq_getElem hj, Option.map_some] at this
  rw [List.getElem?_range (by omega)] at this
  simpa using this
 refine wpAny_left (n := σ.n) hlow (fun i o ho => Array.all_eq_true_iff_forall_mem.1 hd o (Array.mem_of_getElem? ho)) ops.size ⟨fun i => ?_, k2, ?_, ?_, fun i o ho hl => ?_, k3⟩ (by omega) rfl hs fun gh' a' w' h1 h2 => hQ σ' gh' a' w' k4 h1 h2
 ·rw [k1, List.mem_range]
  constructor
  ·intro h; exact ⟨h, by rw [Array.getD_eq_getD_getElem?]; simp [h]⟩
  ·exact fun h => h.1
 ·rw [List.pairwise_iff_getElem]
  intro i j hi hj hij
  rw [hat, hat]; exact hij
 ·rw [List.pairwise_iff_getElem]
  intro i j hi hj hij
  have := pairsOK_pairwise k7
  simp only [List.reverse_nil, List.nil_append] at this
  rw [List.pairwise_iff_getElem] at this
  have := this i j (by omega) (by omega) hij
  obtain ⟨a1, a2⟩ := k6 i _ _ (List.getElem?_eq_getElem hi) (List.getElem?_eq_getElem (by omega))
  obtain ⟨b1, b2⟩ := k6 j _ _ (List.getElem?_eq_getElem hj) (List.getElem?_eq_getElem (by omega))
  simp only [pairOK, Bool.or_eq_true] at this
  rcases this.symm with h | h
  ·left; rw [a1, b1] at h; exact h
  ·right
   rw [a1, b1, k2 _ (List.getElem_mem hi), k2 _ (List.getElem_mem hj)] at h
   simp only [Bool.and_eq_true] at h
   exact ⟨h.1, disj_sub h.2 a2 b2⟩
 ·exfalso
  have hi := (Array.getElem?_eq_some_iff.1 ho).1
  rw [Array.getD_eq_getD_getElem?] at hl
  simp [hi] at hl
end
end Go.Vai
namespace Go.Vai
section
variable {P : Program} {cfg : Cfg}
def AW (P : Program) (c : Code) (σ : St) (Q : Exit → St → Prop) : Prop :=
 ∀ gh a w, Sim gh σ a w → c.wp P (fun e a' w' => ∃ σ' gh', Q e σ' ∧ Sim gh' σ' a' w' ∧ Keeps gh w σ.mem gh' w' σ'.mem) a w
def thenA (K : St → Prop) (Q : Exit → St → Prop) : Exit → St → Prop
 | .normal, σ => K σ
 | e, σ => Q e σ
def inBlockA (id : Nat) (Q : Exit → St → Prop) : Exit → St → Prop
 | .exit id', σ => if id' = id then Q .normal σ else Q (.exit id') σ
 | e, σ => Q e σ
theorem AW.mono {c σ Q Q'} (h : AW P c σ Q) (hq : ∀ e σ, Q e σ → Q' e σ) : AW P c σ Q' := fun gh a w hs =>
 wp_mono (h gh a w hs) fun e _ _ ⟨σ', gh', h1, h2, h3⟩ => ⟨σ', gh', hq e σ' h1, h2, h3⟩
theorem AW.skip {σ Q} (h : Q .normal σ) : AW P .skip σ Q := fun gh _ _ hs => wp_skip ⟨σ, gh, h, hs, Keeps.refl _ _ _⟩
theorem AW.ret {σ Q} (h : Q .ret σ) : AW P .ret σ Q := fun gh _ _ hs => wp_ret ⟨σ, gh, h, hs, Keeps.refl _ _ _⟩
theorem AW.exit {σ Q id} (h : Q (.exit id) σ) : AW P (.exit id) σ Q := fun gh _ _ hs => wp_exit ⟨σ, gh, h, hs, Keeps.refl _ _ _⟩
theorem AW.seq {x y σ Q} (h : AW P x σ (thenA (fun σ' => AW P y σ' Q) Q)) : AW P (.seq x y) σ Q := fun gh a w hs =>
 wp_seq (wp_mono (h gh a w hs) fun e a' w' ⟨σ', gh', h1, h2, h3⟩ => by
  cases e with
  | normal => exact wp_mono (h1 gh' a' w' h2) fun e _ _ ⟨σ'', gh'', k1, k2, k3⟩ => ⟨σ'', gh'', k1, k2, h3.trans k3⟩
  | exit id => exact ⟨σ', gh', h1, h2, h3⟩
  | goto l => exact ⟨σ', gh', h1, h2, h3⟩
  | ret => exact ⟨σ', gh', h1, h2, h3⟩
  | panic c => exact ⟨σ', gh', h1, h2, h3⟩
  | outgrown => exact ⟨σ', gh', h1, h2, h3⟩)
theorem AW.block {id c σ Q} (h : AW P c σ (inBlockA id Q)) : AW P (.block id c) σ Q := fun gh a w hs =>
 wp_block (wp_mono (h gh a w hs) fun e a' w' ⟨σ', gh', h1, h2, h3⟩ => by
  cases e with
  | exit id' =>
   simp only [inBlockA] at h1
   simp only [Exit.inBlock]
   split
   ·rename_i e; rw [if_pos e] at h1; exact ⟨σ', gh', h1, h2, h3⟩
   ·rename_i e; rw [if_neg e] at h1; exact ⟨σ', gh', h1, h2, h3⟩
  | normal => exact ⟨σ', gh', h1, h2, h3⟩
  | goto l => exact ⟨σ', gh', h1, h2, h3⟩
  | ret => exact ⟨σ', gh', h1, h2, h3⟩
  | panic c => exact ⟨σ', gh', h1, h2, h3⟩
  | outgrown => exact ⟨σ', gh', h1, h2, h3⟩)
theorem AW.cond {c x y σ Q} {b : Bool} (hc : opn (σ.raw c) = .v (.base (.bool b))) (ht : b = true → AW P x σ Q) (hf : b = false → AW P y σ Q) : AW P (.cond c x y) σ Q := fun gh a w hs => by
 have h := opn_rel _ (raw_rel hs c)
 rw [hc] at h
 exact wp_cond_split (base_val h) (fun e => ht e gh a w hs) (fun e => hf e gh a w hs)
theorem AW.loop {c σ Q} (I : Nat → St → Prop) (m0 : Nat) (h0 : I m0 σ) (round : ∀ m σ, I m σ → AW P c σ (thenA (fun σ' => ∃ m', m' < m ∧ I m' σ') Q)) : AW P (.loop c) σ Q := by
 intro gh a w hs b k cs
 have go : ∀ n σ1 gh1 a1 w1, I n σ1 → Sim gh1 σ1 a1 w1 → Keeps gh w σ.mem gh1 w1 σ1.mem →
   ∃ e a' w', (∃ σ' gh', Q e σ' ∧ Sim gh' σ' a' w' ∧ Keeps gh w σ.mem gh' w' σ'.mem) ∧ Arrives P (lone (b.at a1 (.code c :: .inLoop c :: k)) cs w1) b k cs e a' w' := by
  intro n
  induction n using Nat.strongRecOn with
  | _ n ih =>
   intro σ1 gh1 a1 w1 hI hs1 he1
   obtain ⟨e, a2, w2, ⟨σ2, gh2, hq, hs2, he2⟩, harr⟩ := round n σ1 hI gh1 a1 w1 hs1 b (.inLoop c :: k) cs
   cases e with
   | normal =>
    obtain ⟨m', hlt, hI2⟩ := hq
    obtain ⟨e3, a3, w3, hq3, harr3⟩ := ih m' hlt σ2 gh2 a2 w2 hI2 hs2 (he1.trans he2)
    exact ⟨e3, a3, w3, hq3, .of_steps (Steps.trans harr (.one step_inLoop)) harr3⟩
   | exit id => exact ⟨_, a2, w2, ⟨σ2, gh2, hq, hs2, he1.trans he2⟩, .pass (x := .inLoop c) rfl (fun _ _ => .inl (by simp)) harr⟩
   | goto l => exact ⟨_, a2, w2, ⟨σ2, gh2, hq, hs2, he1.trans he2⟩, .pass (x := .inLoop c) rfl (fun _ _ => .inl (by simp)) harr⟩
   | ret => exact ⟨_, a2, w2, ⟨σ2, gh2, hq, hs2, he1.trans he2⟩, .pass (x := .inLoop c) rfl (fun _ _ => .inl (by simp)) harr⟩
   | panic ch => exact ⟨_, a2, w2, ⟨σ2, gh2, hq, hs2, he1.trans he2⟩, .pass (x := .inLoop c) rfl (fun _ _ => .inl (by simp)) harr⟩
   | outgrown => exact ⟨_, a2, w2, ⟨σ2, gh2, hq, hs2, he1.trans he2⟩, .pass (x := .inLoop c) rfl (fun _ _ => .inl (by simp)) harr⟩
 obtain ⟨e, a', w', hq, harr⟩ := go _ σ gh a w h0 hs (Keeps.refl _ _ _)
 exact ⟨e, a', w', hq, .of_steps (.one step_loop) harr⟩
theorem AW.forN {c σ Q} (I : Nat → St → Prop) (n : Nat) (h0 : I 0 σ) (body : ∀ k σ, k < n → I k σ → AW P c σ (thenA (fun σ' => I (k + 1) σ') Q))
  (last : ∀ σ, I n σ → AW P c σ (thenA (fun _ => False) Q)) : AW P (.loop c) σ Q :=
 AW.loop (fun m σ => ∃ k, k ≤ n ∧ m = n - k ∧ I k σ) n ⟨0, Nat.zero_le _, rfl, h0⟩ fun m σ ⟨k, hk, hm, hI⟩ => by
  by_cases h : k < n
  ·refine (body k σ h hI).mono fun e σ' hq => ?_
   cases e with
   | normal => exact ⟨n - (k + 1), by omega, k + 1, by omega, rfl, hq⟩
   | exit id => exact hq
   | goto l => exact hq
   | ret => exact hq
   | panic ch => exact hq
   | outgrown => exact hq
  ·have : k = n := by omega
   subst this
   refine (last σ hI).mono fun e σ' hq => ?_
   cases e with
   | normal => exact hq.elim
   | exit id => exact hq
   | goto l => exact hq
   | ret => exact hq
   | panic ch => exact hq
   | outgrown => exact hq
def AOpsL (P : Program) (C : Contract) (cfg : Cfg) (ops : Array Oper) : List Oper → St → (St → Prop) → Prop
 | [], σ, Q => Q σ
 | o :: r, σ, Q => ∃ lv m' fp, dstOK o σ.n = true ∧ AStep P C cfg ops o σ lv m' fp ∧ AOpsL P C cfg ops r (σ.next o lv m') Q
theorem AOpsL.ops {C ops} {Q : St → Prop} : ∀ (r : List Oper) (k : Nat) {σ : St}, ops.toList.drop k = r → AOpsL P C cfg ops r σ Q → AOps P C cfg ops (List.range' k (ops.size - k)) σ Q
 | [], k, σ, hr, h => by
  have : ops.size ≤ k := by simpa using hr
  rw [show ops.size - k = 0 by omega]
  exact h
 | o :: r, k, σ, hr, ⟨lv, m', fp, h1, h2, h3⟩ => by
  have hk : ops.toList[k]? = some o := by
   have := congrArg (·[0]?) hr
   simpa using this
  have hlt : k < ops.size := by
   have := (List.getElem?_eq_some_iff.1 hk).1
   simpa using this
  rw [show ops.size - k = (ops.size - (k + 1)) + 1 by omega, List.range'_succ]
  refine ⟨o, lv, m', fp, by simpa using hk, h1, h2, AOpsL.ops r (k + 1) ?_ h3⟩
  have := congrArg (List.drop 1) hr
  simpa [List.drop_drop] using this
theorem AW.region {id ops σ Q} (h : AOpsL P (Good P) cfg ops ops.toList σ (Q .normal)) : AW P (.region id ops false) σ Q := fun gh a w hs => by
 have h := AOpsL.ops ops.toList 0 rfl h
 rw [Nat.sub_zero, ← List.range_eq_range'] at h
 exact wp_region (AOps.sound _ h hs fun σ' gh' a' w' h1 h2 h3 => ⟨σ', gh', h1, h2, h3⟩)
def ADrawL (P : Program) (C : Contract) (cfg : Cfg) (ops : Array Oper) : List Oper → Nat → St → List (Nat × Fp) → (St → Prop) → Prop
 | [], _, σ, acc, Q => pairsOK ops acc.reverse = true ∧ Q σ
 | o :: r, i, σ, acc, Q => ∃ lv m' fp fq, AStep P C cfg ops o σ lv m' fp ∧ Sub fp fq ∧ ADrawL P C cfg ops r (i + 1) (σ.next o lv m') ((i, fq) :: acc) Q
theorem ADrawL.ops {C ops} {Q : St → Prop} : ∀ (r : List Oper) (k : Nat) {σ : St} {acc}, ops.toList.drop k = r → ADrawL P C cfg ops r k σ acc Q → ADraw P C cfg ops (List.range' k (ops.size - k)) σ acc Q
 | [], k, σ, acc, hr, h => by
  have : ops.size ≤ k := by simpa using hr
  rw [show ops.size - k = 0 by omega]
  exact h
 | o :: r, k, σ, acc, hr, ⟨lv, m', fp, fq, h1, h2, h3⟩ => by
  have hk : ops.toList[k]? = some o := by
   have := congrArg (·[0]?) hr
   simpa using this
  have hlt : k < ops.size := by
   have := (List.getElem?_eq_some_iff.1 hk).1
   simpa using this
  rw [show ops.size - k = (ops.size - (k + 1)) + 1 by omega, List.range'_succ]
  refine ⟨o, lv, m', fp, fq, by simpa using hk, h1, h2, ADrawL.ops r (k + 1) ?_ h3⟩
  have := congrArg (List.drop 1) hr
  simpa [List.drop_drop] using this
theorem Sim.drew {gh σ a w} (hs : Sim gh σ a w) : Sim gh σ a { w with drawn := w.drawn + 1 } ∧ Keeps gh w σ.mem gh { w with drawn := w.drawn + 1 } σ.mem := by
 have he : Ext gh w gh { w with drawn := w.drawn + 1 } := ⟨rfl, rfl, rfl, Nat.le_refl _, fun _ h => ⟨h, rfl⟩, fun _ _ h => ⟨h, rfl⟩, fun _ _ h => h⟩
 have hk : Keeps gh w σ.mem gh { w with drawn := w.drawn + 1 } σ.mem := ⟨he, fun n => .inr ⟨rfl, Obj.like_refl _, fun _ => ⟨rfl, fun _ _ h => h⟩⟩⟩
 exact ⟨⟨hs.n, hs.defers, fun t => hk.lv (hs.slots t), hs.mem.step hk (fun _ => False) hs.mem.alloc (fun _ h => h.elim) (fun _ _ => ⟨rfl, rfl, fun h => ⟨h, rfl⟩⟩) rfl rfl (fun _ _ _ h => ⟨h, rfl⟩)⟩, hk⟩
theorem AW.draw {id ops σ Q} (hm : P.follows .mixedOrders = true) (hlow : lowOK ops = true) (hd : dstsOK ops σ.n = true) (h : ADrawL P (Good P) cfg ops ops.toList 0 σ [] (Q .normal)) : AW P (.region id ops true) σ Q := fun gh a w hs => by
 have h := ADrawL.ops ops.toList 0 rfl h
 rw [Nat.sub_zero, ← List.range_eq_range'] at h
 obtain ⟨hs', he⟩ := hs.drew
 exact wp_region_any hm (ADraw.sound hlow hd h hs' fun σ' gh' a' w' h1 h2 h3 => ⟨σ', gh', h1, h2, he.trans h3⟩)
def giveOne (i : Nat) (own : Bool) (lv : LV) : M LV :=
 if own then match lv with
  | .own n g 0 hi => if n = .res i then .fail else rehome n g 0 hi (.res i)
  | .v (.sl sz true []) => .ret (.v (.sl sz true []))
  | _ => .fail
 else (reify lv).bind fun a => .ret (.v a)
def srcOne (P : Program) (slots : Nat → LV) : ResultVar → M LV
 | .tmp t => .ret (opn (slots t))
 | .cell a t => match tiOf P t with
  | some ti => aLoad ti (opn (slots a))
  | none => .fail
def giveL (P : Program) (slots : Nat → LV) : Nat → List ResultVar → List Bool → M (List LV)
 | _, [], [] => .ret []
 | i, r :: rs, b :: bs => (srcOne P slots r).bind fun x => (giveOne i b x).bind fun y => (giveL P slots (i + 1) rs bs).bind fun l => .ret (y :: l)
 | _, _, _ => .fail
def readOne (i : Nat) (own : Bool) (lv : LV) : M AV :=
 if own then match lv with
  | .own n g 0 hi => if n = .res i then .getO n fun x => if x.1 = g then match x.2 with
    | .arr nil sz xs => .ret (.sl sz nil (sub xs 0 hi))
    | _ => .fail
   else .fail else .fail
  | .v (.sl sz true []) => .ret (.sl sz true [])
  | _ => .fail
 else match lv with
  | .v a => .ret a
  | _ => .fail
def readL : Nat → List Bool → List LV → M (List AV)
 | _, [], [] => .ret []
 | i, b :: bs, x :: xs => (readOne i b x).bind fun a => (readL (i + 1) bs xs).bind fun l => .ret (a :: l)
 | _, _, _ => .fail
def leave (P : Program) (fn : Func) (own : List Bool) (slots : Nat → LV) : M (List AV) := (giveL P slots 0 fn.results.toList own).bind fun l => readL 0 own l
theorem giveOne_sound {C gh w m lv y m' f i own v} (hr : Run C (giveOne i own lv) m y m' f) (hm : MemRel gh w m) (hv : LVRel gh w m.objs lv v) :
  ∃ gh', MemRel gh' w m' ∧ Keeps gh w m gh' w m' ∧ LVRel gh' w m'.objs y v := by
 unfold giveOne at hr
 split at hr
 ·split at hr
  ·split at hr
   ·exact hr.fail_inv.elim
   ·rename_i hne
    obtain ⟨gh', k1, k2, k3⟩ := rehome_sound hne hr hm
    exact ⟨gh', k1, k2, k3 v hv⟩
  ·obtain ⟨rfl, rfl⟩ := hr.ret_inv
   exact ⟨gh, hm, Keeps.refl _ _ _, hv⟩
  ·exact hr.fail_inv.elim
 ·obtain ⟨a, m1, f1, f2, h1, h2⟩ := hr.bind_inv
  obtain ⟨rfl, rfl⟩ := h2.ret_inv
  obtain ⟨gh', k1, k2, _, k4, _⟩ := reify_sound lv h1 hm
  exact ⟨gh', k1, k2, by simp only [LVRel]; exact k4 v hv⟩
def resRun (tmps : Array Value) : ResultVar → Sem Value
 | .tmp t => pure (tmps.getD t undef)
 | .cell a t => do loadVar t (← asAddr (tmps.getD a undef))
theorem giveL_sound {C slots tmps} : ∀ (rs : List ResultVar) (bs : List Bool) (i : Nat) {gh w m l m' f}, Run C (giveL P slots i rs bs) m l m' f → MemRel gh w m → (∀ t, LVRel gh w m.objs (slots t) (tmps.getD t undef)) →
  ∃ gh' vs, MemRel gh' w m' ∧ Keeps gh w m gh' w m' ∧ (rs.mapM (resRun tmps)).run P w = .ok vs w ∧ LVRels gh' w m'.objs l vs
 | [], [], i, gh, w, m, l, m', f, hr, hm, hs => by
  simp only [giveL] at hr
  obtain ⟨rfl, rfl⟩ := hr.ret_inv
  exact ⟨gh, [], hm, Keeps.refl _ _ _, by simp, by simp [LVRels]⟩
 | r :: rs, b :: bs, i, gh, w, m, l, m', f, hr, hm, hs => by
  simp only [giveL] at hr
  obtain ⟨x, m1, f1, f2, h1, h2⟩ := hr.bind_inv
  obtain ⟨y, m2, f3, f4, h3, h4⟩ := h2.bind_inv
  obtain ⟨l', m3, f5, f6, h5, h6⟩ := h4.bind_inv
  obtain ⟨rfl, rfl⟩ := h6.ret_inv
  have src : m1 = m ∧ ∃ v, (resRun tmps r).run P w = .ok v w ∧ LVRel gh w m.objs x v := by
   unfold srcOne at h1
   split at h1
   ·obtain ⟨rfl, rfl⟩ := h1.ret_inv
    rename_i t
    exact ⟨rfl, tmps.getD t undef, by simp [resRun], opn_rel _ (hs t)⟩
   ·split at h1
    case h_2 => exact h1.fail_inv.elim
    rename_i ti hti
    obtain ⟨rfl, ad, u, j1, j2, j3⟩ := aLoad_sound (tiOf_ok hti) h1 hm _ (opn_rel _ (hs _))
    have j1' := j1
    rw [Array.getD_eq_getD_getElem?] at j1'
    exact ⟨rfl, u, by simp [resRun, j1', asAddr, j2], j3⟩
  obtain ⟨rfl, v, s1, s2⟩ := src
  obtain ⟨gh1, k1, k2, k3⟩ := giveOne_sound h3 hm s2
  obtain ⟨gh2, vs, q1, q2, q3, q4⟩ := giveL_sound rs bs (i + 1) h5 k1 (fun t => k2.lv (hs t))
  refine ⟨gh2, v :: vs, q1, k2.trans q2, ?_, by simp only [LVRels]; exact ⟨v, vs, rfl, q2.lv k3, q4⟩⟩
  simp only [List.mapM_cons, Sem.run_bind, s1, Result.andThen_ok, q3, Sem.run_pure]
 | [], _ :: _, _, _, _, _, _, _, _, hr, _, _ => by simp only [giveL] at hr; exact hr.fail_inv.elim
 | _ :: _, [], _, _, _, _, _, _, _, hr, _, _ => by simp only [giveL] at hr; exact hr.fail_inv.elim
theorem own_val {gh w m n g hi nil sz l v} (hm : MemRel gh w m) (hv : LVRel gh w m.objs (.own n g 0 hi) v) (hg : (m.objs n).1 = g) (hob : (m.objs n).2 = .arr nil sz l) : OwnVal gh w n (.sl sz nil (sub l 0 hi)) v := by
 simp only [LVRel] at hv
 have how := hv.2 hg
 rw [hob] at how
 have hO := hm.objs n
 rw [hob] at hO
 obtain ⟨q1, q2, q3⟩ := how
 refine ⟨sz, nil, _, rfl, ?_⟩
 cases nil with
 | true =>
  simp only [ObjRel, if_true] at hO
  subst hO
  exact .inl ⟨rfl, by simp [sub], by simpa using q3⟩
 | false =>
  simp only [ObjRel, Bool.false_eq_true, if_false] at hO q3
  obtain ⟨e1, cs, ty, e2, e3⟩ := hO
  obtain ⟨off, cap, e4, e5, e6, e7, e8, e9⟩ := q3
  have e5 := e5 (.inl trivial)
  rw [Nat.zero_mul] at e5
  subst e5
  obtain ⟨cs', ty', fr', e10, e11⟩ := e8
  rw [e2] at e10
  simp only [Option.some.injEq, Go.Obj.cells.injEq] at e10
  obtain ⟨rfl, rfl, rfl⟩ := e10
  have hsl : (sub l 0 hi).length = hi := by rw [sub_length q2]; omega
  refine .inr ⟨rfl, gh.κ n, cap, cs, ty, ?_, e1, e2, ⟨?_, fun i x hx => ?_⟩, by omega, by simpa using e11, e9⟩
  ·rw [e4, hsl]; rfl
  ·rw [hsl]
   exact Nat.le_trans (Nat.mul_le_mul_right _ q2) e3.1
  ·refine e3.2 i x ?_
   simp only [sub, List.drop_zero] at hx
   rw [List.getElem?_take] at hx
   split at hx
   ·exact hx
   ·cases hx
theorem readOne_sound {C gh w m lv a m' f i own v} (hr : Run C (readOne i own lv) m a m' f) (hm : MemRel gh w m) (hv : LVRel gh w m.objs lv v) : m' = m ∧ CompRel gh w (.res i) (a, own) v := by
 unfold readOne at hr
 unfold CompRel
 split at hr
 ·rename_i ho
  simp only [ho, if_true]
  split at hr
  ·split at hr
   case isFalse => exact hr.fail_inv.elim
   rename_i hn
   subst hn
   obtain ⟨f1, h⟩ := hr.getO_inv
   split at h
   case isFalse => exact h.fail_inv.elim
   rename_i hg
   split at h
   case h_2 => exact h.fail_inv.elim
   rename_i hob
   obtain ⟨rfl, rfl⟩ := h.ret_inv
   exact ⟨rfl, own_val hm hv hg hob⟩
  ·rename_i sz
   obtain ⟨rfl, rfl⟩ := hr.ret_inv
   simp only [LVRel] at hv
   cases hv
   exact ⟨rfl, sz, true, [], rfl, .inl ⟨rfl, rfl, rfl⟩⟩
  ·exact hr.fail_inv.elim
 ·rename_i ho
  simp only [ho, Bool.false_eq_true, if_false]
  split at hr
  ·obtain ⟨rfl, rfl⟩ := hr.ret_inv
   exact ⟨rfl, by simpa only [LVRel] using hv⟩
  ·exact hr.fail_inv.elim
theorem readL_sound {C gh w} : ∀ (bs : List Bool) (xs : List LV) (i : Nat) {m l m' f} {vs : List Value}, Run C (readL i bs xs) m l m' f → MemRel gh w m → LVRels gh w m.objs xs vs →
  m' = m ∧ l.length = bs.length ∧ vs.length = bs.length ∧ ∀ (j : Nat) (x : AV × Bool) (v : Value), (l.zip bs)[j]? = some x → vs[j]? = some v → CompRel gh w (.res (i + j)) x v
 | [], [], i, m, l, m', f, vs, hr, hm, hv => by
  simp only [readL] at hr
  obtain ⟨rfl, rfl⟩ := hr.ret_inv
  simp only [LVRels] at hv
  subst hv
  exact ⟨rfl, rfl, rfl, by simp⟩
 | b :: bs, x :: xs, i, m, l, m', f, vs, hr, hm, hv => by
  simp only [readL] at hr
  obtain ⟨a, m1, f1, f2, h1, h2⟩ := hr.bind_inv
  obtain ⟨l', m2, f3, f4, h3, h4⟩ := h2.bind_inv
  obtain ⟨rfl, rfl⟩ := h4.ret_inv
  simp only [LVRels] at hv
  obtain ⟨v, vs', rfl, hv1, hv2⟩ := hv
  obtain ⟨rfl, k1⟩ := readOne_sound h1 hm hv1
  obtain ⟨rfl, k2, k3, k4⟩ := readL_sound bs xs (i + 1) h3 hm hv2
  refine ⟨rfl, by simp [k2], by simp [k3], fun j x u hx hu => ?_⟩
  cases j with
  | zero => simp at hx hu; obtain ⟨rfl, rfl⟩ := hx; subst hu; exact k1
  | succ j =>
   have := k4 j x u (by simpa using hx) (by simpa using hu)
   rwa [show i + 1 + j = i + (j + 1) by omega] at this
 | [], _ :: _, _, _, _, _, _, _, hr, _, _ => by simp only [readL] at hr; exact hr.fail_inv.elim
 | _ :: _, [], _, _, _, _, _, _, hr, _, _ => by simp only [readL] at hr; exact hr.fail_inv.elim
end
end Go.Vai
namespace Go.Vai
def argLV (j : Nat) : AV × Bool → LV
 | (a, false) => .v a
 | (.sl _ _ xs, true) => .own (.var j) 1 0 xs.length
 | _ => .dead
def argObj : AV × Bool → Nat × Obj
 | (.sl sz nil xs, true) => (1, .arr nil sz xs)
 | _ => (0, .dead)
def entry (nt : Nat) (args : List (AV × Bool)) (G : List (List AV)) : St :=
 ⟨nt, fun j => match args[j]? with | some x => argLV j x | none => .dead,
  ⟨fun n => match n with | .var j => (match args[j]? with | some x => argObj x | none => (0, .dead)) | _ => (0, .dead), G⟩⟩
def Leaves (P : Program) (C : Contract) (fn : Func) (r : List (AV × Bool)) (G' : List (List AV)) (σ : St) : Prop :=
 ∃ m' fp, Run C (leave P fn (r.map (·.2)) σ.slots) σ.mem (r.map (·.1)) m' fp ∧ m'.G = G'
section
variable {P : Program}
def blockOf : Value → Nat
 | .slice (some a) _ _ => a.block
 | _ => 0
theorem entry_sim {gh w args G vs nt} (hg : GMem gh w G) (ha : ArgsRel gh w args vs) (hn : nt = vs.size + (nt - vs.size)) :
  ∃ gh', Sim gh' (entry nt args G) { tmps := vs ++ Array.replicate (nt - vs.size) undef, defers := [] } w ∧ Ext gh w gh' w := by
 obtain ⟨hl, ha⟩ := ha
 let gh' : Gh := { gh with κ := fun n => match n with | .var j => (match vs[j]? with | some v => blockOf v | none => 0) | _ => 0 }
 have he : Ext gh w gh' w := ⟨rfl, rfl, rfl, Nat.le_refl _, fun _ h => ⟨h, rfl⟩, fun _ _ h => ⟨h, rfl⟩, fun _ _ h => h⟩
 have hat : ∀ (j : Nat) (x : AV × Bool), args[j]? = some x → ∃ v, vs[j]? = some v ∧ CompRel gh w (.var j) x v := fun j x hx => by
  have hj : j < vs.size := by rw [hl]; exact (List.getElem?_eq_some_iff.1 hx).1
  exact ⟨vs[j], by simp [hj], ha j x _ hx (by simp [hj])⟩
 refine ⟨gh', ⟨?_, rfl, fun t => ?_, ⟨hg.alloc, fun n => ?_, hg.glen, fun id b cells h1 h2 => ?_⟩⟩, he⟩
 ·simp only [entry, Array.size_append, Array.size_replicate]; omega
 ·simp only [entry]
  cases hx : args[t]? with
  | none => simp [LVRel]
  | some x =>
   obtain ⟨v, hv, hc⟩ := hat t x hx
   have hlt : t < vs.size := (Array.getElem?_eq_some_iff.1 hv).1
   have hget : (vs ++ Array.replicate (nt - vs.size) undef).getD t undef = v := by
    rw [Array.getD_eq_getD_getElem?, Array.getElem?_append_left hlt, hv]; rfl
   simp only [hget]
   obtain ⟨a, own⟩ := x
   cases own with
   | false =>
    simp only [argLV, LVRel]
    simp only [CompRel, Bool.false_eq_true, if_false] at hc
    exact hc.mono he
   | true =>
    simp only [CompRel, if_true] at hc
    obtain ⟨sz, nil, xs, rfl, hc⟩ := hc
    simp only [argLV, LVRel, hx, argObj]
    refine ⟨Nat.le_refl _, fun _ => ⟨Nat.zero_le _, Nat.le_refl _, ?_⟩⟩
    rcases hc with ⟨rfl, rfl, rfl⟩ | ⟨rfl, b, cap, cs, ty, rfl, e2, e3, e4, e5, e6, e7⟩
    ·simp
    ·simp only [Bool.false_eq_true, if_false]
     refine ⟨0, cap, ?_, by simp, by omega, by omega, ?_, e7⟩
     ·simp [gh', hv, blockOf]
     ·refine ⟨cs, ty, (0, 0), ?_, by simpa using e6⟩
      simp only [gh', hv, blockOf]; exact e3
 ·show ObjRel gh' w _ n _
  cases n with
  | var j =>
   simp only [entry]
   cases hx : args[j]? with
   | none => trivial
   | some x =>
    obtain ⟨v, hv, hc⟩ := hat j x hx
    obtain ⟨a, own⟩ := x
    cases own with
    | false => simp only [argObj]; trivial
    | true =>
     simp only [CompRel, if_true] at hc
     obtain ⟨sz, nil, xs, rfl, hc⟩ := hc
     simp only [argObj, ObjRel]
     rcases hc with ⟨rfl, rfl, rfl⟩ | ⟨rfl, b, cap, cs, ty, rfl, e2, e3, e4, e5, e6, e7⟩
     ·simp
     ·simp only [Bool.false_eq_true, if_false]
      have hk : gh'.κ (.var j) = b := by simp [gh', hv, blockOf]
      exact ⟨by rw [hk]; exact e2, cs, ty, by rw [hk]; exact e3, e4.keep he⟩
  | _ => trivial
 ·obtain ⟨h3, h4⟩ := hg.glob id b cells h1 h2
  exact ⟨h3, h4.mono rfl fun _ _ h => h.mono he⟩
def oneOr : List Value → Value
 | [v] => v
 | l => .tuple l.toArray
theorem results_eq (fn : Func) (tmps : Array Value) (w : World) {vs : List Value} (h : (fn.results.toList.mapM (resRun tmps)).run P w = .ok vs w) :
  (results fn tmps).run P w = .ok (oneOr vs) w := by
 have h' : (fn.results.mapM (resRun tmps)).run P w = .ok vs.toArray w := by
  rw [Array.mapM_eq_mapM_toList, Sem.run_map, h]; rfl
 have e : results fn tmps = (do let vs ← fn.results.mapM (resRun tmps); pure (if h : vs.size = 1 then vs[0] else .tuple vs)) := by
  unfold results
  congr 2
 rw [e, Sem.run_bind, h']
 simp only [Result.andThen_ok, Sem.run_pure]
 match vs with
 | [] => rfl
 | [v] => rfl
 | a :: b :: l => simp [oneOr]
theorem leaves_sound {fn r G' σ gh a w} (h : Leaves P (Good P) fn r G' σ) (hs : Sim gh σ a w) :
  ∃ v gh', (results fn a.tmps).run P w = .ok v w ∧ Ext gh w gh' w ∧ GMem gh' w G' ∧ ResRel gh' w r v := by
 obtain ⟨m', fp, hr, hG⟩ := h
 unfold leave at hr
 obtain ⟨l, m1, f1, f2, h1, h2⟩ := hr.bind_inv
 obtain ⟨gh', vs, k1, k2, k3, k4⟩ := giveL_sound _ _ _ h1 hs.mem hs.slots
 obtain ⟨rfl, j1, j2, j3⟩ := readL_sound _ _ _ h2 k1 k4
 have hz : (r.map (·.1)).zip (r.map (·.2)) = r := by
  rw [List.zip_map']; simp
 rw [hz] at j3
 refine ⟨_, gh', results_eq fn a.tmps w k3, k2.ext, ?_, ?_⟩
 ·subst hG
  exact ⟨k1.alloc, fun _ => trivial, k1.glen, k1.glob⟩
 ·have hl : vs.length = r.length := by simpa using j2
  match r, vs, hl, j3 with
  | [x], [v], _, j3 => exact j3 0 x v rfl rfl
  | [], [], _, _ => exact ⟨#[], rfl, rfl, by simp⟩
  | x :: y :: r, v :: u :: vs, hl, j3 =>
   exact ⟨(v :: u :: vs).toArray, rfl, by simpa using hl, fun j z t hz ht => by
    have := j3 j z t hz (by simpa using ht)
    rwa [Nat.zero_add] at this⟩
theorem good_of_body {f fn c args G r G'} (hf : P.funcs[f]? = some fn) (hn : (fn.name == "runtime.NumGoroutine") = false) (hb : fn.body = some c) (hnt : args.length ≤ fn.ntmps)
  (h : AW P c (entry fn.ntmps args G) fun e σ => (e = .normal ∨ e = .ret) ∧ Leaves P (Good P) fn r G' σ) : Good P f args G r G' := by
 refine ⟨⟨fn, c, hf, hn, hb⟩, fun gh w vs hg ha => calls_of_wp hf hb ?_⟩
 obtain ⟨gh1, hs, he⟩ := entry_sim (nt := fn.ntmps) hg ha (by have := ha.1; omega)
 refine wp_mono (h gh1 _ w hs) fun e a' w' ⟨σ', gh', ⟨h1, h2⟩, h3, h4⟩ => ?_
 obtain ⟨v, gh2, k1, k2, k3, k4⟩ := leaves_sound h2 h3
 rcases h1 with rfl | rfl
 ·exact ⟨h3.defers, v, k1, v, gh2, rfl, (he.trans h4.ext).trans k2, k3, k4⟩
 ·exact ⟨h3.defers, v, k1, v, gh2, rfl, (he.trans h4.ext).trans k2, k3, k4⟩
end
end Go.Vai
namespace Go.Vai
section
variable {P : Program} {C : Contract} {cfg : Cfg} {ops : Array Oper}
theorem aops_nil {σ : St} {Q : St → Prop} (h : Q σ) : AOpsL P C cfg ops [] σ Q := h
theorem aops_run {o : Oper} {r : List Oper} {σ : St} {Q : St → Prop} (hd : dstOK o σ.n = true) (hw : wantO ops σ o = some true)
  (h : Mwp C (act P cfg σ.raw o) σ.mem {} fun lv m' _ => AOpsL P C cfg ops r (σ.next o lv m') Q) : AOpsL P C cfg ops (o :: r) σ Q := by
 obtain ⟨lv, m', fp, hr, _, hq, _⟩ := run_of_mwp _ _ _ _ h
 exact ⟨lv, m', fp, hd, .run hw hr, hq⟩
theorem aops_skip {o : Oper} {r : List Oper} {σ : St} {Q : St → Prop} (hd : dstOK o σ.n = true) (hw : wantO ops σ o = some false)
  (h : AOpsL P C cfg ops r (σ.next o (.v (.base undef)) σ.mem) Q) : AOpsL P C cfg ops (o :: r) σ Q :=
 ⟨_, _, _, hd, .skip hw, h⟩
theorem aops_merge {o : Oper} {r : List Oper} {σ : St} {Q : St → Prop} {c : Bool} (hd : dstOK o σ.n = true) (hw : wantO ops σ o = some c) (lv : LV)
  (h : c = true → Mwp C (act P cfg σ.raw o) σ.mem {} fun lv' m' _ => lv' = lv ∧ m' = σ.mem)
  (k : AOpsL P C cfg ops r (σ.next o (.cond c lv) σ.mem) Q) : AOpsL P C cfg ops (o :: r) σ Q := by
 cases c with
 | true =>
  obtain ⟨lv', m', fp, hr, _, ⟨rfl, rfl⟩, _⟩ := run_of_mwp _ _ _ _ (h rfl)
  exact ⟨_, _, fp, hd, .merge hw hr.frame.2.1 fun _ => hr, k⟩
 | false => exact ⟨.cond false lv, σ.mem, {}, hd, AStep.merge hw ⟨fun _ h => h, fun h => h⟩ (fun h => by cases h), k⟩
theorem adraw_nil {i : Nat} {σ : St} {acc : List (Nat × Fp)} {Q : St → Prop} (hp : pairsOK ops acc.reverse = true) (h : Q σ) : ADrawL P C cfg ops [] i σ acc Q := ⟨hp, h⟩
theorem adraw_run {o : Oper} {r : List Oper} {i : Nat} {σ : St} {acc : List (Nat × Fp)} {Q : St → Prop} (hw : wantO ops σ o = some true)
  (h : Mwp C (act P cfg σ.raw o) σ.mem {} fun lv m' fq => ADrawL P C cfg ops r (i + 1) (σ.next o lv m') ((i, fq) :: acc) Q) : ADrawL P C cfg ops (o :: r) i σ acc Q := by
 obtain ⟨lv, m', fp, hr, fq, hq, h1⟩ := run_of_mwp _ _ _ _ h
 exact ⟨lv, m', fp, fq, .run hw hr, sub_of_same h1, hq⟩
theorem adraw_skip {o : Oper} {r : List Oper} {i : Nat} {σ : St} {acc : List (Nat × Fp)} {Q : St → Prop} (hw : wantO ops σ o = some false)
  (h : ADrawL P C cfg ops r (i + 1) (σ.next o (.v (.base undef)) σ.mem) ((i, {}) :: acc) Q) : ADrawL P C cfg ops (o :: r) i σ acc Q :=
 ⟨_, _, {}, {}, .skip hw, sub_none _, h⟩
section
variable {α β : Type} {m : Mem} {f : Fp} {Q : α → Mem → Fp → Prop}
theorem mwp_ret {a : α} : Mwp C (.ret a) m f Q = Q a m f := rfl
theorem mwp_fail : Mwp C (.fail : M α) m f Q = False := rfl
theorem mwp_getO {n k} : Mwp C (.getO n k) m f Q = Mwp C (k (m.objs n)) m (f.addN n) Q := rfl
theorem mwp_setO {n x k} : Mwp C (.setO n x k) m f Q = Mwp C k (m.set n x) (f.addW n) Q := rfl
theorem mwp_getG {k} : Mwp C (.getG k) m f Q = Mwp C (k m.G) m f.addG Q := rfl
theorem mwp_setG {g k} : Mwp C (.setG g k) m f Q = Mwp C k { m with G := g } f.addGW Q := rfl
theorem mwp_call {g args k} : Mwp C (.call g args k) m f Q = ∃ r G', C g args m.G r G' ∧ Mwp C (k r) { m with G := G' } f.addGW Q := rfl
theorem mwp_pcall {g args k} : Mwp C (.pcall g args k) m f Q = ∃ r, C g args [] r [] ∧ Mwp C (k r) m f Q := rfl
theorem mwp_bind {p : M α} {q : α → M β} {Q : β → Mem → Fp → Prop} : ∀ {m f}, Mwp C (p.bind q) m f Q = Mwp C p m f fun a m' f' => Mwp C (q a) m' f' Q := by
 induction p with
 | ret a => intro m f; rfl
 | fail => intro m f; rfl
 | getO n k ih => intro m f; exact ih _
 | setO n x k ih => intro m f; exact ih
 | getG k ih => intro m f; exact ih _
 | setG g k ih => intro m f; exact ih
 | call g args k ih => intro m f; simp only [M.bind, Mwp, ih]
 | pcall g args k ih => intro m f; simp only [M.bind, Mwp, ih]
theorem mwp_if {p : Prop} [Decidable p] {x : M α} : Mwp C (if p then x else .fail) m f Q = (p ∧ Mwp C x m f Q) := by
 by_cases h : p <;> simp [h, mwp_fail]
end
end
theorem upd_if (f : Nat → LV) (d t : Nat) (x : LV) : upd f d x t = if t = d then x else f t := rfl
theorem mset_if (m : Mem) (n k : Nm) (x : Nat × Obj) : (m.set n x).objs k = if k = n then x else m.objs k := rfl
theorem upd_same (f : Nat → LV) (d : Nat) (x : LV) : upd f d x d = x := if_pos rfl
theorem upd_ne (f : Nat → LV) {d t : Nat} (x : LV) (h : t ≠ d) : upd f d x t = f t := if_neg h
section
variable {P : Program} {C : Contract} {cfg : Cfg} {ops : Array Oper} {n : Nat} {f : Nat → LV} {m : Mem} {Q : St → Prop} {r : List Oper}
theorem aops_step {d : Nat} {op ty pos aft g} {lv : LV} {m' : Mem} (hd : d < n) (hw : wantO ops ⟨n, f, m⟩ ⟨some d, op, ty, pos, aft, g⟩ = some true)
  (h : ∀ K : LV → Mem → Fp → Prop, (∀ fp, K lv m' fp) → Mwp C (act P cfg (St.raw ⟨n, f, m⟩) ⟨some d, op, ty, pos, aft, g⟩) m {} K)
  (k : AOpsL P C cfg ops r ⟨n, upd f d lv, m'⟩ Q) : AOpsL P C cfg ops (⟨some d, op, ty, pos, aft, g⟩ :: r) ⟨n, f, m⟩ Q :=
 aops_run (by simpa [dstOK] using hd) hw (h _ fun _ => k)
theorem aops_step0 {op ty pos aft g} {lv : LV} {m' : Mem} (hw : wantO ops ⟨n, f, m⟩ ⟨none, op, ty, pos, aft, g⟩ = some true)
  (h : ∀ K : LV → Mem → Fp → Prop, (∀ fp, K lv m' fp) → Mwp C (act P cfg (St.raw ⟨n, f, m⟩) ⟨none, op, ty, pos, aft, g⟩) m {} K)
  (k : AOpsL P C cfg ops r ⟨n, f, m'⟩ Q) : AOpsL P C cfg ops (⟨none, op, ty, pos, aft, g⟩ :: r) ⟨n, f, m⟩ Q :=
 aops_run rfl hw (h _ fun _ => k)
theorem adraw_step {d : Nat} {op ty pos aft g} {lv : LV} {m' : Mem} {fq : Fp} {i : Nat} {acc : List (Nat × Fp)} (hw : wantO ops ⟨n, f, m⟩ ⟨some d, op, ty, pos, aft, g⟩ = some true)
  (h : ∀ K : LV → Mem → Fp → Prop, K lv m' fq → Mwp C (act P cfg (St.raw ⟨n, f, m⟩) ⟨some d, op, ty, pos, aft, g⟩) m {} K)
  (k : ADrawL P C cfg ops r (i + 1) ⟨n, upd f d lv, m'⟩ ((i, fq) :: acc) Q) : ADrawL P C cfg ops (⟨some d, op, ty, pos, aft, g⟩ :: r) i ⟨n, f, m⟩ acc Q :=
 adraw_run hw (h _ k)
theorem adraw_step0 {op ty pos aft g} {lv : LV} {m' : Mem} {fq : Fp} {i : Nat} {acc : List (Nat × Fp)} (hw : wantO ops ⟨n, f, m⟩ ⟨none, op, ty, pos, aft, g⟩ = some true)
  (h : ∀ K : LV → Mem → Fp → Prop, K lv m' fq → Mwp C (act P cfg (St.raw ⟨n, f, m⟩) ⟨none, op, ty, pos, aft, g⟩) m {} K)
  (k : ADrawL P C cfg ops r (i + 1) ⟨n, f, m'⟩ ((i, fq) :: acc) Q) : ADrawL P C cfg ops (⟨none, op, ty, pos, aft, g⟩ :: r) i ⟨n, f, m⟩ acc Q :=
 adraw_run hw (h _ k)
theorem adraw_skip' {d : Nat} {op ty pos aft g} {i : Nat} {acc : List (Nat × Fp)} (hw : wantO ops ⟨n, f, m⟩ ⟨some d, op, ty, pos, aft, g⟩ = some false)
  (k : ADrawL P C cfg ops r (i + 1) ⟨n, upd f d (.v (.base undef)), m⟩ ((i, {}) :: acc) Q) : ADrawL P C cfg ops (⟨some d, op, ty, pos, aft, g⟩ :: r) i ⟨n, f, m⟩ acc Q :=
 adraw_skip hw k
theorem aops_skip' {d : Nat} {op ty pos aft g} (hd : d < n) (hw : wantO ops ⟨n, f, m⟩ ⟨some d, op, ty, pos, aft, g⟩ = some false)
  (k : AOpsL P C cfg ops r ⟨n, upd f d (.v (.base undef)), m⟩ Q) : AOpsL P C cfg ops (⟨some d, op, ty, pos, aft, g⟩ :: r) ⟨n, f, m⟩ Q :=
 aops_skip (by simpa [dstOK] using hd) hw k
theorem aops_merge' {d : Nat} {op ty pos aft g} {c : Bool} {lv : LV} (hd : d < n) (hw : wantO ops ⟨n, f, m⟩ ⟨some d, op, ty, pos, aft, g⟩ = some c)
  (h : c = true → ∀ K : LV → Mem → Fp → Prop, (∀ fp, K lv m fp) → Mwp C (act P cfg (St.raw ⟨n, f, m⟩) ⟨some d, op, ty, pos, aft, g⟩) m {} K)
  (k : AOpsL P C cfg ops r ⟨n, upd f d (.cond c lv), m⟩ Q) : AOpsL P C cfg ops (⟨some d, op, ty, pos, aft, g⟩ :: r) ⟨n, f, m⟩ Q :=
 aops_merge (by simpa [dstOK] using hd) hw lv (fun hc => h hc _ fun _ => ⟨rfl, rfl⟩) k
end
section
variable {P : Program} {cfg : Cfg} {raw : Operand → LV} {dst : Option Tmp} {ty : TypeId} {pos : String} {aft : Array Edge} {g : Option (Nat × Bool)} {n : Nat} {f : Nat → LV} {m : Mem}
theorem act_move {x} : act P cfg raw ⟨dst, .move x, ty, pos, aft, g⟩ = .ret (opn (raw x)) := rfl
def asg (b : Bool) (d : Nat) : LV → M LV
 | .own n g lo hi => if b = true ∧ n ≠ .var d then rehome n g lo hi (.var d) else settle (.var d) (.own n g lo hi)
 | y => .ret y
theorem act_assign {x d} (h : isNilConst x = false) : act P cfg raw ⟨some d, .assign x, ty, pos, aft, g⟩ = asg (cfg.move d) d (opn (raw x)) := by
 simp only [act, h, Bool.false_eq_true, if_false]; cases opn (raw x) <;> rfl
theorem act_assign_tmp {t d} : act P cfg raw ⟨some d, .assign (.tmp t), ty, pos, aft, g⟩ = asg (cfg.move d) d (opn (raw (.tmp t))) := act_assign rfl
theorem act_assign_int {k i d} : act P cfg raw ⟨some d, .assign (.const (.int k i)), ty, pos, aft, g⟩ = asg (cfg.move d) d (opn (raw (.const (.int k i)))) := act_assign rfl
theorem act_assign_bool {b d} : act P cfg raw ⟨some d, .assign (.const (.bool b)), ty, pos, aft, g⟩ = asg (cfg.move d) d (opn (raw (.const (.bool b)))) := act_assign rfl
theorem act_assign_str {b d} : act P cfg raw ⟨some d, .assign (.const (.string b)), ty, pos, aft, g⟩ = asg (cfg.move d) d (opn (raw (.const (.string b)))) := act_assign rfl
theorem act_assign_agg {b d} : act P cfg raw ⟨some d, .assign (.const (.agg b)), ty, pos, aft, g⟩ = asg (cfg.move d) d (opn (raw (.const (.agg b)))) := act_assign rfl
theorem asg_v {b d a} : asg b d (.v a) = .ret (.v a) := rfl
theorem act_assign_nil {d} : act P cfg raw ⟨some d, .assign (.const (.slice none 0 0)), ty, pos, aft, g⟩ = newNil (.var d) (szOf P ty) := rfl
theorem act_bin {op t x y c} : act P cfg raw ⟨dst, .binOp op t x y c, ty, pos, aft, g⟩ = (peek (opn (raw x))).bind fun a => (peek (opn (raw y))).bind fun b => lvOpt (aBin P op t a b) := rfl
theorem act_un {op t x} : act P cfg raw ⟨dst, .unOp op t x, ty, pos, aft, g⟩ = (peek (opn (raw x))).bind fun a => lvOpt (aUn op a) := rfl
theorem act_call {f args ats} : act P cfg raw ⟨dst, .call ⟨.value (.func f), args, ats⟩, ty, pos, aft, g⟩ = match opn (raw (.func f)) with
  | .v (.clo f caps) => callL cfg dst f caps (args.toList.map fun x => opn (raw x))
  | _ => .fail := rfl
theorem act_builtin {b args ats} : act P cfg raw ⟨dst, .call ⟨.builtin b, args, ats⟩, ty, pos, aft, g⟩ = builtinL P b ats dst (args.toList.map fun x => opn (raw x)) := rfl
theorem act_load {t a} : act P cfg raw ⟨dst, .load t a, ty, pos, aft, g⟩ = match tiOf P t with | some ti => aLoad ti (opn (raw a)) | none => .fail := rfl
theorem act_store {t a x} : act P cfg raw ⟨dst, .store t a x, ty, pos, aft, g⟩ = match tiOf P t with | some ti => (aStore ti (opn (raw a)) (opn (raw x))).bind fun _ => .ret (.v (.base undef)) | none => .fail := rfl
theorem raw_tmp {t} : St.raw ⟨n, f, m⟩ (.tmp t) = f t := rfl
theorem raw_int {k i} : St.raw ⟨n, f, m⟩ (.const (.int k i)) = .v (.i k i) := rfl
theorem raw_bool {b} : St.raw ⟨n, f, m⟩ (.const (.bool b)) = .v (.b b) := rfl
theorem raw_str {b} : St.raw ⟨n, f, m⟩ (.const (.string b)) = .v (.base (.string b)) := rfl
theorem raw_nil : St.raw ⟨n, f, m⟩ (.const (.slice none 0 0)) = .v (.sl 0 true []) := rfl
theorem raw_func {x} : St.raw ⟨n, f, m⟩ (.func x) = .v (.clo x []) := rfl
theorem raw_agg {cs} : St.raw ⟨n, f, m⟩ (.const (.agg cs)) = .v (.agg (cs.toList.map ofCell)) := rfl
theorem opn_v {a} : opn (.v a) = .v a := rfl
theorem opn_own {n g lo hi} : opn (.own n g lo hi) = .own n g lo hi := rfl
theorem opn_lptr {n g o} : opn (.lptr n g o) = .lptr n g o := rfl
theorem opn_eptr {n g i o} : opn (.eptr n g i o) = .eptr n g i o := rfl
theorem opn_agg {fs} : opn (.agg fs) = .agg fs := rfl
theorem opn_tup {fs} : opn (.tup fs) = .tup fs := rfl
theorem opn_cond {c x} : opn (.cond c x) = if c then opn x else .dead := rfl
end
end Go.Vai
namespace Go.Vai
open Go.ChangeShapes Go.RowKit
def gh0 (w : World) : Gh := ⟨fun b => if b < w.heap.size then .imm else .free, fun _ => 0, []⟩
structure Reads (gh : Gh) (w : World) (as : List AV) (cs : List Value) : Prop where
 len : as.length = cs.length
 at_ : ∀ (j : Nat) (a : AV) (v : Value), as[j]? = some a → cs[j]? = some v → R gh w a v ∧ v.oneCell' = true
def Opens (P : Program) (t : TypeId) (V : List AV → Prop) : Prop :=
 ∀ {H : Type} (enc : TypeId × Value → H) (w : World) (fuel : Nat) (cs : List Value) (x : DataW H × List MemPlace), DataW.trod enc P w 0 (fun _ => true) true fuel t cs = some x → ∃ as, V as ∧ Reads (gh0 w) w as cs
theorem Reads.one {gh w a v} (h : R gh w a v) (h1 : v.oneCell' = true) : Reads gh w [a] [v] :=
 ⟨rfl, fun j a' v' ha hv => by
  cases j with
  | zero => simp at ha hv; subst ha hv; exact ⟨h, h1⟩
  | succ j => simp at ha⟩
theorem Reads.append {gh w as cs bs ds} (h : Reads gh w as cs) (k : Reads gh w bs ds) : Reads gh w (as ++ bs) (cs ++ ds) :=
 ⟨by simp [h.len, k.len], fun j a v ha hv => by
  by_cases hj : j < as.length
  ·rw [List.getElem?_append_left hj] at ha
   rw [List.getElem?_append_left (by rw [← h.len]; exact hj)] at hv
   exact h.at_ j a v ha hv
  ·rw [List.getElem?_append_right (by omega)] at ha
   rw [List.getElem?_append_right (by rw [← h.len]; omega), ← h.len] at hv
   exact k.at_ _ a v ha hv⟩
section
variable {P : Program} {t e : TypeId} {V : List AV → Prop}
theorem opens_int {k : IntKind} (ht : P.underlying t = some (.int k)) : Opens P t fun as => ∃ n, as = [.i k n] ∧ (Lit.int k n).wf = true := fun enc w fuel cs x h => by
 obtain ⟨n, rfl, _, hw⟩ := DataW.trod_int ht h
 exact ⟨[.i k n], ⟨n, rfl, hw⟩, .one (.base _) rfl⟩
def mkE (ag : Bool) (as : List AV) : AV := if ag then .agg as else as.headD default
theorem cell_lt {w : World} {a : Addr} {v : Value} (h : w.cell? a = some v) : a.block < w.heap.size := by
 rcases Nat.lt_or_ge a.block w.heap.size with h' | h'
 ·exact h'
 ·simp [World.cell?, Array.getElem?_eq_none h'] at h
theorem opens_slice {ag : Bool} {sz : Nat} (ht : P.underlying t = some (.slice e)) (he : Opens P e V) (hs : P.cellsOf e = sz) (hp : 0 < sz)
  (hV : ∀ as, V as → cellsOf (mkE ag as) = as) : Opens P t fun as => ∃ nil xs, as = [.sl sz nil xs] ∧ (nil = true → xs = []) ∧ xs.length ≤ maxLen ∧ ∀ x ∈ xs, ∃ as, V as ∧ x = mkE ag as := fun {H} enc w fuel cs x h => by
 rcases DataW.trod_slice ht h with ⟨rfl, _⟩ | ⟨a, len, cap, elems, rest, n, _, rfl, rfl, hb, hl, hm, hlen, hel, hsp, hns⟩
 ·exact ⟨_, ⟨true, [], rfl, fun _ => rfl, by simp, by simp⟩, .one (.nilsl sz) rfl⟩
 ·rw [hs] at hel
  have each : ∀ i, i < len → ∃ as cs, w.cells? 0 (a.add (i * sz)) sz = some cs ∧ V as ∧ Reads (gh0 w) w as cs := fun i hi => by
   have h1 := hel i hi
   rw [List.getElem?_eq_getElem (by omega), Option.bind_eq_some_iff] at h1
   obtain ⟨cs, h2, h3⟩ := h1
   obtain ⟨as, h4, h5⟩ := he enc w n cs _ h3
   exact ⟨as, cs, h2, h4, h5⟩
  let A : Nat → List AV := fun i => if hi : i < len then (each i hi).choose else []
  have hA : ∀ i, i < len → ∃ cs, w.cells? 0 (a.add (i * sz)) sz = some cs ∧ V (A i) ∧ Reads (gh0 w) w (A i) cs := fun i hi => by
   simp only [A, dif_pos hi]; exact (each i hi).choose_spec
  let xs : List AV := (List.range len).map fun i => mkE ag (A i)
  have hxl : xs.length = len := by simp [xs]
  have hxi : ∀ i (h : i < xs.length), xs[i] = mkE ag (A i) := fun i h => by simp [xs]
  have hAl : ∀ i, i < len → (A i).length = sz := fun i hi => by
   obtain ⟨cs, h1, _, h2⟩ := hA i hi
   rw [h2.len, (World.cells?_some h1).2.1]
  have hcell : ∀ i j, i < len → j < sz → ∃ v, w.cell? (a.add (i * sz + j)) = some v ∧ v.oneCell' = true ∧ ∀ y, (A i)[j]? = some y → R (gh0 w) w y v := fun i j hi hj => by
   obtain ⟨cs, h1, _, h2⟩ := hA i hi
   obtain ⟨_, h3, h4⟩ := World.cells?_some h1
   have h5 := h4 j hj
   rw [add_add] at h5
   have h6 : cs[j]? = some (cs[j]'(by omega)) := by simp [h3, hj]
   refine ⟨_, by rw [h5, h6], (h2.at_ j ((A i)[j]'(by rw [hAl i hi]; exact hj)) _ (by simp) h6).2, fun y hy => (h2.at_ j y _ hy h6).1⟩
  let f : Nat → Nat → Value := fun i j => (w.cell? (a.add (i * sz + j))).getD undef
  have hf : ∀ i j, i < len → j < sz → w.cell? (a.add (i * sz + j)) = some (f i j) := fun i j hi hj => by
   obtain ⟨v, h1, _⟩ := hcell i j hi hj; simp [f, h1]
  refine ⟨[.sl sz false xs], ⟨false, xs, rfl, (fun h => nomatch h), by omega, fun x hx => ?_⟩, .one ?_ rfl⟩
  ·obtain ⟨i, hi, rfl⟩ := List.mem_map.1 hx
   exact ⟨A i, (hA i (List.mem_range.1 hi)).choose_spec.2.1, rfl⟩
  ·have := R.sl (gh := gh0 w) (w := w) sz xs a cap f (fun hne => ?_) (by omega) (fun i hi => ?_) (fun i j hi hj => hf i j (by omega) hj) (fun i j hi hj => ?_) (fun i j hi hj => ?_)
   ·rw [hxl] at this; exact this
   ·have h0 : 0 < len := by rw [← hxl]; exact List.length_pos_iff.2 hne
    have := cell_lt (hf 0 0 h0 hp)
    rw [add_block] at this
    simp [Gh.imm, gh0, this]
   ·rw [hxi, hV _ (hA i (by omega)).choose_spec.2.1]; exact hAl i (by omega)
   ·obtain ⟨v, h1, h2, _⟩ := hcell i j (by omega) hj
    simpa [f, h1] using h2
   ·have hc : cellsOf xs[i] = A i := by rw [hxi, hV _ (hA i (by omega)).choose_spec.2.1]
    have hj' : j < sz := by rw [hc, hAl i (by omega)] at hj; exact hj
    obtain ⟨v, h1, _, h3⟩ := hcell i j (by omega) hj'
    have := h3 ((cellsOf xs[i])[j]) (by rw [← hc]; simp)
    simpa [f, h1] using this
def OpensFs (P : Program) (fs : List Field) (k n : Nat) (V : List AV → Prop) : Prop :=
 ∀ {H : Type} (enc : TypeId × Value → H) (w : World) (cs : List Value), cs.length = n → (∀ f ∈ fs, ∃ fuel x, DataW.trod enc P w 0 (fun _ => true) true fuel f.type ((cs.drop f.offset).take (P.cellsOf f.type)) = some x) →
  ∃ as, V as ∧ Reads (gh0 w) w as (cs.drop k)
theorem opensFs_nil {n : Nat} : OpensFs P [] n n fun as => as = [] := fun enc w cs hl _ => ⟨[], rfl, ⟨by simp [hl], by simp⟩⟩
theorem opensFs_cons {fs : List Field} {f : Field} {k n s : Nat} {V1 V2 : List AV → Prop} (ho : f.offset = k) (hs : P.cellsOf f.type = s) (h1 : Opens P f.type V1) (h2 : OpensFs P fs (k + s) n V2) :
  OpensFs P (f :: fs) k n fun as => ∃ a b, as = a ++ b ∧ V1 a ∧ V2 b := fun enc w cs hl h => by
 obtain ⟨fuel, x, hx⟩ := h f (by simp)
 rw [ho, hs] at hx
 obtain ⟨a, k1, k2⟩ := h1 enc w fuel _ x hx
 obtain ⟨b, k3, k4⟩ := h2 enc w cs hl fun f hf => h f (by simp [hf])
 refine ⟨a ++ b, ⟨a, b, rfl, k1, k3⟩, ?_⟩
 have : cs.drop k = (cs.drop k).take s ++ cs.drop (k + s) := by rw [← List.drop_drop, List.take_append_drop]
 rw [this]
 exact k2.append k4
theorem opens_struct {fs : Array Field} {n : Nat} (ht : P.underlying t = some (.struct fs)) (hn : P.cellsOf t = n) (h : OpensFs P fs.toList 0 n V) : Opens P t V := fun {H} enc w fuel cs x hx => by
 obtain ⟨xs, m, _, _, hl, hxl, hf⟩ := DataW.trod_struct ht hx
 obtain ⟨as, h1, h2⟩ := h enc w cs (by rw [hl, hn]) fun f hf' => by
  obtain ⟨i, hi, rfl⟩ := List.mem_iff_getElem.1 hf'
  have hi' : i < fs.size := by simpa using hi
  have := hf i fs[i] (by simp [hi'])
  rw [List.getElem?_eq_getElem (by omega)] at this
  exact ⟨m, _, by simpa using this⟩
 exact ⟨as, h1, by simpa using h2⟩
theorem noagg {w : World} {r : Reach} {b : Nat} {v : Value} {d : TypeDesc} (ht : P.underlying t = some d) (hd : isAggD d = false) (h : Value.okWide P w r b t v) : ∀ cs, v ≠ .agg cs := by
 intro cs e
 subst e
 unfold Value.okWide at h
 rw [ht] at h
 cases d <;> simp [isAggD] at hd <;> simp [Cell.okWide, Cell.ok, ht] at h
theorem open_one {H : Type} {enc : TypeId × Value → H} {w : World} {r : Reach} {b : Nat} {v : Value} {d : TypeDesc} {x : DataW H} {ps : List MemPlace} (hO : Opens P t V) (ht : P.underlying t = some d) (hd : isAggD d = false) (hok : Value.okWide P w r b t v) (h : DataW.Trod enc P w 0 (fun _ => true) true t v x ps) :
  ∃ a, V [a] ∧ R (gh0 w) w a v := by
 obtain ⟨fuel, h⟩ := h
 obtain ⟨as, h1, h2⟩ := hO enc w fuel _ _ h
 have hv : v.cells.toList = [v] := by
  have := noagg ht hd hok
  cases v <;> first
   | rfl
   | exact absurd rfl (this _)
 rw [hv] at h2
 match as, h1, h2 with
 | [a], h1, h2 => exact ⟨a, h1, (h2.at_ 0 a v rfl rfl).1⟩
 | [], _, h2 => have := h2.len; simp at this
 | _ :: _ :: _, _, h2 => have := h2.len; simp at this
theorem calls_of_good {f : FuncId} {avs : List AV} {vs : List Value} {w : World} (h : Good P f (avs.map fun a => (a, false)) [] [(.b true, false)] []) (hl : avs.length = vs.length)
  (hv : ∀ (j : Nat) (a : AV) (v : Value), avs[j]? = some a → vs[j]? = some v → R (gh0 w) w a v) :
  Calls P f vs.toArray w fun e w' => e = .returned (.bool true) ∧ Below w.heap.size w w' := by
 refine (h.2 (gh0 w) w vs.toArray ⟨fun b hb => ?_, fun _ => trivial, rfl, fun id b cells h1 h2 => by simp [gh0] at h1⟩ ⟨by simp [hl], fun j x v hx hv' => ?_⟩).mono fun e w' ⟨v, gh', he, hext, _, hres⟩ => ?_
 ·simp only [gh0] at hb
  split at hb
  ·assumption
  ·exact absurd rfl hb
 ·simp only [List.getElem?_map, Option.map_eq_some_iff] at hx
  obtain ⟨a, ha, rfl⟩ := hx
  simp only [CompRel, Bool.false_eq_true, if_false]
  exact hv j a v ha (by simpa using hv')
 ·subst he
  simp only [ResRel, CompRel, Bool.false_eq_true, if_false] at hres
  cases hres
  exact ⟨rfl, hext.os, hext.tape, hext.output, hext.size, fun k hk => (hext.imm k (by simp [Gh.imm, gh0, hk])).2⟩
end
end Go.Vai
namespace Go.Vai
abbrev u8 (x : BitVec 8) : AV := .i .u8 (x.toNat : Int)
abbrev u32 (x : BitVec 32) : AV := .i .u32 (x.toNat : Int)
abbrev i64 (n : Int) : AV := .i .i64 n
abbrev bsl (l : List (BitVec 8)) : List AV := l.map u8
section
variable {P : Program} {C : Contract} {t : TypeId}
theorem wrap64 {n : Int} (h : -9223372036854775808 ≤ n ∧ n ≤ 9223372036854775807) : IntKind.i64.wrap n = n := by
 exact IntWalk.i64_in n (by omega)
theorem bin_add {a b : Int} (h : -9223372036854775808 ≤ a + b ∧ a + b ≤ 9223372036854775807) : aBin P .add t (.i .i64 a) (.i .i64 b) = some (.i .i64 (a + b)) := by
 simp [aBin, aArith, intBin, wrap64 h]
theorem bin_sub {a b : Int} (h : -9223372036854775808 ≤ a - b ∧ a - b ≤ 9223372036854775807) : aBin P .sub t (.i .i64 a) (.i .i64 b) = some (.i .i64 (a - b)) := by
 simp [aBin, aArith, intBin, wrap64 h]
theorem bin_mul {a b : Int} (h : -9223372036854775808 ≤ a * b ∧ a * b ≤ 9223372036854775807) : aBin P .mul t (.i .i64 a) (.i .i64 b) = some (.i .i64 (a * b)) := by
 simp [aBin, aArith, intBin, wrap64 h]
theorem bin_rem {a b : Int} (h : 0 ≤ a ∧ 0 < b) : aBin P .rem t (.i .i64 a) (.i .i64 b) = some (.i .i64 (a % b)) := by
 have : b ≠ 0 := by omega
 simp [aBin, aArith, intBin, this, Int.tmod_eq_emod_of_nonneg h.1]
theorem bin_quo {a b : Int} (h : 0 ≤ a ∧ 0 < b ∧ a ≤ 9223372036854775807) : aBin P .quo t (.i .i64 a) (.i .i64 b) = some (.i .i64 (a / b)) := by
 have h0 : b ≠ 0 := by omega
 have h1 : 0 ≤ a / b := Int.ediv_nonneg h.1 (by omega)
 have h2 : a / b ≤ a := Int.ediv_le_self _ h.1
 simp [aBin, aArith, intBin, h0, Int.tdiv_eq_ediv_of_nonneg h.1]
 exact wrap64 (by omega)
theorem bin_lss {k : IntKind} {a b : Int} : aBin P .lss t (.i k a) (.i k b) = some (.b (decide (a < b))) := by simp [aBin, aArith, intBin]
theorem bin_leq {k : IntKind} {a b : Int} : aBin P .leq t (.i k a) (.i k b) = some (.b (decide (a ≤ b))) := by simp [aBin, aArith, intBin]
theorem bin_gtr {k : IntKind} {a b : Int} : aBin P .gtr t (.i k a) (.i k b) = some (.b (decide (a > b))) := by simp [aBin, aArith, intBin]
theorem bin_geq {k : IntKind} {a b : Int} : aBin P .geq t (.i k a) (.i k b) = some (.b (decide (a ≥ b))) := by simp [aBin, aArith, intBin]
theorem bin_eql {k : IntKind} {a b : Int} : aBin P .eql t (.i k a) (.i k b) = some (.b (decide (a = b))) := by
 simp only [aBin, aEql, if_true, Option.map_some, AV.b]
 by_cases h : a = b <;> simp [h]
theorem bin_neq {k : IntKind} {a b : Int} : aBin P .neq t (.i k a) (.i k b) = some (.b (decide (a ≠ b))) := by
 simp only [aBin, aEql, if_true, Option.map_some, AV.b]
 by_cases h : a = b <;> simp [h]
theorem bv32 (x : BitVec 32) : BitVec.ofInt 32 (x.toNat : Int) = x := by simp
theorem bv8 (x : BitVec 8) : BitVec.ofInt 8 (x.toNat : Int) = x := by simp
theorem wrapu32 (n : Int) : IntKind.u32.wrap n = ((BitVec.ofInt 32 n).toNat : Int) := by
 simp [IntKind.wrap, IntKind.signed, IntKind.bits, BitVec.toNat_ofInt]
 omega
theorem wrapu8 (n : Int) : IntKind.u8.wrap n = ((BitVec.ofInt 8 n).toNat : Int) := by
 simp [IntKind.wrap, IntKind.signed, IntKind.bits, BitVec.toNat_ofInt]
 omega
theorem bin_xor32 {a b : Int} : aBin P .xor t (.i .u32 a) (.i .u32 b) = some (u32 (BitVec.ofInt 32 a ^^^ BitVec.ofInt 32 b)) := by
 simp only [aBin, aArith, intBin, if_true, wrapu32, IntKind.bits, bv32]; rfl
theorem bin_xor8 {a b : Int} : aBin P .xor t (.i .u8 a) (.i .u8 b) = some (u8 (BitVec.ofInt 8 a ^^^ BitVec.ofInt 8 b)) := by
 simp only [aBin, aArith, intBin, if_true, wrapu8, IntKind.bits, bv8]; rfl
theorem bin_and32 {a b : Int} : aBin P .and t (.i .u32 a) (.i .u32 b) = some (u32 (BitVec.ofInt 32 a &&& BitVec.ofInt 32 b)) := by
 simp only [aBin, aArith, intBin, if_true, wrapu32, IntKind.bits, bv32]; rfl
theorem bin_or32 {a b : Int} : aBin P .or t (.i .u32 a) (.i .u32 b) = some (u32 (BitVec.ofInt 32 a ||| BitVec.ofInt 32 b)) := by
 simp only [aBin, aArith, intBin, if_true, wrapu32, IntKind.bits, bv32]; rfl
theorem bin_mul32 {a b : Int} : aBin P .mul t (.i .u32 a) (.i .u32 b) = some (u32 (BitVec.ofInt 32 a * BitVec.ofInt 32 b)) := by
 simp only [aBin, aArith, intBin, if_true, wrapu32, BitVec.ofInt_mul]
theorem bin_add32 {a b : Int} : aBin P .add t (.i .u32 a) (.i .u32 b) = some (u32 (BitVec.ofInt 32 a + BitVec.ofInt 32 b)) := by
 simp only [aBin, aArith, intBin, if_true, wrapu32, BitVec.ofInt_add]
theorem bin_sub32 {a b : Int} : aBin P .sub t (.i .u32 a) (.i .u32 b) = some (u32 (BitVec.ofInt 32 a - BitVec.ofInt 32 b)) := by
 simp only [aBin, aArith, intBin, if_true, wrapu32]
 congr 4
 rw [Int.sub_eq_add_neg, BitVec.ofInt_add, BitVec.ofInt_neg, BitVec.sub_eq_add_neg]
theorem bin_shr32 {x : BitVec 32} {k : IntKind} {b : Int} (h : 0 ≤ b ∧ b ≤ 32) : aBin P .shr t (u32 x) (.i k b) = some (u32 (x >>> b.toNat)) := by
 have : ¬ b < 0 := by omega
 simp only [aBin, aShift, shiftBin, this, if_false, IntKind.bits]
 rw [Nat.min_eq_left (by omega)]
 have e : (2 : Int) ^ b.toNat = ((2 ^ b.toNat : Nat) : Int) := by simp
 have e0 : (0 : Int) ≤ ((2 ^ b.toNat : Nat) : Int) := Int.natCast_nonneg _
 rw [e, Int.fdiv_eq_ediv_of_nonneg _ e0, ← Int.natCast_ediv, ← Nat.shiftRight_eq_div_pow, ← BitVec.toNat_ushiftRight]
theorem ofInt_toNat32 {b : Int} (h : 0 ≤ b ∧ b < 4294967296) : ((BitVec.ofInt 32 b).toNat : Int) = b := by
 rw [BitVec.toNat_ofInt]; simp; omega
theorem bin_rem32 {x : BitVec 32} {b : Int} (h : 0 < b ∧ b < 4294967296) : aBin P .rem t (u32 x) (.i .u32 b) = some (u32 (x % BitVec.ofInt 32 b)) := by
 have h0 : b ≠ 0 := by omega
 have h1 : (0 : Int) ≤ (x.toNat : Int) := Int.natCast_nonneg _
 simp only [aBin, aArith, intBin, if_true, h0, if_false, Int.tmod_eq_emod_of_nonneg h1]
 have e : ((x % BitVec.ofInt 32 b).toNat : Int) = (x.toNat : Int) % b := by rw [BitVec.toNat_umod, Int.natCast_emod, ofInt_toNat32 (by omega)]
 show _ = some (AV.i .u32 ((x % BitVec.ofInt 32 b).toNat : Int))
 rw [e]
theorem bin_quo32 {x : BitVec 32} {b : Int} (h : 0 < b ∧ b < 4294967296) : aBin P .quo t (u32 x) (.i .u32 b) = some (u32 (x / BitVec.ofInt 32 b)) := by
 have h0 : b ≠ 0 := by omega
 have h1 : (0 : Int) ≤ (x.toNat : Int) := Int.natCast_nonneg _
 simp only [aBin, aArith, intBin, if_true, h0, if_false, Int.tdiv_eq_ediv_of_nonneg h1, wrapu32]
 congr 4
 apply BitVec.eq_of_toNat_eq
 have h2 : ((x.toNat : Int) / b) = ((x.toNat / b.toNat : Nat) : Int) := by
  rw [Int.natCast_ediv, Int.toNat_of_nonneg (by omega)]
 rw [h2, BitVec.toNat_udiv]
 have h3 : (BitVec.ofInt 32 b).toNat = b.toNat := by have := ofInt_toNat32 (b := b) (by omega); omega
 rw [h3, BitVec.ofInt_natCast, BitVec.toNat_ofNat]
 have := x.isLt
 exact Nat.mod_eq_of_lt (Nat.lt_of_le_of_lt (Nat.div_le_self _ _) this)
theorem wrapu64 {n : Int} (h : 0 ≤ n ∧ n < 18446744073709551616) : IntKind.u64.wrap n = n := by
 simp [IntKind.wrap, IntKind.signed, IntKind.bits]; omega
theorem un_xor32 {a : Int} : aUn .xor (.i .u32 a) = some (u32 (~~~ BitVec.ofInt 32 a)) := by
 simp only [aUn, intBin, IntKind.signed, IntKind.bits, wrapu32]
 congr 4
 simp [IntKind.max, IntKind.signed, IntKind.bits]
 rfl
theorem un_not {b : Bool} : aUn .not (.b b) = some (.b (!b)) := rfl
end
theorem conv_8_32 (x : BitVec 8) : IntKind.u32.wrap (x.toNat : Int) = ((x.setWidth 32).toNat : Int) := by
 rw [wrapu32]; simp
theorem act_convI {P : Program} {cfg : Cfg} {raw : Operand → LV} {dst : Option Tmp} {ty : TypeId} {pos : String} {aft : Array Edge} {g : Option (Nat × Bool)} {src dt : TypeId} {x : Operand} {d : TypeDesc} {k : IntKind} (h1 : P.underlying src = some d) (h2 : P.underlying dt = some (.int k)) :
  act P cfg raw ⟨dst, .convert src dt x, ty, pos, aft, g⟩ = match opn (raw x) with | .v (.base (.int _ n)) => .ret (.v (.i k (k.wrap n))) | _ => .fail := by
 simp only [act, h1, h2]
 cases opn (raw x) with
 | v a => cases a with
  | base v => cases v <;> rfl
  | _ => rfl
 | own _ _ _ _ => cases d <;> rfl
 | _ => rfl
theorem good_of_body2 {P : Program} {f : FuncId} {fn : Func} {c : Code} {args : List (AV × Bool)} {G r G'} (nt : Nat) (hf : P.funcs[f]? = some fn) (hn : (fn.name == "runtime.NumGoroutine") = false) (hb : fn.body = some c) (hnt : fn.ntmps = nt) (hl : args.length ≤ nt)
  (h : ∀ (s : Nat → LV) (m : Mem), (∀ (j : Nat) (x : AV × Bool), args[j]? = some x → s j = argLV j x) → (∀ i, m.objs (.res i) = (0, .dead)) → (∀ (j : Nat) (x : AV × Bool), args[j]? = some x → m.objs (.var j) = argObj x) → m.G = G →
   AW P c ⟨nt, s, m⟩ fun e σ => (e = .normal ∨ e = .ret) ∧ Leaves P (Good P) fn r G' σ) : Good P f args G r G' := by
 subst hnt
 exact good_of_body hf hn hb hl (h _ _ (fun j x hx => by simp only [hx]) (fun _ => rfl) (fun j x hx => by simp only [hx]) rfl)
theorem leaves_mwp {P : Program} {C : Contract} {fn : Func} {r : List (AV × Bool)} {G' : List (List AV)} {σ : St} (h : Mwp C (leave P fn (r.map (·.2)) σ.slots) σ.mem {} fun vs m' _ => vs = r.map (·.1) ∧ m'.G = G') : Leaves P C fn r G' σ := by
 obtain ⟨vs, m', fp, h1, _, ⟨h2, h3⟩, _⟩ := run_of_mwp _ _ _ _ h
 subst h2
 exact ⟨m', fp, h1, h3⟩
theorem leaves_tmp1 {P : Program} {C : Contract} {fn : Func} {a : AV} {G' : List (List AV)} {n : Nat} {s : Nat → LV} {m : Mem} (t : Nat) (hr : fn.results = #[.tmp t]) (hs : s t = .v a) (hG : m.G = G') : Leaves P C fn [(a, false)] G' ⟨n, s, m⟩ := by
 refine leaves_mwp ?_
 simp [leave, hr, giveL, srcOne, hs, opn, giveOne, reify, readL, readOne, Mwp, M.bind, hG]
section
variable {P : Program} {C : Contract} {cfg : Cfg} {raw : Operand → LV} {dst : Option Tmp} {ty : TypeId} {pos : String} {aft : Array Edge} {g : Option (Nat × Bool)}
theorem peek_v {a : AV} : peek (.v a) = .ret a := rfl
theorem lvOpt_some {a : AV} : lvOpt (some a) = .ret (.v a) := rfl
theorem mbind_ret {α β : Type} {a : α} {q : α → M β} : (M.ret a).bind q = q a := rfl
theorem mbind_fail {α β : Type} {q : α → M β} : (M.fail : M α).bind q = .fail := rfl
theorem aops_len {t : TypeId} {e : TypeId} (h : P.underlying t = some (.slice e)) {sz : Nat} {nil : Bool} {xs : List AV} : builtinL P .len #[t] dst [.v (.sl sz nil xs)] = .ret (.v (.i .i64 xs.length)) := by
 simp [builtinL, peek, M.bind, h]
def idxL (sz : Nat) (i : Option Int) (x : LV) : M LV := match i with | some n => aIndex sz n x | none => .fail
theorem idxL_some {sz : Nat} {n : Int} {x : LV} : idxL sz (some n) x = aIndex sz n x := rfl
theorem intOf_v {k : IntKind} {n : Int} : intOf (.v (.i k n)) = some n := rfl
theorem aIndex_map {α : Type} {f : α → AV} {l : List α} {sz : Nat} {n : Int} {nil : Bool} (h0 : 0 ≤ n) (h1 : n.toNat < l.length) : aIndex sz n (.v (.sl sz nil (l.map f))) = .ret (.v (.iptr (cellsOf (f (l[n.toNat]))) 0)) := by
 simp [aIndex, h0, h1]
theorem cellsOf_base {v : Value} : cellsOf (.base v) = [.base v] := rfl
theorem cellsOf_sl {s n xs} : cellsOf (.sl s n xs) = [.sl s n xs] := rfl
theorem cellsOf_agg {xs} : cellsOf (.agg xs) = xs := rfl
theorem aLoad_one {a : AV} {b : Nat} {z : List AV} : aLoad ⟨1, b, z, false⟩ (.v (.iptr [a] 0)) = .ret (.v a) := rfl
end
attribute [go_sem] intOf_v idxL_some cellsOf_base cellsOf_sl cellsOf_agg aLoad_one Int.toNat_natCast peek_v lvOpt_some mbind_ret mbind_fail mwp_ret mwp_getO mwp_setO mwp_getG mwp_setG mwp_bind act_move act_assign_tmp act_assign_int act_assign_bool act_assign_str act_assign_agg act_assign_nil asg_v
 act_bin act_un act_builtin raw_tmp raw_int raw_bool raw_str raw_nil raw_func raw_agg opn_v opn_own opn_lptr opn_eptr opn_agg opn_tup
 bin_add bin_sub bin_rem bin_quo bin_rem32 bin_quo32 wrapu64 wrap64 bin_lss bin_leq bin_gtr bin_geq bin_eql bin_neq bin_xor8 bin_xor32 bin_and32 bin_or32 bin_mul32 bin_add32 bin_sub32 bin_shr32 un_xor32 un_not conv_8_32 bv32 bv8
theorem mwp_call_s {C : Contract} {cfg : Cfg} {d f : Nat} {args : List LV} {m : Mem} {fp : Fp} {K : LV → Mem → Fp → Prop} {as : List AV} {a : AV} (hp : cfg.pure f = true) (hx : cfg.xfer f = false) (hs : cfg.scalar f = true)
  {fp1 : Fp} (hpk : ∀ Q : List AV → Mem → Fp → Prop, Q as m fp1 → Mwp C (peekL args) m fp Q) (h : C f (as.map fun a => (a, false)) [] [(a, false)] []) (hn : noPtrL as = true) (hsa : scalarAV a = true) (k : K (.v a) m fp1) :
  Mwp C (callL cfg (some d) f [] args) m fp K := by
 simp only [callL, hx, Bool.false_eq_true, if_false, prep, hp, hs, Bool.and_self, if_true, mwp_bind, List.append_nil]
 refine hpk _ ?_
 have e : (as.map fun a => (a, false)).map (fun x : AV × Bool => x.1) = as := by simp [Function.comp_def]
 simp only [fin, hp, hs, if_true, List.nil_append]
 rw [e, hn]
 simp only [if_true, mwp_pcall]
 exact ⟨_, h, by simp [hsa, resOf, resL, resOne, M.bind, Mwp]; exact k⟩
theorem noPtrL_map {α : Type} {f : α → AV} (h : ∀ x, noPtr (f x) = true) : ∀ l : List α, noPtrL (l.map f) = true
 | [] => rfl
 | x :: l => by simp [noPtrL, h x, noPtrL_map h l]
theorem noPtrL_bsl (l : List (BitVec 8)) : noPtrL (l.map u8) = true := noPtrL_map (fun _ => rfl) l
section
variable {P : Program} {C : Contract} {cfg : Cfg} {raw : Operand → LV} {ty : TypeId} {pos : String} {aft : Array Edge} {g : Option (Nat × Bool)}
def sliceL (sz : Nat) (l h m : Option (Option Int)) (y : LV) : M LV :=
 match l, h, m with
 | some l, some h, some m => match y with
  | .v (.base _) => .fail
  | y => aSlice sz l h m y
 | _, _, _ => .fail
theorem act_slice_s {dst : Option Tmp} {t e : TypeId} {x : Operand} {lo hi mx : Option Operand} {ti : TI} (h : P.underlying t = some (.slice e)) (hti : tiOf P e = some ti) :
  act P cfg raw ⟨dst, .slice t x lo hi mx, ty, pos, aft, g⟩ = sliceL ti.sz (bnd (lo.map fun x => opn (raw x))) (bnd (hi.map fun x => opn (raw x))) (bnd (mx.map fun x => opn (raw x))) (opn (raw x)) := by
 simp only [act, h, sliceL]
 cases bnd (lo.map fun x => opn (raw x)) <;> cases bnd (hi.map fun x => opn (raw x)) <;> cases bnd (mx.map fun x => opn (raw x)) <;> simp only
 rw [hti]
 cases opn (raw x) with
 | v a => cases a <;> rfl
 | _ => rfl
theorem bnd_none : bnd none = some none := rfl
theorem bnd_some {k : IntKind} {n : Int} : bnd (some (.v (.i k n))) = some (some n) := rfl
theorem sliceL_sl {sz : Nat} {l h m : Option Int} {s n xs} : sliceL sz (some l) (some h) (some m) (.v (.sl s n xs)) = aSlice sz l h m (.v (.sl s n xs)) := rfl
theorem sliceL_own {sz : Nat} {l h m : Option Int} {n g a b} : sliceL sz (some l) (some h) (some m) (.own n g a b) = aSlice sz l h m (.own n g a b) := rfl
variable {α : Type} {f : α → AV} {l : List α} {sz : Nat} {nil : Bool}
theorem aSlice_hi {h : Int} (h0 : 0 ≤ h ∧ h ≤ l.length) : aSlice sz none (some h) none (.v (.sl sz nil (l.map f))) = .ret (.v (.sl sz nil ((l.take h.toNat).map f))) := by
 simp [aSlice, aBounds, h0.1, h0.2, sub, List.map_take]
theorem aSlice_lo {a : Int} (h0 : 0 ≤ a ∧ a ≤ l.length) : aSlice sz (some a) none none (.v (.sl sz nil (l.map f))) = .ret (.v (.sl sz nil ((l.drop a.toNat).map f))) := by
 simp [aSlice, aBounds, h0.1, h0.2, sub, List.map_drop, List.take_of_length_le]
theorem aSlice_lohi {a h : Int} (h0 : 0 ≤ a ∧ a ≤ h ∧ h ≤ l.length) : aSlice sz (some a) (some h) none (.v (.sl sz nil (l.map f))) = .ret (.v (.sl sz nil (((l.take h.toNat).drop a.toNat).map f))) := by
 simp [aSlice, aBounds, h0.1, h0.2.1, h0.2.2, sub, List.map_take, List.map_drop]
theorem aSlice_all : aSlice sz none none none (.v (.sl sz nil (l.map f))) = .ret (.v (.sl sz nil (l.map f))) := by
 simp [aSlice, aBounds, sub, List.take_of_length_le]
theorem act_bs {t e : TypeId} {d len : Nat} {parts : Array (Nat × Operand)} {ti : TI} (h : elOf P t = some e) (hti : tiOf P e = some ti) :
  act P cfg raw ⟨some d, .buildSlice t len parts, ty, pos, aft, g⟩ = if len * ti.sz ≤ 16777216 then
   (elems ti (parts.toList.map fun p => opn (raw p.2))).bind fun as => match partsOf ti.z len ((parts.toList.map (·.1)).zip as) (List.replicate len ti.z) with
    | some xs => newArr d 0 false ti.sz xs len
    | none => .fail
   else .fail := by
 simp only [act, h, hti]; rfl
theorem elems_nil {ti : TI} : elems ti [] = .ret [] := rfl
theorem elems_v {ti : TI} {a : AV} {xs : List LV} (h : ((cellsOf a).length = ti.sz ∧ ti.agg = isAggAV a ∧ (cellsOf a).all cellishAV = true)) : elems ti (.v a :: xs) = (elems ti xs).bind fun l => .ret (a :: l) := by
 simp only [elems, reify, M.bind, h]; rfl
theorem newArr_eq {t i : Nat} {nil : Bool} {sz : Nat} {xs : List AV} {hi : Nat} {m : Mem} {fp : Fp} {K : LV → Mem → Fp → Prop} : Mwp C (newArr t i nil sz xs hi) m fp K = K (.own (.tmp t i) ((m.objs (.tmp t i)).1 + 1) 0 hi) (m.set (.tmp t i) ((m.objs (.tmp t i)).1 + 1, .arr nil sz xs)) ((fp.addN (.tmp t i)).addW (.tmp t i)) := rfl
theorem peek_own {n : Nm} {gg lo hi : Nat} {m : Mem} {fp : Fp} {Q : AV → Mem → Fp → Prop} {nl : Bool} {s : Nat} {xs : List AV} (h : m.objs n = (gg, .arr nl s xs)) : Mwp C (peek (.own n gg lo hi)) m fp Q = Q (.sl s nl (sub xs lo hi)) m (fp.addN n) := by
 simp [peek, peekN, Mwp, h]
def convBL : LV → M LV
 | .own n g lo hi => convN n g lo hi
 | _ => .fail
theorem act_convB {dst : Option Tmp} {t e : TypeId} {x : Operand} (h : P.underlying t = some (.slice e)) (he : P.underlying e = some (.int .u8)) :
  act P cfg raw ⟨dst, .convert t t x, ty, pos, aft, g⟩ = convBL (opn (raw x)) := by
 simp only [act, h, if_true]
 cases opn (raw x) with
 | v a => cases a with
  | base v => cases v <;> rfl
  | _ => rfl
 | own _ _ _ _ => simp only [he]; rfl
 | _ => rfl
theorem convBL_own {n : Nm} {gg lo hi : Nat} : convBL (.own n gg lo hi) = convN n gg lo hi := rfl
theorem convN_eq {n : Nm} {gg lo hi : Nat} {m : Mem} {fp : Fp} {K : LV → Mem → Fp → Prop} {s : Nat} {xs : List AV} (h : m.objs n = (gg, .arr false s xs)) :
  Mwp C (convN n gg lo hi) m fp K = K (.v (.sl s false (sub xs lo hi))) (m.set n (gg + 1, .dead)) ((fp.addN n).addW n) := by
 simp [convN, Mwp, h]
theorem mset_same (m : Mem) (n : Nm) (x : Nat × Obj) : (m.set n x).objs n = x := by simp [Mem.set]
theorem mset_ne (m : Mem) {n k : Nm} (x : Nat × Obj) (h : k ≠ n) : (m.set n x).objs k = m.objs k := by simp [Mem.set, h]
theorem mset_G (m : Mem) (n : Nm) (x : Nat × Obj) : (m.set n x).G = m.G := rfl
theorem sub_full {xs : List AV} {n : Nat} (h : xs.length = n) : sub xs 0 n = xs := by subst h; simp [sub]
end
def pickM (c x y : LV) : M LV := match c with | .v (.base (.bool b)) => .ret (pickLV b x y) | _ => .fail
theorem act_pick {P : Program} {cfg : Cfg} {raw : Operand → LV} {dst : Option Tmp} {ty : TypeId} {pos : String} {aft : Array Edge} {g : Option (Nat × Bool)} {c x y : Operand} : act P cfg raw ⟨dst, .pick c x y, ty, pos, aft, g⟩ = pickM (opn (raw c)) (raw x) (raw y) := rfl
theorem pickM_b {b : Bool} {x y : LV} : pickM (.v (.b b)) x y = .ret (pickLV b x y) := rfl
theorem pick_t {x y : LV} : pickLV true x y = opn x := rfl
theorem pick_f {x y : LV} : pickLV false x y = opn y := rfl
attribute [go_sem] act_pick pickM_b pick_t pick_f convBL_own bnd_none bnd_some sliceL_sl sliceL_own aSlice_hi aSlice_lo aSlice_lohi aSlice_all elems_nil newArr_eq Nm.tmp.injEq Nm.var.injEq Nm.cell.injEq Nm.res.injEq reduceCtorEq Nat.reduceEqDiff and_true true_and and_false false_and and_self mset_G Option.map_some Option.map_none
theorem wf_u8 {n : Int} (h : (Lit.int .u8 n).wf = true) : 0 ≤ n ∧ n ≤ 255 := by
 simp [Lit.wf, IntKind.min, IntKind.max, IntKind.signed, IntKind.bits] at h; omega
theorem bytes_of : ∀ {xs : List AV}, (∀ x ∈ xs, ∃ as, (∃ n, as = [.i .u8 n] ∧ (Lit.int .u8 n).wf = true) ∧ x = mkE false as) → ∃ l, xs = bsl l
 | [], _ => ⟨[], rfl⟩
 | x :: xs, h => by
  obtain ⟨as, ⟨n, rfl, hn⟩, rfl⟩ := h x (by simp)
  obtain ⟨l, rfl⟩ := bytes_of (xs := xs) fun y hy => h y (by simp [hy])
  have hn := wf_u8 hn
  refine ⟨BitVec.ofInt 8 n :: l, ?_⟩
  simp only [bsl, List.map_cons, mkE, Bool.false_eq_true, if_false, List.headD_cons, List.cons.injEq, and_true]
  have : ((BitVec.ofInt 8 n).toNat : Int) = n := by rw [BitVec.toNat_ofInt]; simp; omega
  show AV.i .u8 n = AV.i .u8 _
  rw [this]
attribute [go_sem ↓] upd_if mset_if reduceIte
end Go.Vai
namespace Go.Vai
section
variable {P : Program} {C : Contract} {cfg : Cfg} {ops : Array Oper} {n : Nat} {f : Nat → LV} {m : Mem} {Q : St → Prop} {r : List Oper}
theorem adraw_merge' {d : Nat} {op ty pos aft g} {c : Bool} {lv : LV} {fq : Fp} {i : Nat} {acc : List (Nat × Fp)} (hw : wantO ops ⟨n, f, m⟩ ⟨some d, op, ty, pos, aft, g⟩ = some c)
  (h : c = true → ∀ K : LV → Mem → Fp → Prop, K lv m fq → Mwp C (act P cfg (St.raw ⟨n, f, m⟩) ⟨some d, op, ty, pos, aft, g⟩) m {} K)
  (k : ADrawL P C cfg ops r (i + 1) ⟨n, upd f d (.cond c lv), m⟩ ((i, fq) :: acc) Q) : ADrawL P C cfg ops (⟨some d, op, ty, pos, aft, g⟩ :: r) i ⟨n, f, m⟩ acc Q := by
 cases c with
 | true =>
  obtain ⟨lv', m', fp, hr, fq', ⟨rfl, rfl, rfl⟩, h1⟩ := run_of_mwp _ _ _ _ (h rfl (fun a m' f' => a = lv ∧ m' = m ∧ f' = fq) ⟨rfl, rfl, rfl⟩)
  exact ⟨_, _, fp, fq', .merge hw hr.frame.2.1 fun _ => hr, sub_of_same h1, k⟩
 | false => exact ⟨.cond false lv, m, {}, fq, AStep.merge hw ⟨fun _ h => h, fun h => h⟩ (fun h => by cases h), sub_none _, k⟩
end
theorem want_of {ops : Array Oper} {n : Nat} {f : Nat → LV} {m : Mem} {dst op ty pos aft} {j : Nat} {want : Bool} {d : Nat} {b : Bool} (hd : (ops[j]?).bind (·.dst) = some d) (hf : f d = .v (.b b)) : wantO ops ⟨n, f, m⟩ ⟨dst, op, ty, pos, aft, some (j, want)⟩ = some (b == want) := by
 simp only [wantO, hd, hf, wantOf]
theorem pick_or {c e : Bool} : pickLV c (.v (.b true)) (.cond (c == false) (.v (.b e))) = .v (.b (c || e)) := by cases c <;> rfl
theorem pick_and {c e : Bool} : pickLV c (.cond (c == true) (.v (.b e))) (.v (.b false)) = .v (.b (c && e)) := by cases c <;> rfl
section
variable {P : Program} {C : Contract} {cfg : Cfg} {raw : Operand → LV} {ty : TypeId} {pos : String} {aft : Array Edge} {g : Option (Nat × Bool)}
theorem mwp_reify_own {n : Nm} {gg lo hi : Nat} {m : Mem} {fp : Fp} {Q : AV → Mem → Fp → Prop} {nl : Bool} {s : Nat} {xs : List AV} (h : m.objs n = (gg, .arr nl s xs)) :
  Mwp C (reify (.own n gg lo hi)) m fp Q = Q (.sl s nl (sub xs lo hi)) (m.set n (gg, .frz nl s xs)) ((fp.addN n).addW n) := by
 simp [reify, freezeN, Mwp, h]
theorem elems_cons {ti : TI} {x : LV} {xs : List LV} : elems ti (x :: xs) = (reify x).bind fun a => if (cellsOf a).length = ti.sz ∧ ti.agg = isAggAV a ∧ (cellsOf a).all cellishAV = true then (elems ti xs).bind fun l => .ret (a :: l) else .fail := rfl
theorem asg_tmp {b : Bool} {d t i gg lo hi : Nat} {nil : Bool} {sz : Nat} {xs : List AV} {m : Mem} {fp : Fp} {K : LV → Mem → Fp → Prop} (h : m.objs (.tmp t i) = (gg, .arr nil sz xs)) :
  Mwp C (asg b d (.own (.tmp t i) gg lo hi)) m fp K = K (.own (.var d) ((m.objs (.var d)).1 + 1) lo hi) ((m.set (.var d) ((m.objs (.var d)).1 + 1, .arr nil sz xs)).set (.tmp t i) (gg + 1, .dead)) ((((fp.addN (.tmp t i)).addN (.var d)).addW (.var d)).addW (.tmp t i)) := by
 cases b <;> simp [asg, settle, rehome, Mwp, h]
theorem asg_mv {b : Bool} {d : Nat} {n : Nm} {gg lo hi : Nat} {nil : Bool} {sz : Nat} {xs : List AV} {m : Mem} {fp : Fp} {K : LV → Mem → Fp → Prop} (hb : b = true) (hn : n ≠ .var d) (h : m.objs n = (gg, .arr nil sz xs)) :
  Mwp C (asg b d (.own n gg lo hi)) m fp K = K (.own (.var d) ((m.objs (.var d)).1 + 1) lo hi) ((m.set (.var d) ((m.objs (.var d)).1 + 1, .arr nil sz xs)).set n (gg + 1, .dead)) ((((fp.addN n).addN (.var d)).addW (.var d)).addW n) := by
 subst hb
 simp [asg, hn, rehome, Mwp, h]
theorem asg_fz {b : Bool} {d : Nat} {k : Nat} {gg lo hi : Nat} {nil : Bool} {sz : Nat} {xs : List AV} {m : Mem} {fp : Fp} {K : LV → Mem → Fp → Prop} (hb : b = false) (hn : Nm.var k ≠ .var d) (h : m.objs (.var k) = (gg, .arr nil sz xs)) :
  Mwp C (asg b d (.own (.var k) gg lo hi)) m fp K = K (.v (.sl sz nil (sub xs lo hi))) (m.set (.var k) (gg, .frz nil sz xs)) ((fp.addN (.var k)).addW (.var k)) := by
 subst hb
 simp only [asg, Bool.false_eq_true, false_and, if_false, settle, if_neg hn, mwp_bind]
 simp [freezeN, Mwp, h]
end
attribute [go_sem] pick_or pick_and
end Go.Vai
namespace Go.Vai
section
variable {P : Program} {C : Contract} {cfg : Cfg} {m : Mem} {fp : Fp} {n : Nm} {gg : Nat} {nl : Bool} {sz : Nat} {xs : List AV}
theorem mwp_aIndex_own {K : LV → Mem → Fp → Prop} {lo hi : Nat} {i : Int} (h : m.objs n = (gg, .arr nl sz xs)) (h0 : 0 ≤ i) (h1 : i.toNat < hi - lo) :
  Mwp C (aIndex sz i (.own n gg lo hi)) m fp K = K (.eptr n gg (lo + i.toNat) 0) m (fp.addN n) := by
 simp [aIndex, h0, h1, Mwp, h]
theorem mwp_aLoad_e1 {K : LV → Mem → Fp → Prop} {b : Nat} {z : List AV} {i : Nat} {a : AV} (h : m.objs n = (gg, .arr nl sz xs)) (hi : xs[i]? = some a) (hc : cellsOf a = [a]) :
  Mwp C (aLoad ⟨1, b, z, false⟩ (.eptr n gg i 0)) m fp K = K (.v a) m (fp.addN n) := by
 simp [aLoad, Mwp, h, hi, hc, loadL]
theorem mwp_aStore_e1 {K : Unit → Mem → Fp → Prop} {b : Nat} {z : List AV} {i : Nat} {a v : AV} (h : m.objs n = (gg, .arr nl 1 xs)) (hi : xs[i]? = some a) (ha : cellsOf a = [a]) (hv : cellsOf v = [v]) (hv2 : cellishAV v = true) (hna : isAggAV a = false) :
  Mwp C (aStore ⟨1, b, z, false⟩ (.eptr n gg i 0) (.v v)) m fp K = K () (m.set n (gg, .arr nl 1 (xs.set i v))) ((fp.addN n).addW n) := by
 have hs : setCells a 0 [v] = v := by
  cases a <;> first
   | rfl
   | (simp [isAggAV] at hna)
 simp [aStore, cellsL, hv, reifyL, reify, M.bind, Mwp, h, hi, ha, hv2, hs]
theorem mwp_call_r {d f : Nat} {args : List LV} {K : LV → Mem → Fp → Prop} {as : List AV} {r : List (AV × Bool)} {m1 : Mem} {fp1 : Fp} (hp : cfg.pure f = true) (hx : cfg.xfer f = false) (hs : cfg.scalar f = false)
  (hpk : ∀ Q : List AV → Mem → Fp → Prop, Q as m1 fp1 → Mwp C (reifyL args) m fp Q) (h : C f (as.map fun a => (a, false)) [] r []) (hn : noPtrL as = true) (k : Mwp C (resOf (some d) r) m1 fp1 K) :
  Mwp C (callL cfg (some d) f [] args) m fp K := by
 simp only [callL, hx, Bool.false_eq_true, if_false, prep, hp, hs, Bool.false_and, mwp_bind, List.append_nil]
 refine hpk _ ?_
 have e : (as.map fun a => (a, false)).map (fun x : AV × Bool => x.1) = as := by simp [Function.comp_def]
 simp only [fin, hp, hs, if_true, List.nil_append, Bool.false_eq_true, if_false]
 rw [e, hn]
 simp only [if_true, mwp_pcall]
 exact ⟨_, h, k⟩
end
end Go.Vai
