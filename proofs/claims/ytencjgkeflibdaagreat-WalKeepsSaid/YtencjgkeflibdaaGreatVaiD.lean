import Derived.Test.YtencjgkeflibdaaGreatVaiC
set_option linter.unusedSimpArgs false
set_option linter.unusedVariables false
set_option linter.constructorNameAsVariable false
namespace Go.Vai
section
variable {P : Program} {C : Contract} {cfg : Cfg} {raw : Operand → LV} {dst : Option Tmp} {ty : TypeId} {pos : String} {aft : Array Edge} {g : Option (Nat × Bool)}
theorem mwp_newBox {t : Nat} {cells : List LV} {m : Mem} {fp : Fp} {K : LV → Mem → Fp → Prop} : Mwp C (newBox t cells) m fp K = K (.lptr (.tmp t 0) ((m.objs (.tmp t 0)).1 + 1) 0) (m.set (.tmp t 0) ((m.objs (.tmp t 0)).1 + 1, .box cells)) ((fp.addN (.tmp t 0)).addW (.tmp t 0)) := rfl
def fieldL (ti : TI) (off : Nat) : LV → M LV
  | .v (.agg fs) => loadL ti (fs.map .v) off
  | .agg fs => loadL ti fs off
  | _ => .fail
end
section
variable {C : Contract} {m : Mem} {fp : Fp} {n : Nm} {gg : Nat} {cells : List LV} {off : Nat}
theorem mwp_fieldAddr_b {K : LV → Mem → Fp → Prop} {o : Nat} (h : m.objs n = (gg, .box cells)) : Mwp C (aFieldAddr off (.lptr n gg o)) m fp K = K (.lptr n gg (o + off)) m (fp.addN n) := by
  simp [aFieldAddr, Mwp, h, Obj.isBox]
theorem mwp_load_b1 {K : LV → Mem → Fp → Prop} {b : Nat} {z : List AV} {x : LV} (h : m.objs n = (gg, .box cells)) (hx : cells[off]? = some x) : Mwp C (aLoad ⟨1, b, z, false⟩ (.lptr n gg off)) m fp K = K x m (fp.addN n) := by
  have hl : off + 1 ≤ cells.length := (List.getElem?_eq_some_iff.1 hx).1
  simp only [aLoad, Mwp, h, if_true, loadL, hl, hx, Bool.false_eq_true, if_false]
theorem mwp_load_bs {K : LV → Mem → Fp → Prop} {sz b : Nat} {z : List AV} (h : m.objs n = (gg, .box cells)) (hl : off + sz ≤ cells.length) : Mwp C (aLoad ⟨sz, b, z, true⟩ (.lptr n gg off)) m fp K = K (.agg ((cells.drop off).take sz)) m (fp.addN n) := by
  simp only [aLoad, Mwp, h, if_true, loadL, hl]
end
def vish : LV → Bool
  | .v a => cellishAV a
  | _ => false
theorem settleL_vish {t : Nat} : ∀ (cs : List LV) (j : Nat), cs.all vish = true → settleL t j cs = .ret cs
  | [], _, _ => rfl
  | c :: cs, j, h => by
    simp only [List.all_cons, Bool.and_eq_true] at h
    cases c with
    | v a => have h1 : cellishAV a = true := h.1
             simp only [settleL, settle, h1, if_true, M.bind, settleL_vish cs (j + 1) h.2]
    | _ => simp [vish] at h
theorem mwp_store_c {C : Contract} {m : Mem} {fp : Fp} {gg : Nat} {cells cs : List LV} {off : Nat} {K : Unit → Mem → Fp → Prop} {t i sz b : Nat} {z : List AV} {ag : Bool} {x : LV} (h : m.objs (.tmp t i) = (gg, .box cells)) (hx : cellsL x = cs) (hv : cs.all vish = true) (hs : cs.length = sz) (hl : off + sz ≤ cells.length) :
    Mwp C (aStore ⟨sz, b, z, ag⟩ (.lptr (.tmp t i) gg off) x) m fp K = K () (m.set (.tmp t i) (gg, .box (setAt cells off cs))) ((fp.addN (.tmp t i)).addW (.tmp t i)) := by
  simp only [aStore, hx, settleL_vish cs off hv, M.bind, Mwp, h, hs, true_and, if_true, hl]
attribute [go_sem] mwp_newBox List.map_cons List.map_nil
theorem leaves_mwp2 {P : Program} {C : Contract} {fn : Func} {r : List (AV × Bool)} {rs : List ResultVar} {G' : List (List AV)} {n : Nat} {s : Nat → LV} {m : Mem} (hr : fn.results = rs.toArray)
    (h : Mwp C ((giveL P s 0 rs (r.map (·.2))).bind fun l => readL 0 (r.map (·.2)) l) m {} fun vs m' _ => vs = r.map (·.1) ∧ m'.G = G') : Leaves P C fn r G' ⟨n, s, m⟩ := by
  refine leaves_mwp ?_
  simp only [leave, hr]
  exact h
theorem peek_agg {fs : List LV} : peek (.agg fs) = (peekL fs).bind fun l => .ret (.agg l) := rfl
theorem peekL_nil : peekL [] = .ret [] := rfl
theorem peekL_cons {x : LV} {xs : List LV} : peekL (x :: xs) = (peek x).bind fun a => (peekL xs).bind fun l => .ret (a :: l) := rfl
def isStruct (P : Program) (t : TypeId) : Bool := match P.underlying t with | some (.struct _) => true | _ => false
theorem isStruct_ok {P : Program} {t : TypeId} (h : isStruct P t = true) : ∃ fs, P.underlying t = some (.struct fs) := by
  unfold isStruct at h
  split at h
  · exact ⟨_, by assumption⟩
  · cases h
theorem eqCells_nil : eqCells [] [] [] = some true := rfl
theorem eqCells_i {ks : List SK} {k : IntKind} {a b : Int} {xs ys : List AV} : eqCells (.i :: ks) (.i k a :: xs) (.i k b :: ys) = (eqCells ks xs ys).map fun r => decide (a = b) && r := by
  simp only [eqCells, eqScalar, if_true]
  cases eqCells ks xs ys with
  | none => rfl
  | some r => by_cases h : a = b <;> simp [h]
theorem eqCells_b {ks : List SK} {a b : Bool} {xs ys : List AV} : eqCells (.b :: ks) (.b a :: xs) (.b b :: ys) = (eqCells ks xs ys).map fun r => (a == b) && r := by
  simp only [eqCells, eqScalar]
  cases eqCells ks xs ys <;> rfl
attribute [go_sem] peek_agg peekL_nil peekL_cons eqCells_nil eqCells_i eqCells_b
theorem reifyL_nil : reifyL [] = .ret [] := rfl
theorem reifyL_cons {x : LV} {xs : List LV} : reifyL (x :: xs) = (reify x).bind fun a => (reifyL xs).bind fun l => .ret (a :: l) := rfl
theorem reify_v {a : AV} : reify (.v a) = .ret a := rfl
theorem resOf1 {d : Nat} {a : AV} : resOf (some d) [(a, false)] = .ret (.v a) := rfl
theorem resOf2 {d : Nat} {a b : AV} : resOf (some d) [(a, false), (b, false)] = .ret (.tup [.v a, .v b]) := rfl
theorem resOf3 {d : Nat} {a b c : AV} : resOf (some d) [(a, false), (b, false), (c, false)] = .ret (.tup [.v a, .v b, .v c]) := rfl
theorem resOf4 {d : Nat} {a b c e : AV} : resOf (some d) [(a, false), (b, false), (c, false), (e, false)] = .ret (.tup [.v a, .v b, .v c, .v e]) := rfl
def extL (i : Nat) : LV → M LV
  | .tup fs => match fs[i]? with | some x => .ret x | none => .fail
  | .v (.tup fs) => match fs[i]? with | some x => .ret (.v x) | none => .fail
  | _ => .fail
theorem act_extract2 {P : Program} {cfg : Cfg} {raw : Operand → LV} {dst : Option Tmp} {ty : TypeId} {pos : String} {aft : Array Edge} {g : Option (Nat × Bool)} {x : Operand} {i : Nat} : act P cfg raw ⟨dst, .extract x i, ty, pos, aft, g⟩ = extL i (opn (raw x)) := by
  simp only [act]
  cases opn (raw x) with
  | v a => cases a <;> rfl
  | _ => rfl
theorem extL_0 {x : LV} {xs : List LV} : extL 0 (.tup (x :: xs)) = .ret x := rfl
theorem extL_1 {x y : LV} {xs : List LV} : extL 1 (.tup (x :: y :: xs)) = .ret y := rfl
theorem extL_2 {x y z : LV} {xs : List LV} : extL 2 (.tup (x :: y :: z :: xs)) = .ret z := rfl
theorem extL_3 {x y z u : LV} {xs : List LV} : extL 3 (.tup (x :: y :: z :: u :: xs)) = .ret u := rfl
attribute [go_sem] reifyL_nil reifyL_cons reify_v resOf1 resOf2 resOf3 resOf4 act_extract2 extL_0 extL_1 extL_2 extL_3
def idxA (n sz : Nat) (i : Option Int) (x : LV) : M LV := match i with | some i => aIndexArr n sz i x | none => .fail
theorem idxA_some {n sz : Nat} {i : Int} {x : LV} (h : 0 ≤ i ∧ i.toNat < n) : idxA n sz (some i) x = aFieldAddr (i.toNat * sz) x := by
  simp only [idxA, aIndexArr, if_pos h]
attribute [go_sem] idxA_some Bool.true_and Bool.and_true
theorem want_of_cond {ops : Array Oper} {n : Nat} {f : Nat → LV} {m : Mem} {dst op ty pos aft} {j : Nat} {want : Bool} {d : Nat} {b c : Bool} (hd : (ops[j]?).bind (·.dst) = some d) (hf : f d = .cond c (.v (.b b))) : wantO ops ⟨n, f, m⟩ ⟨dst, op, ty, pos, aft, some (j, want)⟩ = some (c && (b == want)) := by
  simp only [wantO, hd, hf, wantOf, Option.map_some]
end Go.Vai
namespace Go.Vai
section
variable {P : Program} {C : Contract} {t : TypeId}
theorem ofInt_two (w k : Nat) : BitVec.ofInt w ((2 : Int) ^ k) = BitVec.twoPow w k := by
  have e : (2 : Int) ^ k = ((2 ^ k : Nat) : Int) := by simp
  rw [e, BitVec.ofInt_natCast]
  apply BitVec.eq_of_toNat_eq
  simp [BitVec.toNat_twoPow]
theorem shl_bv (w : Nat) (a : Int) (k : Nat) : BitVec.ofInt w (a * 2 ^ (min k w)) = BitVec.ofInt w a <<< k := by
  rw [BitVec.ofInt_mul, ofInt_two]
  by_cases h : k ≤ w
  · rw [Nat.min_eq_left h, BitVec.shiftLeft_eq_mul_twoPow]
  · rw [Nat.min_eq_right (by omega)]
    rw [← BitVec.shiftLeft_eq_mul_twoPow, BitVec.shiftLeft_eq_zero (Nat.le_refl _), BitVec.shiftLeft_eq_zero (by omega)]
theorem bin_shl8 {a : Int} {k : IntKind} {b : Int} (h : 0 ≤ b) : aBin P .shl t (.i .u8 a) (.i k b) = some (u8 (BitVec.ofInt 8 a <<< b.toNat)) := by
  have : ¬ b < 0 := by omega
  simp only [aBin, aShift, shiftBin, this, if_false, IntKind.bits, wrapu8, shl_bv]
theorem bin_shl32 {a : Int} {k : IntKind} {b : Int} (h : 0 ≤ b) : aBin P .shl t (.i .u32 a) (.i k b) = some (u32 (BitVec.ofInt 32 a <<< b.toNat)) := by
  have : ¬ b < 0 := by omega
  simp only [aBin, aShift, shiftBin, this, if_false, IntKind.bits, wrapu32, shl_bv]
end
section
variable {P : Program} {C : Contract} {cfg : Cfg} {raw : Operand → LV} {ty : TypeId} {pos : String} {aft : Array Edge} {g : Option (Nat × Bool)}
theorem mwp_append2 {t xt e d : Nat} {ti : TI} {n : Nm} {gg hi : Nat} {nil : Bool} {sz : Nat} {xs ys : List AV} {x : LV} {m : Mem} {fp : Fp} {K : LV → Mem → Fp → Prop} {s' : Nat} {nl' : Bool} {e' : TypeId} {fp1 : Fp}
    (he : elOf P t = some e) (hti : tiOf P e = some ti) (hxt : P.underlying xt = some (.slice e'))
    (hpk : ∀ Q : AV → Mem → Fp → Prop, Q (.sl s' nl' ys) m fp1 → Mwp C (peek x) m fp Q) (hs' : s' = ti.sz)
    (ho : m.objs n = (gg, .arr nil sz xs)) (hsz : sz = ti.sz) (hhi : hi = xs.length) (hb : (hi + ys.length) * ti.bytes ≤ roomB) (hy : ∀ y ∈ ys, (cellsOf y).length = ti.sz)
    (k : K (.own (.tmp d 0) (((m.set n (gg + 1, .dead)).objs (.tmp d 0)).1 + 1) 0 (hi + ys.length)) ((m.set n (gg + 1, .dead)).set (.tmp d 0) (((m.set n (gg + 1, .dead)).objs (.tmp d 0)).1 + 1, .arr (nil && ys.isEmpty) sz (xs ++ ys))) ((((fp1.addN n).addW n).addN (.tmp d 0)).addW (.tmp d 0))) :
    Mwp C (builtinL P .append #[t, xt] (some d) [.own n gg 0 hi, x]) m fp K := by
  simp only [builtinL, he, hti, hxt]
  rw [mwp_bind]
  refine hpk _ ?_
  subst hs' hsz hhi
  show Mwp C (if ti.sz = ti.sz ∨ ys.isEmpty = true then aAppend d ti.sz ti.bytes ys (.own n gg 0 xs.length) else .fail) m fp1 K
  simp only [true_or, if_true, aAppend, mwp_getO, ho]
  rw [if_pos ⟨by trivial, hb, hy⟩]
  have e : (if xs.length + ys.length ≤ xs.length then xs.take xs.length ++ ys ++ xs.drop (xs.length + ys.length) else xs.take xs.length ++ ys) = xs ++ ys := by
    split
    · have : ys = [] := List.eq_nil_of_length_eq_zero (by omega)
      subst this; simp
    · simp
  simp only [mwp_setO, newArr_eq, e]
  exact k
end
section
variable {α : Type} {f : α → AV} {C : Contract} {m : Mem} {fp : Fp} {n : Nm} {gg : Nat} {nl : Bool} {sz : Nat} {l : List α}
theorem mwp_aLoad_map {K : LV → Mem → Fp → Prop} {b : Nat} {z : List AV} {i : Nat} (h : m.objs n = (gg, .arr nl sz (l.map f))) (hi : i < l.length) (hc : ∀ x, cellsOf (f x) = [f x]) :
    Mwp C (aLoad ⟨1, b, z, false⟩ (.eptr n gg i 0)) m fp K = K (.v (f l[i])) m (fp.addN n) :=
  mwp_aLoad_e1 h (by simp [hi]) (hc _)
theorem mwp_aStore_map {K : Unit → Mem → Fp → Prop} {b : Nat} {z : List AV} {i : Nat} {v : AV} (h : m.objs n = (gg, .arr nl 1 (l.map f))) (hi : i < l.length) (hc : ∀ x, cellsOf (f x) = [f x]) (hv : cellsOf v = [v]) (hv2 : cellishAV v = true) (hna : ∀ x, isAggAV (f x) = false) :
    Mwp C (aStore ⟨1, b, z, false⟩ (.eptr n gg i 0) (.v v)) m fp K = K () (m.set n (gg, .arr nl 1 ((l.map f).set i v))) ((fp.addN n).addW n) :=
  mwp_aStore_e1 h (show _ = some (f l[i]) by simp [hi]) (hc _) hv hv2 (hna _)
end
theorem bin_eql_b {P : Program} {t : TypeId} {a b : Bool} (h : P.underlying t = some .bool) : aBin P .eql t (.b a) (.b b) = some (.b (a == b)) := by
  simp [aBin, aEql, aEq, h]
theorem bin_neq_b {P : Program} {t : TypeId} {a b : Bool} (h : P.underlying t = some .bool) : aBin P .neq t (.b a) (.b b) = some (.b (!(a == b))) := by
  simp [aBin, aEql, aEq, h]
theorem bin_eql_nil {P : Program} {t e : TypeId} {s s' : Nat} {n : Bool} {xs : List AV} (h : P.underlying t = some (.slice e)) : aBin P .eql t (.sl s n xs) (.sl s' true []) = some (.b n) := by
  simp [aBin, aEql, aEq, h]
theorem bin_neq_nil {P : Program} {t e : TypeId} {s s' : Nat} {n : Bool} {xs : List AV} (h : P.underlying t = some (.slice e)) : aBin P .neq t (.sl s n xs) (.sl s' true []) = some (.b (!n)) := by
  simp [aBin, aEql, aEq, h]
attribute [go_sem] bin_shl8 bin_shl32 bin_mul
def makeM (d : Nat) (ti : TI) : LV → LV → M LV
  | .v (.base (.int .i64 n)), .v (.base (.int .i64 m)) => if 0 ≤ n ∧ n ≤ m ∧ m * ti.bytes ≤ roomB ∧ m < 9223372036854775808 then newArr d 0 false ti.sz (List.replicate m.toNat ti.z) n.toNat else .fail
  | _, _ => .fail
theorem act_make {P : Program} {cfg : Cfg} {raw : Operand → LV} {d t e : Nat} {ty : TypeId} {pos : String} {aft : Array Edge} {g : Option (Nat × Bool)} {l c : Operand} {ti : TI} (he : elOf P t = some e) (hti : tiOf P e = some ti) :
    act P cfg raw ⟨some d, .makeSlice t l c, ty, pos, aft, g⟩ = makeM d ti (opn (raw l)) (opn (raw c)) := by
  simp only [act, he]
  unfold makeM
  split
  · rename_i h1 h2 h3 h4
    simp only [Option.some.injEq] at h1 h2
    subst h1 h2
    rw [h3, h4]
    simp only [hti]
  · split
    · rename_i hne _ _ _ _ h1 h2
      exact absurd h2 (hne _ _ _ _ rfl rfl h1)
    · rfl
theorem mwp_make {C : Contract} {d : Nat} {ti : TI} {n : Int} {m : Mem} {fp : Fp} {K : LV → Mem → Fp → Prop} (h : 0 ≤ n ∧ n * ti.bytes ≤ roomB ∧ n < 9223372036854775808) :
    Mwp C (makeM d ti (.v (i64 n)) (.v (i64 n))) m fp K = K (.own (.tmp d 0) ((m.objs (.tmp d 0)).1 + 1) 0 n.toNat) (m.set (.tmp d 0) ((m.objs (.tmp d 0)).1 + 1, .arr false ti.sz (List.replicate n.toNat ti.z))) ((fp.addN (.tmp d 0)).addW (.tmp d 0)) := by
  simp only [makeM]
  rw [if_pos ⟨h.1, Int.le_refl _, h.2.1, h.2.2⟩]
  rfl
theorem leaves_own1 {P : Program} {C : Contract} {fn : Func} {sz : Nat} {nil : Bool} {xs ys : List AV} {G' : List (List AV)} {n : Nat} {s : Nat → LV} {m : Mem} {k : Nm} {g hi : Nat} (t : Nat) (hr : fn.results = #[.tmp t]) (hs : s t = .own k g 0 hi) (ho : m.objs k = (g, .arr nil sz xs)) (hk : k ≠ .res 0)
    (hy : sub xs 0 hi = ys) (hG : m.G = G') : Leaves P C fn [(.sl sz nil ys, true)] G' ⟨n, s, m⟩ := by
  subst hy
  refine leaves_mwp ?_
  have e1 : (Nm.res 0 = k) = False := eq_false fun h => hk h.symm
  simp [leave, hr, giveL, srcOne, hs, opn, giveOne, hk, rehome, readL, readOne, Mwp, M.bind, hG, ho, Mem.set, e1]
theorem resOf_own1 {C : Contract} {d : Nat} {sz : Nat} {nil : Bool} {xs : List AV} {m : Mem} {fp : Fp} {K : LV → Mem → Fp → Prop} (h : (m.objs (.res 0)).2 = .dead) :
    Mwp C (resOf (some d) [(.sl sz nil xs, true)]) m fp K = K (.own (.tmp d 0) ((m.objs (.tmp d 0)).1 + 1) 0 xs.length) (m.set (.tmp d 0) ((m.objs (.tmp d 0)).1 + 1, .arr nil sz xs)) (((fp.addN (.res 0)).addN (.tmp d 0)).addW (.tmp d 0)) := by
  simp only [resOf, resL, resOne, if_true, mwp_bind, mwp_getO, h, newArr_eq, mwp_ret]
theorem R_nilsz {gh : Gh} {w : World} {s s' : Nat} {v : Value} (h : R gh w (.sl s true []) v) : R gh w (.sl s' true []) v := by
  cases h
  exact .nilsl _
theorem own_nil {gh : Gh} {w : World} {n : Nm} {s s' : Nat} {v : Value} (h : OwnVal gh w n (.sl s true []) v) : OwnVal gh w n (.sl s' true []) v := by
  obtain ⟨sz, nil, xs, e, h⟩ := h
  simp only [AV.sl.injEq] at e
  obtain ⟨rfl, rfl, rfl⟩ := e
  rcases h with ⟨_, _, rfl⟩ | ⟨h, _⟩
  · exact ⟨s', true, [], rfl, .inl ⟨rfl, rfl, rfl⟩⟩
  · cases h
theorem comp_nil {gh : Gh} {w : World} {n : Nm} {s s' : Nat} {o : Bool} {v : Value} (h : CompRel gh w n (.sl s true [], o) v) : CompRel gh w n (.sl s' true [], o) v := by
  cases o
  · exact R_nilsz h
  · exact own_nil h
theorem Good.arg_nil {P : Program} {f : FuncId} {args args' : List (AV × Bool)} {G G' : List (List AV)} {r : List (AV × Bool)} (h : Good P f args G r G') (hl : args'.length = args.length)
    (ha : ∀ (j : Nat) (x y : AV × Bool), args[j]? = some x → args'[j]? = some y → x = y ∨ ∃ s s' o, x = (.sl s true [], o) ∧ y = (.sl s' true [], o)) : Good P f args' G r G' :=
  ⟨h.1, fun gh w vs h1 h2 => h.2 gh w vs h1 ⟨by rw [h2.1, hl], fun j x v hx hv => by
    have hj : j < args'.length := by rw [hl]; exact (List.getElem?_eq_some_iff.1 hx).1
    have hy : args'[j]? = some args'[j] := List.getElem?_eq_getElem hj
    have := h2.2 j _ v hy hv
    rcases ha j x _ hx hy with e | ⟨s, s', o, e1, e2⟩
    · rw [e]; exact this
    · rw [e2] at this; rw [e1]; exact comp_nil this⟩⟩
end Go.Vai
namespace Go.Vai
section
variable {P : Program} {C : Contract} {t : TypeId}
theorem bin_rem8 {a b : Int} (h : 0 ≤ a ∧ 0 < b) : aBin P .rem t (.i .u8 a) (.i .u8 b) = some (.i .u8 (a % b)) := by
  have : b ≠ 0 := by omega
  simp [aBin, aArith, intBin, this, Int.tmod_eq_emod_of_nonneg h.1]
end
attribute [go_sem] bin_rem8
end Go.Vai
namespace Go.Vai
theorem post_forget {gh w gh' w'} {G G' junk : List (List AV)} {r : List (AV × Bool)} {v : Value} (hlen : gh.γ.length = G.length) (k2 : Ext gh w gh' w') (k3 : GMem gh' w' (G' ++ junk)) (k4 : ResRel gh' w' r v) (hl : G.length ≤ G'.length)
    (hG : ∀ cs ∈ G', noPtrL cs = true) (hr : noPtrL (r.map (·.1)) = true) : ∃ gh2, Ext gh w gh2 w' ∧ GMem gh2 w' G' ∧ ResRel gh2 w' r v := by
  let gh2 : Gh := { gh' with ρ := fun b => match gh'.ρ b with | .glob id => if id < G'.length then .glob id else .imm | r => r, γ := gh'.γ.take G'.length }
  have himm : ∀ b, gh'.imm b → gh2.imm b ∧ w'.heap[b]? = w'.heap[b]? := fun b hb => ⟨by show (match gh'.ρ b with | .glob id => _ | r => r) = _; rw [hb], rfl⟩
  have he : Ext gh w gh2 w' := by
    refine ⟨k2.os, k2.tape, k2.output, k2.size, fun b hb => ⟨(himm b (k2.imm b hb).1).1, (k2.imm b hb).2⟩, fun b hb hf => ⟨?_, (k2.free b hb hf).2⟩, fun id b hb => ?_⟩
    · show (match gh'.ρ b with | .glob id => _ | r => r) = _
      rw [(k2.free b hb hf).1]
    · have hid := (List.getElem?_eq_some_iff.1 hb).1
      show (gh'.γ.take G'.length)[id]? = some b
      rw [List.getElem?_take_of_lt (by omega)]
      exact k2.γ id b hb
  have hM : GMem gh2 w' G' := by
    refine ⟨fun b hb => k3.alloc b fun e => hb ?_, fun n => trivial, ?_, fun id b cells e1 e2 => ?_⟩
    · show (match gh'.ρ b with | .glob id => _ | r => r) = _
      rw [e]
    · have := k3.glen
      show (gh'.γ.take G'.length).length = G'.length
      have h5 : gh'.γ.length = (G' ++ junk).length := this
      rw [List.length_take, h5, List.length_append]; omega
    · change G'[id]? = some cells at e2
      have hid := (List.getElem?_eq_some_iff.1 e2).1
      change (gh'.γ.take G'.length)[id]? = some b at e1
      rw [List.getElem?_take_of_lt hid] at e1
      obtain ⟨h3, ⟨cs, ty, h4, h5, h6⟩ | ⟨f, e, _⟩⟩ := k3.glob id b cells e1 (by show (G' ++ junk)[id]? = _; rw [List.getElem?_append_left hid]; exact e2)
      case inr => have := hG cells (List.mem_of_getElem? e2); rw [e] at this; simp [noPtrL, noPtr] at this
      refine ⟨by show (match gh'.ρ b with | .glob id => _ | r => r) = _; rw [h3]; simp [hid], .inl ⟨cs, ty, h4, h5, fun j x hx => ?_⟩⟩
      obtain ⟨u, h7, h8, h9⟩ := h6 j x hx
      exact ⟨u, h7, h8, h9.noγ himm (noPtrL_mem (hG cells (List.mem_of_getElem? e2)) x (List.mem_of_getElem? hx))⟩
  have hC : ∀ n (x : AV × Bool) (u : Value), noPtr x.1 = true → CompRel gh' w' n x u → CompRel gh2 w' n x u := fun n x u hx hu => by
    unfold CompRel at hu ⊢
    split
    · rename_i ho
      rw [if_pos ho] at hu
      obtain ⟨sz, nil, xs, q1, q2⟩ := hu
      refine ⟨sz, nil, xs, q1, ?_⟩
      rcases q2 with q2 | ⟨q2, b, cap, cs, ty, q3, q4, q5, q6, q7⟩
      · exact .inl q2
      · refine .inr ⟨q2, b, cap, cs, ty, q3, by show (match gh'.ρ b with | .glob id => _ | r => r) = _; rw [q4], q5, ⟨q6.1, fun i y hy => ⟨(q6.2 i y hy).1, fun j z hz => ?_⟩⟩, q7⟩
        obtain ⟨u', p1, p2, p3⟩ := (q6.2 i y hy).2 j z hz
        rw [q1] at hx
        simp only [noPtr] at hx
        exact ⟨u', p1, p2, p3.noγ himm (noPtr_cells (noPtrL_mem hx y (List.mem_of_getElem? hy)) z (List.mem_of_getElem? hz))⟩
    · rename_i ho
      rw [if_neg ho] at hu
      exact hu.noγ himm hx
  refine ⟨gh2, he, hM, ?_⟩
  have hr' : ∀ x ∈ r, noPtr x.1 = true := fun x hx => noPtrL_mem hr _ (List.mem_map_of_mem hx)
  have tup : ∀ {r : List (AV × Bool)}, (∀ x ∈ r, noPtr x.1 = true) → (∃ vs : Array Value, v = .tuple vs ∧ vs.size = r.length ∧ ∀ (j : Nat) (x : AV × Bool) (u : Value), r[j]? = some x → vs[j]? = some u → CompRel gh' w' (.res j) x u) →
      ∃ vs : Array Value, v = .tuple vs ∧ vs.size = r.length ∧ ∀ (j : Nat) (x : AV × Bool) (u : Value), r[j]? = some x → vs[j]? = some u → CompRel gh2 w' (.res j) x u := fun hr ⟨us, q1, q2, q3⟩ =>
    ⟨us, q1, q2, fun j x u hx hu => hC _ _ _ (hr x (List.mem_of_getElem? hx)) (q3 j x u hx hu)⟩
  match r, hr', k4 with
  | [], hr', k4 => exact tup hr' k4
  | [x], hr', k4 => exact hC _ _ _ (hr' x (by simp)) k4
  | x :: y :: r, hr', k4 => exact tup hr' k4
section
variable {P : Program} {C : Contract} {cfg : Cfg} {raw : Operand → LV} {ty : TypeId} {pos : String} {aft : Array Edge} {g : Option (Nat × Bool)} {m : Mem} {fp : Fp}
theorem mwp_newG {cells : List AV} {K : LV → Mem → Fp → Prop} : Mwp C (newG cells) m fp K = K (.v (.gp m.G.length 0)) { m with G := m.G ++ [cells] } fp.addG.addGW := rfl
theorem aFieldAddr_gp {id o off : Nat} : aFieldAddr off (.v (.gp id o)) = .ret (.v (.gp id (o + off))) := rfl
def nilCheckL : LV → M LV
  | .lptr n g off => aFieldAddr 0 (.lptr n g off)
  | .eptr n g i off => aFieldAddr 0 (.eptr n g i off)
  | .v (.gp id off) => .ret (.v (.gp id off))
  | .v (.iptr cs off) => .ret (.v (.iptr cs off))
  | _ => .fail
theorem act_nilCheck {d : Option Tmp} {x : Operand} : act P cfg raw ⟨d, .nilCheck x, ty, pos, aft, g⟩ = nilCheckL (opn (raw x)) := by
  simp only [act, nilCheckL]
  cases opn (raw x) with
  | v a => cases a <;> rfl
  | _ => rfl
theorem nilCheckL_gp {id off : Nat} : nilCheckL (.v (.gp id off)) = .ret (.v (.gp id off)) := rfl
theorem nilCheckL_iptr {cs : List AV} {off : Nat} : nilCheckL (.v (.iptr cs off)) = .ret (.v (.iptr cs off)) := rfl
theorem mwp_load_g1 {K : LV → Mem → Fp → Prop} {id off b : Nat} {z cells : List AV} {x : AV} (h : m.G[id]? = some cells) (hx : cells[off]? = some x) (hca : cells.all cellishAV = true := by first | rfl | assumption) :
    Mwp C (aLoad ⟨1, b, z, false⟩ (.v (.gp id off))) m fp K = K (.v x) m fp.addG := by
  have hl := (List.getElem?_eq_some_iff.1 hx).1
  simp only [aLoad, Mwp, h, hca, if_true]
  simp [loadL, hx, show off + 1 ≤ cells.length by omega, Mwp]
theorem mwp_load_gs {K : LV → Mem → Fp → Prop} {id off sz b : Nat} {z cells : List AV} (h : m.G[id]? = some cells) (hl : off + sz ≤ cells.length) (hca : cells.all cellishAV = true := by first | rfl | assumption) :
    Mwp C (aLoad ⟨sz, b, z, true⟩ (.v (.gp id off))) m fp K = K (.agg (((cells.map .v).drop off).take sz)) m fp.addG := by
  simp only [aLoad, Mwp, h, hca, if_true]
  simp [loadL, hl, Mwp]
theorem mwp_store_g1 {K : Unit → Mem → Fp → Prop} {id off b : Nat} {z cells : List AV} {x : AV} (h : m.G[id]? = some cells) (hl : off < cells.length) (hc : cellsOf x = [x]) (hx : cellishAV x = true) (hca : cells.all cellishAV = true := by first | rfl | assumption) :
    Mwp C (aStore ⟨1, b, z, false⟩ (.v (.gp id off)) (.v x)) m fp K = K () { m with G := m.G.set id (setAt cells off [x]) } fp.addG.addGW := by
  have hd : ((off + 1 ≤ cells.length ∧ [x].length = 1 ∧ [x].all cellishAV = true) ∧ cells.all cellishAV = true) := ⟨⟨by omega, rfl, by simp [hx]⟩, hca⟩
  simp only [aStore, cellsL, hc, reifyL, reify, M.bind, Mwp, h, List.map_cons, List.map_nil, if_pos hd]
theorem mwp_call_g {d f : Nat} {args : List LV} {K : LV → Mem → Fp → Prop} {as : List AV} {r : List (AV × Bool)} {m1 : Mem} {fp1 : Fp} {G G' : List (List AV)} (hp : cfg.pure f = false) (hx : cfg.xfer f = false) (hs : cfg.scalar f = false)
    (hpk : ∀ Q : List AV → Mem → Fp → Prop, Q as m1 fp1 → Mwp C (reifyL args) m fp Q) (hG : m1.G = G) (h : C f (as.map fun a => (a, false)) G r G') (k : Mwp C (resOf (some d) r) { m1 with G := G' } fp1.addGW K) :
    Mwp C (callL cfg (some d) f [] args) m fp K := by
  subst hG
  simp only [callL, hx, Bool.false_eq_true, if_false, prep, hp, hs, Bool.false_and, mwp_bind, List.append_nil]
  refine hpk _ ?_
  simp only [fin, hp, hs, List.nil_append, Bool.false_eq_true, if_false, mwp_call]
  exact ⟨r, G', h, k⟩
theorem bin_eql_p0 {t e : TypeId} (h : P.underlying t = some (.pointer e)) : aBin P .eql t (.base (.pointer none)) (.base (.pointer none)) = some (.b true) := by simp [aBin, aEql, aEq, h]
theorem bin_eql_pg {t e : TypeId} {id off : Nat} (h : P.underlying t = some (.pointer e)) : aBin P .eql t (.gp id off) (.base (.pointer none)) = some (.b false) := by simp [aBin, aEql, aEq, h]
theorem bin_neq_p0 {t e : TypeId} (h : P.underlying t = some (.pointer e)) : aBin P .neq t (.base (.pointer none)) (.base (.pointer none)) = some (.b false) := by simp [aBin, aEql, aEq, h]
theorem bin_neq_pg {t e : TypeId} {id off : Nat} (h : P.underlying t = some (.pointer e)) : aBin P .neq t (.gp id off) (.base (.pointer none)) = some (.b true) := by simp [aBin, aEql, aEq, h]
theorem aFieldAddr_iptr {cs : List AV} {o off : Nat} : aFieldAddr off (.v (.iptr cs o)) = .ret (.v (.iptr cs (o + off))) := rfl
theorem mwp_load_i1 {K : LV → Mem → Fp → Prop} {off b : Nat} {z cells : List AV} {x : AV} (hx : cells[off]? = some x) :
    Mwp C (aLoad ⟨1, b, z, false⟩ (.v (.iptr cells off))) m fp K = K (.v x) m fp := by
  have hl := (List.getElem?_eq_some_iff.1 hx).1
  simp [aLoad, Mwp, loadL, hx, show off + 1 ≤ cells.length by omega]
theorem mwp_load_is {K : LV → Mem → Fp → Prop} {off sz b : Nat} {z cells : List AV} (hl : off + sz ≤ cells.length) :
    Mwp C (aLoad ⟨sz, b, z, true⟩ (.v (.iptr cells off))) m fp K = K (.agg (((cells.map .v).drop off).take sz)) m fp := by
  simp [aLoad, Mwp, loadL, hl]
theorem lift_list {α : Type} {f : α → AV} {p : α → Prop} : ∀ {xs : List AV}, (∀ x ∈ xs, ∃ y, x = f y ∧ p y) → ∃ ys : List α, xs = ys.map f ∧ ∀ y ∈ ys, p y
  | [], _ => ⟨[], rfl, by simp⟩
  | x :: xs, h => by
    obtain ⟨y, e, hy⟩ := h x (by simp)
    obtain ⟨ys, e2, h2⟩ := lift_list (xs := xs) fun z hz => h z (by simp [hz])
    exact ⟨y :: ys, by simp [e, e2], fun z hz => by rcases List.mem_cons.1 hz with rfl | hz; exact hy; exact h2 z hz⟩
variable {α : Type} {fα : α → AV} {l : List α} {sz : Nat} {nil : Bool}
theorem aSlice_himx {h : Int} (h0 : 0 ≤ h ∧ h ≤ l.length) : aSlice sz none (some h) (some h) (.v (.sl sz nil (l.map fα))) = .ret (.v (.sl sz nil ((l.take h.toNat).map fα))) := by
  simp [aSlice, aBounds, h0.1, h0.2, sub, List.map_take]
end
attribute [go_sem] aFieldAddr_iptr aFieldAddr_gp act_nilCheck nilCheckL_gp nilCheckL_iptr aSlice_himx
end Go.Vai
namespace Go.Vai
def NilEq (r' r : List (AV × Bool)) : Prop := r'.length = r.length ∧ ∀ (j : Nat) (x y : AV × Bool), r'[j]? = some x → r[j]? = some y → x = y ∨ ∃ s s' o, x = (.sl s true [], o) ∧ y = (.sl s' true [], o)
theorem nilEq_refl (r : List (AV × Bool)) : NilEq r r := ⟨rfl, fun j x y hx hy => .inl (by rw [hx] at hy; simpa using hy)⟩
theorem nilEq_nil {s s' : Nat} {o : Bool} {r r' : List (AV × Bool)} (h : NilEq r' r) : NilEq ((.sl s true [], o) :: r') ((.sl s' true [], o) :: r) :=
  ⟨by simp [h.1], fun j x y hx hy => by
    cases j with
    | zero => simp at hx hy; subst hx hy; exact .inr ⟨s, s', o, rfl, rfl⟩
    | succ j => exact h.2 j x y (by simpa using hx) (by simpa using hy)⟩
theorem comp_nilEq {gh : Gh} {w : World} {n : Nm} {x y : AV × Bool} {v : Value} (h : x = y ∨ ∃ s s' o, x = (.sl s true [], o) ∧ y = (.sl s' true [], o)) (hc : CompRel gh w n x v) : CompRel gh w n y v := by
  rcases h with rfl | ⟨s, s', o, rfl, rfl⟩
  · exact hc
  · exact comp_nil hc
theorem resRel_nilEq {gh : Gh} {w : World} {r r' : List (AV × Bool)} {v : Value} (h : NilEq r' r) (hr : ResRel gh w r' v) : ResRel gh w r v := by
  obtain ⟨h1, h2⟩ := h
  have tup : (∃ vs : Array Value, v = .tuple vs ∧ vs.size = r'.length ∧ ∀ (j : Nat) (x : AV × Bool) (u : Value), r'[j]? = some x → vs[j]? = some u → CompRel gh w (.res j) x u) →
      ∃ vs : Array Value, v = .tuple vs ∧ vs.size = r.length ∧ ∀ (j : Nat) (x : AV × Bool) (u : Value), r[j]? = some x → vs[j]? = some u → CompRel gh w (.res j) x u := fun ⟨vs, k1, k2, k3⟩ =>
    ⟨vs, k1, k2.trans h1, fun j x u hx hu => by
      have hj : j < r'.length := by rw [h1]; exact (List.getElem?_eq_some_iff.1 hx).1
      exact comp_nilEq (h2 j _ x (List.getElem?_eq_getElem hj) hx) (k3 j _ u (List.getElem?_eq_getElem hj) hu)⟩
  match r, r', h1, h2, hr, tup with
  | [], [], h1, h2, hr, tup => exact tup hr
  | [y], [x], h1, h2, hr, tup => exact comp_nilEq (h2 0 x y rfl rfl) hr
  | _ :: _ :: _, _ :: _ :: _, h1, h2, hr, tup => exact tup hr
  | [], _ :: _, h1, _, _, _ => simp at h1
  | _ :: _, [], h1, _, _, _ => simp at h1
  | [_], _ :: _ :: _, h1, _, _, _ => simp at h1
  | _ :: _ :: _, [_], h1, _, _, _ => simp at h1
def LeavesN (P : Program) (C : Contract) (fn : Func) (r : List (AV × Bool)) (G' : List (List AV)) (σ : St) : Prop := ∃ r', NilEq r' r ∧ Leaves P C fn r' G' σ
theorem leavesN {P : Program} {C : Contract} {fn : Func} {r : List (AV × Bool)} {G' : List (List AV)} {σ : St} (h : Leaves P C fn r G' σ) : LeavesN P C fn r G' σ := ⟨r, nilEq_refl r, h⟩
theorem good_of_body3 {P : Program} {f : FuncId} {fn : Func} {c : Code} {args : List (AV × Bool)} {G r G'} (nt : Nat) (hf : P.funcs[f]? = some fn) (hn : (fn.name == "runtime.NumGoroutine") = false) (hb : fn.body = some c) (hnt : fn.ntmps = nt) (hl : args.length ≤ nt)
    (h : ∀ (s : Nat → LV) (m : Mem), (∀ (j : Nat) (x : AV × Bool), args[j]? = some x → s j = argLV j x) → (∀ i, m.objs (.res i) = (0, .dead)) → (∀ (j : Nat) (x : AV × Bool), args[j]? = some x → m.objs (.var j) = argObj x) → m.G = G →
      AW P c ⟨nt, s, m⟩ fun e σ => (e = .normal ∨ e = .ret) ∧ LeavesN P (Good P) fn r G' σ) : Good P f args G r G' := by
  subst hnt
  refine ⟨⟨fn, c, hf, hn, hb⟩, fun gh w vs hg ha => calls_of_wp hf hb ?_⟩
  obtain ⟨gh1, hs, he⟩ := entry_sim (nt := fn.ntmps) hg ha (by have := ha.1; omega)
  have h0 := h (entry fn.ntmps args G).slots (entry fn.ntmps args G).mem (fun j x hx => by simp only [entry, hx]) (fun _ => rfl) (fun j x hx => by simp only [entry, hx]) rfl
  refine wp_mono (h0 gh1 _ w hs) fun e a' w' ⟨σ', gh', ⟨h1, r', hq, h2⟩, h3, h4⟩ => ?_
  obtain ⟨v, gh2, k1, k2, k3, k4⟩ := leaves_sound h2 h3
  rcases h1 with rfl | rfl
  · exact ⟨h3.defers, v, k1, v, gh2, rfl, (he.trans h4.ext).trans k2, k3, resRel_nilEq hq k4⟩
  · exact ⟨h3.defers, v, k1, v, gh2, rfl, (he.trans h4.ext).trans k2, k3, resRel_nilEq hq k4⟩
theorem good_of_body4 {P : Program} {f : FuncId} {fn : Func} {c : Code} {args : List (AV × Bool)} {G r G'} (nt : Nat) (hf : P.funcs[f]? = some fn) (hn : (fn.name == "runtime.NumGoroutine") = false) (hb : fn.body = some c) (hnt : fn.ntmps = nt) (hl : args.length ≤ nt)
    (hGl : G.length ≤ G'.length) (hGp : ∀ cs ∈ G', noPtrL cs = true) (hr : noPtrL (r.map (·.1)) = true)
    (h : ∀ (s : Nat → LV) (m : Mem), (∀ (j : Nat) (x : AV × Bool), args[j]? = some x → s j = argLV j x) → (∀ i, m.objs (.res i) = (0, .dead)) → (∀ (j : Nat) (x : AV × Bool), args[j]? = some x → m.objs (.var j) = argObj x) → m.G = G →
      AW P c ⟨nt, s, m⟩ fun e σ => (e = .normal ∨ e = .ret) ∧ ∃ junk, Leaves P (Good P) fn r (G' ++ junk) σ) : Good P f args G r G' := by
  subst hnt
  refine ⟨⟨fn, c, hf, hn, hb⟩, fun gh w vs hg ha => calls_of_wp hf hb ?_⟩
  obtain ⟨gh1, hs, he⟩ := entry_sim (nt := fn.ntmps) hg ha (by have := ha.1; omega)
  have h0 := h (entry fn.ntmps args G).slots (entry fn.ntmps args G).mem (fun j x hx => by simp only [entry, hx]) (fun _ => rfl) (fun j x hx => by simp only [entry, hx]) rfl
  refine wp_mono (h0 gh1 _ w hs) fun e a' w' ⟨σ', gh', ⟨h1, junk, h2⟩, h3, h4⟩ => ?_
  obtain ⟨v, gh2, k1, k2, k3, k4⟩ := leaves_sound h2 h3
  obtain ⟨gh3, p1, p2, p3⟩ := post_forget hg.glen ((he.trans h4.ext).trans k2) k3 k4 hGl hGp hr
  rcases h1 with rfl | rfl
  · exact ⟨h3.defers, v, k1, v, gh3, rfl, p1, p2, p3⟩
  · exact ⟨h3.defers, v, k1, v, gh3, rfl, p1, p2, p3⟩
theorem leaves_own2 {P : Program} {C : Contract} {fn : Func} {sz : Nat} {nil : Bool} {xs ys : List AV} {a : AV} {G' : List (List AV)} {n : Nat} {s : Nat → LV} {m : Mem} {k : Nm} {g hi : Nat} (t u : Nat) (hr : fn.results = #[.tmp t, .tmp u]) (hs : s t = .own k g 0 hi) (ho : m.objs k = (g, .arr nil sz xs)) (hu : s u = .v a) (hk : k ≠ .res 0)
    (hy : sub xs 0 hi = ys) (hG : m.G = G') : Leaves P C fn [(.sl sz nil ys, true), (a, false)] G' ⟨n, s, m⟩ := by
  subst hy
  refine leaves_mwp ?_
  have e1 : (Nm.res 0 = k) = False := eq_false fun h => hk h.symm
  simp [leave, hr, giveL, srcOne, hs, hu, opn, giveOne, reify, hk, rehome, readL, readOne, Mwp, M.bind, hG, ho, Mem.set, e1]
theorem leaves_frz1 {P : Program} {C : Contract} {fn : Func} {sz : Nat} {nil : Bool} {xs ys : List AV} {G' : List (List AV)} {n : Nat} {s : Nat → LV} {m : Mem} {k : Nm} {g lo hi : Nat} (t : Nat) (hr : fn.results = #[.tmp t]) (hs : s t = .own k g lo hi) (ho : m.objs k = (g, .arr nil sz xs))
    (hy : sub xs lo hi = ys) (hG : m.G = G') : Leaves P C fn [(.sl sz nil ys, false)] G' ⟨n, s, m⟩ := by
  subst hy
  refine leaves_mwp ?_
  simp [leave, hr, giveL, srcOne, hs, opn, giveOne, reify, freezeN, readL, readOne, Mwp, M.bind, hG, ho, Mem.set]
section
variable {P : Program} {C : Contract} {t : TypeId}
theorem bin_shr64 {a : Int} {k : IntKind} {b : Int} (h : 0 ≤ b ∧ b ≤ 64) (ha : 0 ≤ a) : aBin P .shr t (.i .u64 a) (.i k b) = some (.i .u64 (a / 2 ^ b.toNat)) := by
  have : ¬ b < 0 := by omega
  simp only [aBin, aShift, shiftBin, this, if_false, IntKind.bits]
  rw [Nat.min_eq_left (by omega), Int.fdiv_eq_ediv_of_nonneg _ (Int.le_of_lt (Int.pow_pos (by omega)))]
theorem bin_add64 {a b : Int} (h : 0 ≤ a + b ∧ a + b < 18446744073709551616) : aBin P .add t (.i .u64 a) (.i .u64 b) = some (.i .u64 (a + b)) := by
  simp [aBin, aArith, intBin, wrapu64 h]
theorem bin_mul64 {a b : Int} (h : 0 ≤ a * b ∧ a * b < 18446744073709551616) : aBin P .mul t (.i .u64 a) (.i .u64 b) = some (.i .u64 (a * b)) := by
  simp [aBin, aArith, intBin, wrapu64 h]
theorem bin_rem64 {a b : Int} (h : 0 ≤ a ∧ 0 < b) : aBin P .rem t (.i .u64 a) (.i .u64 b) = some (.i .u64 (a % b)) := by
  have : b ≠ 0 := by omega
  simp [aBin, aArith, intBin, this, Int.tmod_eq_emod_of_nonneg h.1]
theorem bin_quo64 {a b : Int} (h : 0 ≤ a ∧ 0 < b ∧ a < 18446744073709551616) : aBin P .quo t (.i .u64 a) (.i .u64 b) = some (.i .u64 (a / b)) := by
  have h0 : b ≠ 0 := by omega
  have h1 : 0 ≤ a / b := Int.ediv_nonneg h.1 (by omega)
  have h2 : a / b ≤ a := Int.ediv_le_self _ h.1
  simp [aBin, aArith, intBin, h0, Int.tdiv_eq_ediv_of_nonneg h.1]
  exact wrapu64 (by omega)
theorem bin_shl64 {a : Int} {k : IntKind} {b : Int} (h : 0 ≤ b ∧ b ≤ 64) (ha : 0 ≤ a * 2 ^ b.toNat ∧ a * 2 ^ b.toNat < 18446744073709551616) : aBin P .shl t (.i .u64 a) (.i k b) = some (.i .u64 (a * 2 ^ b.toNat)) := by
  have : ¬ b < 0 := by omega
  simp only [aBin, aShift, shiftBin, this, if_false, IntKind.bits]
  rw [Nat.min_eq_left (by omega), wrapu64 ha]
theorem or_byte {x y : Nat} (hy : y < 2 ^ 8) : x * 256 ||| y = x * 256 + y := by
  have := Nat.shiftLeft_add_eq_or_of_lt hy x
  rw [Nat.shiftLeft_eq] at this
  exact this.symm
theorem bin_shl64_8 {a : Int} {k : IntKind} (h : 0 ≤ a ∧ a < 72057594037927936) : aBin P .shl t (.i .u64 a) (.i k 8) = some (.i .u64 (a * 256)) := by
  rw [bin_shl64 (by omega) (by show 0 ≤ a * 256 ∧ a * 256 < _; omega)]
  rfl
theorem bin_or64 {a b : Int} (h : 0 ≤ a ∧ a < 72057594037927936 ∧ 0 ≤ b ∧ b < 256) : aBin P .or t (.i .u64 (a * 256)) (.i .u64 b) = some (.i .u64 (a * 256 + b)) := by
  obtain ⟨x, rfl⟩ := Int.eq_ofNat_of_zero_le h.1
  obtain ⟨y, rfl⟩ := Int.eq_ofNat_of_zero_le h.2.2.1
  have hy : y < 2 ^ 8 := by omega
  have e : ((BitVec.ofInt 64 ((x : Int) * 256) ||| BitVec.ofInt 64 (y : Int)).toNat : Int) = (x : Int) * 256 + (y : Int) := by
    rw [show ((x : Int) * 256) = ((x * 256 : Nat) : Int) by omega, BitVec.ofInt_natCast, BitVec.ofInt_natCast, BitVec.toNat_or, BitVec.toNat_ofNat, BitVec.toNat_ofNat, Nat.mod_eq_of_lt (by omega), Nat.mod_eq_of_lt (by omega)]
    rw [or_byte hy]; simp
  simp only [aBin, aArith, intBin, if_true]
  show some (AV.i .u64 (IntKind.u64.wrap ((BitVec.ofInt 64 ((x : Int) * 256) ||| BitVec.ofInt 64 (y : Int)).toNat : Int))) = _
  rw [e, wrapu64 (by omega)]
theorem resOf_own2 {C : Contract} {d : Nat} {sz : Nat} {nil : Bool} {xs : List AV} {a : AV} {m : Mem} {fp : Fp} {K : LV → Mem → Fp → Prop} (h : (m.objs (.res 0)).2 = .dead) :
    Mwp C (resOf (some d) [(.sl sz nil xs, true), (a, false)]) m fp K = K (.tup [.own (.tmp d 0) ((m.objs (.tmp d 0)).1 + 1) 0 xs.length, .v a]) (m.set (.tmp d 0) ((m.objs (.tmp d 0)).1 + 1, .arr nil sz xs)) (((fp.addN (.res 0)).addN (.tmp d 0)).addW (.tmp d 0)) := by
  simp only [resOf, resL, resOne, if_true, mwp_bind, mwp_getO, h, newArr_eq, mwp_ret, Bool.false_eq_true, if_false]
theorem conv_8_64 (x : BitVec 8) : IntKind.u64.wrap (x.toNat : Int) = (x.toNat : Int) := wrapu64 (by have := x.isLt; omega)
theorem peek_frz {C : Contract} {n : Nm} {gg lo hi : Nat} {m : Mem} {fp : Fp} {Q : AV → Mem → Fp → Prop} {nl : Bool} {s : Nat} {xs : List AV} (h : m.objs n = (gg, .frz nl s xs)) : Mwp C (peek (.own n gg lo hi)) m fp Q = Q (.sl s nl (sub xs lo hi)) m (fp.addN n) := by
  simp [peek, peekN, Mwp, h]
theorem reify_frz {C : Contract} {n : Nm} {gg lo hi : Nat} {m : Mem} {fp : Fp} {Q : AV → Mem → Fp → Prop} {nl : Bool} {s : Nat} {xs : List AV} (h : m.objs n = (gg, .frz nl s xs)) : Mwp C (reify (.own n gg lo hi)) m fp Q = Q (.sl s nl (sub xs lo hi)) m (fp.addN n) := by
  simp [reify, freezeN, Mwp, h]
theorem mwp_aIndex_frz {C : Contract} {m : Mem} {fp : Fp} {n : Nm} {gg : Nat} {nl : Bool} {sz : Nat} {xs : List AV} {K : LV → Mem → Fp → Prop} {lo hi : Nat} {i : Int} (h : m.objs n = (gg, .frz nl sz xs)) (h0 : 0 ≤ i) (h1 : i.toNat < hi - lo) :
    Mwp C (aIndex sz i (.own n gg lo hi)) m fp K = K (.eptr n gg (lo + i.toNat) 0) m (fp.addN n) := by
  simp [aIndex, h0, h1, Mwp, h]
theorem mwp_aLoad_frz {α : Type} {f : α → AV} {C : Contract} {m : Mem} {fp : Fp} {n : Nm} {gg : Nat} {nl : Bool} {sz : Nat} {l : List α} {K : LV → Mem → Fp → Prop} {b : Nat} {z : List AV} {i : Nat} (h : m.objs n = (gg, .frz nl sz (l.map f))) (hi : i < l.length) (hc : ∀ x, cellsOf (f x) = [f x]) :
    Mwp C (aLoad ⟨1, b, z, false⟩ (.eptr n gg i 0)) m fp K = K (.v (f l[i])) m (fp.addN n) := by
  simp [aLoad, Mwp, h, hi, hc, loadL]
theorem mwp_aLoad_f1 {C : Contract} {m : Mem} {fp : Fp} {n : Nm} {gg : Nat} {nl : Bool} {sz : Nat} {xs : List AV} {K : LV → Mem → Fp → Prop} {b : Nat} {z : List AV} {i : Nat} {a : AV} (h : m.objs n = (gg, .frz nl sz xs)) (hi : xs[i]? = some a) (hc : cellsOf a = [a]) :
    Mwp C (aLoad ⟨1, b, z, false⟩ (.eptr n gg i 0)) m fp K = K (.v a) m (fp.addN n) := by
  simp [aLoad, Mwp, h, hi, hc, loadL]
theorem Good.nil0 {P : Program} {f : FuncId} {rest : List (AV × Bool)} {G G' : List (List AV)} {r : List (AV × Bool)} {s s' : Nat} {o : Bool} (h : Good P f ((.sl s true [], o) :: rest) G r G') : Good P f ((.sl s' true [], o) :: rest) G r G' :=
  h.arg_nil rfl fun j x y hx hy => by
    cases j with
    | zero => simp at hx hy; subst hx hy; exact .inr ⟨s, s', o, rfl, rfl⟩
    | succ j => simp at hx hy; rw [hx] at hy; exact .inl (by simpa using hy)
theorem mwp_len_own {P : Program} {C : Contract} {t e : TypeId} {dst : Option Tmp} {n : Nm} {gg lo hi : Nat} {m : Mem} {fp : Fp} {K : LV → Mem → Fp → Prop} {nl : Bool} {s : Nat} {xs : List AV} (h : P.underlying t = some (.slice e)) (ho : m.objs n = (gg, .arr nl s xs)) :
    Mwp C (builtinL P .len #[t] dst [.own n gg lo hi]) m fp K = K (.v (.i .i64 (sub xs lo hi).length)) m (fp.addN n) := by
  simp [builtinL, peek, peekN, M.bind, Mwp, h, ho]
theorem mwp_len_frz {P : Program} {C : Contract} {t e : TypeId} {dst : Option Tmp} {n : Nm} {gg lo hi : Nat} {m : Mem} {fp : Fp} {K : LV → Mem → Fp → Prop} {nl : Bool} {s : Nat} {xs : List AV} (h : P.underlying t = some (.slice e)) (ho : m.objs n = (gg, .frz nl s xs)) :
    Mwp C (builtinL P .len #[t] dst [.own n gg lo hi]) m fp K = K (.v (.i .i64 (sub xs lo hi).length)) m (fp.addN n) := by
  simp [builtinL, peek, peekN, M.bind, Mwp, h, ho]
theorem opens_bytes2 {P : Program} {t e : TypeId} (ht : P.underlying t = some (.slice e)) (he : P.underlying e = some (.int .u8)) (hs : P.cellsOf e = 1) : Opens P t fun as => ∃ nil l, as = [.sl 1 nil (bsl l)] ∧ l.length ≤ maxLen ∧ (nil = true → l = []) := fun enc w fuel cs x h => by
  obtain ⟨as, ⟨nil, xs, rfl, h0, h1, h2⟩, h3⟩ := opens_slice (ag := false) ht (opens_int he) hs (by decide) (fun as ⟨n, h, _⟩ => by subst h; rfl) enc w fuel cs x h
  obtain ⟨l, rfl⟩ := bytes_of h2
  exact ⟨_, ⟨nil, l, rfl, by simpa [bsl] using h1, fun hn => by simpa [bsl] using h0 hn⟩, h3⟩
theorem TI_z1 {b : Nat} {a : AV} : TI.z ⟨1, b, [a], false⟩ = a := rfl
theorem TI_za {sz b : Nat} {zs : List AV} : TI.z ⟨sz, b, zs, true⟩ = .agg zs := rfl
theorem act_assign_ptr {P : Program} {cfg : Cfg} {raw : Operand → LV} {ty : TypeId} {pos : String} {aft : Array Edge} {g : Option (Nat × Bool)} {d : Nat} : act P cfg raw ⟨some d, .assign (.const (.pointer none)), ty, pos, aft, g⟩ = asg (cfg.move d) d (opn (raw (.const (.pointer none)))) := act_assign rfl
theorem raw_ptr {n : Nat} {f : Nat → LV} {m : Mem} : St.raw ⟨n, f, m⟩ (.const (.pointer none)) = .v (.base (.pointer none)) := rfl
end
attribute [go_sem] TI_z1 TI_za act_assign_ptr raw_ptr bin_shr64 bin_add64 bin_rem64 bin_quo64 bin_shl64_8 bin_or64 bin_mul64 conv_8_64
end Go.Vai
namespace Go.Vai
section
variable {P : Program} {C : Contract} {m : Mem} {fp : Fp}
theorem aops_cap_nil {t e : TypeId} {dst : Option Tmp} {s : Nat} (h : P.underlying t = some (.slice e)) : builtinL P .cap #[t] dst [.v (.sl s true [])] = .ret (.v (.i .i64 0)) := by
  simp [builtinL, peek, M.bind, h]
theorem aSlice_nil0 {sz s : Nat} {nl : Bool} : aSlice sz none (some 0) none (.v (.sl s nl [])) = .ret (.v (.sl s nl [])) := by
  simp [aSlice, aBounds, sub]
theorem mwp_append0N {t xt e d : Nat} {ti : TI} {sz : Nat} {n : Int} {K : LV → Mem → Fp → Prop} {k : IntKind}
    (he : elOf P t = some e) (hti : tiOf P e = some ti) (hxt : P.underlying xt = some (.int k)) (hn : 0 ≤ n ∧ n * ti.bytes ≤ roomB) (hz : (cellsOf ti.z).length = ti.sz)
    (h : K (.own (.tmp d 0) ((m.objs (.tmp d 0)).1 + 1) 0 n.toNat) (m.set (.tmp d 0) ((m.objs (.tmp d 0)).1 + 1, .arr (List.replicate n.toNat ti.z).isEmpty ti.sz (List.replicate n.toNat ti.z))) ((fp.addN (.tmp d 0)).addW (.tmp d 0))) :
    Mwp C (builtinL P .append #[t, xt] (some d) [.v (.sl sz true []), .v (.i .i64 n)]) m fp K := by
  simp only [builtinL, he, hti, hxt]
  rw [if_pos hn]
  simp only [aAppend]
  rw [if_pos ⟨by rw [List.length_replicate]; have := hn.2; have h0 := hn.1; exact Int.ofNat_le.1 (by rw [Int.natCast_mul, Int.toNat_of_nonneg h0]; exact this), fun y hy => by rw [List.eq_of_mem_replicate hy]; exact hz⟩]
  simp only [List.length_replicate]
  exact h
theorem mwp_aSlice_own0 {n : Nm} {gg hi : Nat} {nl : Bool} {sz : Nat} {xs : List AV} {K : LV → Mem → Fp → Prop} (h : m.objs n = (gg, .arr nl sz xs)) :
    Mwp C (aSlice sz none (some 0) none (.own n gg 0 hi)) m fp K = K (.own n gg 0 0) m (fp.addN n) := by
  simp [aSlice, Mwp, h]
end
theorem all_cells {xs : List AV} {n : Nat} (h : (xs.all fun y => (cellsOf y).length == n) = true) : ∀ y ∈ xs, (cellsOf y).length = n := fun y hy => by
  have := List.all_eq_true.1 h y hy
  simpa using this
theorem mwp_aIndex_getD {α : Type} [Inhabited α] {f : α → AV} {l : List α} {C : Contract} {m : Mem} {fp : Fp} {sz : Nat} {n : Int} {nil : Bool} {K : LV → Mem → Fp → Prop} (h0 : 0 ≤ n) (h1 : n.toNat < l.length) :
    Mwp C (aIndex sz n (.v (.sl sz nil (l.map f)))) m fp K = K (.v (.iptr (cellsOf (f (l.getD n.toNat default))) 0)) m fp := by
  rw [aIndex_map h0 h1, List.getD_eq_getElem?_getD, List.getElem?_eq_getElem h1]
  rfl
theorem conv_32_8 (y : BitVec 32) : IntKind.u8.wrap (y.toNat : Int) = ((y.setWidth 8).toNat : Int) := by
  rw [wrapu8]; simp
attribute [go_sem] aSlice_nil0 conv_32_8
end Go.Vai
namespace Go.Vai
section
variable {P : Program}
end
theorem act_callv {P : Program} {cfg : Cfg} {raw : Operand → LV} {dst : Option Tmp} {ty : TypeId} {pos : String} {aft : Array Edge} {g : Option (Nat × Bool)} {t : Tmp} {args : Array Operand} {ats : Array TypeId} : act P cfg raw ⟨dst, .call ⟨.value (.tmp t), args, ats⟩, ty, pos, aft, g⟩ = match opn (raw (.tmp t)) with
    | .v (.clo f caps) => callL cfg dst f caps (args.toList.map fun x => opn (raw x))
    | _ => .fail := rfl
theorem mwp_call_sc {C : Contract} {cfg : Cfg} {d f : Nat} {args : List LV} {m : Mem} {fp : Fp} {K : LV → Mem → Fp → Prop} {as caps : List AV} {a : AV} (hp : cfg.pure f = true) (hx : cfg.xfer f = false) (hs : cfg.scalar f = true)
    {fp1 : Fp} (hpk : ∀ Q : List AV → Mem → Fp → Prop, Q as m fp1 → Mwp C (peekL args) m fp Q) (h : C f ((as ++ caps).map fun a => (a, false)) [] [(a, false)] []) (hn : noPtrL (as ++ caps) = true) (hsa : scalarAV a = true) (k : K (.v a) m fp1) :
    Mwp C (callL cfg (some d) f caps args) m fp K := by
  simp only [callL, hx, Bool.false_eq_true, if_false, prep, hp, hs, Bool.and_self, if_true, mwp_bind]
  refine hpk _ ?_
  have e : ((as ++ caps).map fun a => (a, false)).map (fun x : AV × Bool => x.1) = as ++ caps := by simp [Function.comp_def]
  simp only [fin, hp, hs, if_true, List.nil_append]
  rw [e, hn]
  simp only [if_true, mwp_pcall]
  exact ⟨_, h, by simp [hsa, resOf, resL, resOne, M.bind, Mwp]; exact k⟩
def findI {α : Type} (p : α → Bool) (l : List α) : Int := match l.findIdx? p with | some i => (i : Int) | none => -1
theorem findI_at {α : Type} {p : α → Bool} {l : List α} {k : Nat} (hk : k < l.length) (h : ∀ x ∈ l.take k, p x = false) (hb : p l[k] = true) : findI p l = k := by
  have : l.findIdx? p = some k := by
    rw [List.findIdx?_eq_some_iff_getElem]
    refine ⟨hk, hb, fun j hj => ?_⟩
    have := h l[j] (by rw [List.mem_take_iff_getElem]; exact ⟨j, by omega, rfl⟩)
    simp [this]
  simp [findI, this]
theorem findI_none {α : Type} {p : α → Bool} {l : List α} (h : ∀ x ∈ l, p x = false) : findI p l = -1 := by
  have : l.findIdx? p = none := by rw [List.findIdx?_eq_none_iff]; exact h
  simp [findI, this]
theorem mem_eta {M : Mem} {X : List (List AV)} (h : M.G = X) : (⟨M.objs, X⟩ : Mem) = M := by subst h; rfl
theorem mwp_store_o {C : Contract} {m : Mem} {fp : Fp} {gg g2 lo hi s2 : Nat} {nil : Bool} {xs : List AV} {cells : List LV} {off : Nat} {K : Unit → Mem → Fp → Prop} {t i t2 i2 b : Nat} {z : List AV} {ag : Bool} (h : m.objs (.tmp t i) = (gg, .box cells)) (h2 : m.objs (.tmp t2 i2) = (g2, .arr nil s2 xs)) (hne : Nm.tmp t i ≠ Nm.tmp t2 i2) (hl : off + 1 ≤ cells.length) :
    Mwp C (aStore ⟨1, b, z, ag⟩ (.lptr (.tmp t i) gg off) (.own (.tmp t2 i2) g2 lo hi)) m fp K =
      K () (((m.set (.cell t off) ((m.objs (.cell t off)).1 + 1, .arr nil s2 xs)).set (.tmp t2 i2) (g2 + 1, .dead)).set (.tmp t i) (gg, .box (setAt cells off [.own (.cell t off) ((m.objs (.cell t off)).1 + 1) lo hi])))
        ((((((fp.addN (.tmp t2 i2)).addN (.cell t off)).addW (.cell t off)).addW (.tmp t2 i2)).addN (.tmp t i)).addW (.tmp t i)) := by
  have e1 : (((m.set (.cell t off) ((m.objs (.cell t off)).1 + 1, .arr nil s2 xs)).set (.tmp t2 i2) (g2 + 1, .dead)).objs (.tmp t i)) = (gg, .box cells) := by
    rw [Mem.set_ne _ _ hne, Mem.set_ne _ _ (by simp), h]
  simp only [aStore, cellsL, settleL, settle, rehome, M.bind, Mwp, h2, if_true, e1, List.length_cons, List.length_nil, Nat.zero_add, true_and, hl]
end Go.Vai
namespace Go.Vai
variable {P : Program} {C : Contract} {cfg : Cfg} {raw : Operand → LV}
def strB (l : List (BitVec 8)) : ByteArray := strOf (l.map fun x => (x.toNat : Int))
theorem bytesNs_bsl : ∀ (l : List (BitVec 8)), bytesNs (l.map u8) = some (l.map fun x => (x.toNat : Int))
  | [] => rfl
  | x :: l => by simp only [List.map_cons, bytesNs, bytesNs_bsl l, Option.map_some]
theorem strL_bsl {s : Nat} {nil : Bool} (l : List (BitVec 8)) : strL (.sl s nil (l.map u8)) = .ret (.v (.base (.string (strB l)))) := by simp only [strL, bytesNs_bsl]; rfl
theorem act_convS {src dst e : TypeId} {d : Option Tmp} {x : Operand} {ty : TypeId} {pos : String} {aft : Array Edge} {g : Option (Nat × Bool)} (hs : P.underlying src = some (.slice e)) (he : P.underlying e = some (.int .u8)) (hd : P.underlying dst = some .string) :
    act P cfg raw ⟨d, .convert src dst x, ty, pos, aft, g⟩ = (peek (opn (raw x))).bind strL := by simp [act, hs, he, hd]
theorem push_toList (s : ByteArray) (x : UInt8) : (s.push x).toList = s.toList ++ [x] := by
  simp [ByteArray.toList_eq, ByteArray.push]
theorem strOf_foldl : ∀ (ns : List Int) (s : ByteArray), (ns.foldl (fun r n => r.push (UInt8.ofNat n.toNat)) s).toList = s.toList ++ ns.map fun n => UInt8.ofNat n.toNat
  | [], s => by simp
  | n :: ns, s => by rw [List.foldl_cons, strOf_foldl ns, push_toList]; simp
theorem strB_toList (l : List (BitVec 8)) : (strB l).toList = l.map fun x => UInt8.ofNat x.toNat := by
  rw [strB, strOf, strOf_foldl]
  simp [ByteArray.toList_eq]
theorem u8_inj : ∀ {a b : List (BitVec 8)}, (a.map fun x => UInt8.ofNat x.toNat) = (b.map fun x => UInt8.ofNat x.toNat) → a = b
  | [], [], _ => rfl
  | [], _ :: _, h => by simp at h
  | _ :: _, [], h => by simp at h
  | x :: a, y :: b, h => by
    simp only [List.map_cons, List.cons.injEq] at h
    have h1 := congrArg UInt8.toNat h.1
    simp only [UInt8.toNat_ofNat'] at h1
    have h2 := x.isLt
    have h3 := y.isLt
    rw [Nat.mod_eq_of_lt h2, Nat.mod_eq_of_lt h3] at h1
    rw [BitVec.eq_of_toNat_eq h1, u8_inj h.2]
theorem bin_eql_str {t : TypeId} {a b : List (BitVec 8)} : aBin P .eql t (.base (.string (strB a))) (.base (.string (strB b))) = some (.b (decide (a = b))) := by
  have : ((strB a).toList == (strB b).toList) = decide (a = b) := by
    rw [Bool.eq_iff_iff]
    simp only [beq_iff_eq, decide_eq_true_eq, strB_toList]
    exact ⟨u8_inj, fun h => by rw [h]⟩
  simp [aBin, aEql, this]
theorem findI_any {α : Type} (p : α → Bool) (l : List α) : decide (findI p l ≥ 0) = l.any p := by
  cases h : l.any p with
  | true =>
    rw [List.any_eq_true] at h
    obtain ⟨x, hx, hp⟩ := h
    rw [decide_eq_true_eq]
    unfold findI
    split
    · omega
    · rename_i hn
      rw [List.findIdx?_eq_none_iff] at hn
      rw [hn x hx] at hp; cases hp
  | false =>
    rw [List.any_eq_false] at h
    rw [findI_none (fun x hx => by simpa using h x hx)]
    decide
theorem rep_bsl0 (n : Nat) : List.replicate n (.base (.int .u8 0) : AV) = (List.replicate n 0#8).map u8 := by simp
theorem mwp_append0B {t xt e d : Nat} {m : Mem} {fp : Fp} {n : Int} {K : LV → Mem → Fp → Prop} {k : IntKind} {nm : Nm} {gg hi : Nat} {nil : Bool} {l : List (BitVec 8)}
    (he : elOf P t = some e) (hti : tiOf P e = some ⟨1, 1, [.base (.int .u8 0)], false⟩) (hxt : P.underlying xt = some (.int k)) (hn : 0 ≤ n ∧ n ≤ 140737488355328) (ho : m.objs nm = (gg, .arr nil 1 (l.map u8))) (hhi : hi = l.length) (hb : (l.length : Int) + n ≤ 140737488355328)
    (h : K (.own (.tmp d 0) (((m.set nm (gg + 1, .dead)).objs (.tmp d 0)).1 + 1) 0 (l ++ List.replicate n.toNat 0#8).length) ((m.set nm (gg + 1, .dead)).set (.tmp d 0) (((m.set nm (gg + 1, .dead)).objs (.tmp d 0)).1 + 1, .arr (nil && (List.replicate n.toNat 0#8).isEmpty) 1 ((l ++ List.replicate n.toNat 0#8).map u8))) ((((fp.addN nm).addW nm).addN (.tmp d 0)).addW (.tmp d 0))) :
    Mwp C (builtinL P .append #[t, xt] (some d) [.own nm gg 0 hi, .v (.i .i64 n)]) m fp K := by
  subst hhi
  simp only [builtinL, he, hti, hxt]
  rw [if_pos (by simp [roomB]; omega)]
  have e1 : TI.z ⟨1, 1, [.base (.int .u8 0)], false⟩ = (.base (.int .u8 0) : AV) := rfl
  simp only [e1, rep_bsl0, aAppend, mwp_getO, ho, List.length_map, List.length_replicate]
  rw [if_pos trivial, if_pos ⟨.inl trivial, by simp only [roomB]; omega, fun y hy => by rw [List.mem_map] at hy; obtain ⟨x, _, rfl⟩ := hy; rfl⟩]
  simp only [newArr, mwp_setO, mwp_getO, mwp_ret]
  have e2 : (if l.length + n.toNat ≤ l.length then (l.map u8).take l.length ++ (List.replicate n.toNat 0#8).map u8 ++ (l.map u8).drop (l.length + n.toNat) else (l.map u8).take l.length ++ (List.replicate n.toNat 0#8).map u8) = (l ++ List.replicate n.toNat 0#8).map u8 := by
    have t1 : (l.map u8).take l.length = l.map u8 := List.take_of_length_le (by simp)
    have t2 : (l.map u8).drop (l.length + n.toNat) = [] := List.drop_of_length_le (by simp)
    split <;> simp [t1, t2]
  rw [e2]
  have e3 : ((List.replicate n.toNat 0#8).map u8).isEmpty = (List.replicate n.toNat 0#8).isEmpty := by simp
  rw [e3]
  simpa using h
theorem bo1 {a b : Bool} : (a || b) = true ↔ a = true ∨ b = true := by simp
theorem bo2 {a b : Bool} : (a && b) = true ↔ a = true ∧ b = true := by simp
theorem bo3 {a b : Bool} : (a || b) = false ↔ a = false ∧ b = false := by simp
theorem bo4 {a b : Bool} : (a && b) = false ↔ a = false ∨ b = false := by cases a <;> cases b <;> simp
theorem bo5 {p : Prop} [Decidable p] : decide p = true ↔ p := decide_eq_true_iff
theorem bo6 {p : Prop} [Decidable p] : decide p = false ↔ ¬ p := decide_eq_false_iff_not
end Go.Vai
namespace Go.Vai
variable {C : Contract} {m : Mem} {fp : Fp}
theorem mwp_store_gen {gg : Nat} {cells : List LV} {off : Nat} {K : Unit → Mem → Fp → Prop} {t i sz b : Nat} {z : List AV} {ag : Bool} {x : LV} (h0 : m.objs (.tmp t i) = (gg, .box cells))
    (h : Mwp C (settleL t off (cellsL x)) m fp fun cs m' fp' => m'.objs (.tmp t i) = (gg, .box cells) ∧ cs.length = sz ∧ off + sz ≤ cells.length ∧ K () (m'.set (.tmp t i) (gg, .box (setAt cells off cs))) ((fp'.addN (.tmp t i)).addW (.tmp t i))) :
    Mwp C (aStore ⟨sz, b, z, ag⟩ (.lptr (.tmp t i) gg off) x) m fp K := by
  rw [aStore, mwp_bind]
  have mono : ∀ {α : Type} (p : M α) {m : Mem} {fp : Fp} {Q Q' : α → Mem → Fp → Prop}, Mwp C p m fp Q → (∀ a m f, Q a m f → Q' a m f) → Mwp C p m fp Q' := by
    intro α p
    induction p with
    | ret a => exact fun h k => k _ _ _ h
    | fail => exact fun h _ => h
    | getO n k ih => exact fun h k => ih _ h k
    | setO n x k ih => exact fun h k => ih h k
    | getG k ih => exact fun h k => ih _ h k
    | setG g k ih => exact fun h k => ih h k
    | call g args k ih => exact fun ⟨r, G', hc, h⟩ k => ⟨r, G', hc, ih _ h k⟩
    | pcall g args k ih => exact fun ⟨r, hc, h⟩ k => ⟨r, hc, ih _ h k⟩
  refine mono _ h fun cs m' fp' ⟨h1, h2, h3, h4⟩ => ?_
  simp only [Mwp, h1, h2, true_and, if_true, h3]
  exact h4
theorem mwp_settleL_nil {b j : Nat} {K : List LV → Mem → Fp → Prop} : Mwp C (settleL b j []) m fp K = K [] m fp := rfl
theorem mwp_settleL_v {b j : Nat} {a : AV} {r : List LV} {K : List LV → Mem → Fp → Prop} (h : cellishAV a = true) : Mwp C (settleL b j (.v a :: r)) m fp K = Mwp C (settleL b (j + 1) r) m fp fun l => K (.v a :: l) := by
  simp only [settleL, settle, h, if_true, mwp_bind, mwp_ret]
theorem mwp_settleL_own {b j t i g lo hi s : Nat} {nil : Bool} {xs : List AV} {r : List LV} {K : List LV → Mem → Fp → Prop} (h : m.objs (.tmp t i) = (g, .arr nil s xs)) :
    Mwp C (settleL b j (.own (.tmp t i) g lo hi :: r)) m fp K = Mwp C (settleL b (j + 1) r) ((m.set (.cell b j) ((m.objs (.cell b j)).1 + 1, .arr nil s xs)).set (.tmp t i) (g + 1, .dead)) ((((fp.addN (.tmp t i)).addN (.cell b j)).addW (.cell b j)).addW (.tmp t i)) fun l => K (.own (.cell b j) ((m.objs (.cell b j)).1 + 1) lo hi :: l) := by
  simp only [settleL, settle, rehome, mwp_bind, mwp_getO, h, if_true, mwp_setO, mwp_ret]
theorem mwp_settleL_frz {b j t i g lo hi s : Nat} {nil : Bool} {xs : List AV} {r : List LV} {K : List LV → Mem → Fp → Prop} (h : m.objs (.tmp t i) = (g, .frz nil s xs)) :
    Mwp C (settleL b j (.own (.tmp t i) g lo hi :: r)) m fp K = Mwp C (settleL b (j + 1) r) m (fp.addN (.tmp t i)) fun l => K (.v (.sl s nil (sub xs lo hi)) :: l) := by
  simp only [settleL, settle, rehome, mwp_bind, mwp_getO, h, if_true, mwp_ret]
theorem mwp_settleL_cell {b j t i g lo hi s : Nat} {nil : Bool} {xs : List AV} {r : List LV} {K : List LV → Mem → Fp → Prop} (hne : Nm.cell t i ≠ Nm.cell b j) (h : m.objs (.cell t i) = (g, .arr nil s xs)) :
    Mwp C (settleL b j (.own (.cell t i) g lo hi :: r)) m fp K = Mwp C (settleL b (j + 1) r) (m.set (.cell t i) (g, .frz nil s xs)) ((fp.addN (.cell t i)).addW (.cell t i)) fun l => K (.v (.sl s nil (sub xs lo hi)) :: l) := by
  simp only [settleL, settle, if_neg hne, freezeN, mwp_bind, mwp_getO, h, if_true, mwp_setO, mwp_ret]
theorem mwp_settleL_cellf {b j t i g lo hi s : Nat} {nil : Bool} {xs : List AV} {r : List LV} {K : List LV → Mem → Fp → Prop} (hne : Nm.cell t i ≠ Nm.cell b j) (h : m.objs (.cell t i) = (g, .frz nil s xs)) :
    Mwp C (settleL b j (.own (.cell t i) g lo hi :: r)) m fp K = Mwp C (settleL b (j + 1) r) m (fp.addN (.cell t i)) fun l => K (.v (.sl s nil (sub xs lo hi)) :: l) := by
  simp only [settleL, settle, if_neg hne, freezeN, mwp_bind, mwp_getO, h, if_true, mwp_ret]
theorem mwp_settleL_var {b j t g lo hi s : Nat} {nil : Bool} {xs : List AV} {r : List LV} {K : List LV → Mem → Fp → Prop} (h : m.objs (.var t) = (g, .arr nil s xs)) :
    Mwp C (settleL b j (.own (.var t) g lo hi :: r)) m fp K = Mwp C (settleL b (j + 1) r) (m.set (.var t) (g, .frz nil s xs)) ((fp.addN (.var t)).addW (.var t)) fun l => K (.v (.sl s nil (sub xs lo hi)) :: l) := by
  simp only [settleL, settle, if_neg (show ¬ Nm.var t = Nm.cell b j by simp), freezeN, mwp_bind, mwp_getO, h, if_true, mwp_setO, mwp_ret]
theorem mwp_peekL_nil {K : List AV → Mem → Fp → Prop} : Mwp C (peekL []) m fp K = K [] m fp := rfl
theorem mwp_peekL_v {a : AV} {r : List LV} {K : List AV → Mem → Fp → Prop} : Mwp C (peekL (.v a :: r)) m fp K = Mwp C (peekL r) m fp fun l => K (a :: l) := by simp only [peekL, peek, mwp_bind, mwp_ret]
theorem mwp_peekL_arr {n : Nm} {g lo hi s : Nat} {nil : Bool} {xs : List AV} {r : List LV} {K : List AV → Mem → Fp → Prop} (h : m.objs n = (g, .arr nil s xs)) : Mwp C (peekL (.own n g lo hi :: r)) m fp K = Mwp C (peekL r) m (fp.addN n) fun l => K (.sl s nil (sub xs lo hi) :: l) := by
  simp only [peekL, peek, peekN, mwp_bind, mwp_getO, h, if_true, mwp_ret]
theorem mwp_peekL_frz {n : Nm} {g lo hi s : Nat} {nil : Bool} {xs : List AV} {r : List LV} {K : List AV → Mem → Fp → Prop} (h : m.objs n = (g, .frz nil s xs)) : Mwp C (peekL (.own n g lo hi :: r)) m fp K = Mwp C (peekL r) m (fp.addN n) fun l => K (.sl s nil (sub xs lo hi) :: l) := by
  simp only [peekL, peek, peekN, mwp_bind, mwp_getO, h, if_true, mwp_ret]
theorem mwp_peekL_agg {fs r : List LV} {K : List AV → Mem → Fp → Prop} : Mwp C (peekL (.agg fs :: r)) m fp K = Mwp C (peekL fs) m fp fun l m' fp' => Mwp C (peekL r) m' fp' fun l2 => K (.agg l :: l2) := by simp only [peekL, peek, mwp_bind, mwp_ret]
theorem mwp_reifyL_nil {K : List AV → Mem → Fp → Prop} : Mwp C (reifyL []) m fp K = K [] m fp := rfl
theorem mwp_reifyL_v {a : AV} {r : List LV} {K : List AV → Mem → Fp → Prop} : Mwp C (reifyL (.v a :: r)) m fp K = Mwp C (reifyL r) m fp fun l => K (a :: l) := by simp only [reifyL, reify, mwp_bind, mwp_ret]
theorem mwp_reifyL_arr {n : Nm} {g lo hi s : Nat} {nil : Bool} {xs : List AV} {r : List LV} {K : List AV → Mem → Fp → Prop} (h : m.objs n = (g, .arr nil s xs)) : Mwp C (reifyL (.own n g lo hi :: r)) m fp K = Mwp C (reifyL r) (m.set n (g, .frz nil s xs)) ((fp.addN n).addW n) fun l => K (.sl s nil (sub xs lo hi) :: l) := by
  simp only [reifyL, reify, freezeN, mwp_bind, mwp_getO, h, if_true, mwp_setO, mwp_ret]
theorem mwp_reifyL_frz {n : Nm} {g lo hi s : Nat} {nil : Bool} {xs : List AV} {r : List LV} {K : List AV → Mem → Fp → Prop} (h : m.objs n = (g, .frz nil s xs)) : Mwp C (reifyL (.own n g lo hi :: r)) m fp K = Mwp C (reifyL r) m (fp.addN n) fun l => K (.sl s nil (sub xs lo hi) :: l) := by
  simp only [reifyL, reify, freezeN, mwp_bind, mwp_getO, h, if_true, mwp_ret]
theorem mwp_reifyL_agg {fs r : List LV} {K : List AV → Mem → Fp → Prop} : Mwp C (reifyL (.agg fs :: r)) m fp K = Mwp C (reifyL fs) m fp fun l m' fp' => Mwp C (reifyL r) m' fp' fun l2 => K (.agg l :: l2) := by simp only [reifyL, reify, mwp_bind, mwp_ret]
end Go.Vai
namespace Go.Vai
theorem own_lend {gh : Gh} {w : World} {n : Nm} {a : AV} {v : Value} {G : List (List AV)} (h : OwnVal gh w n a v) (hm : GMem gh w G) : ∃ gh', Ext gh w gh' w ∧ GMem gh' w G ∧ R gh' w a v := by
  obtain ⟨sz, nil, xs, rfl, h⟩ := h
  rcases h with ⟨rfl, rfl, rfl⟩ | ⟨rfl, b, cap, cs, ty, rfl, hρ, hb, hrow, h1, h2, h3⟩
  · exact ⟨gh, Ext.refl _ _, hm, .nilsl sz⟩
  · have hE : Ext gh w { gh with ρ := fun k => if k = b then .imm else gh.ρ k } w := by
      refine ⟨rfl, rfl, rfl, Nat.le_refl _, fun k hk => ⟨?_, rfl⟩, fun k _ hf => ⟨?_, rfl⟩, fun _ _ h => h⟩
      · show (if k = b then Role.imm else gh.ρ k) = .imm
        split
        · rfl
        · exact hk
      · show (if k = b then Role.imm else gh.ρ k) = .free
        rw [if_neg (fun e => by subst e; rw [hρ] at hf; cases hf)]; exact hf
    refine ⟨_, hE, ⟨fun k hk => ?_, fun _ => by simp [bare, ObjRel], hm.glen, fun id k cells h4 h5 => ?_⟩, ?_⟩
    · by_cases e : k = b
      · subst e; exact (Array.getElem?_eq_some_iff.1 hb).1
      · refine hm.alloc k ?_
        have : (if k = b then Role.imm else gh.ρ k) ≠ .free := hk
        rwa [if_neg e] at this
    · obtain ⟨e1, e2⟩ := hm.glob id k cells h4 h5
      refine ⟨?_, e2.mono rfl fun _ _ h => h.mono hE⟩
      show (if k = b then Role.imm else gh.ρ k) = .glob id
      rw [if_neg (fun e => by subst e; rw [hρ] at e1; cases e1)]; exact e1
    · have hr := hrow.keep hE
      have := R_row (lo := 0) (hi := xs.length) (fun _ => by show (if b = b then Role.imm else gh.ρ b) = .imm; rw [if_pos rfl]) hb hr
        (v := .slice (some ⟨b, 0, none⟩) xs.length cap) ⟨Nat.zero_le _, Nat.le_refl _, by
          simp only [Bool.false_eq_true, if_false]
          exact ⟨0, cap, rfl, fun _ => by simp, by omega, by omega, ⟨cs, ty, _, hb, by omega⟩, h3⟩⟩
      have e : sub xs 0 xs.length = xs := by simp [sub]
      rwa [e] at this
theorem Good.lend1 {P : Program} {f : FuncId} {args : List (AV × Bool)} {G G' : List (List AV)} {a : AV} (h : Good P f args G [(a, true)] G') : Good P f args G [(a, false)] G' := by
  refine ⟨h.1, fun gh w vs hg ha => (h.2 gh w vs hg ha).mono fun e w' ⟨v, gh', he, hx, hg', hr⟩ => ?_⟩
  obtain ⟨gh2, k1, k2, k3⟩ := own_lend (by simpa [ResRel, CompRel] using hr) hg'
  exact ⟨v, gh2, he, hx.trans k1, k2, by simpa [ResRel, CompRel] using k3⟩
theorem Good.lend2 {P : Program} {f : FuncId} {args : List (AV × Bool)} {G G' : List (List AV)} {a b : AV} (h : Good P f args G [(a, true), (b, false)] G') : Good P f args G [(a, false), (b, false)] G' := by
  refine ⟨h.1, fun gh w vs hg ha => (h.2 gh w vs hg ha).mono fun e w' ⟨v, gh', he, hx, hg', hr⟩ => ?_⟩
  obtain ⟨us, rfl, hl, hu⟩ := hr
  have l2 : us.size = 2 := hl
  have u0 := hu 0 (a, true) us[0] rfl (by simp [l2])
  have u1 := hu 1 (b, false) us[1] rfl (by simp [l2])
  obtain ⟨gh2, k1, k2, k3⟩ := own_lend (by simpa [CompRel] using u0) hg'
  have u1' : R gh2 w' b us[1] := (show R gh' w' b us[1] by simpa [CompRel] using u1).mono k1
  refine ⟨_, gh2, he, hx.trans k1, k2, us, rfl, hl, fun j x u hj hv => ?_⟩
  match j, hj, hv with
  | 0, hj, hv =>
    simp at hj; subst hj
    simp [l2] at hv; subst hv
    simpa [CompRel] using k3
  | 1, hj, hv =>
    simp at hj; subst hj
    simp [l2] at hv; subst hv
    simpa [CompRel] using u1'
  | j + 2, hj, hv => simp at hj
end Go.Vai
namespace Go.Vai
def eqAll {α β : Type} (f : α → β → Bool) (a : List α) (b : List β) : Bool := decide (a.length = b.length) && (a.zip b).all fun p => f p.1 p.2
theorem mwp_reify_agg {C : Contract} {m : Mem} {fp : Fp} {fs : List LV} {K : AV → Mem → Fp → Prop} : Mwp C (reify (.agg fs)) m fp K = Mwp C (reifyL fs) m fp fun l => K (.agg l) := by simp only [reify, mwp_bind, mwp_ret]
end Go.Vai
namespace Go.Vai
theorem asg_ff {C : Contract} {b : Bool} {d : Nat} {k : Nat} {gg lo hi : Nat} {nil : Bool} {sz : Nat} {xs : List AV} {m : Mem} {fp : Fp} {K : LV → Mem → Fp → Prop} (hb : b = false) (hn : Nm.var k ≠ .var d) (h : m.objs (.var k) = (gg, .frz nil sz xs)) :
    Mwp C (asg b d (.own (.var k) gg lo hi)) m fp K = K (.v (.sl sz nil (sub xs lo hi))) m (fp.addN (.var k)) := by
  subst hb
  simp only [asg, Bool.false_eq_true, false_and, if_false, settle, if_neg hn, mwp_bind]
  simp [freezeN, Mwp, h]
theorem asg_ft {C : Contract} {b : Bool} {d : Nat} {t i gg lo hi : Nat} {nil : Bool} {sz : Nat} {xs : List AV} {m : Mem} {fp : Fp} {K : LV → Mem → Fp → Prop} (h : m.objs (.tmp t i) = (gg, .frz nil sz xs)) :
    Mwp C (asg b d (.own (.tmp t i) gg lo hi)) m fp K = K (.v (.sl sz nil (sub xs lo hi))) m (fp.addN (.tmp t i)) := by
  cases b <;> simp [asg, settle, rehome, Mwp, h]
end Go.Vai
namespace Go.Vai
theorem good_of_body5 {P : Program} {f : FuncId} {fn : Func} {c : Code} {args : List (AV × Bool)} {G r G'} (nt : Nat) (hf : P.funcs[f]? = some fn) (hn : (fn.name == "runtime.NumGoroutine") = false) (hb : fn.body = some c) (hnt : fn.ntmps = nt) (hl : args.length ≤ nt)
    (hGl : G.length ≤ G'.length) (hGp : ∀ cs ∈ G', noPtrL cs = true) (hr : noPtrL (r.map (·.1)) = true)
    (h : ∀ (s : Nat → LV) (m : Mem), (∀ (j : Nat) (x : AV × Bool), args[j]? = some x → s j = argLV j x) → (∀ i, m.objs (.res i) = (0, .dead)) → (∀ (j : Nat) (x : AV × Bool), args[j]? = some x → m.objs (.var j) = argObj x) → m.G = G →
      AW P c ⟨nt, s, m⟩ fun e σ => (e = .normal ∨ e = .ret) ∧ ∃ junk, LeavesN P (Good P) fn r (G' ++ junk) σ) : Good P f args G r G' := by
  subst hnt
  refine ⟨⟨fn, c, hf, hn, hb⟩, fun gh w vs hg ha => calls_of_wp hf hb ?_⟩
  obtain ⟨gh1, hs, he⟩ := entry_sim (nt := fn.ntmps) hg ha (by have := ha.1; omega)
  have h0 := h (entry fn.ntmps args G).slots (entry fn.ntmps args G).mem (fun j x hx => by simp only [entry, hx]) (fun _ => rfl) (fun j x hx => by simp only [entry, hx]) rfl
  refine wp_mono (h0 gh1 _ w hs) fun e a' w' ⟨σ', gh', ⟨h1, junk, r', hq, h2⟩, h3, h4⟩ => ?_
  obtain ⟨v, gh2, k1, k2, k3, k4⟩ := leaves_sound h2 h3
  obtain ⟨gh3, p1, p2, p3⟩ := post_forget hg.glen ((he.trans h4.ext).trans k2) k3 (resRel_nilEq hq k4) hGl hGp hr
  rcases h1 with rfl | rfl
  · exact ⟨h3.defers, v, k1, v, gh3, rfl, p1, p2, p3⟩
  · exact ⟨h3.defers, v, k1, v, gh3, rfl, p1, p2, p3⟩
end Go.Vai
namespace Go.Vai
theorem AW.join {P : Program} {x y : Code} {σ : St} {Q : Exit → St → Prop} (R : St → Prop) (h : AW P x σ (thenA R Q)) (k : ∀ σ', R σ' → AW P y σ' Q) : AW P (.seq x y) σ Q := by
  refine AW.seq (h.mono fun e σ' hq => ?_)
  cases e with
  | normal => exact k _ hq
  | _ => exact hq
end Go.Vai
namespace Go.Vai
section
variable {P : Program} {C : Contract} {cfg : Cfg} {ops : Array Oper} {n : Nat} {f : Nat → LV} {m : Mem} {Q : St → Prop} {r : List Oper}
end
end Go.Vai
namespace Go.Vai
section
variable {α : Type} [Inhabited α]
def dfS (p : α → Bool) (l : List α) (a : Nat) : Nat → List α × Nat
  | 0 => (l, a)
  | k + 1 => if p (l.getD (a + 1 + k) default) then dfS p l a k else ((dfS p l a k).1.set (dfS p l a k).2 (l.getD (a + 1 + k) default), (dfS p l a k).2 + 1)
end
end Go.Vai
