import Derived.Test.YtencjgkeflibdaaGreatVaiF
import Derived.Test.YtencjgkeflibdaaGreatwTy
import Derived.Test.YtencjgkeflibdaaGreatM3
import Derived.OwnWalkIn
import Derived.TacticsInMore
import Derived.RegionIn
import Derived.Test.YtencjgkeflibdaaGreatM1
import Derived.Test.YtencjgkeflibdaaGreatM2
import Derived.Test.YtencjgkeflibdaaGreatVaiE
set_option linter.unusedSimpArgs false
set_option linter.unusedVariables false
set_option maxHeartbeats 4000000
set_option maxRecDepth 100000
namespace Go.Vai.MP
open Go.Proofs Go.RowKit Go.Maps Go.Sort Go.Shelf Go.Vai
def keysA_ren : Go.Shelf.Ren := ⟨fun | 7 => 59 | 10 => 90 | n => n, fun | 23 => 36 | 26 => 3 | 3 => 22 | 28 => 108 | 0 => 0 | 27 => 107 | 33 => 135 | 4 => 4 | n => n, fun | n => n⟩
theorem keysA : Go.Proofs.SlLaysZI.n7 Tryz.prog keysA_ren := {
  mixed := by kernel_rfl
  f7 := ⟨Tryz.f59.name, by decide, Tryz.func59.trans (congrArg some (by kernel_rfl))⟩
  f10 := ⟨Tryz.f90.name, by decide, Tryz.func90.trans (congrArg some (by kernel_rfl))⟩
  t0 := Tryz.underlying0
  a0 := Tryz.isAgg0
  z0 := Tryz.sizeOf0
  v0 := Tryz.zeroValue0
  t4 := Tryz.underlying4
  a4 := Tryz.isAgg4
  z4 := Tryz.sizeOf4
  v4 := Tryz.zeroValue4
  t23 := Tryz.underlying36
  a23 := Tryz.isAgg36
  z23 := Tryz.sizeOf36
  v23 := Tryz.zeroValue36
  t26 := Tryz.underlying3
  a26 := Tryz.isAgg3
  z26 := Tryz.sizeOf3
  v26 := Tryz.zeroValue3
  t27 := Tryz.underlying107
  a27 := Tryz.isAgg107
  z27 := Tryz.sizeOf107
  v27 := Tryz.zeroValue107
  t28 := Tryz.underlying108
  a28 := Tryz.isAgg108
  z28 := Tryz.sizeOf108
  v28 := Tryz.zeroValue108
  t33 := Tryz.underlying135
  a33 := Tryz.isAgg135
  z33 := Tryz.sizeOf135
  v33 := Tryz.zeroValue135 }
def sortedA_ren : Go.Shelf.Ren := ⟨fun | 6 => 58 | 8 => 88 | 9 => 89 | 11 => 120 | 13 => 122 | 12 => 121 | 23 => 145 | 24 => 146 | 14 => 136 | 15 => 137 | 16 => 138 | 17 => 139 | 18 => 140 | 19 => 141 | 20 => 142 | 21 => 143 | 22 => 144 | 25 => 148 | 26 => 149 | 27 => 150 | 28 => 151 | 29 => 152 | 30 => 153 | 31 => 154 | n => n, fun | 26 => 3 | 28 => 108 | 24 => 56 | 0 => 0 | 3 => 3 | 37 => 166 | 48 => 161 | 50 => 130 | 4 => 4 | 40 => 180 | 39 => 179 | 45 => 185 | 5 => 5 | 9 => 9 | 51 => 189 | 55 => 193 | 57 => 195 | 58 => 96 | 33 => 135 | n => n, fun | n => n⟩
theorem sortedA : Go.Proofs.SlLaysZI.n6 Tryz.prog sortedA_ren := {
  mixed := by kernel_rfl
  f6 := ⟨Tryz.f58.name, by decide, Tryz.func58.trans (congrArg some (by kernel_rfl))⟩
  f8 := ⟨Tryz.f88.name, by decide, Tryz.func88.trans (congrArg some (by kernel_rfl))⟩
  f11 := ⟨Tryz.f120.name, by decide, Tryz.func120.trans (congrArg some (by kernel_rfl))⟩
  t0 := Tryz.underlying0
  a0 := Tryz.isAgg0
  z0 := Tryz.sizeOf0
  v0 := Tryz.zeroValue0
  t24 := Tryz.underlying56
  a24 := Tryz.isAgg56
  z24 := Tryz.sizeOf56
  v24 := Tryz.zeroValue56
  t26 := Tryz.underlying3
  a26 := Tryz.isAgg3
  z26 := Tryz.sizeOf3
  v26 := Tryz.zeroValue3
  t28 := Tryz.underlying108
  a28 := Tryz.isAgg108
  z28 := Tryz.sizeOf108
  v28 := Tryz.zeroValue108
  i26 := by kernel_rfl }
def sortA_ren : Go.Shelf.Ren := ⟨fun | 5 => 89 | 8 => 122 | 7 => 121 | 19 => 145 | 20 => 146 | 10 => 136 | 11 => 137 | 12 => 138 | 13 => 139 | 14 => 140 | 15 => 141 | 16 => 142 | 17 => 143 | 18 => 144 | 30 => 148 | 31 => 149 | 32 => 150 | 33 => 151 | 34 => 152 | 35 => 153 | 40 => 154 | n => n, fun | 23 => 56 | 25 => 3 | 3 => 3 | 32 => 166 | 22 => 56 | 0 => 0 | 44 => 161 | 46 => 130 | 4 => 4 | 36 => 180 | 35 => 179 | 41 => 185 | 5 => 5 | 9 => 9 | 53 => 189 | 57 => 193 | 63 => 195 | 64 => 96 | n => n, fun | n => n⟩
theorem sortA : Go.Proofs.SlLaysM.n5 Tryz.prog sortA_ren := {
  mixed := by kernel_rfl
  f5 := ⟨Tryz.f89.name, by decide, Tryz.func89.trans (congrArg some (by kernel_rfl))⟩
  f7 := ⟨Tryz.f121.name, by decide, Tryz.func121.trans (congrArg some (by kernel_rfl))⟩
  f8 := Tryz.func122.trans (congrArg some (by kernel_rfl))
  f10 := ⟨Tryz.f136.name, by decide, Tryz.func136.trans (congrArg some (by kernel_rfl))⟩
  f11 := ⟨Tryz.f137.name, by decide, Tryz.func137.trans (congrArg some (by kernel_rfl))⟩
  f12 := ⟨Tryz.f138.name, by decide, Tryz.func138.trans (congrArg some (by kernel_rfl))⟩
  f13 := ⟨Tryz.f139.name, by decide, Tryz.func139.trans (congrArg some (by kernel_rfl))⟩
  f14 := ⟨Tryz.f140.name, by decide, Tryz.func140.trans (congrArg some (by kernel_rfl))⟩
  f15 := ⟨Tryz.f141.name, by decide, Tryz.func141.trans (congrArg some (by kernel_rfl))⟩
  f16 := ⟨Tryz.f142.name, by decide, Tryz.func142.trans (congrArg some (by kernel_rfl))⟩
  f17 := ⟨Tryz.f143.name, by decide, Tryz.func143.trans (congrArg some (by kernel_rfl))⟩
  f18 := ⟨Tryz.f144.name, by decide, Tryz.func144.trans (congrArg some (by kernel_rfl))⟩
  f19 := Tryz.func145.trans (congrArg some (by kernel_rfl))
  f20 := Tryz.func146.trans (congrArg some (by kernel_rfl))
  f30 := ⟨Tryz.f148.name, by decide, Tryz.func148.trans (congrArg some (by kernel_rfl))⟩
  f31 := Tryz.func149.trans (congrArg some (by kernel_rfl))
  f32 := Tryz.func150.trans (congrArg some (by kernel_rfl))
  f33 := ⟨Tryz.f151.name, by decide, Tryz.func151.trans (congrArg some (by kernel_rfl))⟩
  f34 := ⟨Tryz.f152.name, by decide, Tryz.func152.trans (congrArg some (by kernel_rfl))⟩
  f35 := ⟨Tryz.f153.name, by decide, Tryz.func153.trans (congrArg some (by kernel_rfl))⟩
  f40 := ⟨Tryz.f154.name, by decide, Tryz.func154.trans (congrArg some (by kernel_rfl))⟩
  t0 := Tryz.underlying0
  a0 := Tryz.isAgg0
  z0 := Tryz.sizeOf0
  v0 := Tryz.zeroValue0
  t3 := Tryz.underlying3
  a3 := Tryz.isAgg3
  z3 := Tryz.sizeOf3
  v3 := Tryz.zeroValue3
  t4 := Tryz.underlying4
  a4 := Tryz.isAgg4
  z4 := Tryz.sizeOf4
  v4 := Tryz.zeroValue4
  t5 := Tryz.underlying5
  a5 := Tryz.isAgg5
  z5 := Tryz.sizeOf5
  v5 := Tryz.zeroValue5
  t9 := Tryz.underlying9
  a9 := Tryz.isAgg9
  z9 := Tryz.sizeOf9
  v9 := Tryz.zeroValue9
  t22 := Tryz.underlying56
  a22 := Tryz.isAgg56
  z22 := Tryz.sizeOf56
  v22 := Tryz.zeroValue56
  t23 := Tryz.underlying56
  a23 := Tryz.isAgg56
  z23 := Tryz.sizeOf56
  v23 := Tryz.zeroValue56
  t25 := Tryz.underlying3
  a25 := Tryz.isAgg3
  z25 := Tryz.sizeOf3
  v25 := Tryz.zeroValue3
  t32 := Tryz.underlying166
  a32 := Tryz.isAgg166
  z32 := Tryz.sizeOf166
  v32 := Tryz.zeroValue166
  t35 := Tryz.underlying179
  a35 := Tryz.isAgg179
  z35 := Tryz.sizeOf179
  v35 := Tryz.zeroValue179
  t36 := Tryz.underlying180
  a36 := Tryz.isAgg180
  z36 := Tryz.sizeOf180
  v36 := Tryz.zeroValue180
  t41 := Tryz.underlying185
  a41 := Tryz.isAgg185
  z41 := Tryz.sizeOf185
  v41 := Tryz.zeroValue185
  t44 := Tryz.underlying161
  a44 := Tryz.isAgg161
  z44 := Tryz.sizeOf161
  v44 := Tryz.zeroValue161
  t46 := Tryz.underlying130
  a46 := Tryz.isAgg130
  z46 := Tryz.sizeOf130
  v46 := Tryz.zeroValue130
  t53 := Tryz.underlying189
  a53 := Tryz.isAgg189
  z53 := Tryz.sizeOf189
  v53 := Tryz.zeroValue189
  t57 := Tryz.underlying193
  a57 := Tryz.isAgg193
  z57 := Tryz.sizeOf193
  v57 := Tryz.zeroValue193
  t63 := Tryz.underlying195
  a63 := Tryz.isAgg195
  z63 := Tryz.sizeOf195
  v63 := Tryz.zeroValue195
  t64 := Tryz.underlying96
  a64 := Tryz.isAgg96
  z64 := Tryz.sizeOf96
  v64 := Tryz.zeroValue96 }
def copyA_ren : Go.Shelf.Ren := ⟨fun | 5 => 55 | n => n, fun | 23 => 36 | 24 => 36 | 26 => 3 | 27 => 22 | 0 => 0 | 4 => 4 | n => n, fun | n => n⟩
theorem copyA : Go.Proofs.SlLaysX.n5 Tryz.prog copyA_ren := {
  mixed := by kernel_rfl
  f5 := ⟨Tryz.f55.name, by decide, Tryz.func55.trans (congrArg some (by kernel_rfl))⟩
  t0 := Tryz.underlying0
  a0 := Tryz.isAgg0
  z0 := Tryz.sizeOf0
  v0 := Tryz.zeroValue0
  t4 := Tryz.underlying4
  a4 := Tryz.isAgg4
  z4 := Tryz.sizeOf4
  v4 := Tryz.zeroValue4
  t23 := Tryz.underlying36
  a23 := Tryz.isAgg36
  z23 := Tryz.sizeOf36
  v23 := Tryz.zeroValue36
  t24 := Tryz.underlying36
  a24 := Tryz.isAgg36
  z24 := Tryz.sizeOf36
  v24 := Tryz.zeroValue36
  a26 := Tryz.isAgg3
  z26 := Tryz.sizeOf3
  a27 := Tryz.isAgg22
  z27 := Tryz.sizeOf22 }
theorem sortsA (m : Nat) : AnyZI.SortsIn Tryz.prog sortedA_ren Fence.wide m :=
  ⟨fun blk off cap ss W hH hblk hsz => callsIn_wide.2 (AnyM.slices_Sort_int sortA blk off cap ss W hH hblk hsz),
   fun p cap W => callsIn_wide.2 (AnyM.slices_Sort_int_none sortA p cap W)⟩
theorem good_Copy {G : List (List AV)} {i1 i2 : Nat} {f1 f2 : Int → Option AV} (hne : i1 ≠ i2) (h1 : G[i1]? = some [.mp f1]) (h2 : G[i2]? = some [.mp f2]) (s1 : Small f1) (s2 : Small f2) :
    Good Tryz.prog 55 [(.gm i1, false), (.gm i2, false)] G [] (G.set i1 [.mp fun k => if (f2 k).isSome then f2 k else f1 k]) := good_mcopy copyA Tryz.underlying3 hne h1 h2 s1 s2
/-- the numbers that wait, at the machine -/
theorem calls_Waits (bd b n : Nat) (D0 : DataW Value) (w : World) (hown : w.ownsMap Tryz.prog 3 holdV b n D0) (hn : n ≤ 2000) (hcell : w.cell? ⟨bd, 2, none⟩ = some (.map (some b))) (hbd : bd < w.heap.size) :
    Calls Tryz.prog 26 #[.pointer (some ⟨bd, 0, none⟩)] w fun e w' => ∃ (v : Value) (ss : List Int), e = .returned v ∧ ss.Perm (intKeys D0) ∧
      w'.ownsRow w.heap.size 3 1 v ss.length ((ss.mergeSort (fun x y => decide (x ≤ y))).map encZ) ∧ (v = .slice none 0 0 ↔ ss = []) ∧ Below w.heap.size w w' := by
  refine (callsIn_wide (n := 6)).1 ?_
  have hbl := hown.lt
  have hsz := hown.size_le
  have hseq : SeqGives Fence.wide 2 Tryz.prog 90 #[.pointer (some ⟨w.heap.size, 0, none⟩)] encZ (fun ss => ss.Perm (intKeys D0)) (Maps.size D0) (w.alloc (.cells #[.map (some b)] 36)) :=
    AnyZI.keys_gives (ρ := keysA_ren) { keysA with } Fence.wide _ trivial rfl (by omega) w.heap.size b n D0 _ (by simp) (by simp) (by
      obtain ⟨es, clock, hb, Ft, hs, hD⟩ := hown
      exact ⟨es, clock, (Below.heap_alloc _ _ b hbl).trans hb, Ft, hs, hD⟩)
  have cK : ∀ mb W, CallsIn Fence.wide 5 Tryz.prog 59 #[.map mb] W fun e w' => e = .returned (.func (.func 90) #[] #[.pointer (some ⟨W.heap.size, 0, none⟩)]) ∧ w' = W.alloc (.cells #[.map mb] 36) := fun mb W => AnyZI.keys_in keysA Fence.wide 5 trivial rfl mb W
  have cS := AnyZI.sorted_in sortedA Fence.wide 5 trivial trivial trivial trivial rfl (by omega) (sortsA _) (enters_of Tryz.func89 (by kernel_rfl) rfl) 90 #[.pointer (some ⟨w.heap.size, 0, none⟩)] trivial (enters_of Tryz.func90 (by kernel_rfl) rfl) _ _ (by unfold maxLen; omega) (by omega) _ hseq
  change CallsIn _ _ Tryz.prog 58 _ _ _ at cS
  have hfK : Fence.wide.fn 59 := trivial
  have hfS : Fence.wide.fn 58 := trivial
  refine callsIn_of_wp Tryz.func26 rfl trivial ?_ rfl
  simp only [Tryz.ntmps26, List.size_toArray, List.length_cons, List.length_nil, Nat.reduceAdd, Nat.reduceSub, Array.replicate_succ, Array.replicate_zero, List.push_toArray, List.append_toArray, List.nil_append, List.cons_append]
  gi_wp2_with (first
    | (gi_at_call 59; refine (cK _ _).mono ?_; rintro e w' ⟨rfl, rfl⟩)
    | (gi_at_call 58; refine cS.mono ?_; rintro e w' ⟨v, ss, rfl, hS, hrow, hnil, hb⟩))
  go_ret
  exact ⟨v, ss, rfl, hS, ownsRow_base_a hrow (by simp), hnil, ((Below.refl _ w).alloc (Nat.le_refl _) _).trans (hb.mono (by simp))⟩
theorem good_WaitsG (G : List (List AV)) (d is iw : Nat) (x : DK.Dk) (hD : DK.HasD G d is iw x) (hs : Small (DK.mapA x.waits)) (L : List Int) (hL : L.Pairwise (· < ·)) (hm : ∀ i, i ∈ L ↔ (x.waits i).isSome = true) :
    Good Tryz.prog 26 [(.gp d 0, false)] G [(.sl 1 L.isEmpty (L.map i64), false)] G := by
  refine ⟨⟨_, _, Tryz.func26, rfl, rfl⟩, fun gh w vs hg ha => ?_⟩
  obtain ⟨a1, a2⟩ := ha
  obtain ⟨v1, rfl⟩ : ∃ v1, vs = #[v1] := by
    match vs, a1 with
    | ⟨[v1]⟩, _ => exact ⟨v1, rfl⟩
  have r1 : R gh w (.gp d 0) v1 := by simpa [CompRel] using a2 0 _ v1 rfl rfl
  obtain ⟨bd, rfl, g1⟩ := gp_val r1
  obtain ⟨p1, c1⟩ := hg.glob d bd _ g1 hD.hd
  rcases c1 with ⟨cs, tyd, hb, _, hcs⟩ | ⟨f, e, _⟩
  case inr => cases e
  obtain ⟨v2, e2, _, r2⟩ := hcs 2 _ rfl
  obtain ⟨bw, rfl, g2⟩ := gm_val r2
  obtain ⟨p2, m2⟩ := g_map hg g2 hD.hw
  obtain ⟨D, o, q, _⟩ := owns_of (k := 3) Tryz.underlying3 m2 hs
  refine (calls_Waits bd bw 2000 D w o (Nat.le_refl _) (by simp only [World.cell?, hb]; simpa using e2) (hg.alloc bd (by rw [p1]; simp))).mono ?_
  rintro e w' ⟨v, ss, rfl, hS, hrow, hnil, hbw⟩
  have hm2 : ∀ i, i ∈ L ↔ (DK.mapA x.waits i).isSome = true := fun i => by rw [hm, DK.mapA, Option.isSome_map]
  obtain ⟨gh', hx, hG, hR⟩ := sorted_row hg hL (own_keys Tryz.underlying3 o q hL hm2) hS hrow hnil hbw
  exact ⟨v, gh', rfl, hx, hG, hR⟩
end Go.Vai.MP
set_option linter.unusedSimpArgs false
set_option linter.unusedVariables false
namespace Go.Vai.DK
structure Fine (x : Dk) : Prop where
 w : Whole x
 n1 : 1 ≤ x.n
 n2 : x.n ≤ 1024
 ks : ∀ i, (x.safe i).isSome = true → 0 ≤ i ∧ i < x.n
 kw : ∀ i, (x.waits i).isSome = true → 0 ≤ i ∧ i < x.n
 a : -1 ≤ x.armed ∧ x.armed ≤ 1000000
theorem mapA_some {f : Int → Option (List (BitVec 8))} {k : Int} : (mapA f k).isSome = (f k).isSome := by simp [mapA]
theorem off_fine {x : Dk} (h : Fine x) : offD x = x.dead := by
 have := h.n1
 have h0 : ¬ x.n = 0 := by omega
 simp [offD, h0]
theorem act_fine {x : Dk} (h : Fine x) : Fine (actD x) := by
 obtain ⟨h1, h2, h3⟩ := act_maps x
 refine ⟨⟨by rw [h1]; exact h.w.s, by rw [h2]; exact h.w.w⟩, by rw [h3]; exact h.n1, by rw [h3]; exact h.n2, by rw [h1, h3]; exact h.ks, by rw [h2, h3]; exact h.kw, ?_⟩
 have ha := h.a
 unfold actD; split
 ·exact ha
 ·split
  ·show -1 ≤ x.armed - 1 ∧ x.armed - 1 ≤ 1000000; omega
  ·exact ha
theorem put_fine {x : Dk} {i : Int} {b : List (BitVec 8)} (h : Fine x) (hi : 0 ≤ i ∧ i < x.n) (hb : b.length = 512) : Fine (putW x i b) := by
 refine ⟨⟨h.w.s, fun j c hc => ?_⟩, h.n1, h.n2, h.ks, fun j hj => ?_, h.a⟩
 ·simp only [putW] at hc
  split at hc
  ·cases hc; exact hb
  ·exact h.w.w j c hc
 ·simp only [putW] at hj
  split at hj
  ·rename_i e; subst e; exact hi
  ·exact h.kw j hj
theorem wri_fine {x : Dk} {i : Int} {b : List (BitVec 8)} (h : Fine x) : Fine (wriX x i b) := by
 have h3 := (act_maps x).2.2
 unfold wriX; split
 ·exact h
 ·split
  ·exact h
  ·split
   ·exact act_fine h
   ·exact put_fine (act_fine h) (by rw [h3]; omega) (by omega)
def flD (x : Dk) : Dk := { x with safe := fun k => if (x.waits k).isSome then x.waits k else x.safe k, waits := fun _ => none }
def fluE (x : Dk) : Int := if offD x = true then 7 else actE x
def fluX (x : Dk) : Dk := if offD x = true then x else if x.armed = 0 then actD x else flD (actD x)
theorem flu_off {x : Dk} (h : offD x = true) : fluE x = 7 ∧ fluX x = x := by simp [fluE, fluX, h]
theorem flu_die {x : Dk} (h : offD x = false) (h3 : actE x ≠ 0) : fluE x = actE x ∧ fluX x = actD x := by
 have h4 : x.armed = 0 := by unfold actE at h3; split at h3 <;> simp_all
 simp only [fluE, fluX, h, Bool.false_eq_true, if_false, if_pos h4, and_self]
theorem flu_ok {x : Dk} (h : offD x = false) (h3 : ¬ actE x ≠ 0) : fluE x = 0 ∧ fluX x = flD (actD x) := by
 have h4 : ¬ x.armed = 0 := fun h => h3 (by rw [(act_0 h).2]; decide)
 have h5 : actE x = 0 := Decidable.not_not.1 h3
 simp only [fluE, fluX, h, Bool.false_eq_true, if_false, if_neg h4, h5, and_self]
theorem flD_fine {x : Dk} (h : Fine x) : Fine (flD x) := by
 refine ⟨⟨fun i b hb => ?_, fun i b hb => (by cases hb)⟩, h.n1, h.n2, fun i hi => ?_, fun i hi => (by cases hi), h.a⟩
 ·simp only [flD] at hb
  split at hb
  ·exact h.w.w i b hb
  ·exact h.w.s i b hb
 ·simp only [flD] at hi
  split at hi
  ·exact h.kw i hi
  ·exact h.ks i hi
theorem flu_fine {x : Dk} (h : Fine x) : Fine (fluX x) := by
 unfold fluX; split
 ·exact h
 ·split
  ·exact act_fine h
  ·exact flD_fine (act_fine h)
theorem small_w {x : Dk} (h : Fine x) : Small (mapA x.waits) := fun k hk => by rw [mapA_some] at hk; have := h.kw k hk; have := h.n2; omega
theorem small_s {x : Dk} (h : Fine x) : Small (mapA x.safe) := fun k hk => by rw [mapA_some] at hk; have := h.ks k hk; have := h.n2; omega
theorem flu_G {G : List (List AV)} {d is iw : Nat} {x y : Dk} (hD : HasD G d is iw x) : wrD G d is iw (flD y) = (((wrD G d is iw y).set is [.mp fun k => if (mapA y.waits k).isSome then mapA y.waits k else mapA y.safe k]).set iw [.mp fun _ => none]) := by
 have e : (fun k => if (mapA y.waits k).isSome then mapA y.waits k else mapA y.safe k) = mapA (flD y).safe := by
  funext k
  rw [mapA_some]
  simp only [mapA, flD]
  split <;> rfl
 have e2 : (fun _ => none : Int → Option AV) = mapA (flD y).waits := by funext k; rfl
 rw [e, e2, ← wr_wr (y := y) hD]
 have hy := wr_has (y := y) hD
 have e3 : ((wrD G d is iw y).set d [i64 (flD y).n, .gm is, .gm iw, i64 (flD y).armed, .b (flD y).dead]) = wrD G d is iw y := set_same hy.hd
 show (((wrD G d is iw y).set d [i64 (flD y).n, .gm is, .gm iw, i64 (flD y).armed, .b (flD y).dead]).set is [.mp (mapA (flD y).safe)]).set iw [.mp (mapA (flD y).waits)] = _
 rw [e3]
def waitL (x : Dk) : List Int := ((List.range x.n.toNat).map Int.ofNat).filter fun i => (x.waits i).isSome
theorem wait_sorted (x : Dk) : (waitL x).Pairwise (· < ·) := by
 refine List.Pairwise.filter _ (List.pairwise_map.2 (List.pairwise_lt_range.imp fun h => ?_))
 exact Int.ofNat_lt.2 h
theorem wait_mem {x : Dk} (h : Fine x) (i : Int) : i ∈ waitL x ↔ (x.waits i).isSome = true := by
 rw [waitL, List.mem_filter]
 refine ⟨fun h => h.2, fun hi => ⟨?_, hi⟩⟩
 obtain ⟨h1, h2⟩ := h.kw i hi
 exact List.mem_map.2 ⟨i.toNat, List.mem_range.2 (by omega), by simp; omega⟩
theorem wait_len {x : Dk} (h : Fine x) : (waitL x).length ≤ 1024 := by
 have h1 := List.length_filter_le (fun i => (x.waits i).isSome) ((List.range x.n.toNat).map Int.ofNat)
 have h2 := h.n2
 rw [List.length_map, List.length_range] at h1
 show (List.filter _ _).length ≤ _
 omega
structure Tear where
 k : Int
 nl : Bool
 b : List (BitVec 8)
def tearA (t : Tear) : AV := .agg [i64 t.k, .sl 1 t.nl (bsl t.b)]
theorem cellsOf_tear (t : Tear) : cellsOf (tearA t) = [i64 t.k, .sl 1 t.nl (bsl t.b)] := rfl
@[simp] theorem noPtr_tear (t : Tear) : noPtr (tearA t) = true := by simp [tearA, noPtr, noPtrL, noPtrL_bsl]
theorem noPtrL_tear (l : List Tear) : noPtrL (l.map tearA) = true := noPtrL_map noPtr_tear l
def putS (x : Dk) (i : Int) (b : List (BitVec 8)) : Dk := { x with safe := fun j => if j = i then some b else x.safe j }
def crStep (x : Dk) (t : Tear) (i : Int) : Dk := if t.k = 1 then putS x i ((x.waits i).getD []) else if t.k = 2 then putS x i (cpyS t.b (firmD x i)) else x
def crK (x : Dk) (l : List Tear) : Nat → Dk
 | 0 => x
 | k + 1 => match l[k]?, (waitL x)[k]? with
  | some t, some i => crStep (crK x l k) t i
  | _, _ => crK x l k
theorem crK_next {x : Dk} {l : List Tear} {k : Nat} (h1 : k < l.length) (h2 : k < (waitL x).length) : crK x l (k + 1) = crStep (crK x l k) l[k] (waitL x)[k] := by
 rw [crK, List.getElem?_eq_getElem h1, List.getElem?_eq_getElem h2]
theorem crK_past {x : Dk} {l : List Tear} {k : Nat} (h1 : l.length ≤ k) : ∀ j, crK x l (k + j) = crK x l k
 | 0 => rfl
 | j + 1 => by
  show crK x l (k + j + 1) = _
  rw [crK, List.getElem?_eq_none (show l.length ≤ k + j by omega)]
  exact crK_past h1 j
theorem crStep_eqs (x : Dk) (t : Tear) (i : Int) : (crStep x t i).n = x.n ∧ (crStep x t i).waits = x.waits ∧ (crStep x t i).armed = x.armed ∧ (crStep x t i).dead = x.dead := by
 unfold crStep; split
 ·exact ⟨rfl, rfl, rfl, rfl⟩
 ·split <;> exact ⟨rfl, rfl, rfl, rfl⟩
theorem crK_eqs (x : Dk) (l : List Tear) : ∀ k, (crK x l k).n = x.n ∧ (crK x l k).waits = x.waits ∧ (crK x l k).armed = x.armed ∧ (crK x l k).dead = x.dead
 | 0 => ⟨rfl, rfl, rfl, rfl⟩
 | k + 1 => by
  obtain ⟨h1, h2, h3, h4⟩ := crK_eqs x l k
  rw [crK]
  split
  ·rename_i t i _ _
   obtain ⟨k1, k2, k3, k4⟩ := crStep_eqs (crK x l k) t i
   exact ⟨k1.trans h1, k2.trans h2, k3.trans h3, k4.trans h4⟩
  ·exact ⟨h1, h2, h3, h4⟩
theorem putS_fine {x : Dk} {i : Int} {b : List (BitVec 8)} (h : Fine x) (hi : 0 ≤ i ∧ i < x.n) (hb : b.length = 512) : Fine (putS x i b) := by
 refine ⟨⟨fun j c hc => ?_, h.w.w⟩, h.n1, h.n2, fun j hj => ?_, h.kw, h.a⟩
 ·simp only [putS] at hc
  split at hc
  ·cases hc; exact hb
  ·exact h.w.s j c hc
 ·simp only [putS] at hj
  split at hj
  ·rename_i e; subst e; exact hi
  ·exact h.ks j hj
theorem crStep_fine {x : Dk} {t : Tear} {i : Int} (h : Fine x) (hi : (x.waits i).isSome = true) : Fine (crStep x t i) := by
 have hr := h.kw i hi
 unfold crStep; split
 ·refine putS_fine h hr ?_
  cases e : x.waits i with
  | none => rw [e] at hi; cases hi
  | some b => exact h.w.w i b e
 ·split
  ·exact putS_fine h hr (by rw [cpyS_len]; exact firm_len h.w i)
  ·exact h
theorem crK_fine {x : Dk} {l : List Tear} (h : Fine x) : ∀ k, Fine (crK x l k)
 | 0 => h
 | k + 1 => by
  rw [crK]
  split
  ·rename_i t i _ hi
   refine crStep_fine (crK_fine h k) ?_
   rw [(crK_eqs x l k).2.1]
   exact (wait_mem h i).1 (List.mem_of_getElem? hi)
  ·exact crK_fine h k
def crashD (x : Dk) (l : List Tear) : Dk := { crK x l (waitL x).length with waits := fun _ => none, armed := -1, dead := false }
theorem crash_fine {x : Dk} {l : List Tear} (h : Fine x) : Fine (crashD x l) := by
 have := crK_fine (l := l) h (waitL x).length
 exact ⟨⟨this.w.s, fun i b hb => (by cases hb)⟩, this.n1, this.n2, this.ks, fun i hi => (by cases hi), ⟨Int.le_refl _, (by show (-1 : Int) ≤ 1000000; decide)⟩⟩
theorem crash_at {x : Dk} {l : List Tear} {k : Nat} (h1 : l.length ≤ k) (h2 : k ≤ (waitL x).length) : crashD x l = { crK x l k with waits := fun _ => none, armed := -1, dead := false } := by
 obtain ⟨j, hj⟩ : ∃ j, (waitL x).length = k + j := ⟨_, (Nat.add_sub_cancel' h2).symm⟩
 rw [crashD, hj, crK_past h1]
end Go.Vai.DK
namespace Go.Vai.DK
theorem cr_G {G : List (List AV)} {d is iw : Nat} {x y : Dk} {i : Int} {b : List (BitVec 8)} (hD : HasD G d is iw x) : (wrD G d is iw y).set is [.mp (updM (mapA y.safe) i (some (.sl 1 false (bsl b))))] = wrD G d is iw (putS y i b) := by
 rw [map_upd, ← wr_wr (y := y) (z := putS y i b) hD]
 have hy := wr_has (y := y) hD
 have e3 : (wrD G d is iw y).set d [i64 (putS y i b).n, .gm is, .gm iw, i64 (putS y i b).armed, .b (putS y i b).dead] = wrD G d is iw y := set_same hy.hd
 show _ = (((wrD G d is iw y).set d [i64 (putS y i b).n, .gm is, .gm iw, i64 (putS y i b).armed, .b (putS y i b).dead]).set is [.mp (mapA (putS y i b).safe)]).set iw [.mp (mapA (putS y i b).waits)]
 rw [e3]
 refine (set_same ?_).symm
 rw [List.getElem?_set_ne hD.ni]
 exact hy.hw
theorem crash_G {G : List (List AV)} {d is iw : Nat} {x y : Dk} (hD : HasD G d is iw x) : wrD G d is iw { y with waits := fun _ => none, armed := -1, dead := false } =
  (((wrD G d is iw y).set iw [.mp fun _ => none]).set d [i64 y.n, .gm is, .gm iw, i64 y.armed, .b false]).set d [i64 y.n, .gm is, .gm iw, i64 (-1), .b false] := by
 have hy := wr_has (y := y) hD
 rw [← wr_wr (y := y) hD, List.set_set, List.set_comm _ _ (Ne.symm hD.ne.2)]
 show (((wrD G d is iw y).set d [i64 y.n, .gm is, .gm iw, i64 (-1), .b false]).set is [.mp (mapA y.safe)]).set iw [.mp fun _ => none] = _
 rw [set_same (a := [.mp (mapA y.safe)])]
 rw [List.getElem?_set_ne hD.ne.1]
 exact hy.hs
theorem crK_same {x : Dk} {l : List Tear} {k : Nat} (h1 : k < l.length) (h2 : k < (waitL x).length) (h3 : ¬ l[k].k = 1) (h4 : ¬ l[k].k = 2) : crK x l (k + 1) = crK x l k := by
 rw [crK_next h1 h2, crStep, if_neg h3, if_neg h4]
theorem crK_one {x : Dk} {l : List Tear} {k : Nat} (h1 : k < l.length) (h2 : k < (waitL x).length) (h3 : l[k].k = 1) : crK x l (k + 1) = putS (crK x l k) (waitL x)[k] (((crK x l k).waits (waitL x)[k]).getD []) := by
 rw [crK_next h1 h2, crStep, if_pos h3]
theorem crK_two {x : Dk} {l : List Tear} {k : Nat} (h1 : k < l.length) (h2 : k < (waitL x).length) (h3 : l[k].k = 2) : crK x l (k + 1) = putS (crK x l k) (waitL x)[k] (cpyS l[k].b (firmD (crK x l k) (waitL x)[k])) := by
 rw [crK_next h1 h2, crStep, if_neg (by rw [h3]; decide), if_pos h3]
theorem crK_w {x : Dk} (h : Fine x) {l : List Tear} {k : Nat} (h2 : k < (waitL x).length) : ((crK x l k).waits (waitL x)[k]).isNone = false := by
 rw [(crK_eqs x l k).2.1]
 have := (wait_mem h _).1 (List.getElem_mem h2)
 revert this
 cases x.waits (waitL x)[k] with
 | none => intro h; cases h
 | some b => intro _; rfl
end Go.Vai.DK
namespace Go.Vai.DK
open Go.Proofs Go.Vai Go.Vai.MP Go.Vai.O Go.Vai.V
set_option linter.unusedSimpArgs false
set_option linter.unusedVariables false
set_option maxHeartbeats 4000000
set_option maxRecDepth 100000
theorem lkp_map0 (f : Int → Option (List (BitVec 8))) (k : Int) : lkp (.sl 1 true []) false (mapA f k) = .v (.sl 1 (f k).isNone (bsl ((f k).getD []))) := by
  simp only [lkp, mapA]
  cases f k <;> rfl
theorem eln_d : elOf Tryz.prog 36 = none := by kernel_rfl
attribute [go_sem] lkp_map0 cellsOf_tear eln_d
attribute [simp] noPtrL_tear
theorem good_FlushG (G : List (List AV)) (d is iw : Nat) (x : Dk) (hD : HasD G d is iw x) (hF : Fine x) : Good Tryz.prog 14 [(.gp d 0, false)] G [(i64 (fluE x), false)] (wrD G d is iw (fluX x)) := by
  refine good_of_body2 24 Tryz.func14 rfl rfl rfl (by simp) ?_
  intro s m ha hr hv hG
  have f0 : s 0 = .v (.gp d 0) := ha 0 _ rfl
  clear ha
  have hc : True := trivial
  have F := (And.intro f0 hG)
  have hd := hD.hd
  have hs := hD.hs
  have hw := hD.hw
  have hxa := hF.a
  have hn1 := hF.n1
  have hn2 := hF.n2
  refine AW.seq ?_
  refine AW.region (cfg := cfg) ?_
  refine stp (fun _ h => s0 h) ?_
  refine aops_nil ?_
  refine AW.seq ?_
  refine AW.seq ?_
  refine AW.region (cfg := cfg) ?_
  refine stp (fun _ h => s0 h) ?_
  refine stp (fun _ h => cg (w := good_off G d is iw x hD) (x := h)) ?_
  refine aops_nil ?_
  refine cnd (fun hb => ?ht1) (fun hb => ?hf1)
  case ht1 =>
    have hw5 := hb
    try simp only [bo1, bo2, bo3, bo4, bo5, bo6] at hb
    have hbt5 := hb
    refine AW.seq ?_
    refine AW.region (cfg := cfg) ?_
    refine stp (fun _ h => s0 h) ?_
    refine aops_nil ?_
    refine AW.ret ?_
    refine ⟨.inr rfl, ?_⟩
    (obtain ⟨e1, e2⟩ := flu_off hbt5; rw [e1, e2, wr_self hD]; refine leaves_tmp1 2 rfl ?_ (by rfl) <;> simp (disch := first | omega | decide) only [go_sem, F, aIndex_map])
  case hf1 =>
    have hw5 := hb
    try simp only [bo1, bo2, bo3, bo4, bo5, bo6] at hb
    have hbt5 := hb
    refine AW.skip ?_
    refine AW.seq ?_
    refine AW.seq ?_
    refine AW.region (cfg := cfg) ?_
    refine stp (fun _ h => s0 h) ?_
    refine stp (fun _ h => cg (w := good_actG G d is iw x hD hxa) (x := h)) ?_
    refine stp (fun _ h => s0 h) ?_
    refine aops_nil ?_
    refine AW.seq ?_
    refine AW.region (cfg := cfg) ?_
    iterate 2 refine stp (fun _ h => s0 h) ?_
    refine aops_nil ?_
    refine cnd (fun hb => ?ht2) (fun hb => ?hf2)
    case ht2 =>
      have hw9 := hb
      try simp only [bo1, bo2, bo3, bo4, bo5, bo6] at hb
      have hbt9 := hb
      refine AW.seq ?_
      refine AW.region (cfg := cfg) ?_
      iterate 2 refine stp (fun _ h => s0 h) ?_
      refine aops_nil ?_
      refine AW.ret ?_
      refine ⟨.inr rfl, ?_⟩
      (obtain ⟨e1, e2⟩ := flu_die hbt5 hbt9; rw [e1, e2]; refine leaves_tmp1 2 rfl ?_ (by rfl) <;> simp (disch := first | omega | decide) only [go_sem, F, aIndex_map])
    case hf2 =>
      have hw9 := hb
      try simp only [bo1, bo2, bo3, bo4, bo5, bo6] at hb
      have hbt9 := hb
      refine AW.skip ?_
      refine AW.seq ?_
      have hFa := act_fine hF
      have g0 := wr_has (y := actD x) hD
      have g1 := g0.hd
      have g2 := g0.hw
      have g3 := g0.hs
      refine AW.draw (cfg := cfg) (by kernel_rfl) (by kernel_rfl) (by kernel_rfl) ?_
      refine dstp (fun _ h => s0 h) ?_
      refine dstp (fun _ h => sd h) ?_
      refine dstp (fun _ h => sx h) ?_
      refine dstp (fun _ h => sl h) ?_
      refine dstp (fun _ h => s0 h) ?_
      refine dstp (fun _ h => sd h) ?_
      refine dstp (fun _ h => sx h) ?_
      refine dstp (fun _ h => sl h) ?_
      refine dstp (fun _ h => cg (w := MP.good_Copy hD.ni g3 g2 (small_s hFa) (small_w hFa)) (x := h)) ?_
      refine adraw_nil (by kernel_rfl) ?_
      refine AW.seq ?_
      have l2 := (List.getElem?_eq_some_iff.1 g2).1
      have g4 : ((wrD G d is iw (actD x)).set is [.mp fun k => if (mapA (actD x).waits k).isSome then mapA (actD x).waits k else mapA (actD x).safe k])[d]? = _ := (List.getElem?_set_ne hD.ne.1.symm).trans g1
      have g5 : ((wrD G d is iw (actD x)).set is [.mp fun k => if (mapA (actD x).waits k).isSome then mapA (actD x).waits k else mapA (actD x).safe k])[iw]? = _ := (List.getElem?_set_ne hD.ni).trans g2
      refine AW.region (cfg := cfg) ?_
      refine stp (fun _ h => s0 h) ?_
      refine stp (fun _ h => sd h) ?_
      refine stp (fun _ h => sx h) ?_
      refine stp (fun _ h => sl h) ?_
      refine stp0 (fun _ h => sM h) ?_
      refine aops_nil ?_
      refine AW.seq ?_
      refine AW.region (cfg := cfg) ?_
      refine stp (fun _ h => s0 h) ?_
      refine aops_nil ?_
      refine AW.ret ?_
      refine ⟨.inr rfl, ?_⟩
      (obtain ⟨e1, e2⟩ := flu_ok hbt5 hbt9; rw [e1, e2, flu_G hD]; refine leaves_tmp1 2 rfl ?_ (by rfl) <;> simp (disch := first | omega | decide) only [go_sem, F, aIndex_map])
end Go.Vai.DK
namespace Go.Vai.DK
open Go.Proofs Go.Vai Go.Vai.MP Go.Vai.O Go.Vai.V
set_option linter.unusedSimpArgs false
set_option linter.unusedVariables false
set_option maxHeartbeats 4000000
set_option maxRecDepth 100000
theorem good_CrashG (G : List (List AV)) (d is iw : Nat) (x : Dk) (hD : HasD G d is iw x) (hF : Fine x) (ln : Bool) (l : List Tear) (hl : l.length ≤ 100000) (hlb : ∀ t ∈ l, t.b.length ≤ 1000000) : Good Tryz.prog 23 [(.gp d 0, false), (.sl 2 ln (l.map tearA), false)] G [] (wrD G d is iw (crashD x l)) := by
  refine good_of_body2 75 Tryz.func23 rfl rfl rfl (by simp) ?_
  intro s m ha hr hv hG
  have f0 : s 0 = .v (.gp d 0) := ha 0 _ rfl
  have f1 : s 1 = .v (.sl 2 ln (l.map tearA)) := ha 1 _ rfl
  clear ha
  have hc : True := trivial
  have F := (And.intro f0 (And.intro f1 hG))
  have hd := hD.hd
  have hs := hD.hs
  have hw := hD.hw
  have hxa := hF.a
  have hn1 := hF.n1
  have hn2 := hF.n2
  refine AW.seq ?_
  refine AW.seq ?_
  refine AW.region (cfg := cfg) ?_
  iterate 3 refine stp (fun _ h => s0 h) ?_
  refine mrg wa (fun hc _ h => s0 h) ?_
  refine mrg wa (fun hc _ h => sd h) ?_
  refine mrg wa (fun hc _ h => sx h) ?_
  refine mrg wa (fun hc _ h => sl h) ?_
  refine mrg wa (fun hc _ h => s0 h) ?_
  refine stp (fun _ h => s0 h) ?_
  refine aops_nil ?_
  refine cnd (fun hb => ?ht1) (fun hb => ?hf1)
  case ht1 => simp at hb; omega
  case hf1 =>
  have hbt15 := hb
  refine AW.skip ?_
  refine AW.seq ?_
  refine AW.seq ?_
  have hwl := wait_len hF
  refine AW.region (cfg := cfg) ?_
  refine stp (fun _ h => s0 h) ?_
  refine stp (fun _ h => cg (w := MP.good_WaitsG G d is iw x hD (small_w hF) (waitL x) (wait_sorted x) (wait_mem hF)) (x := h)) ?_
  refine stp (fun _ h => sd h) ?_
  refine stp (fun _ h => s0 h) ?_
  refine aops_nil ?_
  refine AW.block ?_
  refine AW.forN (fun k σ => ∃ s m, σ = ⟨75, s, m⟩ ∧ s 0 = .v (.gp d 0) ∧ s 1 = .v (.sl 2 ln (l.map tearA)) ∧ s 17 = .v (.sl 1 (waitL x).isEmpty ((waitL x).map i64)) ∧ s 18 = .v (i64 ((waitL x).length : Int)) ∧ s 19 = .v (i64 (k : Int)) ∧ (∀ i, (m.objs (.res i)).2 = .dead) ∧ m.G = (wrD G d is iw (crK x l k))) ((waitL x).length) ?_ ?_ ?_
  · refine ⟨_, _, rfl, ?_, ?_, ?_, ?_, ?_, (by intro i; simp [Mem.set, hr]), (by exact (wr_self hD).symm)⟩ <;> try simp (disch := first | omega | decide) only [go_sem, F, aIndex_map]
    all_goals rfl
  · clear F f0 f1 hr hG
    rintro k σ hk ⟨s, m, rfl, f0, f1, f17, f18, f19, hr, hG⟩
    have F := (And.intro f0 (And.intro f1 (And.intro f17 (And.intro f18 (And.intro f19 hG)))))
    refine AW.seq ?_
    refine AW.region (cfg := cfg) ?_
    refine stp (fun _ h => s0 h) ?_
    refine aops_nil ?_
    refine AW.seq ?_
    refine cnd (fun hb => ?ht2) (fun hb => ?hf2)
    case hf2 => (simp at hb; omega)
    case ht2 =>
    have hbt20 := hb
    refine AW.skip ?_
    refine AW.seq ?_
    refine AW.block ?_
    refine AW.seq ?_
    have hkw : k < (waitL x).length := by assumption
    have hFk := crK_fine (l := l) hF k
    have w1 := crK_w hF (l := l) hkw
    have g0 := wr_has (y := (crK x l k)) hD
    have g1 := g0.hd
    have g2 := g0.hw
    have g3 := g0.hs
    have F := And.intro w1 F
    refine AW.region (cfg := cfg) ?_
    refine stp (fun _ h => s0 h) ?_
    refine stp (fun _ h => si h) ?_
    refine stp (fun _ h => sl h) ?_
    iterate 2 refine stp (fun _ h => s0 h) ?_
    refine aops_nil ?_
    refine AW.seq ?_
    refine AW.seq ?_
    refine AW.region (cfg := cfg) ?_
    iterate 2 refine stp (fun _ h => s0 h) ?_
    refine stp (fun _ h => sd h) ?_
    refine stp (fun _ h => s0 h) ?_
    refine aops_nil ?_
    refine cnd (fun hb => ?ht3) (fun hb => ?hf3)
    case ht3 =>
      have hw27 := hb
      try simp only [bo1, bo2, bo3, bo4, bo5, bo6] at hb
      have hbt27 := hb
      refine AW.exit ?_
      refine AW.seq ?_
      obtain ⟨y, ec, hG2⟩ : ∃ y, crashD x l = { y with waits := fun _ => none, armed := -1, dead := false } ∧ m.G = wrD G d is iw y := by exact ⟨_, crash_at (by omega) (by omega), hG⟩
      clear hG F
      have hG := hG2
      have g0 := wr_has (y := y) hD
      have g1 := g0.hd
      have g2 := g0.hw
      try rw [hG2] at f0
      have F := (And.intro f0 (And.intro f1 (And.intro f17 (And.intro f18 (And.intro f19 (And.intro w1 hG))))))
      refine AW.region (cfg := cfg) ?_
      refine stp (fun _ h => s0 h) ?_
      refine stp (fun _ h => sd h) ?_
      refine stp (fun _ h => sx h) ?_
      refine stp (fun _ h => sl h) ?_
      refine stp0 (fun _ h => sM h) ?_
      refine aops_nil ?_
      have g4 : ((wrD G d is iw y).set iw [.mp fun _ => none])[d]? = _ := (List.getElem?_set_ne hD.ne.2.symm).trans g1
      have g5 : (((wrD G d is iw y).set iw [.mp fun _ => none]).set d [i64 y.n, .gm is, .gm iw, i64 y.armed, .b false])[d]? = some [i64 y.n, .gm is, .gm iw, i64 y.armed, .b false] := List.getElem?_set_self (by simp [(List.getElem?_eq_some_iff.1 g1).1])
      refine AW.region (cfg := cfg) ?_
      iterate 2 refine stp (fun _ h => s0 h) ?_
      refine stp (fun _ h => sd h) ?_
      refine stp (fun _ h => sx h) ?_
      refine stp0 (fun _ h => ss h) ?_
      refine stp (fun _ h => sd h) ?_
      refine stp (fun _ h => sx h) ?_
      refine stp0 (fun _ h => ss h) ?_
      refine aops_nil ?_
      refine ⟨.inl rfl, ?_⟩
      rw [ec, crash_G hD]
      refine leaves_mwp2 (rs := []) rfl ?_
      simp [giveL, srcOne, upd, opn, giveOne, readL, readOne, Mwp, M.bind]
      all_goals trace_state
    case hf3 =>
      have hw27 := hb
      try simp only [bo1, bo2, bo3, bo4, bo5, bo6] at hb
      have hbt27 := hb
      refine AW.skip ?_
      refine AW.seq ?_
      have hkl : k < l.length := by omega
      have hlk := hlb _ (List.getElem_mem hkl)
      refine AW.region (cfg := cfg) ?_
      iterate 2 refine stp (fun _ h => s0 h) ?_
      refine stp (fun _ h => si h) ?_
      refine stp (fun _ h => sx h) ?_
      refine stp (fun _ h => sl h) ?_
      refine aops_nil ?_
      refine AW.block ?_
      refine AW.seq ?_
      refine AW.region (cfg := cfg) ?_
      iterate 2 refine stp (fun _ h => s0 h) ?_
      refine aops_nil ?_
      refine cnd (fun hb => ?ht4) (fun hb => ?hf4)
      case ht4 =>
        have hw33 := hb
        try simp only [bo1, bo2, bo3, bo4, bo5, bo6] at hb
        have hbt33 := hb
        have e7 := crK_one hkl hkw hbt33
        refine AW.draw (cfg := cfg) (by kernel_rfl) (by kernel_rfl) (by kernel_rfl) ?_
        refine dstp (fun _ h => s0 h) ?_
        refine dstp (fun _ h => sd h) ?_
        refine dstp (fun _ h => sx h) ?_
        refine dstp (fun _ h => sl h) ?_
        iterate 2 refine dstp (fun _ h => s0 h) ?_
        refine dstp (fun _ h => sd h) ?_
        refine dstp (fun _ h => sx h) ?_
        refine dstp (fun _ h => sl h) ?_
        refine dstp (fun _ h => s0 h) ?_
        refine dstp (fun _ h => sM h) ?_
        refine dstp0 (fun _ h => sM h) ?_
        refine adraw_nil (by kernel_rfl) ?_
        refine AW.region (cfg := cfg) ?_
        refine stp (fun _ h => sd h) ?_
        refine stp (fun _ h => s0 h) ?_
        refine aops_nil ?_
        refine ⟨_, _, rfl, ?_, ?_, ?_, ?_, ?_, (by intro i; simp [Mem.set, hr]), (by (simp only [mset_G, hG]; rw [e7]; exact cr_G hD))⟩ <;> try simp (disch := first | omega | decide) only [go_sem, F, aIndex_map]
        all_goals rfl
      case hf4 =>
        have hw33 := hb
        try simp only [bo1, bo2, bo3, bo4, bo5, bo6] at hb
        have hbt33 := hb
        refine AW.seq ?_
        refine AW.region (cfg := cfg) ?_
        iterate 2 refine stp (fun _ h => s0 h) ?_
        refine aops_nil ?_
        refine cnd (fun hb => ?ht5) (fun hb => ?hf5)
        case ht5 =>
          have hw46 := hb
          try simp only [bo1, bo2, bo3, bo4, bo5, bo6] at hb
          have hbt46 := hb
          refine AW.seq ?_
          have e7 := crK_two hkl hkw hbt46
          have fl := firm_len hFk.w (waitL x)[k]
          refine AW.region (cfg := cfg) ?_
          iterate 2 refine stp (fun _ h => s0 h) ?_
          refine stp (fun _ h => cgo (w := good_firmG (wrD G d is iw (crK x l k)) d is iw (crK x l k) g0 hFk.w (waitL x)[k]) (x := h)) ?_
          refine stp (fun _ h => st h) ?_
          refine aops_nil ?_
          refine AW.seq ?_
          refine AW.region (cfg := cfg) ?_
          iterate 3 refine stp (fun _ h => s0 h) ?_
          refine stp (fun _ h => si h) ?_
          refine stp (fun _ h => sx h) ?_
          refine stp (fun _ h => sl h) ?_
          refine stp (fun _ h => scp h) ?_
          refine aops_nil ?_
          refine AW.region (cfg := cfg) ?_
          refine stp (fun _ h => s0 h) ?_
          refine stp (fun _ h => sd h) ?_
          refine stp (fun _ h => sx h) ?_
          refine stp (fun _ h => sl h) ?_
          iterate 2 refine stp (fun _ h => s0 h) ?_
          refine stp0 (fun _ h => sU h) ?_
          refine aops_nil ?_
          refine AW.region (cfg := cfg) ?_
          refine stp (fun _ h => sd h) ?_
          refine stp (fun _ h => s0 h) ?_
          refine aops_nil ?_
          refine ⟨_, _, rfl, ?_, ?_, ?_, ?_, ?_, (by intro i; simp [Mem.set, hr]), (by (simp only [mset_G, hG]; rw [e7]; exact cr_G hD))⟩ <;> try simp (disch := first | omega | decide) only [go_sem, F, aIndex_map]
          all_goals rfl
        case hf5 =>
          have hw46 := hb
          try simp only [bo1, bo2, bo3, bo4, bo5, bo6] at hb
          have hbt46 := hb
          refine AW.skip ?_
          refine AW.region (cfg := cfg) ?_
          refine stp (fun _ h => sd h) ?_
          refine stp (fun _ h => s0 h) ?_
          refine aops_nil ?_
          refine ⟨_, _, rfl, ?_, ?_, ?_, ?_, ?_, (by intro i; simp [Mem.set, hr]), (by (simp only [mset_G, hG]; rw [crK_same hkl hkw hbt33 hbt46]))⟩ <;> try simp (disch := first | omega | decide) only [go_sem, F, aIndex_map]
          all_goals rfl
  · clear F f0 f1 hr hG
    rintro σ ⟨s, m, rfl, f0, f1, f17, f18, f19, hr, hG⟩
    have F := (And.intro f0 (And.intro f1 (And.intro f17 (And.intro f18 (And.intro f19 hG)))))
    refine AW.seq ?_
    refine AW.region (cfg := cfg) ?_
    refine stp (fun _ h => s0 h) ?_
    refine aops_nil ?_
    refine AW.seq ?_
    refine cnd (fun hb => ?ht6) (fun hb => ?hf6)
    case ht6 => (simp at hb; done)
    case hf6 =>
    have hbt20 := hb
    refine AW.exit ?_
    refine AW.seq ?_
    obtain ⟨y, ec, hG2⟩ : ∃ y, crashD x l = { y with waits := fun _ => none, armed := -1, dead := false } ∧ m.G = wrD G d is iw y := by exact ⟨_, rfl, hG⟩
    clear hG F
    have hG := hG2
    have g0 := wr_has (y := y) hD
    have g1 := g0.hd
    have g2 := g0.hw
    try rw [hG2] at f0
    have F := (And.intro f0 (And.intro f1 (And.intro f17 (And.intro f18 (And.intro f19 hG)))))
    refine AW.region (cfg := cfg) ?_
    refine stp (fun _ h => s0 h) ?_
    refine stp (fun _ h => sd h) ?_
    refine stp (fun _ h => sx h) ?_
    refine stp (fun _ h => sl h) ?_
    refine stp0 (fun _ h => sM h) ?_
    refine aops_nil ?_
    have g4 : ((wrD G d is iw y).set iw [.mp fun _ => none])[d]? = _ := (List.getElem?_set_ne hD.ne.2.symm).trans g1
    have g5 : (((wrD G d is iw y).set iw [.mp fun _ => none]).set d [i64 y.n, .gm is, .gm iw, i64 y.armed, .b false])[d]? = some [i64 y.n, .gm is, .gm iw, i64 y.armed, .b false] := List.getElem?_set_self (by simp [(List.getElem?_eq_some_iff.1 g1).1])
    refine AW.region (cfg := cfg) ?_
    iterate 2 refine stp (fun _ h => s0 h) ?_
    refine stp (fun _ h => sd h) ?_
    refine stp (fun _ h => sx h) ?_
    refine stp0 (fun _ h => ss h) ?_
    refine stp (fun _ h => sd h) ?_
    refine stp (fun _ h => sx h) ?_
    refine stp0 (fun _ h => ss h) ?_
    refine aops_nil ?_
    refine ⟨.inl rfl, ?_⟩
    rw [ec, crash_G hD]
    refine leaves_mwp2 (rs := []) rfl ?_
    simp [giveL, srcOne, upd, opn, giveOne, readL, readOne, Mwp, M.bind]
    all_goals trace_state
theorem rep_u81 (n : Nat) : List.replicate n (u8 0#8) = (List.replicate n 0#8).map u8 := by simp
attribute [go_sem] rep_u81
attribute [go_sem] rep_bsl0
end Go.Vai.DK
namespace Go.Vai.WK
open Go.Proofs Go.Vai Go.Vai.DK Go.Vai.G Go.Vai.L Go.Vai.MP Go.Vai.O Go.Vai.RC Go.Vai.S7 Go.Vai.U Go.Vai.V Go.Vai.Z
set_option linter.unusedSimpArgs false
set_option linter.unusedVariables false
set_option maxHeartbeats 4000000
set_option maxRecDepth 100000
open Go.Vai.DK Go.Vai.U Go.Vai.V Go.Vai.S7 Go.Vai.RC Go.Vai.G
attribute [simp] noPtr_ps noPtrL_ps
def tgood (gen : Int) (x : PS) (i : Nat) : Bool := decide (pgR x.2 = 0) && (decide ((pgV x.2).kind = 2) && (decide ((pgV x.2).gen = gen) && decide ((pgV x.2).idx = (i : Int))))
theorem tg_yes {gen : Int} {x : PS} {i : Nat} (h : pgR x.2 = 0 ∧ (pgV x.2).kind = 2 ∧ (pgV x.2).gen = gen ∧ (pgV x.2).idx = (i : Int)) : tgood gen x i = true := by
  simp only [tgood, h.1, h.2.1, h.2.2.1, h.2.2.2, decide_true, Bool.and_self]
theorem tg_no {gen : Int} {x : PS} {i : Nat} (h : ¬ (pgR x.2 = 0 ∧ (pgV x.2).kind = 2 ∧ (pgV x.2).gen = gen ∧ (pgV x.2).idx = (i : Int))) : tgood gen x i = false := by
  cases e : tgood gen x i with
  | false => rfl
  | true =>
    simp only [tgood, Bool.and_eq_true, decide_eq_true_eq] at e
    exact absurd e h
def tailF (gen : Int) : Nat → List PS → List Page
  | _, [] => []
  | i, x :: xs => if tgood gen x i then pgV x.2 :: tailF gen (i + 1) xs else []
def tailR (gen : Int) (q : List PS) : List Page := tailF gen 0 q
theorem tailF_stop {gen : Int} : ∀ {q : List PS} {k i : Nat} (hk : k < q.length), (∀ j (hj : j < q.length), j < k → tgood gen q[j] (i + j) = true) → tgood gen q[k] (i + k) = false → tailF gen i q = (q.take k).map valS
  | x :: xs, 0, i, _, _, h => by
    have h : tgood gen x i = false := h
    rw [tailF, h]; rfl
  | x :: xs, k + 1, i, hk, h1, h2 => by
    have h0 : tgood gen x i = true := h1 0 (by simp) (by omega)
    rw [tailF, h0, if_pos rfl, tailF_stop (k := k) (by simpa using hk) (fun j hj hjk => by have := h1 (j + 1) (by simpa using hj) (by omega); rw [show i + 1 + j = i + (j + 1) by omega]; simpa using this) (by rw [show i + 1 + k = i + (k + 1) by omega]; simpa using h2)]
    rfl
theorem tailF_full {gen : Int} : ∀ {q : List PS} {i : Nat}, (∀ j (hj : j < q.length), tgood gen q[j] (i + j) = true) → tailF gen i q = q.map valS
  | [], _, _ => rfl
  | x :: xs, i, h1 => by
    have h0 : tgood gen x i = true := h1 0 (by simp)
    rw [tailF, h0, if_pos rfl, tailF_full (fun j hj => by have := h1 (j + 1) (by simpa using hj); rw [show i + 1 + j = i + (j + 1) by omega]; simpa using this)]
    rfl
theorem tail_stop {gen : Int} {q : List PS} {k : Nat} (hk : k < q.length) (h : ∀ j (hj : j < q.length), j < k → tgood gen q[j] j = true) (h2 : tgood gen q[k] k = false) : tailR gen q = (q.take k).map valS :=
  tailF_stop hk (fun j hj hjk => by rw [Nat.zero_add]; exact h j hj hjk) (by rw [Nat.zero_add]; exact h2)
theorem tail_full {gen : Int} {q : List PS} (h : ∀ j (hj : j < q.length), j < q.length → tgood gen q[j] j = true) : tailR gen q = q.map valS :=
  tailF_full fun j hj => by rw [Nat.zero_add]; exact h j hj hj
/-! records -/
def recS (l : List Page) : Nat → List PS × Nat
  | 0 => ([], 0)
  | k + 1 => if joinOK (l.drop (recS l k).2) then ((recS l k).1 ++ [((joinB (l.drop (recS l k).2)).isEmpty, joinB (l.drop (recS l k).2))], (recS l k).2 + (joinN (l.drop (recS l k).2)).toNat) else recS l k
theorem rec_yes {l : List Page} {k : Nat} (h : joinOK (l.drop (recS l k).2) = true) : recS l (k + 1) = ((recS l k).1 ++ [((joinB (l.drop (recS l k).2)).isEmpty, joinB (l.drop (recS l k).2))], (recS l k).2 + (joinN (l.drop (recS l k).2)).toNat) := by rw [recS, if_pos h]
theorem rec_no {l : List Page} {k : Nat} (h : joinOK (l.drop (recS l k).2) = false) : recS l (k + 1) = recS l k := by rw [recS, h]; rfl
theorem join_n {l : List Page} (h : joinOK l = true) : joinN l = (jN l : Int) ∧ 1 ≤ jN l ∧ jN l ≤ l.length := by
  have h' := h
  simp only [joinOK, Bool.and_eq_true] at h'
  obtain ⟨_, _, _, h4, h5, _⟩ := head_is h'.1
  exact ⟨by rw [joinN, if_pos h], h5, h4⟩
theorem rec_le (l : List Page) : ∀ k, (recS l k).2 ≤ l.length
  | 0 => Nat.zero_le _
  | k + 1 => by
    have h0 := rec_le l k
    cases h : joinOK (l.drop (recS l k).2) with
    | true =>
      rw [rec_yes h]
      obtain ⟨h1, _, h3⟩ := join_n h
      rw [List.length_drop] at h3
      simp only [h1, Int.toNat_natCast]
      omega
    | false => rw [rec_no h]; exact h0
theorem rec_num (l : List Page) : ∀ k, (recS l k).1.length ≤ k ∧ (recS l k).1.length ≤ (recS l k).2
  | 0 => ⟨Nat.le_refl _, Nat.le_refl _⟩
  | k + 1 => by
    obtain ⟨h0, h9⟩ := rec_num l k
    cases h : joinOK (l.drop (recS l k).2) with
    | true =>
      rw [rec_yes h]
      obtain ⟨h1, h2, h3⟩ := join_n h
      simp only [h1, Int.toNat_natCast, List.length_append, List.length_cons, List.length_nil]
      omega
    | false => rw [rec_no h]; exact ⟨by omega, h9⟩
theorem rec_far (l : List Page) : ∀ k, (∀ j, j < k → joinOK (l.drop (recS l j).2) = true) → k ≤ (recS l k).2
  | 0, _ => Nat.zero_le _
  | k + 1, h => by
    have h0 := rec_far l k (fun j hj => h j (by omega))
    have h1 := h k (by omega)
    rw [rec_yes h1]
    obtain ⟨h2, h3, _⟩ := join_n h1
    simp only [h2, Int.toNat_natCast]
    omega
theorem rec_stay {l : List Page} {k : Nat} (h : joinOK (l.drop (recS l k).2) = false) : ∀ j, recS l (k + j) = recS l k
  | 0 => rfl
  | j + 1 => by
    have h1 := rec_stay h j
    show recS l (k + j + 1) = _
    rw [rec_no (by rw [h1]; exact h), h1]
def recF (l : List Page) : List PS × Nat := recS l (l.length + 1)
theorem rec_end (l : List Page) : ∃ N, (∀ k, k < N → joinOK (l.drop (recS l k).2) = true) ∧ joinOK (l.drop (recS l N).2) = false ∧ recF l = recS l N ∧ N ≤ l.length := by
  have key : ∀ m, (∃ N, N ≤ m ∧ (∀ k, k < N → joinOK (l.drop (recS l k).2) = true) ∧ joinOK (l.drop (recS l N).2) = false) ∨ ∀ k, k ≤ m → joinOK (l.drop (recS l k).2) = true := by
    intro m
    induction m with
    | zero =>
      cases h : joinOK (l.drop (recS l 0).2) with
      | false => exact .inl ⟨0, Nat.le_refl _, fun k hk => absurd hk (Nat.not_lt_zero _), h⟩
      | true => exact .inr fun k hk => (by rw [show k = 0 by omega]; exact h)
    | succ m ih =>
      rcases ih with ⟨N, h1, h2, h3⟩ | h
      · exact .inl ⟨N, by omega, h2, h3⟩
      · cases h2 : joinOK (l.drop (recS l (m + 1)).2) with
        | false => exact .inl ⟨m + 1, Nat.le_refl _, fun k hk => h k (by omega), h2⟩
        | true =>
          exact .inr fun k hk => by
            by_cases e : k = m + 1
            · rw [e]; exact h2
            · exact h k (by omega)
  rcases key l.length with ⟨N, h1, h2, h3⟩ | h
  · refine ⟨N, h2, h3, ?_, h1⟩
    obtain ⟨j, hj⟩ : ∃ j, l.length + 1 = N + j := ⟨_, (Nat.add_sub_cancel' (by omega)).symm⟩
    rw [recF, hj, rec_stay h3]
  · have h1 := rec_far l (l.length + 1) (fun j hj => h j (by omega))
    have h2 := rec_le l (l.length + 1)
    omega
/-! fresh -/
def blankP (x : PS) : Bool := decide ((x.2.length : Int) = 512) && !(x.2.any nz)
def freshR (n : Int) (l : List PS) : Bool := !((l.take (ploN n).s.toNat ++ l.drop ((ploN n).s + (ploN n).s).toNat).any fun x => !blankP x)
theorem good_GrowPsl (n : Int) (hn : 0 ≤ n ∧ n ≤ 1000000) : Good Tryz.prog 112 [(.sl 0 true [], false), (i64 n, false)] [] [(.sl 1 (!decide (n > 0)) ([] : List AV), true)] [] := by
  refine good_of_body3 27 Tryz.func112 rfl rfl rfl (by simp) ?_
  intro s m ha hr hv hG
  have f0 : s 0 = .v (.sl 0 true []) := ha 0 _ rfl
  have f1 : s 1 = .v (i64 n) := ha 1 _ rfl
  clear ha
  have hc : True := trivial
  have F := (And.intro f0 (And.intro f1 hG))
  refine AW.seq ?_
  refine AW.region (cfg := cfg4) ?_
  refine stp (fun _ h => s0 h) ?_
  refine aops_nil ?_
  refine AW.seq ?_
  refine AW.seq ?_
  refine AW.region (cfg := cfg4) ?_
  iterate 2 refine stp (fun _ h => s0 h) ?_
  refine aops_nil ?_
  refine cnd (fun hb => ?ht1) (fun hb => ?hf1)
  case ht1 => (simp at hb; omega)
  case hf1 =>
  have hbt6 := hb
  refine AW.skip ?_
  refine AW.seq ?_
  refine AW.seq ?_
  refine AW.region (cfg := cfg4) ?_
  iterate 2 refine stp (fun _ h => s0 h) ?_
  refine stp (fun _ h => sd h) ?_
  refine stp (fun _ h => s0 h) ?_
  iterate 3 refine stp (fun _ h => sd h) ?_
  refine stp (fun _ h => s0 h) ?_
  refine aops_nil ?_
  refine AW.seq ?_
  refine AW.region (cfg := cfg4) ?_
  iterate 2 refine stp (fun _ h => s0 h) ?_
  refine aops_nil ?_
  refine cnd (fun hb => ?ht2) (fun hb => ?hf2)
  case ht2 =>
    have hw16 := hb
    try simp only [bo1, bo2, bo3, bo4, bo5, bo6] at hb
    have hbt16 := hb
    have er : (List.replicate n.toNat (AV.sl 1 true [])).isEmpty = false := by (cases hq : n.toNat with | zero => omega | succ q => simp [List.replicate_succ])
    have F := And.intro er F
    refine AW.region (cfg := cfg4) ?_
    iterate 2 refine stp (fun _ h => s0 h) ?_
    iterate 2 refine stp (fun _ h => sd h) ?_
    refine stp (fun _ h => s0 h) ?_
    refine stp (fun _ h => kaz h) ?_
    refine stp (fun _ h => s0 h) ?_
    refine stp (fun _ h => sd h) ?_
    refine stp (fun _ h => sz h) ?_
    refine stp (fun _ h => st h) ?_
    refine aops_nil ?_
    refine AW.seq ?_
    refine AW.region (cfg := cfg4) ?_
    refine stp (fun _ h => s0 h) ?_
    refine stp (fun _ h => sm h) ?_
    refine aops_nil ?_
    refine AW.ret ?_
    refine ⟨.inr rfl, ?_⟩
    (have e0 : (!decide (n > 0)) = false := (by simp; omega); rw [e0]; refine leavesN (leaves_own1 4 rfl (by simp (disch := first | omega | decide) only [go_sem, F, aIndex_map] <;> rfl) (by simp (disch := first | omega | decide) only [go_sem, F, aIndex_map] <;> rfl) (by decide) (by simp [sub]) (by exact hG)))
  case hf2 =>
    have hw16 := hb
    try simp only [bo1, bo2, bo3, bo4, bo5, bo6] at hb
    have hbt16 := hb
    refine AW.skip ?_
    refine AW.seq ?_
    refine AW.region (cfg := cfg4) ?_
    refine stp (fun _ h => s0 h) ?_
    refine stp (fun _ h => sm h) ?_
    refine aops_nil ?_
    refine AW.ret ?_
    refine ⟨.inr rfl, ?_⟩
    (have e0 : (!decide (n > 0)) = true := (by simp; omega); rw [e0]; refine ⟨_, nilEq_nil (s := 0) (nilEq_refl _), ?_⟩; refine leaves_mwp2 (rs := [.tmp 4]) rfl ?_; simp [giveL, srcOne, upd, giveOne, readL, readOne, Mwp, M.bind, opn, hG])
def psPsl (p : Bool × List PS) : AV := .sl 1 p.1 (p.2.map pslice)
theorem cellsOf_psPsl (p : Bool × List PS) : cellsOf (psPsl p) = [.sl 1 p.1 (p.2.map pslice)] := rfl
def catPsl (ps : List (Bool × List PS)) : List PS := ps.flatMap (·.2)
theorem catPsl_succ {ps : List (Bool × List PS)} {k : Nat} (h : k < ps.length) : catPsl (ps.take (k + 1)) = catPsl (ps.take k) ++ ps[k].2 := by
  rw [List.take_succ_eq_append_getElem h]; simp only [catPsl, List.flatMap_append, List.flatMap_cons, List.flatMap_nil, List.append_nil]
theorem catPsl_le {ps : List (Bool × List PS)} (k : Nat) : (catPsl (ps.take k)).length ≤ (catPsl ps).length := by
  have : catPsl ps = catPsl (ps.take k) ++ catPsl (ps.drop k) := by rw [catPsl, catPsl, catPsl, ← List.flatMap_append, List.take_append_drop]
  rw [this, List.length_append]; omega
theorem catPsl_get {ps : List (Bool × List PS)} {k : Nat} (h : k < ps.length) : (ps[k].2).length ≤ (catPsl ps).length := by
  have h1 := catPsl_le (ps := ps) (k + 1)
  rw [catPsl_succ h, List.length_append] at h1; omega
theorem catPsl_flag {ps : List (Bool × List PS)} {b : List PS} (h : b.length ≤ (catPsl ps).length) : (!decide (((catPsl ps).length : Int) > 0) && (b.map pslice).isEmpty) = !decide (((catPsl ps).length : Int) > 0) := by
  cases hd : decide (((catPsl ps).length : Int) > 0) with
  | true => rfl
  | false =>
    have : b.length = 0 := by have := of_decide_eq_false hd; omega
    rw [List.eq_nil_of_length_eq_zero this]; rfl
@[simp] theorem noPtr_psPsl (p : Bool × List PS) : noPtr (psPsl p) = true := by simp [psPsl, noPtr]
@[simp] theorem noPtrL_psPsl (l : List (Bool × List PS)) : noPtrL (l.map psPsl) = true := noPtrL_map noPtr_psPsl _
attribute [go_sem] cellsOf_psPsl
theorem good_ConcatPsl (np : Bool) (ps : List (Bool × List PS)) (hl : ps.length ≤ 1000000) (hc0 : (catPsl ps).length ≤ 1000000) : Good Tryz.prog 78 [(.sl 1 np (ps.map psPsl), false)] [] [(.sl 1 (!decide (((catPsl ps).length : Int) > 0)) ((catPsl ps).map pslice), true)] [] := by
  refine good_of_body2 36 Tryz.func78 rfl rfl rfl (by simp) ?_
  intro s m ha hr hv hG
  have f0 : s 0 = .v (.sl 1 np (ps.map psPsl)) := ha 0 _ rfl
  clear ha
  have hc : True := trivial
  have F := (And.intro f0 hG)
  refine AW.seq ?_
  refine AW.region (cfg := cfg2) ?_
  refine stp (fun _ h => s0 h) ?_
  refine aops_nil ?_
  refine AW.seq ?_
  refine AW.region (cfg := cfg2) ?_
  refine stp (fun _ h => s0 h) ?_
  refine aops_nil ?_
  refine AW.seq ?_
  refine AW.seq ?_
  refine AW.region (cfg := cfg2) ?_
  refine stp (fun _ h => s0 h) ?_
  refine stp (fun _ h => sd h) ?_
  refine stp (fun _ h => s0 h) ?_
  refine aops_nil ?_
  refine AW.block ?_
  refine AW.forN (fun k σ => ∃ s m, σ = ⟨36, s, m⟩ ∧ s 3 = .v (i64 ((catPsl (ps.take k)).length : Int)) ∧ s 9 = .v (.sl 1 np (ps.map psPsl)) ∧ s 10 = .v (i64 (ps.length : Int)) ∧ s 11 = .v (i64 (k : Int)) ∧ s 0 = .v (.sl 1 np (ps.map psPsl)) ∧ (∀ i, (m.objs (.res i)).2 = .dead) ∧ m.G = []) (ps.length) ?_ ?_ ?_
  · refine ⟨_, _, rfl, ?_, ?_, ?_, ?_, ?_, (by intro i; simp [Mem.set, hr]), (by exact hG)⟩ <;> try simp (disch := first | omega | decide) only [go_sem, F, aIndex_map]
    all_goals rfl
  · clear F f0 hr hG
    rintro k σ hk ⟨s, m, rfl, f3, f9, f10, f11, f0, hr, hG⟩
    have F := (And.intro f3 (And.intro f9 (And.intro f10 (And.intro f11 (And.intro f0 hG)))))
    refine AW.seq ?_
    refine AW.region (cfg := cfg2) ?_
    refine stp (fun _ h => s0 h) ?_
    refine aops_nil ?_
    refine AW.seq ?_
    refine cnd (fun hb => ?ht1) (fun hb => ?hf1)
    case hf1 => (simp at hb; omega)
    case ht1 =>
    have hbt12 := hb
    refine AW.skip ?_
    refine AW.seq ?_
    refine AW.block ?_
    refine AW.seq ?_
    refine AW.region (cfg := cfg2) ?_
    refine stp (fun _ h => si h) ?_
    refine stp (fun _ h => sl h) ?_
    refine stp (fun _ h => s0 h) ?_
    refine aops_nil ?_
    refine AW.seq ?_
    have hkp : k < ps.length := by assumption
    have hg := catPsl_get hkp
    have hle := catPsl_le (ps := ps) k
    have hle2 := catPsl_le (ps := ps) (k + 1)
    have hcs := catPsl_succ hkp
    refine AW.region (cfg := cfg2) ?_
    iterate 2 refine stp (fun _ h => s0 h) ?_
    iterate 2 refine stp (fun _ h => sd h) ?_
    refine stp (fun _ h => s0 h) ?_
    refine aops_nil ?_
    refine AW.seq ?_
    refine AW.region (cfg := cfg2) ?_
    iterate 2 refine stp (fun _ h => s0 h) ?_
    refine aops_nil ?_
    refine cnd (fun hb => ?ht2) (fun hb => ?hf2)
    case ht2 => (simp at hb; omega)
    case hf2 =>
    have hbt20 := hb
    refine AW.skip ?_
    refine AW.region (cfg := cfg2) ?_
    refine stp (fun _ h => sd h) ?_
    refine stp (fun _ h => s0 h) ?_
    refine aops_nil ?_
    refine ⟨_, _, rfl, ?_, ?_, ?_, ?_, ?_, (by intro i; simp [Mem.set, hr]), (by exact hG)⟩ <;> try simp (disch := first | omega | decide) only [go_sem, F, aIndex_map]
    all_goals first | rfl | (rw [catPsl_succ hkp]; simp; done)
  · clear F f0 hr hG
    rintro σ ⟨s, m, rfl, f3, f9, f10, f11, f0, hr, hG⟩
    have F := (And.intro f3 (And.intro f9 (And.intro f10 (And.intro f11 (And.intro f0 hG)))))
    refine AW.seq ?_
    refine AW.region (cfg := cfg2) ?_
    refine stp (fun _ h => s0 h) ?_
    refine aops_nil ?_
    refine AW.seq ?_
    refine cnd (fun hb => ?ht3) (fun hb => ?hf3)
    case ht3 => (simp at hb; done)
    case hf3 =>
    have hbt12 := hb
    refine AW.exit ?_
    refine AW.seq ?_
    have e9 : catPsl (ps.take ps.length) = catPsl ps := by rw [List.take_length]
    have F := And.intro e9 F
    refine AW.region (cfg := cfg2) ?_
    refine stp (fun _ h => s0 h) ?_
    refine stp (fun _ h => co1 (w := good_GrowPsl _ (by omega)) (x := h)) ?_
    refine stp (fun _ h => st h) ?_
    refine aops_nil ?_
    refine AW.seq ?_
    refine AW.seq ?_
    refine AW.region (cfg := cfg2) ?_
    refine stp (fun _ h => s0 h) ?_
    refine stp (fun _ h => sd h) ?_
    refine stp (fun _ h => s0 h) ?_
    refine aops_nil ?_
    refine AW.block ?_
    refine AW.forN (fun k σ => ∃ s m, σ = ⟨36, s, m⟩ ∧ s 6 = .own (.var 6) (m.objs (.var 6)).1 0 ((catPsl (ps.take k)).length) ∧ (m.objs (.var 6)).2 = .arr (!decide (((catPsl ps).length : Int) > 0)) 1 ((catPsl (ps.take k)).map pslice) ∧ s 25 = .v (.sl 1 np (ps.map psPsl)) ∧ s 26 = .v (i64 (ps.length : Int)) ∧ s 27 = .v (i64 (k : Int)) ∧ (∀ i, (m.objs (.res i)).2 = .dead) ∧ m.G = []) (ps.length) ?_ ?_ ?_
    · refine ⟨_, _, rfl, ?_, ?_, ?_, ?_, ?_, (by intro i; simp [Mem.set, hr]), (by exact hG)⟩ <;> try simp (disch := first | omega | decide) only [go_sem, F, aIndex_map]
      all_goals rfl
    · clear F f3 f9 f10 f11 f0 hr hG
      rintro k σ hk ⟨s, m, rfl, f6, o6, f25, f26, f27, hr, hG⟩
      obtain ⟨g6, o6⟩ : ∃ g, m.objs (.var 6) = (g, .arr (!decide (((catPsl ps).length : Int) > 0)) 1 ((catPsl (ps.take k)).map pslice)) := ⟨_, Prod.ext rfl o6⟩
      rw [o6] at f6
      have F := (And.intro f6 (And.intro f25 (And.intro f26 (And.intro f27 (And.intro o6 (And.intro e9 hG))))))
      refine AW.seq ?_
      refine AW.region (cfg := cfg2) ?_
      refine stp (fun _ h => s0 h) ?_
      refine aops_nil ?_
      refine AW.seq ?_
      refine cnd (fun hb => ?ht4) (fun hb => ?hf4)
      case hf4 => (simp at hb; omega)
      case ht4 =>
      have hbt28 := hb
      refine AW.skip ?_
      refine AW.seq ?_
      refine AW.block ?_
      refine AW.seq ?_
      refine AW.region (cfg := cfg2) ?_
      refine stp (fun _ h => si h) ?_
      refine stp (fun _ h => sl h) ?_
      refine stp (fun _ h => s0 h) ?_
      refine aops_nil ?_
      have hkp : k < ps.length := by assumption
      have hg := catPsl_get hkp
      have hle := catPsl_le (ps := ps) k
      have hle2 := catPsl_le (ps := ps) (k + 1)
      have hcs := catPsl_succ hkp
      have hcl : (catPsl (ps.take k)).length + (ps[k].2).length ≤ 1000000 := by (rw [hcs, List.length_append] at hle2; omega)
      refine AW.region (cfg := cfg2) ?_
      iterate 2 refine stp (fun _ h => s0 h) ?_
      refine stp (fun _ h => sp h) ?_
      refine stp (fun _ h => st h) ?_
      refine aops_nil ?_
      refine AW.region (cfg := cfg2) ?_
      refine stp (fun _ h => sd h) ?_
      refine stp (fun _ h => s0 h) ?_
      refine aops_nil ?_
      refine ⟨_, _, rfl, ?_, ?_, ?_, ?_, ?_, (by intro i; simp [Mem.set, hr]), (by exact hG)⟩ <;> try simp (disch := first | omega | decide) only [go_sem, F, aIndex_map]
      all_goals first | rfl | (rw [catPsl_succ hkp]; simp; done) | (rw [catPsl_flag hg, catPsl_succ hkp]; done)
    · clear F f3 f9 f10 f11 f0 hr hG
      rintro σ ⟨s, m, rfl, f6, o6, f25, f26, f27, hr, hG⟩
      obtain ⟨g6, o6⟩ : ∃ g, m.objs (.var 6) = (g, .arr (!decide (((catPsl ps).length : Int) > 0)) 1 ((catPsl (ps.take ps.length)).map pslice)) := ⟨_, Prod.ext rfl o6⟩
      rw [o6] at f6
      have F := (And.intro f6 (And.intro f25 (And.intro f26 (And.intro f27 (And.intro o6 (And.intro e9 hG))))))
      refine AW.seq ?_
      refine AW.region (cfg := cfg2) ?_
      refine stp (fun _ h => s0 h) ?_
      refine aops_nil ?_
      refine AW.seq ?_
      refine cnd (fun hb => ?ht5) (fun hb => ?hf5)
      case ht5 => (simp at hb; done)
      case hf5 =>
      have hbt28 := hb
      refine AW.exit ?_
      refine AW.seq ?_
      refine AW.region (cfg := cfg2) ?_
      refine stp (fun _ h => s0 h) ?_
      refine stp (fun _ h => sm h) ?_
      refine aops_nil ?_
      refine AW.ret ?_
      refine ⟨.inr rfl, ?_⟩
      have e9 : catPsl (ps.take ps.length) = catPsl ps := by rw [List.take_length]
      refine leaves_own1 2 rfl (by simp (disch := first | omega | decide) only [go_sem, F, aIndex_map] <;> rfl) (by simp (disch := first | omega | decide) only [go_sem, F, aIndex_map] <;> rfl) (by decide) (by simp [sub, List.take_of_length_le]) (by exact hG)
attribute [go_sem] cellsOf_psl
theorem good_IndexFuncPsl (nil : Bool) (l : List PS) (f : FuncId) (caps : List AV) (p : PS → Bool) (hl : l.length ≤ 9223372036854775807) (hcn : noPtrL caps = true) (hpu : cfg.pure f = true) (hsc : cfg.scalar f = true) (hxf : cfg.xfer f = false) (hp : ∀ x ∈ l, Good Tryz.prog f (([pslice x] ++ caps).map fun a => (a, false)) [] [(.b (p x), false)] []) : Good Tryz.prog 111 [(.sl 1 nil (l.map pslice), false), (.clo f caps, false)] [] [(i64 (findI p l), false)] [] := by
  refine good_of_body2 19 Tryz.func111 rfl rfl rfl (by simp) ?_
  intro s m ha hr hv hG
  have f0 : s 0 = .v (.sl 1 nil (l.map pslice)) := ha 0 _ rfl
  have f1 : s 1 = .v (.clo f caps) := ha 1 _ rfl
  clear ha
  have hc : True := trivial
  have F := (And.intro f0 (And.intro f1 hG))
  refine AW.seq ?_
  refine AW.region (cfg := cfg) ?_
  refine stp (fun _ h => s0 h) ?_
  refine aops_nil ?_
  refine AW.seq ?_
  refine AW.seq ?_
  refine AW.region (cfg := cfg) ?_
  refine stp (fun _ h => s0 h) ?_
  refine stp (fun _ h => sd h) ?_
  refine stp (fun _ h => s0 h) ?_
  refine aops_nil ?_
  refine AW.block ?_
  refine AW.forN (fun k σ => ∃ s m, σ = ⟨19, s, m⟩ ∧ s 0 = .v (.sl 1 nil (l.map pslice)) ∧ s 1 = .v (.clo f caps) ∧ s 7 = .v (i64 (l.length : Int)) ∧ s 8 = .v (i64 (k : Int)) ∧ (∀ x ∈ l.take k, p x = false) ∧ m.G = []) (l.length) ?_ ?_ ?_
  · refine ⟨_, _, rfl, ?_, ?_, ?_, ?_, ?_, (by exact hG)⟩ <;> try simp (disch := first | omega | decide) only [go_sem, F, aIndex_map]
    all_goals first | rfl | (simp; done)
  · clear F f0 f1 hG
    rintro k σ hk ⟨s, m, rfl, f0, f1, f7, f8, mo0, hG⟩
    have F := (And.intro f0 (And.intro f1 (And.intro f7 (And.intro f8 hG))))
    refine AW.seq ?_
    refine AW.region (cfg := cfg) ?_
    refine stp (fun _ h => s0 h) ?_
    refine aops_nil ?_
    refine AW.seq ?_
    refine cnd (fun hb => ?ht1) (fun hb => ?hf1)
    case hf1 => (simp at hb; omega)
    case ht1 =>
    have hbt9 := hb
    refine AW.skip ?_
    refine AW.seq ?_
    refine AW.block ?_
    refine AW.seq ?_
    refine AW.region (cfg := cfg) ?_
    iterate 2 refine stp (fun _ h => s0 h) ?_
    refine aops_nil ?_
    refine AW.seq ?_
    refine AW.region (cfg := cfg) ?_
    iterate 3 refine stp (fun _ h => s0 h) ?_
    refine stp (fun _ h => si h) ?_
    refine stp (fun _ h => sl h) ?_
    apply aops_step (by decide) rfl
    · intro K hK
      simp (disch := first | omega | decide) only [go_sem, F, aIndex_map, act_callv, List.map]
      apply mwp_call_sc hpu hxf hsc
      · intro Q hQ
        simp (disch := first | omega | decide) only [go_sem, F, aIndex_map, peekL, reifyL_nil, reifyL_cons, reify_v]
        exact hQ
      · exact hp l[k] (List.getElem_mem hk)
      · simp [noPtrL, noPtr, pslice, hcn]
      · rfl
      · exact hK _
    refine aops_nil ?_
    refine cnd (fun hb => ?ht2) (fun hb => ?hf2)
    case ht2 =>
      have hw16 := hb
      try simp only [bo1, bo2, bo3, bo4, bo5, bo6] at hb
      have hbt16 := hb
      refine AW.seq ?_
      refine AW.region (cfg := cfg) ?_
      iterate 2 refine stp (fun _ h => s0 h) ?_
      refine aops_nil ?_
      refine AW.ret ?_
      refine ⟨.inr rfl, ?_⟩
      refine leaves_tmp1 4 rfl ?_ (by exact hG)
      simp (disch := first | omega | decide) only [go_sem, F, aIndex_map]
      all_goals (rw [findI_at hk mo0 hb]; done)
    case hf2 =>
      have hw16 := hb
      try simp only [bo1, bo2, bo3, bo4, bo5, bo6] at hb
      have hbt16 := hb
      refine AW.skip ?_
      refine AW.region (cfg := cfg) ?_
      refine stp (fun _ h => sd h) ?_
      refine stp (fun _ h => s0 h) ?_
      refine aops_nil ?_
      refine ⟨_, _, rfl, ?_, ?_, ?_, ?_, ?_, (by exact hG)⟩ <;> try simp (disch := first | omega | decide) only [go_sem, F, aIndex_map]
      all_goals first | rfl | skip
      all_goals (intro x hx; rw [List.take_succ_eq_append_getElem hk] at hx; rcases List.mem_append.1 hx with h | h; exact mo0 x h; rw [List.mem_singleton.1 h]; exact hb)
  · clear F f0 f1 hG
    rintro σ ⟨s, m, rfl, f0, f1, f7, f8, mo0, hG⟩
    have F := (And.intro f0 (And.intro f1 (And.intro f7 (And.intro f8 hG))))
    refine AW.seq ?_
    refine AW.region (cfg := cfg) ?_
    refine stp (fun _ h => s0 h) ?_
    refine aops_nil ?_
    refine AW.seq ?_
    refine cnd (fun hb => ?ht3) (fun hb => ?hf3)
    case ht3 => (simp at hb; done)
    case hf3 =>
    have hbt9 := hb
    refine AW.exit ?_
    refine AW.seq ?_
    refine AW.region (cfg := cfg) ?_
    refine stp (fun _ h => s0 h) ?_
    refine aops_nil ?_
    refine AW.ret ?_
    refine ⟨.inr rfl, ?_⟩
    refine leaves_tmp1 4 rfl ?_ (by exact hG)
    simp (disch := first | omega | decide) only [go_sem, F, aIndex_map]
    all_goals (rw [findI_none (by simpa using mo0)]; done)
theorem good_ContainsFuncPsl (nil : Bool) (l : List PS) (f : FuncId) (caps : List AV) (p : PS → Bool) (hl : l.length ≤ 9223372036854775807) (hcn : noPtrL caps = true) (hpu : cfg.pure f = true) (hsc : cfg.scalar f = true) (hxf : cfg.xfer f = false) (hp : ∀ x ∈ l, Good Tryz.prog f (([pslice x] ++ caps).map fun a => (a, false)) [] [(.b (p x), false)] []) : Good Tryz.prog 77 [(.sl 1 nil (l.map pslice), false), (.clo f caps, false)] [] [(.b (l.any p), false)] [] := by
  refine good_of_body2 9 Tryz.func77 rfl rfl rfl (by simp) ?_
  intro s m ha hr hv hG
  have f0 : s 0 = .v (.sl 1 nil (l.map pslice)) := ha 0 _ rfl
  have f1 : s 1 = .v (.clo f caps) := ha 1 _ rfl
  clear ha
  have hc : True := trivial
  have F := (And.intro f0 (And.intro f1 hG))
  have F := And.intro hcn F
  refine AW.seq ?_
  refine AW.region (cfg := cfg) ?_
  refine stp (fun _ h => s0 h) ?_
  refine aops_nil ?_
  refine AW.seq ?_
  refine AW.region (cfg := cfg) ?_
  iterate 2 refine stp (fun _ h => s0 h) ?_
  refine stp (fun _ h => cs (w := good_IndexFuncPsl nil l f caps p hl hcn hpu hsc hxf hp) (x := h)) ?_
  iterate 2 refine stp (fun _ h => s0 h) ?_
  refine aops_nil ?_
  refine AW.ret ?_
  refine ⟨.inr rfl, ?_⟩
  refine leaves_tmp1 4 rfl ?_ (by exact hG)
  simp (disch := first | omega | decide) only [go_sem, F, aIndex_map]
  all_goals (rw [findI_any]; done)
end Go.Vai.WK
namespace Go.Vai.WK
open Go.Proofs Go.Vai Go.Vai.DK Go.Vai.G Go.Vai.L Go.Vai.MP Go.Vai.O Go.Vai.RC Go.Vai.S7 Go.Vai.U Go.Vai.V Go.Vai.Z
set_option linter.unusedSimpArgs false
set_option linter.unusedVariables false
set_option maxHeartbeats 4000000
set_option maxRecDepth 100000
def frP (n : Int) (nil : Bool) (l : List PS) : List (Bool × List PS) := [(nil, l.take (ploN n).s.toNat), (nil, l.drop ((ploN n).s + (ploN n).s).toNat)]
theorem fr_cat (n : Int) (nil : Bool) (l : List PS) : catPsl (frP n nil l) = l.take (ploN n).s.toNat ++ l.drop ((ploN n).s + (ploN n).s).toNat := by simp [catPsl, frP]
theorem fr_len {n : Int} {nil : Bool} {l : List PS} (hn : 6 ≤ n ∧ n ≤ 1024) (hl : (l.length : Int) = n) : (catPsl (frP n nil l)).length ≤ 1000000 := by
  rw [fr_cat, List.length_append, List.length_take, List.length_drop]; omega
theorem fr_mem {n : Int} {nil : Bool} {l : List PS} {x : PS} (h : x ∈ catPsl (frP n nil l)) : x ∈ l := by
  rw [fr_cat] at h
  rcases List.mem_append.1 h with h | h
  · exact List.mem_of_mem_take h
  · exact List.mem_of_mem_drop h
theorem fr_is (n : Int) (nil : Bool) (l : List PS) : (!(catPsl (frP n nil l)).any fun x => !blankP x) = freshR n l := by rw [fr_cat]; rfl
theorem good_fresh1 (x : PS) (hx : x.2.length ≤ 140737488355000) : Good Tryz.prog 79 [(pslice x, false)] [] [(.b (!blankP x), false)] [] := by
  refine good_of_body2 6 Tryz.func79 rfl rfl rfl (by simp) ?_
  intro s m ha hr hv hG
  have f0 : s 0 = .v (.sl 1 x.1 (bsl x.2)) := ha 0 _ rfl
  clear ha
  have hc : True := trivial
  have F := (And.intro f0 hG)
  refine AW.seq ?_
  refine AW.region (cfg := cfg) ?_
  refine stp (fun _ h => s0 h) ?_
  refine aops_nil ?_
  refine AW.seq ?_
  refine AW.region (cfg := cfg) ?_
  refine stp (fun _ h => s0 h) ?_
  refine stp (fun _ h => cs (w := good_Blank x.1 x.2 (by omega)) (x := h)) ?_
  iterate 2 refine stp (fun _ h => s0 h) ?_
  refine aops_nil ?_
  refine AW.ret ?_
  refine ⟨.inr rfl, ?_⟩
  refine leaves_tmp1 2 rfl ?_ (by exact hG)
  simp (disch := first | omega | decide) only [go_sem, F, aIndex_map]
  all_goals rfl
theorem good_fresh (n : Int) (hn : 6 ≤ n ∧ n ≤ 1024) (nil : Bool) (l : List PS) (hl : (l.length : Int) = n) (pl : ∀ x ∈ l, x.2.length ≤ 140737488355000 ∧ (x.1 = true → x.2 = [])) : Good Tryz.prog 41 [(ploA (ploN n), false), (.sl 1 nil (l.map pslice), false)] [] [(.b (freshR n l), false)] [] := by
  refine good_of_body2 22 Tryz.func41 rfl rfl rfl (by simp) ?_
  intro s m ha hr hv hG
  have f0 : s 0 = .v (.agg [i64 (ploN n).s, i64 (ploN n).f, i64 (ploN n).l]) := ha 0 _ rfl
  have f1 : s 1 = .v (.sl 1 nil (l.map pslice)) := ha 1 _ rfl
  clear ha
  have hc : True := trivial
  have F := (And.intro f0 (And.intro f1 hG))
  have pb := pl_bd hn
  refine AW.seq ?_
  refine AW.region (cfg := cfg) ?_
  refine stp (fun _ h => sb h) ?_
  refine stp (fun _ h => s0 h) ?_
  refine aops_nil ?_
  refine AW.seq ?_
  refine AW.region (cfg := cfg) ?_
  refine stp (fun _ h => sl h) ?_
  refine stp (fun _ h => ct (w := good_SlotP n hn 1 (by decide)) (x := h)) ?_
  iterate 5 refine stp (fun _ h => s0 h) ?_
  refine aops_nil ?_
  refine AW.seq ?_
  refine AW.draw (cfg := cfg) (by kernel_rfl) (by kernel_rfl) (by kernel_rfl) ?_
  iterate 2 refine dstp (fun _ h => s0 h) ?_
  refine dstp (fun _ h => sd h) ?_
  iterate 2 refine dstp (fun _ h => s0 h) ?_
  refine dstp (fun _ h => sd h) ?_
  refine dstp (fun _ h => sq h) ?_
  refine dstp (fun _ h => cr (w := (good_ConcatPsl false (frP n nil l) (by show 2 ≤ 1000000; decide) (fr_len hn hl)).lend1) (x := h)) ?_
  refine dstp (fun _ h => cs (w := good_ContainsFuncPsl _ (catPsl (frP n nil l)) 79 [] (fun x => !blankP x) (by have := fr_len (nil := nil) hn hl; omega) rfl rfl rfl rfl (fun x hx => good_fresh1 x (pl x (fr_mem hx)).1)) (x := h)) ?_
  iterate 2 refine dstp (fun _ h => s0 h) ?_
  refine adraw_nil (by kernel_rfl) ?_
  refine AW.ret ?_
  refine ⟨.inr rfl, ?_⟩
  refine leaves_mwp2 (rs := [.tmp 4]) rfl ?_
  simp (config := {failIfUnchanged := false}) [giveL, srcOne, rehome, freezeN, sub, upd, opn, aLoad, loadL, giveOne, reify, reifyL, readL, readOne, Mwp, M.bind, Mem.set, setAt, cellsL, hG, f0, f1]
  all_goals (rw [← fr_is n nil l, Bool.not_not]; done)
end Go.Vai.WK
namespace Go.Vai.WK
open Go.Proofs Go.Vai Go.Vai.DK Go.Vai.G Go.Vai.L Go.Vai.MP Go.Vai.O Go.Vai.RC Go.Vai.S7 Go.Vai.U Go.Vai.V Go.Vai.Z
set_option linter.unusedSimpArgs false
set_option linter.unusedVariables false
set_option maxHeartbeats 4000000
set_option maxRecDepth 100000
theorem good_tail (n : Int) (hn : 6 ≤ n ∧ n ≤ 1024) (nil : Bool) (l : List PS) (hl : (l.length : Int) = n) (pl : ∀ x ∈ l, x.2.length ≤ 140737488355000 ∧ (x.1 = true → x.2 = [])) (gen : Int) : Good Tryz.prog 43 [(ploA (ploN n), false), (.sl 1 nil (l.map pslice), false), (i64 gen, false)] [] [(.sl 7 (tailR gen (l.drop (ploN n).f.toNat)).isEmpty ((tailR gen (l.drop (ploN n).f.toNat)).map pageA), false)] [] := by
  refine good_of_body5 52 Tryz.func43 rfl rfl rfl (by simp) (by simp) (by simp [noPtrL, noPtr]) (by simp [noPtrL, noPtr]) ?_
  intro s m ha hr hv hG
  have f0 : s 0 = .v (.agg [i64 (ploN n).s, i64 (ploN n).f, i64 (ploN n).l]) := ha 0 _ rfl
  have f1 : s 1 = .v (.sl 1 nil (l.map pslice)) := ha 1 _ rfl
  have f2 : s 2 = .v (i64 gen) := ha 2 _ rfl
  clear ha
  have hc : True := trivial
  have F := (And.intro f0 (And.intro f1 (And.intro f2 hG)))
  have pb := pl_bd hn
  refine AW.seq ?_
  refine AW.region (cfg := cfg) ?_
  refine stp (fun _ h => sb h) ?_
  refine stp (fun _ h => s0 h) ?_
  refine aops_nil ?_
  refine AW.seq ?_
  refine AW.region (cfg := cfg) ?_
  refine stp (fun _ h => s0 h) ?_
  refine aops_nil ?_
  refine AW.seq ?_
  refine AW.seq ?_
  have hq : ((l.drop (ploN n).f.toNat)).length = l.length - (ploN n).f.toNat := List.length_drop
  obtain ⟨q, hqq⟩ : ∃ q, q = (l.drop (ploN n).f.toNat) := ⟨_, rfl⟩
  rw [← hqq] at hq
  refine AW.region (cfg := cfg) ?_
  refine stp (fun _ h => s0 h) ?_
  refine stp (fun _ h => sx h) ?_
  refine stp (fun _ h => sl h) ?_
  iterate 2 refine stp (fun _ h => sd h) ?_
  refine stp (fun _ h => s0 h) ?_
  refine aops_nil ?_
  refine AW.block ?_
  refine AW.forN (fun k σ => ∃ s m, σ = ⟨52, s, m⟩ ∧ s 2 = .v (i64 gen) ∧ s 7 = .own (.var 7) (m.objs (.var 7)).1 0 (k) ∧ (m.objs (.var 7)).2 = .arr (decide (k = 0)) 7 (((q.take k).map valS).map pageA) ∧ s 15 = .v (.sl 1 nil (q.map pslice)) ∧ s 16 = .v (i64 (q.length : Int)) ∧ s 17 = .v (i64 (k : Int)) ∧ (∀ j (hj : j < q.length), j < k → tgood gen q[j] j = true) ∧ (∀ i, (m.objs (.res i)).2 = .dead) ∧ m.G = []) (q.length) ?_ ?_ ?_
  · refine ⟨_, _, rfl, ?_, ?_, ?_, ?_, ?_, ?_, ?_, (by intro i; simp [Mem.set, hr]), (by exact hG)⟩ <;> try simp (disch := first | omega | decide) only [go_sem, F, aIndex_map]
    all_goals first | rfl | (simp; done) | (rw [hqq]; done)
  · clear F f0 f1 f2 hr hG
    rintro k σ hk ⟨s, m, rfl, f2, f7, o7, f15, f16, f17, mo0, hr, hG⟩
    obtain ⟨g7, o7⟩ : ∃ g, m.objs (.var 7) = (g, .arr (decide (k = 0)) 7 (((q.take k).map valS).map pageA)) := ⟨_, Prod.ext rfl o7⟩
    rw [o7] at f7
    have F := (And.intro f2 (And.intro f7 (And.intro f15 (And.intro f16 (And.intro f17 (And.intro o7 hG))))))
    refine AW.seq ?_
    skip
    refine AW.region (cfg := cfg) ?_
    refine stp (fun _ h => s0 h) ?_
    refine aops_nil ?_
    refine AW.seq ?_
    refine cnd (fun hb => ?ht1) (fun hb => ?hf1)
    case hf1 => (simp at hb; omega)
    case ht1 =>
    have hbt18 := hb
    refine AW.skip ?_
    refine AW.seq ?_
    refine AW.block ?_
    refine AW.seq ?_
    have hkl : k < q.length := by assumption
    have hql : q[k] ∈ l := List.mem_of_mem_drop (i := (ploN n).f.toNat) (by rw [← hqq]; exact List.getElem_mem hkl)
    obtain ⟨pk1, pk2⟩ := pl q[k] hql
    have pk3 := valS_bd q[k]
    refine AW.region (cfg := cfg) ?_
    refine stp (fun _ h => s0 h) ?_
    refine stp (fun _ h => si h) ?_
    refine stp (fun _ h => sl h) ?_
    iterate 2 refine stp (fun _ h => s0 h) ?_
    refine aops_nil ?_
    refine AW.seq ?_
    refine AW.region (cfg := cfg) ?_
    refine stp (fun _ h => s0 h) ?_
    refine stp (fun _ h => cr (w := good_GetP q[k].1 q[k].2 (by omega) pk2) (x := h)) ?_
    iterate 3 refine stp (fun _ h => s0 h) ?_
    refine stp (fun _ h => sd h) ?_
    refine stp0 (fun _ h => ss h) ?_
    refine stp (fun _ h => s0 h) ?_
    refine aops_nil ?_
    refine AW.seq ?_
    refine AW.seq ?_
    refine AW.region (cfg := cfg) ?_
    iterate 3 refine stp (fun _ h => s0 h) ?_
    refine mrg wa (fun hc _ h => sx h) ?_
    refine mrg wa (fun hc _ h => sl h) ?_
    refine mrg wa (fun hc _ h => s0 h) ?_
    iterate 2 refine stp (fun _ h => s0 h) ?_
    refine mrg wa (fun hc _ h => sx h) ?_
    refine mrg wa (fun hc _ h => sl h) ?_
    iterate 2 refine mrg wa (fun hc _ h => s0 h) ?_
    iterate 2 refine stp (fun _ h => s0 h) ?_
    refine mrg wa (fun hc _ h => sx h) ?_
    refine mrg wa (fun hc _ h => sl h) ?_
    iterate 2 refine mrg wa (fun hc _ h => s0 h) ?_
    refine stp (fun _ h => s0 h) ?_
    refine aops_nil ?_
    refine cnd (fun hb => ?ht2) (fun hb => ?hf2)
    case ht2 =>
      have hw45 := hb
      try simp only [bo1, bo2, bo3, bo4, bo5, bo6] at hb
      have hbt45 := hb
      refine AW.exit ?_
      refine AW.seq ?_
      refine AW.region (cfg := cfg) ?_
      refine stp (fun _ h => s0 h) ?_
      refine stp (fun _ h => sm h) ?_
      refine aops_nil ?_
      refine AW.ret ?_
      refine ⟨.inr rfl, ?_⟩
      apply Exists.intro
      rw [← hqq]
      (have zz : tailR gen q = (q.take k).map valS := tail_stop hkl mo0 (tg_no (by omega)))
      (rw [zz, ← emp_take k (by omega)])
      refine leavesN ?_
      refine leaves_mwp2 (rs := [.tmp 6]) rfl ?_; simp (config := {failIfUnchanged := false}) [giveL, srcOne, rehome, freezeN, sub, upd, opn, aLoad, loadL, giveOne, reify, reifyL, readL, readOne, Mwp, M.bind, Mem.set, setAt, cellsL, hG, f2, f7, f15, f16, f17, o7]
      exact ⟨by simp [List.take_take], rfl⟩
    case hf2 =>
      have hw45 := hb
      try simp only [bo1, bo2, bo3, bo4, bo5, bo6] at hb
      have hbt45 := hb
      refine AW.skip ?_
      refine AW.region (cfg := cfg) ?_
      refine stp (fun _ h => s0 h) ?_
      refine stp (fun _ h => sl h) ?_
      refine stp (fun _ h => sq h) ?_
      refine stp (fun _ h => sp h) ?_
      refine stp (fun _ h => st h) ?_
      refine aops_nil ?_
      refine AW.region (cfg := cfg) ?_
      refine stp (fun _ h => sd h) ?_
      refine stp (fun _ h => s0 h) ?_
      refine aops_nil ?_
      refine ⟨_, _, rfl, ?_, ?_, ?_, ?_, ?_, ?_, ?_, (by intro i; simp [Mem.set, hr]), (by exact hG)⟩ <;> try simp (disch := first | omega | decide) only [go_sem, F, aIndex_map]
      all_goals first | rfl | (rw [List.take_succ_eq_append_getElem hkl]; simp [pageA, valS, -List.take_append_getElem]; done) | (intro j hj h; rcases Nat.lt_or_ge j k with e | e; exact mo0 j hj e; obtain rfl : j = k := (by omega); exact tg_yes (by omega))
  · clear F f0 f1 f2 hr hG
    rintro σ ⟨s, m, rfl, f2, f7, o7, f15, f16, f17, mo0, hr, hG⟩
    obtain ⟨g7, o7⟩ : ∃ g, m.objs (.var 7) = (g, .arr (decide (q.length = 0)) 7 (((q.take q.length).map valS).map pageA)) := ⟨_, Prod.ext rfl o7⟩
    rw [o7] at f7
    have F := (And.intro f2 (And.intro f7 (And.intro f15 (And.intro f16 (And.intro f17 (And.intro o7 hG))))))
    refine AW.seq ?_
    skip
    refine AW.region (cfg := cfg) ?_
    refine stp (fun _ h => s0 h) ?_
    refine aops_nil ?_
    refine AW.seq ?_
    refine cnd (fun hb => ?ht3) (fun hb => ?hf3)
    case ht3 => (simp at hb; done)
    case hf3 =>
    have hbt18 := hb
    refine AW.exit ?_
    refine AW.seq ?_
    refine AW.region (cfg := cfg) ?_
    refine stp (fun _ h => s0 h) ?_
    refine stp (fun _ h => sm h) ?_
    refine aops_nil ?_
    refine AW.ret ?_
    refine ⟨.inr rfl, ?_⟩
    apply Exists.intro
    rw [← hqq]
    (have zz : tailR gen q = q.map valS := tail_full mo0)
    (rw [zz, ← emp_all])
    refine leavesN ?_
    refine leaves_mwp2 (rs := [.tmp 6]) rfl ?_; simp (config := {failIfUnchanged := false}) [giveL, srcOne, rehome, freezeN, sub, upd, opn, aLoad, loadL, giveOne, reify, reifyL, readL, readOne, Mwp, M.bind, Mem.set, setAt, cellsL, hG, f2, f7, f15, f16, f17, o7]
    exact ⟨List.take_of_length_le (by simp), rfl⟩
theorem good_records (nil : Bool) (l : List Page) (hl : l.length ≤ 1000000) (pl : ∀ x ∈ l, x.b.length ≤ 488) : Good Tryz.prog 42 [(.sl 7 nil (l.map pageA), false)] [] [(.sl 1 (recF l).1.isEmpty ((recF l).1.map pslice), false), (i64 ((recF l).2 : Int), false)] [] := by
  refine good_of_body5 28 Tryz.func42 rfl rfl rfl (by simp) (by simp) (by simp [noPtrL, noPtr]) (by simp [noPtrL, noPtr]) ?_
  intro s m ha hr hv hG
  have f0 : s 0 = .v (.sl 7 nil (l.map pageA)) := ha 0 _ rfl
  clear ha
  have hc : True := trivial
  have F := (And.intro f0 hG)
  obtain ⟨N, hN1, hN2, hN3, hN4⟩ := rec_end l
  refine AW.seq ?_
  refine AW.region (cfg := cfg) ?_
  iterate 2 refine stp (fun _ h => s0 h) ?_
  refine aops_nil ?_
  refine AW.seq ?_
  refine AW.region (cfg := cfg) ?_
  refine stp (fun _ h => s0 h) ?_
  refine aops_nil ?_
  refine AW.seq ?_
  refine AW.region (cfg := cfg) ?_
  refine stp (fun _ h => s0 h) ?_
  refine aops_nil ?_
  refine AW.block ?_
  refine AW.forN (fun N σ => ∃ s m, σ = ⟨28, s, m⟩ ∧ s 0 = .v (.sl 7 nil (l.map pageA)) ∧ s 4 = .own (.var 4) (m.objs (.var 4)).1 0 ((recS l N).1.length) ∧ (m.objs (.var 4)).2 = .arr (recS l N).1.isEmpty 1 ((recS l N).1.map pslice) ∧ s 5 = .v (i64 ((recS l N).2 : Int)) ∧ ((recS l N).2 ≤ l.length) ∧ (∀ i, (m.objs (.res i)).2 = .dead) ∧ m.G = []) (N) ?_ ?_ ?_
  · refine ⟨_, _, rfl, ?_, ?_, ?_, ?_, ?_, (by intro i; simp [Mem.set, hr]), (by exact hG)⟩ <;> try simp (disch := first | omega | decide) only [go_sem, F, aIndex_map]
    all_goals first | rfl | (simp [recS]; done)
  · clear F f0 hr hG
    rintro N σ hN ⟨s, m, rfl, f0, f4, o4, f5, mo0, hr, hG⟩
    obtain ⟨g4, o4⟩ : ∃ g, m.objs (.var 4) = (g, .arr (recS l N).1.isEmpty 1 ((recS l N).1.map pslice)) := ⟨_, Prod.ext rfl o4⟩
    rw [o4] at f4
    have F := (And.intro f0 (And.intro f4 (And.intro f5 (And.intro o4 hG))))
    refine AW.block ?_
    refine AW.seq ?_
    refine AW.region (cfg := cfg) ?_
    iterate 2 refine stp (fun _ h => s0 h) ?_
    refine stp (fun _ h => sd h) ?_
    refine stp (fun _ h => cr (w := good_Join nil (l.drop (recS l N).2) (by rw [List.length_drop]; omega) (fun x hx => by have := pl x (List.mem_of_mem_drop hx); omega)) (x := h)) ?_
    iterate 7 refine stp (fun _ h => s0 h) ?_
    refine aops_nil ?_
    refine AW.seq ?_
    refine AW.seq ?_
    refine AW.region (cfg := cfg) ?_
    iterate 2 refine stp (fun _ h => s0 h) ?_
    refine aops_nil ?_
    refine cnd (fun hb => ?ht1) (fun hb => ?hf1)
    case ht1 => simp [hN1 N hN] at hb
    case hf1 =>
    have hbt18 := hb
    refine AW.skip ?_
    refine AW.seq ?_
    obtain ⟨jn1, jn2, jn3⟩ := join_n (hN1 N hN)
    rw [List.length_drop] at jn3
    have rn := rec_num l N
    refine AW.region (cfg := cfg) ?_
    iterate 2 refine stp (fun _ h => s0 h) ?_
    refine stp (fun _ h => sq h) ?_
    refine stp (fun _ h => sp h) ?_
    refine stp (fun _ h => st h) ?_
    refine aops_nil ?_
    refine AW.region (cfg := cfg) ?_
    iterate 2 refine stp (fun _ h => s0 h) ?_
    refine stp (fun _ h => sd h) ?_
    refine stp (fun _ h => s0 h) ?_
    refine aops_nil ?_
    refine ⟨_, _, rfl, ?_, ?_, ?_, ?_, ?_, (by intro i; simp [Mem.set, hr]), (by exact hG)⟩ <;> try simp (disch := first | omega | decide) only [go_sem, F, aIndex_map]
    all_goals first | exact rec_le _ _ | (rw [rec_yes (hN1 N hN)]; simp [pslice]; done) | (rw [rec_yes (hN1 N hN), jn1, Int.toNat_natCast, Int.natCast_add]; done)
  · clear F f0 hr hG
    rintro σ ⟨s, m, rfl, f0, f4, o4, f5, mo0, hr, hG⟩
    obtain ⟨g4, o4⟩ : ∃ g, m.objs (.var 4) = (g, .arr (recS l N).1.isEmpty 1 ((recS l N).1.map pslice)) := ⟨_, Prod.ext rfl o4⟩
    rw [o4] at f4
    have F := (And.intro f0 (And.intro f4 (And.intro f5 (And.intro o4 hG))))
    refine AW.block ?_
    refine AW.seq ?_
    refine AW.region (cfg := cfg) ?_
    iterate 2 refine stp (fun _ h => s0 h) ?_
    refine stp (fun _ h => sd h) ?_
    refine stp (fun _ h => cr (w := good_Join nil (l.drop (recS l N).2) (by rw [List.length_drop]; omega) (fun x hx => by have := pl x (List.mem_of_mem_drop hx); omega)) (x := h)) ?_
    iterate 7 refine stp (fun _ h => s0 h) ?_
    refine aops_nil ?_
    refine AW.seq ?_
    refine AW.seq ?_
    refine AW.region (cfg := cfg) ?_
    iterate 2 refine stp (fun _ h => s0 h) ?_
    refine aops_nil ?_
    refine cnd (fun hb => ?ht2) (fun hb => ?hf2)
    case hf2 => simp [hN2] at hb
    case ht2 =>
    have hbt18 := hb
    refine AW.seq ?_
    refine AW.region (cfg := cfg) ?_
    iterate 2 refine stp (fun _ h => s0 h) ?_
    refine stp (fun _ h => sm h) ?_
    refine stp (fun _ h => s0 h) ?_
    refine aops_nil ?_
    refine AW.ret ?_
    refine ⟨.inr rfl, ?_⟩
    apply Exists.intro
    rw [hN3]
    refine leavesN ?_
    refine leaves_mwp2 (rs := [.tmp 2, .tmp 3]) rfl ?_; simp (config := {failIfUnchanged := false}) [giveL, srcOne, rehome, freezeN, sub, upd, opn, aLoad, loadL, giveOne, reify, reifyL, readL, readOne, Mwp, M.bind, Mem.set, setAt, cellsL, hG, f0, f4, f5, o4]
    all_goals exact ⟨List.take_of_length_le (by simp), rfl⟩
end Go.Vai.WK
set_option linter.unusedSimpArgs false
set_option linter.unusedVariables false
namespace Go.Vai.WK
structure Wk where
 s : Int
 f : Int
 l : Int
 gen : Int
 mark : Int
 next : Int
 broken : Bool
structure HasW (G : List (List AV)) (w : Nat) (dp : AV) (x : Wk) : Prop where
 hx : G[w]? = some [dp, i64 x.s, i64 x.f, i64 x.l, i64 x.gen, i64 x.mark, i64 x.next, .b x.broken]
end Go.Vai.WK
set_option linter.unusedSimpArgs false
set_option linter.unusedVariables false
namespace Go.Vai.WK
open Go.Vai.DK
structure HasB (G : List (List AV)) (w d is iw : Nat) (x : Wk) (y : Dk) : Prop where
 hx : G[w]? = some [.gp d 0, i64 x.s, i64 x.f, i64 x.l, i64 x.gen, i64 x.mark, i64 x.next, .b x.broken]
 hD : HasD G d is iw y
def wkC (d : Nat) (x : Wk) : List AV := [.gp d 0, i64 x.s, i64 x.f, i64 x.l, i64 x.gen, i64 x.mark, i64 x.next, .b x.broken]
def wrB (G : List (List AV)) (w d is iw : Nat) (x : Wk) (y : Dk) : List (List AV) := (wrD G d is iw y).set w (wkC d x)
section
variable {G : List (List AV)} {w d is iw : Nat} {x x' : Wk} {y y' : Dk}
theorem HasB.hW (h : HasB G w d is iw x y) : HasW G w (.gp d 0) x := ⟨h.hx⟩
theorem HasB.ne (h : HasB G w d is iw x y) : w ≠ d ∧ w ≠ is ∧ w ≠ iw := by
 refine ⟨?_, ?_, ?_⟩
 ·rintro rfl; have := h.hx.symm.trans h.hD.hd; simp at this
 ·rintro rfl; have := h.hx.symm.trans h.hD.hs; simp at this
 ·rintro rfl; have := h.hx.symm.trans h.hD.hw; simp at this
theorem HasB.lt (h : HasB G w d is iw x y) : w < G.length := (List.getElem?_eq_some_iff.1 h.hx).1
theorem hasD_set {c : List AV} (h : HasD G d is iw y) (h1 : w ≠ d) (h2 : w ≠ is) (h3 : w ≠ iw) : HasD (G.set w c) d is iw y :=
 ⟨by rw [List.getElem?_set_ne h1]; exact h.hd, by rw [List.getElem?_set_ne h2]; exact h.hs, by rw [List.getElem?_set_ne h3]; exact h.hw, h.ni⟩
theorem wb_has (h : HasB G w d is iw x y) : HasB (wrB G w d is iw x' y') w d is iw x' y' := by
 obtain ⟨n1, n2, n3⟩ := h.ne
 refine ⟨?_, hasD_set (wr_has h.hD) n1 n2 n3⟩
 rw [wrB, List.getElem?_set_self (by rw [wr_len]; exact h.lt)]; rfl
theorem wb_self (h : HasB G w d is iw x y) : wrB G w d is iw x y = G := by
 rw [wrB, wr_self h.hD]
 exact set_same h.hx
theorem wrD_set {c : List AV} (h1 : w ≠ d) (h2 : w ≠ is) (h3 : w ≠ iw) : wrD (G.set w c) d is iw y = (wrD G d is iw y).set w c := by
 simp only [wrD]
 rw [List.set_comm _ _ h1, List.set_comm _ _ h2, List.set_comm _ _ h3]
theorem wb_D (h : HasB G w d is iw x y) {z : Dk} : wrD (wrB G w d is iw x' y') d is iw z = wrB G w d is iw x' z := by
 obtain ⟨n1, n2, n3⟩ := h.ne
 rw [wrB, wrD_set n1 n2 n3, wr_wr h.hD]; rfl
theorem wb_set {z : Wk} : (wrB G w d is iw x' y').set w [.gp d 0, i64 z.s, i64 z.f, i64 z.l, i64 z.gen, i64 z.mark, i64 z.next, .b z.broken] = wrB G w d is iw z y' := by
 rw [wrB, List.set_set]; rfl
theorem wb_len : (wrB G w d is iw x y).length = G.length := by rw [wrB, List.length_set, wr_len]
theorem wb_raw (h : HasB G w d is iw x y) {b : Bool} {z : Dk} : (wrD (wrB G w d is iw x' y') d is iw z).set w [.gp d 0, i64 x'.s, i64 x'.f, i64 x'.l, i64 x'.gen, i64 x'.mark, i64 x'.next, .b b] = wrB G w d is iw { x' with broken := b } z := by
 rw [wb_D h]; exact wb_set (z := { x' with broken := b })
end
abbrev PSl := List (Bool × List (BitVec 8))
def wrF (y : Dk) (fr : Int) : PSl → Dk × Int
 | [] => (fluX y, fluE y)
 | b :: l => if wriE y fr b.2 ≠ 0 then (wriX y fr b.2, wriE y fr b.2) else wrF (wriX y fr b.2) (fr + 1) l
def wrS (y : Dk) (fr : Int) (l : PSl) : Nat → Dk
 | 0 => y
 | k + 1 => match l[k]? with
  | some b => wriX (wrS y fr l k) (fr + k) b.2
  | none => wrS y fr l k
theorem wrS_next {y : Dk} {fr : Int} {l : PSl} {k : Nat} (h : k < l.length) : wrS y fr l (k + 1) = wriX (wrS y fr l k) (fr + k) l[k].2 := by
 rw [wrS, List.getElem?_eq_getElem h]
theorem wrF_go {y : Dk} {fr : Int} {l : PSl} {k : Nat} (h : k < l.length) (h0 : wrF y fr l = wrF (wrS y fr l k) (fr + k) (l.drop k)) (h1 : ¬ wriE (wrS y fr l k) (fr + k) l[k].2 ≠ 0) :
  wrF y fr l = wrF (wrS y fr l (k + 1)) (fr + ((k + 1 : Nat) : Int)) (l.drop (k + 1)) := by
 rw [h0, List.drop_eq_getElem_cons h, wrF, if_neg h1, wrS_next h]
 congr 1; omega
theorem wrF_brk {y : Dk} {fr : Int} {l : PSl} {k : Nat} (h : k < l.length) (h0 : wrF y fr l = wrF (wrS y fr l k) (fr + k) (l.drop k)) (h1 : wriE (wrS y fr l k) (fr + k) l[k].2 ≠ 0) :
  wrF y fr l = (wriX (wrS y fr l k) (fr + k) l[k].2, wriE (wrS y fr l k) (fr + k) l[k].2) := by
 rw [h0, List.drop_eq_getElem_cons h, wrF, if_pos h1]
theorem wrF_end {y : Dk} {fr : Int} {l : PSl} (h0 : wrF y fr l = wrF (wrS y fr l l.length) (fr + (l.length : Int)) (l.drop l.length)) : wrF y fr l = (fluX (wrS y fr l l.length), fluE (wrS y fr l l.length)) := by
 rw [h0, List.drop_length, wrF]
theorem wrS_fine {y : Dk} {fr : Int} {l : PSl} (h : Fine y) : ∀ k, Fine (wrS y fr l k)
 | 0 => h
 | k + 1 => by
  rw [wrS]; split
  ·exact wri_fine (wrS_fine h k)
  ·exact wrS_fine h k
theorem wrF_fine : ∀ {l : PSl} {y : Dk} {fr : Int}, Fine y → Fine (wrF y fr l).1
 | [], _, _, h => flu_fine h
 | b :: l, y, fr, h => by
  rw [wrF]; split
  ·exact wri_fine h
  ·exact wrF_fine (wri_fine h)
end Go.Vai.WK
namespace Go.Vai.WK
open Go.Proofs Go.Vai Go.Vai.DK Go.Vai.G Go.Vai.L Go.Vai.MP Go.Vai.O Go.Vai.RC Go.Vai.S7 Go.Vai.U Go.Vai.V Go.Vai.Z
set_option linter.unusedSimpArgs false
set_option linter.unusedVariables false
set_option maxHeartbeats 4000000
set_option maxRecDepth 100000
open Go.Vai.DK Go.Vai.U Go.Vai.V Go.Vai.S7 Go.Vai.RC Go.Vai.G
attribute [simp] noPtr_ps noPtrL_ps
theorem good_writeW (G : List (List AV)) (w d is iw : Nat) (x : Wk) (y : Dk) (hB : HasB G w d is iw x y) (hF : Fine y) (fr : Int) (hfr : 0 ≤ fr ∧ fr ≤ 100000) (nil : Bool) (l : List (Bool × List (BitVec 8))) (hl : l.length ≤ 1000) (pl : ∀ p ∈ l, p.2.length ≤ 1000000 ∧ (p.1 = true → p.2 = [])) : Good Tryz.prog 47 [(.gp w 0, false), (i64 fr, false), (.sl 1 nil (l.map pslice), false)] G [(i64 (wrF y fr l).2, false)] (wrB G w d is iw { x with broken := decide ((wrF y fr l).2 ≠ 0) } (wrF y fr l).1) := by
  refine good_of_body2 45 Tryz.func47 rfl rfl rfl (by simp) ?_
  intro s m ha hr hv hG
  have f0 : s 0 = .v (.gp w 0) := ha 0 _ rfl
  have f1 : s 1 = .v (i64 fr) := ha 1 _ rfl
  have f2 : s 2 = .v (.sl 1 nil (l.map pslice)) := ha 2 _ rfl
  clear ha
  have hc : True := trivial
  have F := (And.intro f0 (And.intro f1 (And.intro f2 hG)))
  refine AW.seq ?_
  refine AW.region (cfg := cfg) ?_
  refine stp (fun _ h => s0 h) ?_
  refine aops_nil ?_
  refine AW.seq ?_
  refine AW.seq ?_
  refine AW.region (cfg := cfg) ?_
  refine stp (fun _ h => s0 h) ?_
  refine stp (fun _ h => sd h) ?_
  refine stp (fun _ h => s0 h) ?_
  refine aops_nil ?_
  refine AW.block ?_
  refine AW.forN (fun k σ => ∃ s m, σ = ⟨45, s, m⟩ ∧ s 0 = .v (.gp w 0) ∧ s 1 = .v (i64 fr) ∧ s 11 = .v (.sl 1 nil (l.map pslice)) ∧ s 12 = .v (i64 (l.length : Int)) ∧ s 13 = .v (i64 (k : Int)) ∧ (wrF y fr l = wrF (wrS y fr l k) (fr + k) (l.drop k)) ∧ (∀ i, (m.objs (.res i)).2 = .dead) ∧ m.G = (wrB G w d is iw x (wrS y fr l k))) (l.length) ?_ ?_ ?_
  · refine ⟨_, _, rfl, ?_, ?_, ?_, ?_, ?_, ?_, (by intro i; simp [Mem.set, hr]), (by exact hG.trans (wb_self hB).symm)⟩ <;> try simp (disch := first | omega | decide) only [go_sem, F, aIndex_map]
    all_goals first | rfl | (simp [wrS]; done)
  · clear F f0 f1 f2 hr hG
    rintro k σ hk ⟨s, m, rfl, f0, f1, f11, f12, f13, mo0, hr, hG⟩
    have F := (And.intro f0 (And.intro f1 (And.intro f11 (And.intro f12 (And.intro f13 hG)))))
    refine AW.seq ?_
    refine AW.region (cfg := cfg) ?_
    refine stp (fun _ h => s0 h) ?_
    refine aops_nil ?_
    refine AW.seq ?_
    refine cnd (fun hb => ?ht1) (fun hb => ?hf1)
    case hf1 => (simp at hb; omega)
    case ht1 =>
    have hbt14 := hb
    refine AW.skip ?_
    refine AW.seq ?_
    refine AW.block ?_
    refine AW.seq ?_
    have hkl : k < l.length := by assumption
    obtain ⟨pk1, pk2⟩ := pl _ (List.getElem_mem hkl)
    have hFk := wrS_fine (fr := fr) (l := l) hF (k)
    have hbk := wb_has (x' := x) (y' := (wrS y fr l k)) hB
    have gxk := hbk.hx
    have gak := hFk.a
    refine AW.region (cfg := cfg) ?_
    refine stp (fun _ h => s0 h) ?_
    refine stp (fun _ h => si h) ?_
    refine stp (fun _ h => sl h) ?_
    iterate 2 refine stp (fun _ h => s0 h) ?_
    refine aops_nil ?_
    refine AW.seq ?_
    refine AW.region (cfg := cfg) ?_
    refine stp (fun _ h => s0 h) ?_
    refine stp (fun _ h => sd h) ?_
    refine stp (fun _ h => sx h) ?_
    refine stp (fun _ h => sl h) ?_
    iterate 2 refine stp (fun _ h => s0 h) ?_
    refine stp (fun _ h => sd h) ?_
    refine stp (fun _ h => s0 h) ?_
    refine stp (fun _ h => cg (w := DK.good_WriteG (wrB G w d is iw x (wrS y fr l k)) d is iw (wrS y fr l k) hbk.hD gak (fr + k) l[k].1 l[k].2 pk1 pk2) (x := h)) ?_
    refine stp (fun _ h => s0 h) ?_
    refine aops_nil ?_
    refine AW.seq ?_
    have eS := wrS_next (y := y) (fr := fr) hkl
    have eD := wb_D (x' := x) (y' := (wrS y fr l k)) (z := wriX (wrS y fr l k) (fr + k) l[k].2) hB
    have gb : (wrD (wrB G w d is iw x (wrS y fr l k)) d is iw (wriX (wrS y fr l k) (fr + k) l[k].2))[w]? = _ := (congrArg (fun z => z[w]?) eD).trans (wb_has hB).hx
    refine AW.region (cfg := cfg) ?_
    iterate 2 refine stp (fun _ h => s0 h) ?_
    refine aops_nil ?_
    refine cnd (fun hb => ?ht2) (fun hb => ?hf2)
    case ht2 =>
      have hw28 := hb
      try simp only [bo1, bo2, bo3, bo4, bo5, bo6] at hb
      have hbt28 := hb
      refine AW.seq ?_
      refine AW.region (cfg := cfg) ?_
      refine stp (fun _ h => s0 h) ?_
      refine stp (fun _ h => sd h) ?_
      refine stp (fun _ h => sx h) ?_
      refine stp0 (fun _ h => ss h) ?_
      refine aops_nil ?_
      refine AW.seq ?_
      refine AW.region (cfg := cfg) ?_
      iterate 2 refine stp (fun _ h => s0 h) ?_
      refine aops_nil ?_
      refine AW.ret ?_
      refine ⟨.inr rfl, ?_⟩
      (have eF := wrF_brk hkl mo0 hbt28; rw [eF]; have e0 : decide (wriE (wrS y fr l k) (fr + ↑k) l[k].2 ≠ 0) = true := decide_eq_true hbt28; rw [show decide ((wriX (wrS y fr l k) (fr + ↑k) l[k].2, wriE (wrS y fr l k) (fr + ↑k) l[k].2).2 ≠ 0) = true from e0, ← wb_raw (x' := x) (y' := (wrS y fr l k)) hB])
      refine leaves_tmp1 6 rfl ?_ (by rfl)
      simp (disch := first | omega | decide) only [go_sem, F, aIndex_map]
      all_goals first | done | rfl | trace_state
    case hf2 =>
      have hw28 := hb
      try simp only [bo1, bo2, bo3, bo4, bo5, bo6] at hb
      have hbt28 := hb
      refine AW.skip ?_
      refine AW.region (cfg := cfg) ?_
      refine stp (fun _ h => sd h) ?_
      refine stp (fun _ h => s0 h) ?_
      refine aops_nil ?_
      refine ⟨_, _, rfl, ?_, ?_, ?_, ?_, ?_, ?_, (by intro i; simp [Mem.set, hr]), (by (simp only [mset_G, hG]; rw [eS]; exact eD))⟩ <;> try simp (disch := first | omega | decide) only [go_sem, F, aIndex_map]
      all_goals first | rfl | exact wrF_go hkl mo0 hbt28
  · clear F f0 f1 f2 hr hG
    rintro σ ⟨s, m, rfl, f0, f1, f11, f12, f13, mo0, hr, hG⟩
    have F := (And.intro f0 (And.intro f1 (And.intro f11 (And.intro f12 (And.intro f13 hG)))))
    refine AW.seq ?_
    refine AW.region (cfg := cfg) ?_
    refine stp (fun _ h => s0 h) ?_
    refine aops_nil ?_
    refine AW.seq ?_
    refine cnd (fun hb => ?ht3) (fun hb => ?hf3)
    case ht3 => (simp at hb; done)
    case hf3 =>
    have hbt14 := hb
    refine AW.exit ?_
    refine AW.seq ?_
    have hFl := wrS_fine (fr := fr) (l := l) hF (l.length)
    have hbl := wb_has (x' := x) (y' := (wrS y fr l l.length)) hB
    have gxl := hbl.hx
    have gal := hFl.a
    refine AW.region (cfg := cfg) ?_
    refine stp (fun _ h => s0 h) ?_
    refine stp (fun _ h => sd h) ?_
    refine stp (fun _ h => sx h) ?_
    refine stp (fun _ h => sl h) ?_
    refine stp (fun _ h => cg (w := DK.good_FlushG (wrB G w d is iw x (wrS y fr l l.length)) d is iw (wrS y fr l l.length) hbl.hD hFl) (x := h)) ?_
    refine stp (fun _ h => s0 h) ?_
    refine aops_nil ?_
    refine AW.seq ?_
    have eD := wb_D (x' := x) (y' := (wrS y fr l l.length)) (z := fluX (wrS y fr l l.length)) hB
    have gb : (wrD (wrB G w d is iw x (wrS y fr l l.length)) d is iw (fluX (wrS y fr l l.length)))[w]? = _ := (congrArg (fun z => z[w]?) eD).trans (wb_has hB).hx
    refine AW.region (cfg := cfg) ?_
    iterate 3 refine stp (fun _ h => s0 h) ?_
    refine stp (fun _ h => sd h) ?_
    refine stp (fun _ h => sx h) ?_
    refine stp0 (fun _ h => ss h) ?_
    refine aops_nil ?_
    refine AW.seq ?_
    refine AW.region (cfg := cfg) ?_
    iterate 2 refine stp (fun _ h => s0 h) ?_
    refine aops_nil ?_
    refine AW.ret ?_
    refine ⟨.inr rfl, ?_⟩
    (have eF := wrF_end mo0; rw [eF, ← wb_raw (x' := x) (y' := (wrS y fr l l.length)) hB])
    refine leaves_tmp1 6 rfl ?_ (by rfl)
    simp (disch := first | omega | decide) only [go_sem, F, aIndex_map]
    all_goals first | done | rfl | trace_state
end Go.Vai.WK
