import Derived.Test.YtdoomgohnocecaaM1
import Derived.Shelf.Spec.SlicesInsert
import Derived.Test.YtdoomgohnocecaaVaiE
namespace Go.Vai.DB
open Go.Proofs Go.Vai Go.Vai.D Go.Vai.I Go.Vai.L Go.Vai.N Go.Vai.O
set_option linter.unusedSimpArgs false
set_option linter.unusedVariables false
set_option maxHeartbeats 4000000
set_option maxRecDepth 100000
theorem InsLsa_shift (inf : TypeInfo) (hi0 : Try.prog.info? 50 = some inf) (hsz : inf.size = 3) (b n c i vc : Nat) (ad : Addr) (cs : Array Value) (tb : TypeId) (ca0 : Array Value) (ta : TypeId) (fa : Nat × Nat) (vs : List Value) (w : World) (hi : i < n) (hroom : n + 1 ≤ c) (hc63 : c ≤ 9223372036854775807)
    (hb : w.heap[b]? = some (.cells cs tb (0, 0))) (hcs : c * 3 ≤ cs.size) (hne : ad.block ≠ b) (ha : w.heap[ad.block]? = some (.cells ca0 ta fa)) (hka : ca0.size ≠ 0)
    (hvl : vs.length = 3) (hvs : ∀ j v, vs[j]? = some v → w.cell? (ad.add j) = some v) (h1c : ∀ v ∈ cs.toList.take (n * 3), v.oneCell' = true) (h1v : ∀ v ∈ vs, v.oneCell' = true) :
    Calls Try.prog 71 #[.slice (some ⟨b, 0, none⟩) n c, .int .i64 i, .slice (some ad) 1 vc] w fun e w' =>
      e = .returned (.slice (some ⟨b, 0, none⟩) (n + 1) c) ∧ w' = (w.drew.setRow b (spl cs ((i + 1) * 3) ((cs.toList.take (n * 3)).drop (i * 3)))).setRow b (spl (spl cs ((i + 1) * 3) ((cs.toList.take (n * 3)).drop (i * 3))) (i * 3) vs) := by
  have tS := un22
  have uS' := run_underlying (P := Try.prog) un22
  have t3 : Try.prog.underlying 3 = some (.int .i64) := by kernel_rfl
  have u3' := run_underlying (P := Try.prog) t3
  have zE : ∀ w, (Go.sizeOf 50).run Try.prog w = .ok 3 w := fun w => by rw [run_sizeOf hi0, hsz]
  have hz2 : ¬ ((i : Int) = (n : Int)) := by omega
  have hov : ∀ lb cb, (callFunc 77 #[.slice (some ad) 1 vc, .slice (some ⟨b, (i + 1) * 3, none⟩) lb cb]).run Try.prog w = .ok (.value (.bool false)) w := fun lb cb => by
    rw [run_callFunc_extern Try.func77 (by kernel_rfl) (by kernel_rfl) (by kernel_rfl) (e := Extern.SlicesOverlaps.overlaps #[22, 22] #[4]) (by kernel_rfl),
      run_overlaps_own tS hi0 hne ha hb (by omega) hka]
    rfl
  obtain ⟨mv, hmv⟩ : ∃ mv, mv = (cs.toList.take (n * 3)).drop (i * 3) := ⟨_, rfl⟩
  rw [← hmv]
  have hml : mv.length = (n - i) * inf.size := by rw [hmv, hsz]; simp; omega
  have hcp1 : ∀ ty dc sc, (Builtin.copy_ #[22, 22] ty #[.slice (some ⟨b, (i + 1) * 3, none⟩) (n - i) dc, .slice (some ⟨b, i * 3, none⟩) (n + 1 - i) sc]).run Try.prog w.drew = .ok (goInt (n - i : Nat)) (w.drew.setRow b (spl cs ((i + 1) * 3) mv)) := fun ty dc sc =>
    run_copy_k w.drew 22 22 ty 50 inf mv tS hi0 (n - i) (by simp only [Nat.min_def]; split <;> omega) hml
      (fun j v hj => by
        rw [add_off]
        show w.cell? _ = _
        simp only [World.cell?, hb]
        rw [hmv, List.getElem?_drop, List.getElem?_take] at hj
        split at hj
        · simpa using hj
        · cases hj) hb (by rw [hml, hsz]; omega) (fun v hv => h1c v (by rw [hmv] at hv; exact List.mem_of_mem_drop hv))
  obtain ⟨cs1, hcs1⟩ : ∃ cs1, cs1 = spl cs ((i + 1) * 3) mv := ⟨_, rfl⟩
  rw [← hcs1] at hcp1 ⊢
  have hb1 : (w.drew.setRow b cs1).heap[b]? = some (.cells cs1 tb (0, 0)) := setRow_heap w.drew b cs cs1 tb (0, 0) hb
  have hs1 : cs1.size = cs.size := by rw [hcs1]; exact spl_size (by rw [hml, hsz]; omega)
  have hcp2 : ∀ ty dc, (Builtin.copy_ #[22, 22] ty #[.slice (some ⟨b, i * 3, none⟩) (n + 1 - i) dc, .slice (some ad) 1 vc]).run Try.prog (w.drew.setRow b cs1) = .ok (goInt (1 : Nat)) ((w.drew.setRow b cs1).setRow b (spl cs1 (i * 3) vs)) := fun ty dc =>
    run_copy_k _ 22 22 ty 50 inf vs tS hi0 1 (by simp only [Nat.min_def]; split <;> omega) (by rw [hvl, hsz])
      (fun j v hj => by
        have e : (ad.add j).block ≠ b := by rw [add_block]; exact hne
        rw [cell_setRow_other _ _ _ _ e]
        exact hvs j v hj) hb1 (by rw [hvl, hs1]; omega) h1v
  have hw1 : IntKind.i64.wrap ((i : Int) + 1) = (i : Int) + 1 := by rw [IntKind.wrap_i64]; omega
  have hw2 : (0 : Int) ≤ (i : Int) + 1 := by omega
  have hw3 : (i : Int) + 1 ≤ (n : Int) + 1 := by omega
  have hw4 : (i : Int) ≤ (n : Int) + 1 := by omega
  have htn : ((i : Int) + 1).toNat = i + 1 := by omega
  have hin : i ≤ n := by omega
  have hb4 : ¬ (c = i) := by omega
  have hb2 : ¬ (c = i + 1) := by omega
  have hb5 : n + 1 - (i + 1) = n - i := by omega
  have mixed : Try.prog.follows .mixedOrders = true := by kernel_rfl
  clear hcs1 hmv hs1 hml
  go_enter Try.func71, Try.ntmps71
  go_wp2_with (simp only [hov])
  go_region_law_o (refine step_copy_runI rfl _ _ 22 22 rfl _ _ (by simp [Act.eval, Act.put]) (by simp [Act.eval, Act.put]) (hcp1 _ _ _) ?_)
  go_wp2_with (at_builtin; refine wpList_copy_runI _ rfl _ _ 22 22 rfl _ _ rfl rfl (hcp2 _ _) ?_)
  go_ret
  exact ⟨rfl, rfl⟩
theorem InsLsa_end0 (inf : TypeInfo) (hi0 : Try.prog.info? 50 = some inf) (hsz : inf.size = 3) (vc : Nat) (ad : Addr) (w w2 : World) (v2 : Value)
    (hrun : ∀ ty, (Builtin.append_ #[22, 22] ty #[.slice none 0 0, .slice (some ad) 1 vc]).run Try.prog w = .ok v2 w2) :
    Calls Try.prog 71 #[.slice none 0 0, .int .i64 (0 : Nat), .slice (some ad) 1 vc] w fun e w' => e = .returned v2 ∧ w' = w2 := by
  have tS := un22
  have uS' := run_underlying (P := Try.prog) un22
  have t3 : Try.prog.underlying 3 = some (.int .i64) := by kernel_rfl
  have u3' := run_underlying (P := Try.prog) t3
  have zE : ∀ w, (Go.sizeOf 50).run Try.prog w = .ok 3 w := fun w => by rw [run_sizeOf hi0, hsz]
  go_enter Try.func71, Try.ntmps71
  go_wp2_with (at_builtin; refine Lib.wpList_append_run _ rfl _ _ _ _ rfl _ _ rfl rfl _ _ (hrun _) ?_)
  go_ret
  exact ⟨rfl, rfl⟩
theorem InsLsa_end1 (inf : TypeInfo) (hi0 : Try.prog.info? 50 = some inf) (hsz : inf.size = 3) (b n c vc : Nat) (ad : Addr) (w w2 : World) (v2 : Value) (hnc : n ≤ c) (hc63 : c ≤ 9223372036854775807)
    (hrun : ∀ ty, (Builtin.append_ #[22, 22] ty #[.slice (some ⟨b, 0, none⟩) n c, .slice (some ad) 1 vc]).run Try.prog w = .ok v2 w2) :
    Calls Try.prog 71 #[.slice (some ⟨b, 0, none⟩) n c, .int .i64 n, .slice (some ad) 1 vc] w fun e w' => e = .returned v2 ∧ w' = w2 := by
  have tS := un22
  have uS' := run_underlying (P := Try.prog) un22
  have t3 : Try.prog.underlying 3 = some (.int .i64) := by kernel_rfl
  have u3' := run_underlying (P := Try.prog) t3
  have zE : ∀ w, (Go.sizeOf 50).run Try.prog w = .ok 3 w := fun w => by rw [run_sizeOf hi0, hsz]
  go_enter Try.func71, Try.ntmps71
  go_wp2_with (at_builtin; refine Lib.wpList_append_run _ rfl _ _ _ _ rfl _ _ rfl rfl _ _ (hrun _) ?_)
  all_goals (go_ret; exact ⟨rfl, rfl⟩)
theorem InsLsa_grow (inf : TypeInfo) (hi0 : Try.prog.info? 50 = some inf) (hsz : inf.size = 3) (b n c i vc G : Nat) (ad : Addr) (cs ROW : Array Value) (tb : TypeId) (vs : List Value) (w : World) (hi : i < n) (hnc : n ≤ c) (hroom : c < n + 1) (hc63 : c ≤ 9223372036854775807) (hG : n + 1 ≤ G) (hG63 : G ≤ 9223372036854775807)
    (hb : w.heap[b]? = some (.cells cs tb (0, 0))) (hcs : n * 3 ≤ cs.size) (hav : ad.block ≠ w.heap.size)
    (hvl : vs.length = 3) (hvs : ∀ j v, vs[j]? = some v → w.cell? (ad.add j) = some v) (h1c : ∀ v ∈ cs.toList.take (n * 3), v.oneCell' = true) (h1v : ∀ v ∈ vs, v.oneCell' = true)
    (hrun : ∀ ty, (Builtin.append_ #[22, 3] ty #[.slice (some ⟨b, 0, none⟩) i c, .int .i64 ((n : Int) + 1 - (i : Int))]).run Try.prog w = .ok (.slice (some ⟨w.heap.size, 0, none⟩) (n + 1) G) (w.drew.alloc (.cells ROW 50))) (hrow : (n + 1) * 3 ≤ ROW.size) :
    Calls Try.prog 71 #[.slice (some ⟨b, 0, none⟩) n c, .int .i64 i, .slice (some ad) 1 vc] w fun e w' =>
      e = .returned (.slice (some ⟨w.heap.size, 0, none⟩) (n + 1) G) ∧
      w' = (((w.drew.alloc (.cells ROW 50)).setRow w.heap.size (spl ROW (i * 3) vs)).drew).setRow w.heap.size (spl (spl ROW (i * 3) vs) ((i + 1) * 3) ((cs.toList.take (n * 3)).drop (i * 3))) := by
  have tS := un22
  have uS' := run_underlying (P := Try.prog) un22
  have t3 : Try.prog.underlying 3 = some (.int .i64) := by kernel_rfl
  have u3' := run_underlying (P := Try.prog) t3
  have zE : ∀ w, (Go.sizeOf 50).run Try.prog w = .ok 3 w := fun w => by rw [run_sizeOf hi0, hsz]
  have hz2 : ¬ ((i : Int) = (n : Int)) := by omega
  have hz3 : (c : Int) < (n : Int) + 1 := by omega
  obtain ⟨mv, hmv⟩ : ∃ mv, mv = (cs.toList.take (n * 3)).drop (i * 3) := ⟨_, rfl⟩
  rw [← hmv]
  have hml : mv.length = (n - i) * inf.size := by rw [hmv, hsz]; simp; omega
  have hbw : b < w.heap.size := (Array.getElem?_eq_some_iff.1 hb).1
  have hbN : b ≠ w.heap.size := by omega
  obtain ⟨N, hN⟩ : ∃ N, N = w.heap.size := ⟨_, rfl⟩
  obtain ⟨W1, hW1⟩ : ∃ W1, W1 = w.drew.alloc (.cells ROW 50) := ⟨_, rfl⟩
  have hbA : W1.heap[N]? = some (.cells ROW 50 (0, 0)) := by rw [hW1, hN]; exact alloc_new w.drew _
  have hbB : W1.heap[b]? = some (.cells cs tb (0, 0)) := by rw [hW1, alloc_same w.drew _ b hbw (by show b ≠ w.heap.size; omega)]; exact hb
  rw [← hW1, ← hN] at hrun ⊢
  rw [← hN] at hav hbN
  have hcpA : ∀ ty dc, (Builtin.copy_ #[22, 22] ty #[.slice (some ⟨N, i * 3, none⟩) (n + 1 - i) dc, .slice (some ad) 1 vc]).run Try.prog W1 = .ok (goInt (1 : Nat)) (W1.setRow N (spl ROW (i * 3) vs)) := fun ty dc =>
    run_copy_k _ 22 22 ty 50 inf vs tS hi0 1 (by simp only [Nat.min_def]; split <;> omega) (by rw [hvl, hsz])
      (fun j v hj => by
        have h := hvs j v hj
        have hlt : (ad.add j).block < w.drew.heap.size := by
          simp only [World.cell?] at h
          split at h
          · exact (Array.getElem?_eq_some_iff.1 (by assumption)).1
          · cases h
        rw [hW1]
        exact (cell_same (w := w) (w' := w.drew.alloc (.cells ROW 50)) (alloc_same w.drew _ _ hlt (by omega))).trans h) hbA (by omega) h1v
  obtain ⟨R2, hR2⟩ : ∃ R2, R2 = spl ROW (i * 3) vs := ⟨_, rfl⟩
  rw [← hR2] at hcpA ⊢
  have hs2 : R2.size = ROW.size := by rw [hR2]; exact spl_size (by omega)
  have hbC : (W1.setRow N R2).drew.heap[N]? = some (.cells R2 50 (0, 0)) := setRow_heap W1 N ROW R2 50 (0, 0) hbA
  have hbD : (W1.setRow N R2).drew.heap[b]? = some (.cells cs tb (0, 0)) := (setRow_other W1 N b R2 hbN).trans hbB
  have hcpB : ∀ ty dc sc, (Builtin.copy_ #[22, 22] ty #[.slice (some ⟨N, (i + 1) * 3, none⟩) (n - i) dc, .slice (some ⟨b, i * 3, none⟩) (n - i) sc]).run Try.prog (W1.setRow N R2).drew = .ok (goInt (n - i : Nat)) ((W1.setRow N R2).drew.setRow N (spl R2 ((i + 1) * 3) mv)) := fun ty dc sc =>
    run_copy_k _ 22 22 ty 50 inf mv tS hi0 (n - i) (by simp only [Nat.min_def]; split <;> omega) hml
      (fun j v hj => by
        rw [add_off]
        simp only [World.cell?, hbD]
        rw [hmv, List.getElem?_drop, List.getElem?_take] at hj
        split at hj
        · simpa using hj
        · cases hj) hbC (by rw [hml, hsz]; omega) (fun v hv => h1c v (by rw [hmv] at hv; exact List.mem_of_mem_drop hv))
  have hw1 : IntKind.i64.wrap ((i : Int) + 1) = (i : Int) + 1 := by rw [IntKind.wrap_i64]; omega
  have hw5 : IntKind.i64.wrap ((n : Int) + 1) = (n : Int) + 1 := by rw [IntKind.wrap_i64]; omega
  have hw6 : IntKind.i64.wrap ((n : Int) + 1 - (i : Int)) = (n : Int) + 1 - (i : Int) := by rw [IntKind.wrap_i64]; omega
  have hw2 : (0 : Int) ≤ (i : Int) + 1 := by omega
  have hw3 : (i : Int) + 1 ≤ (n : Int) + 1 := by omega
  have hw4 : (i : Int) ≤ (n : Int) + 1 := by omega
  have htn : ((i : Int) + 1).toNat = i + 1 := by omega
  have hin : i ≤ n := by omega
  have hic : (i : Int) ≤ (c : Int) := by omega
  have hb4 : ¬ (c = i) := by omega
  have hGi : ¬ (G = i) := by omega
  have hGim : ¬ (G = i + 1) := by omega
  have hb5 : n + 1 - (i + 1) = n - i := by omega
  have mixed : Try.prog.follows .mixedOrders = true := by kernel_rfl
  clear hR2 hmv hs2 hml hN hW1 hbA hbB hbC hbD hrow hcs
  go_enter Try.func71, Try.ntmps71
  go_wp2_with (first
    | (at_builtin; refine Lib.wpList_append_run _ rfl _ _ _ _ rfl _ _ rfl rfl _ _ (hrun _) ?_)
    | (at_builtin; refine wpList_copy_runI _ rfl _ _ 22 22 rfl _ _ rfl rfl (hcpA _ _) ?_)
    | (at_builtin; refine wpList_copy_runI _ rfl _ _ 22 22 rfl _ _ rfl rfl (hcpB _ _ _) ?_))
  go_region_law_o (refine step_copy_runI rfl _ _ 22 22 rfl _ _ (by simp [Act.eval, Act.put]) (by simp [Act.eval, Act.put]) (hcpB _ _ _) ?_)
  go_wp2
  go_ret
  exact ⟨rfl, rfl⟩
theorem runs_InsLsa : InsRuns Try.prog 71 22 3 50 3 := by
  have ti := tiOf_ok ti50
  obtain ⟨inf, z', dd, k1, k2, k3, k0, k4, k10, k5, k6, k7, k8, k9⟩ := ti.info
  have hsz : inf.size = 3 := k5.symm
  exact ⟨fun b n c i vc ad cs tb ca0 ta fa vs w h1 h2 h3 h4 h5 h6 h7 h8 h9 h10 h11 h12 => InsLsa_shift inf k1 hsz b n c i vc ad cs tb ca0 ta fa vs w h1 h2 h3 h4 h5 h6 h7 h8 h9 h10 h11 h12,
    fun vc ad w w2 v2 h => InsLsa_end0 inf k1 hsz vc ad w w2 v2 h, fun b n c vc ad w w2 v2 h1 h2 h => InsLsa_end1 inf k1 hsz b n c vc ad w w2 v2 h1 h2 h,
    fun b n c i vc G ad cs ROW tb vs w h1 h2 h3 h4 h5 h6 h7 h8 h9 h10 h11 h12 h13 h14 h15 => InsLsa_grow inf k1 hsz b n c i vc G ad cs ROW tb vs w h1 h2 h3 h4 h5 h6 h7 h8 h9 h10 h11 h12 h13 h14 h15⟩
theorem good_InsLsa (nil : Bool) (l : List Lsa) (y : Lsa) (i : Nat) (hi : i ≤ l.length) (hl : l.length ≤ 1000000) :
    Good Try.prog 71 [(.sl 3 nil (l.map lsaA), true), (i64 i, false), (.sl 3 false [lsaA y], false)] [] [(.sl 3 false ((l.take i ++ [y] ++ l.drop i).map lsaA), true)] [] := by
  have h := good_insert (tiOf_ok ti50) un22 (by kernel_rfl) ⟨_, _, Try.func71, rfl, rfl⟩ runs_InsLsa nil (l.map lsaA) (lsaA y) i (by simpa using hi) (by rw [List.length_map]; simp only [roomB]; omega)
  simpa only [List.map_append, List.map_take, List.map_drop, List.map_cons, List.map_nil] using h
end Go.Vai.DB
namespace Go.Vai.DB
open Go.Proofs Go.Vai Go.Vai.D Go.Vai.I Go.Vai.L Go.Vai.N Go.Vai.O
set_option linter.unusedSimpArgs false
set_option linter.unusedVariables false
theorem good_CopyX (x : Lsa) (h : fit x) : Good Try.prog 49 [(lsaA x, false)] [] [(lsaA x, false)] [] := L.good_Copy x (by have := h.1; omega) (by have := h.1; omega) h.2
end Go.Vai.DB
namespace Go.Vai.DB
open Go.Proofs Go.Vai Go.Vai.D Go.Vai.I Go.Vai.L Go.Vai.N Go.Vai.O
set_option linter.unusedSimpArgs false
set_option linter.unusedVariables false
end Go.Vai.DB
namespace Go.Vai.DB
open Go.Proofs Go.Vai Go.Vai.D Go.Vai.I Go.Vai.L Go.Vai.N Go.Vai.O
set_option linter.unusedSimpArgs false
set_option linter.unusedVariables false
theorem dfS_len {p : It → Bool} {l : List It} {a k : Nat} : (dfS p l a k).1.length = l.length := (df_len p l a k).1
attribute [simp] dfS_len
attribute [go_sem] dfS_len
end Go.Vai.DB
namespace Go.Vai.DB
open Go.Proofs Go.Vai Go.Vai.D Go.Vai.I Go.Vai.L Go.Vai.N Go.Vai.O
set_option linter.unusedSimpArgs false
set_option linter.unusedVariables false
def moreS (l : List Lsa) (y : It) : Bool := decide (sqL l y.o = 0) || decide (y.s > sqL l y.o)
def lackS (x : List It) (y : Lsa) : Bool := !hasI x (itm y)
def hasF (y : Lsa) (z : It) : Bool := decide (z.o = y.o) && decide (z.s ≥ y.s)
end Go.Vai.DB
namespace Go.Vai.DB
open Go.Proofs Go.Vai Go.Vai.D Go.Vai.I Go.Vai.L Go.Vai.N Go.Vai.O
set_option linter.unusedSimpArgs false
set_option linter.unusedVariables false
set_option maxHeartbeats 4000000
set_option maxRecDepth 100000
theorem good_refAllDb (na nb : Bool) (a b : List Lsa) (ha : a.length ≤ 9223372036854775807) (hb : b.length ≤ 9223372036854775807) (pa : ∀ x ∈ a, fit x) (pb : ∀ x ∈ b, fit x) : Good Try.prog 32 [(.sl 3 na (a.map lsaA), false), (.sl 3 nb (b.map lsaA), false)] [] [(.b (eqAll lsaEq a b), false)] [] := by
  refine good_of_body2 27 Try.func32 rfl rfl rfl (by simp) ?_
  intro s m ha hr hv hG
  have f0 : s 0 = .v (.sl 3 na (a.map lsaA)) := ha 0 _ rfl
  have f1 : s 1 = .v (.sl 3 nb (b.map lsaA)) := ha 1 _ rfl
  clear ha
  have hc : True := trivial
  have F := (And.intro f0 (And.intro f1 hG))
  refine AW.seq ?_
  refine AW.region (cfg := cfg) ?_
  refine stp (fun _ h => s0 h) ?_
  refine aops_nil ?_
  refine AW.seq ?_
  refine AW.seq ?_
  refine AW.region (cfg := cfg) ?_
  refine stp (fun _ h => s0 h) ?_
  refine stp (fun _ h => sd h) ?_
  refine stp (fun _ h => s0 h) ?_
  refine stp (fun _ h => sd h) ?_
  refine stp (fun _ h => s0 h) ?_
  refine aops_nil ?_
  refine cnd (fun hb => ?ht1) (fun hb => ?hf1)
  case ht1 =>
    have hw10 := hb
    try simp only [bo1, bo2, bo3, bo4, bo5, bo6] at hb
    have hbt10 := hb
    refine AW.seq ?_
    refine AW.region (cfg := cfg) ?_
    refine stp (fun _ h => s0 h) ?_
    refine aops_nil ?_
    refine AW.ret ?_
    refine ⟨.inr rfl, ?_⟩
    refine leaves_tmp1 4 rfl ?_ (by exact hG)
    simp (disch := first | omega | decide) only [go_sem, F, aIndex_map]
    all_goals (rw [eqAll_len (by omega)]; done)
  case hf1 =>
    have hw10 := hb
    try simp only [bo1, bo2, bo3, bo4, bo5, bo6] at hb
    have hbt10 := hb
    refine AW.skip ?_
    refine AW.seq ?_
    refine AW.seq ?_
    refine AW.region (cfg := cfg) ?_
    refine stp (fun _ h => s0 h) ?_
    refine aops_nil ?_
    refine AW.block ?_
    refine AW.forN (fun k σ => ∃ s m, σ = ⟨27, s, m⟩ ∧ s 0 = .v (.sl 3 na (a.map lsaA)) ∧ s 1 = .v (.sl 3 nb (b.map lsaA)) ∧ s 5 = .v (i64 (k : Int)) ∧ (a.length = b.length) ∧ (((a.zip b).take k).all (fun p => lsaEq p.1 p.2) = true) ∧ m.G = []) (a.length) ?_ ?_ ?_
    · refine ⟨_, _, rfl, ?_, ?_, ?_, ?_, ?_, (by exact hG)⟩ <;> try simp (disch := first | omega | decide) only [go_sem, F, aIndex_map]
      all_goals first | rfl | omega
    · clear F f0 f1 hG
      rintro k σ hk ⟨s, m, rfl, f0, f1, f5, mo0, mo1, hG⟩
      have F := (And.intro f0 (And.intro f1 (And.intro f5 hG)))
      refine AW.seq ?_
      refine AW.seq ?_
      refine AW.region (cfg := cfg) ?_
      iterate 2 refine stp (fun _ h => s0 h) ?_
      refine stp (fun _ h => sd h) ?_
      refine stp (fun _ h => s0 h) ?_
      refine aops_nil ?_
      refine cnd (fun hb => ?ht2) (fun hb => ?hf2)
      case hf2 => (simp at hb; omega)
      case ht2 =>
      have hbt14 := hb
      refine AW.skip ?_
      refine AW.seq ?_
      refine AW.block ?_
      refine AW.seq ?_
      have hka : k < a.length := by assumption
      have hkb : k < b.length := by omega
      have pka := pa a[k] (List.getElem_mem hka)
      have pkb := pb b[k] (List.getElem_mem hkb)
      refine AW.draw (cfg := cfg) (by kernel_rfl) (by kernel_rfl) (by kernel_rfl) ?_
      iterate 2 refine dstp (fun _ h => s0 h) ?_
      refine dstp (fun _ h => si h) ?_
      refine dstp (fun _ h => sl h) ?_
      iterate 2 refine dstp (fun _ h => s0 h) ?_
      refine dstp (fun _ h => si h) ?_
      refine dstp (fun _ h => sl h) ?_
      refine dstp (fun _ h => cs (w := L.good_refSame a[k] (by have := pka.1; omega) b[k] (by have := pkb.1; omega)) (x := h)) ?_
      refine dstp (fun _ h => s0 h) ?_
      refine adraw_nil (by kernel_rfl) ?_
      refine cnd (fun hb => ?ht3) (fun hb => ?hf3)
      case ht3 =>
        have hw26 := hb
        try simp only [bo1, bo2, bo3, bo4, bo5, bo6] at hb
        have hbt26 := hb
        refine AW.seq ?_
        refine AW.region (cfg := cfg) ?_
        refine stp (fun _ h => s0 h) ?_
        refine aops_nil ?_
        refine AW.ret ?_
        refine ⟨.inr rfl, ?_⟩
        refine leaves_tmp1 4 rfl ?_ (by exact hG)
        simp (disch := first | omega | decide) only [go_sem, F, aIndex_map]
        all_goals (rw [eqAll_at mo0 hk hb]; done)
      case hf3 =>
        have hw26 := hb
        try simp only [bo1, bo2, bo3, bo4, bo5, bo6] at hb
        have hbt26 := hb
        refine AW.skip ?_
        refine AW.region (cfg := cfg) ?_
        refine stp (fun _ h => s0 h) ?_
        refine stp (fun _ h => sd h) ?_
        refine stp (fun _ h => s0 h) ?_
        refine aops_nil ?_
        refine ⟨_, _, rfl, ?_, ?_, ?_, ?_, ?_, (by exact hG)⟩ <;> try simp (disch := first | omega | decide) only [go_sem, F, aIndex_map]
        all_goals first | rfl | assumption | exact eqAll_step mo0 hk mo1 hb
    · clear F f0 f1 hG
      rintro σ ⟨s, m, rfl, f0, f1, f5, mo0, mo1, hG⟩
      have F := (And.intro f0 (And.intro f1 (And.intro f5 hG)))
      refine AW.seq ?_
      refine AW.seq ?_
      refine AW.region (cfg := cfg) ?_
      iterate 2 refine stp (fun _ h => s0 h) ?_
      refine stp (fun _ h => sd h) ?_
      refine stp (fun _ h => s0 h) ?_
      refine aops_nil ?_
      refine cnd (fun hb => ?ht4) (fun hb => ?hf4)
      case ht4 => (simp at hb; done)
      case hf4 =>
      have hbt14 := hb
      refine AW.exit ?_
      refine AW.seq ?_
      refine AW.region (cfg := cfg) ?_
      refine stp (fun _ h => s0 h) ?_
      refine aops_nil ?_
      refine AW.ret ?_
      refine ⟨.inr rfl, ?_⟩
      refine leaves_tmp1 4 rfl ?_ (by exact hG)
      simp (disch := first | omega | decide) only [go_sem, F, aIndex_map]
      all_goals (rw [eqAll_end mo0 mo1]; done)
end Go.Vai.DB
set_option linter.unusedSimpArgs false
set_option linter.unusedVariables false
namespace Go.Vai.O
structure PutS where
 nb : Bool
 b : List (BitVec 8)
 w : Int
 n : Int
 nt : Bool
 t : List (BitVec 8)
def putA (p : PutS) : AV := .agg [.sl 1 p.nb (bsl p.b), .i .i64 p.w, .i .u64 p.n, .sl 1 p.nt (bsl p.t)]
def okPut (p : PutS) : Prop := 1 ≤ p.w ∧ p.w ≤ 8 ∧ p.t.length ≤ 300
def enc1 (p : PutS) : List (BitVec 8) := numR p.n p.w.toNat ++ (numR (p.t.length : Int) 2 ++ p.t)
def enc (l : List PutS) : List (BitVec 8) := l.flatMap enc1
theorem byteAt_toNat (n : Int) (i : Nat) : ((byteAt n i).toNat : Int) = n / 2 ^ (8 * i) % 256 := by
 unfold byteAt
 rw [BitVec.toNat_ofInt]
 have h := Int.emod_nonneg (n / 2 ^ (8 * i)) (show (256 : Int) ≠ 0 by decide)
 show ((((n / 2 ^ (8 * i)) % 256).toNat : Nat) : Int) = _
 omega
theorem numV_cons (c : BitVec 8) : ∀ (b : List (BitVec 8)), numV (c :: b) = (c.toNat : Int) * 256 ^ b.length + numV b := by
 have key : ∀ (b : List (BitVec 8)) (a : Int), b.foldl (fun a c => a * 256 + (c.toNat : Int)) a = a * 256 ^ b.length + b.foldl (fun a c => a * 256 + (c.toNat : Int)) 0 := by
  intro b
  induction b with
  | nil => intro a; simp
  | cons x b ih =>
   intro a
   simp only [List.foldl_cons, List.length_cons]
   rw [ih, ih (0 * 256 + (x.toNat : Int)), Int.pow_succ, Int.add_mul, Int.add_mul]
   simp only [Int.zero_mul, Int.zero_add]
   rw [Int.mul_assoc, Int.mul_comm 256, Int.add_assoc]
 intro b
 simp only [numV, List.foldl_cons]
 rw [key]
 simp
theorem pow_256 (k : Nat) : (2 : Int) ^ (8 * k) = 256 ^ k := by
 rw [Int.pow_mul]; rfl
theorem numV_numR {n : Int} (hn : 0 ≤ n) : ∀ k, numV (numR n k) = n % 2 ^ (8 * k)
 | 0 => by simp [numR, numV, Int.emod_one]
 | k + 1 => by
  rw [numR, numV_cons, numV_numR hn k, numR_length, byteAt_toNat, pow_256, pow_256, Int.pow_succ]
  obtain ⟨m, rfl⟩ := Int.eq_ofNat_of_zero_le hn
  have h1 := congrArg (fun z : Nat => (z : Int)) (Nat.mod_mul (x := m) (a := 256 ^ k) (b := 256))
  simp only [Int.natCast_add, Int.natCast_mul, Int.natCast_emod, Int.natCast_ediv, Int.natCast_pow] at h1
  show (m : Int) / 256 ^ k % 256 * 256 ^ k + (m : Int) % 256 ^ k = (m : Int) % (256 ^ k * 256)
  have h2 : ((256 : Nat) : Int) = 256 := rfl
  rw [h2] at h1
  rw [h1, Int.mul_comm (256 ^ k), Int.add_comm]
theorem num_back {n : Int} (hn : 0 ≤ n) {w : Int} (hw : 1 ≤ w ∧ w ≤ 8) (r : List (BitVec 8)) : rnV (numR n w.toNat ++ r) false w = n % 2 ^ (8 * w.toNat) ∧ rnL (numR n w.toNat ++ r) false w = r ∧ rnW (numR n w.toNat ++ r) false w = false := by
 have hm : mayW w = true := by simp [mayW]; omega
 have hl : ¬ w > ((numR n w.toNat ++ r).length : Int) := by rw [List.length_append, numR_length]; omega
 have ht : (numR n w.toNat ++ r).take w.toNat = numR n w.toNat := by
  rw [List.take_append_of_le_length (by rw [numR_length]; omega), List.take_of_length_le (by rw [numR_length]; omega)]
 have hd : (numR n w.toNat ++ r).drop w.toNat = r := by
  rw [List.drop_append_of_le_length (by rw [numR_length]; omega), List.drop_of_length_le (by rw [numR_length]; omega), List.nil_append]
 refine ⟨?_, ?_, ?_⟩
 ·simp only [rnV, hm, if_true, tkV, Bool.false_eq_true, if_false, if_neg hl]
  rw [ht, numV_numR hn]
 ·simp only [rnL, hm, if_true, tkL, Bool.false_eq_true, if_false, if_neg hl]
  exact hd
 ·simp only [rnW, hm, if_true, tkW, Bool.false_eq_true, if_false]
  exact decide_eq_false hl
end Go.Vai.O
set_option linter.unusedSimpArgs false
set_option linter.unusedVariables false
namespace Go.Vai.L
open Go.Vai.O
theorem lsaB_len (l : Lsa) : (lsaB l).length = 10 + 5 * l.ls.length := by
 simp only [lsaB, List.length_append, numR_length, linksB_len]; omega
theorem back1 {n : Int} (h : 0 ≤ n ∧ n < 256) (r : List (BitVec 8)) : rnV (numR n 1 ++ r) false 1 = n ∧ rnL (numR n 1 ++ r) false 1 = r ∧ rnW (numR n 1 ++ r) false 1 = false := by
 obtain ⟨e1, e2, e3⟩ := num_back (n := n) h.1 (w := 1) (by omega) r
 refine ⟨?_, e2, e3⟩
 have : n % 2 ^ (8 * (1 : Int).toNat) = n := by
  have : (2 : Int) ^ (8 * (1 : Int).toNat) = 256 := rfl
  rw [this]; omega
 rw [this] at e1; exact e1
theorem back4 {n : Int} (h : 0 ≤ n ∧ n < 4294967296) (r : List (BitVec 8)) : rnV (numR n 4 ++ r) false 4 = n ∧ rnL (numR n 4 ++ r) false 4 = r ∧ rnW (numR n 4 ++ r) false 4 = false := by
 obtain ⟨e1, e2, e3⟩ := num_back (n := n) h.1 (w := 4) (by omega) r
 refine ⟨?_, e2, e3⟩
 have : n % 2 ^ (8 * (4 : Int).toNat) = n := by
  have : (2 : Int) ^ (8 * (4 : Int).toNat) = 4294967296 := rfl
  rw [this]; omega
 rw [this] at e1; exact e1
theorem back8 {n : Int} (h : 0 ≤ n ∧ n < 18446744073709551616) (r : List (BitVec 8)) : rnV (numR n 8 ++ r) false 8 = n ∧ rnL (numR n 8 ++ r) false 8 = r ∧ rnW (numR n 8 ++ r) false 8 = false := by
 obtain ⟨e1, e2, e3⟩ := num_back (n := n) h.1 (w := 8) (by omega) r
 refine ⟨?_, e2, e3⟩
 have : n % 2 ^ (8 * (8 : Int).toNat) = n := by
  have : (2 : Int) ^ (8 * (8 : Int).toNat) = 18446744073709551616 := rfl
  rw [this]; omega
 rw [this] at e1; exact e1
theorem linksB_drop {ls : List LinkS} {k : Nat} (h : k < ls.length) (r : List (BitVec 8)) : linksB (ls.drop k) ++ r = numR ls[k].to 1 ++ (numR ls[k].co 4 ++ (linksB (ls.drop (k + 1)) ++ r)) := by
 rw [List.drop_eq_getElem_cons h]
 simp only [linksB, List.flatMap_cons, linkB, List.append_assoc]
theorem links_back {o last : Int} {ls : List LinkS} (h : linksOK o last ls = true) (r : List (BitVec 8)) : ∀ k, k ≤ ls.length → rdLinks (linksB ls ++ r) false k = (ls.take k, linksB (ls.drop k) ++ r, false)
 | 0, _ => by simp [rdLinks]
 | k + 1, hk => by
  have ih := links_back h r k (by omega)
  obtain ⟨b1, b2⟩ := link_bd h (k := k) (by omega)
  rw [rd_next ih, linksB_drop (by omega)]
  obtain ⟨e1, e2, e3⟩ := back1 (n := ls[k].to) (by omega) (numR ls[k].co 4 ++ (linksB (ls.drop (k + 1)) ++ r))
  obtain ⟨f1, f2, f3⟩ := back4 (n := ls[k].co) (by omega) (linksB (ls.drop (k + 1)) ++ r)
  rw [e1, e2, e3, f1, f2, f3, List.take_succ_eq_append_getElem (by omega)]
theorem rd_back {l : Lsa} (h : lsaOK l = true) (r : List (BitVec 8)) : rdP (lsaB l ++ r) false = (l.ls, r, false) ∧ rnV (lsaB l ++ r) false 1 = l.o ∧ rnV (rnL (lsaB l ++ r) false 1) (rnW (lsaB l ++ r) false 1) 8 = l.s := by
 obtain ⟨b1, b2, b3, b4⟩ := lsa_bd h
 have e0 : lsaB l ++ r = numR l.o 1 ++ (numR l.s 8 ++ (numR (l.ls.length : Int) 1 ++ (linksB l.ls ++ r))) := by simp only [lsaB, List.append_assoc]
 obtain ⟨e1, e2, e3⟩ := back1 (n := l.o) (by omega) (numR l.s 8 ++ (numR (l.ls.length : Int) 1 ++ (linksB l.ls ++ r)))
 obtain ⟨f1, f2, f3⟩ := back8 (n := l.s) (by omega) (numR (l.ls.length : Int) 1 ++ (linksB l.ls ++ r))
 obtain ⟨g1, g2, g3⟩ := back1 (n := (l.ls.length : Int)) (by omega) (linksB l.ls ++ r)
 rw [e0]
 refine ⟨?_, e1, by rw [e2, e3, f1]⟩
 unfold rdP hdL hdW hdN
 rw [e2, e3, f2, f3, g1, g2, g3, Int.toNat_natCast, links_back b4 r _ (Nat.le_refl _)]
 simp [linksB]
theorem wrap_seq {n : Int} (h : 1 ≤ n ∧ n ≤ 4611686018427387904) : IntKind.i64.wrap n = n := by
 have := wrap64 (n := n) (by omega)
 exact this
theorem rd_backs {l : Lsa} (h : lsaOK l = true) (r : List (BitVec 8)) : rdL (lsaB l ++ r) false = ⟨l.o, l.s, l.ls.isEmpty, l.ls⟩ ∧ rdOK (lsaB l ++ r) false = true ∧ rdR (lsaB l ++ r) false = r ∧ rdW (lsaB l ++ r) false = false := by
 obtain ⟨e1, e2, e3⟩ := rd_back h r
 have hw : rdW (lsaB l ++ r) false = false := by simp [rdW, e1]
 have hr : rdRaw (lsaB l ++ r) false = ⟨l.o, l.s, l.ls.isEmpty, l.ls⟩ := by
  simp only [rdRaw, e1, e2, e3]
  rw [wrap_seq (lsa_bd h).2.1]
 have ho : rdOK (lsaB l ++ r) false = true := by rw [rdOK, hw, hr]; exact h
 exact ⟨by rw [rdL, ho, if_pos rfl, hr], ho, by simp [rdR, e1], hw⟩
theorem rA_ok {l : List (BitVec 8)} {a : Nat} {k : Int} (hk : 1 ≤ k ∧ k ≤ 8) (h : (a : Int) + k ≤ l.length) : rBad l a false k = false ∧ rA l a false k = a + k.toNat := by
 have : rBad l a false k = false := by simp [rBad]; omega
 exact ⟨this, by simp [rA, this]⟩
theorem rA_no {l : List (BitVec 8)} {a : Nat} {k : Int} (h : (l.length : Int) < (a : Int) + k) : rBad l a false k = true := by simp [rBad]; omega
theorem rV_one {l : List (BitVec 8)} {a : Nat} (h : a < l.length) : rV l a false 1 = ((l.getD a default).toNat : Int) := by
 obtain ⟨e, _⟩ := rA_ok (l := l) (a := a) (k := 1) (by omega) (by omega)
 rw [rV, e, if_neg (by decide)]
 have : (l.drop a).take (1 : Int).toNat = [l[a]] := by
  rw [show (1 : Int).toNat = 1 from rfl, List.drop_eq_getElem_cons h]; rfl
 rw [this, ← getD_get h]
 simp [numV]
theorem drop_nums {l : List (BitVec 8)} {a : Nat} {k : Int} (hk : 1 ≤ k ∧ k ≤ 8) (h : (a : Int) + k ≤ l.length) : rnV (l.drop a) false k = rV l a false k ∧ rnL (l.drop a) false k = l.drop (a + k.toNat) ∧ rnW (l.drop a) false k = false := by
 obtain ⟨e1, e2, e3⟩ := num_ok (l := l) (a := a) (by omega) false k
 obtain ⟨f1, f2⟩ := rA_ok hk h
 rw [e1, e2, e3, f1, f2]; exact ⟨rfl, rfl, rfl⟩
theorem drop_no {l : List (BitVec 8)} {a : Nat} {k : Int} (ha : a ≤ l.length) (h : (l.length : Int) < (a : Int) + k) : rnW (l.drop a) false k = true := by
 obtain ⟨_, _, e3⟩ := num_ok (l := l) (a := a) ha false k
 rw [e3]; exact rA_no h
theorem rnW_true (l : List (BitVec 8)) (k : Int) : rnW l true k = true := by
 unfold rnW tkW; split <;> simp
theorem rdLinks_true (l : List (BitVec 8)) (n : Nat) : rdLinks l true n = ([], l, true) := rd_stop (k := 0) rfl rfl (Nat.zero_le _)
theorem rd_links {l : List (BitVec 8)} (h : 10 ≤ l.length) : ∀ k, (10 + 5 * k ≤ l.length → rdLinks (l.drop 10) false k = (rfLinks l k, l.drop (10 + 5 * k), false)) ∧ (l.length < 10 + 5 * k → (rdLinks (l.drop 10) false k).2.2 = true)
 | 0 => ⟨fun _ => by simp [rdLinks, rfLinks], fun h2 => by omega⟩
 | k + 1 => by
  obtain ⟨i1, i2⟩ := rd_links h k
  constructor
  ·intro h1
   rw [rd_next (i1 (by omega))]
   obtain ⟨e1, e2, e3⟩ := drop_nums (l := l) (a := 10 + 5 * k) (k := 1) (by omega) (by omega)
   rw [show (10 + 5 * k + (1 : Int).toNat) = 11 + 5 * k by omega] at e2
   obtain ⟨f1, f2, f3⟩ := drop_nums (l := l) (a := 11 + 5 * k) (k := 4) (by omega) (by omega)
   rw [show (11 + 5 * k + (4 : Int).toNat) = 10 + 5 * (k + 1) by omega] at f2
   rw [e1, e2, e3, f1, f2, f3, rV_one (by omega), rfLinks_succ]; rfl
  ·intro h1
   by_cases hs : l.length < 10 + 5 * k
   ·have hb := i2 hs
    have := rd_stop (l := l.drop 10) (w := false) (k := k) (xs := (rdLinks (l.drop 10) false k).1) (l' := (rdLinks (l.drop 10) false k).2.1) (wk := (rdLinks (l.drop 10) false k).2.2) rfl hb (n := k + 1) (by omega)
    rw [this]; exact hb
   ·rw [rd_next (i1 (by omega))]
    show rnW _ _ 4 = true
    by_cases h2 : l.length < 11 + 5 * k
    ·rw [drop_no (l := l) (a := 10 + 5 * k) (k := 1) (by omega) (by omega), rnW_true]
    ·obtain ⟨e1, e2, e3⟩ := drop_nums (l := l) (a := 10 + 5 * k) (k := 1) (by omega) (by omega)
     rw [show (10 + 5 * k + (1 : Int).toNat) = 11 + 5 * k by omega] at e2
     rw [e2, e3]; exact drop_no (by omega) (by omega)
theorem hd_short {l : List (BitVec 8)} (h : l.length < 10) : hdW l false = true := by
 unfold hdW
 by_cases h1 : l.length < 1
 ·have : rnW l false 1 = true := by simpa using drop_no (l := l) (a := 0) (k := 1) (by omega) (by omega)
  rw [this, rnW_true, rnW_true]
 ·obtain ⟨e1, e2, e3⟩ := drop_nums (l := l) (a := 0) (k := 1) (by omega) (by omega)
  rw [List.drop_zero] at e2 e3
  rw [e2, e3]
  by_cases h2 : l.length < 9
  ·rw [drop_no (l := l) (a := 0 + (1 : Int).toNat) (k := 8) (by omega) (by omega), rnW_true]
  ·obtain ⟨f1, f2, f3⟩ := drop_nums (l := l) (a := 0 + (1 : Int).toNat) (k := 8) (by omega) (by omega)
   rw [f2, f3]; exact drop_no (by omega) (by omega)
theorem hd_long {l : List (BitVec 8)} (h : 10 ≤ l.length) : hdL l false = l.drop 10 ∧ hdW l false = false ∧ hdN l false = (rfB l : Int) ∧ rnV l false 1 = ((l.getD 0 default).toNat : Int) ∧ rnV (rnL l false 1) (rnW l false 1) 8 = rV l 1 false 8 := by
 obtain ⟨e1, e2, e3⟩ := drop_nums (l := l) (a := 0) (k := 1) (by omega) (by omega)
 rw [List.drop_zero] at e1 e2 e3
 rw [show (0 + (1 : Int).toNat) = 1 from rfl] at e2
 obtain ⟨f1, f2, f3⟩ := drop_nums (l := l) (a := 1) (k := 8) (by omega) (by omega)
 rw [show (1 + (8 : Int).toNat) = 9 from rfl] at f2
 obtain ⟨g1, g2, g3⟩ := drop_nums (l := l) (a := 9) (k := 1) (by omega) (by omega)
 rw [show (9 + (1 : Int).toNat) = 10 from rfl] at g2
 unfold hdL hdW hdN
 rw [e2, e3, f1, f2, f3, g1, g2, g3, e1, rV_one (by omega), rV_one (by omega)]
 exact ⟨rfl, rfl, rfl, rfl, rfl⟩
theorem rd_rf (l : List (BitVec 8)) : rdOK l false = rfOK l ∧ rdL l false = rfL l ∧ (rfOK l = true → (((rdR l false).length : Nat) : Int) = (l.length : Int) - rfN l) ∧ (rfOK l = true → rdR l false = l.drop (10 + 5 * rfB l) ∧ 10 + 5 * rfB l ≤ l.length) := by
 by_cases h : l.length < 10
 ·have hw : rdW l false = true := by rw [rdW, rdP, hd_short h, rdLinks_true]
  have h1 : rdOK l false = false := by simp [rdOK, hw]
  have h2 : rfOK l = false := rf_short (.inl (by omega))
  refine ⟨by rw [h1, h2], ?_, fun x => ?_, fun x => ?_⟩
  ·simp [rdL, rfL, h1, h2]
  ·rw [h2] at x; cases x
  ·rw [h2] at x; cases x
 ·obtain ⟨a1, a2, a3, a4, a5⟩ := hd_long (l := l) (by omega)
  obtain ⟨i1, i2⟩ := rd_links (l := l) (by omega) (rfB l)
  have hp : rdP l false = rdLinks (l.drop 10) false (rfB l) := by rw [rdP, a1, a2, a3, Int.toNat_natCast]
  by_cases hs : l.length < 10 + 5 * rfB l
  ·have hw : rdW l false = true := by rw [rdW, hp]; exact i2 hs
   have h1 : rdOK l false = false := by simp [rdOK, hw]
   have h2 : rfOK l = false := rf_short (.inr (by omega))
   refine ⟨by rw [h1, h2], ?_, fun x => ?_, fun x => ?_⟩
   ·simp [rdL, rfL, h1, h2]
   ·rw [h2] at x; cases x
   ·rw [h2] at x; cases x
  ·have hp2 := hp.trans (i1 (by omega))
   have hw : rdW l false = false := by simp [rdW, hp2]
   have hraw : rdRaw l false = rfRaw l := by simp only [rdRaw, rfRaw, hp2, a4, a5]
   have h2 : rfOK l = lsaOK (rfRaw l) := rf_long ⟨by omega, by omega⟩
   have h1 : rdOK l false = rfOK l := by rw [rdOK, hw, hraw, h2]; rfl
   refine ⟨h1, ?_, fun x => ?_, fun x => ?_⟩
   ·simp only [rdL, rfL, h1, hraw]
   ·simp only [rdR, hp2, rfN, x, if_true, List.length_drop]; omega
   ·exact ⟨by simp [rdR, hp2], by omega⟩
end Go.Vai.L
namespace Go.Vai.L
open Go.Vai.O
theorem rfL_len (l : List (BitVec 8)) : (rfL l).ls.length ≤ 255 := by
 unfold rfL
 split
 ·show (rfLinks l (rfB l)).length ≤ 255
  rw [rfLinks_length]
  have := (l.getD 9 default).isLt
  unfold rfB; omega
 ·simp [lsa0]
theorem rdLinks_le (l : List (BitVec 8)) (w : Bool) : ∀ k, (rdLinks l w k).2.1.length ≤ l.length
 | 0 => Nat.le_refl _
 | k + 1 => by
  have ih := rdLinks_le l w k
  rw [rdLinks, rdStep]
  split
  ·exact ih
  ·show (rnL (rnL (rdLinks l w k).2.1 (rdLinks l w k).2.2 1) _ 4).length ≤ _
   exact Nat.le_trans (rnL_len _ _ _) (Nat.le_trans (rnL_len _ _ _) ih)
theorem rdR_le (l : List (BitVec 8)) (w : Bool) : (rdR l w).length ≤ l.length := by
 unfold rdR rdP
 refine Nat.le_trans (rdLinks_le _ _ _) ?_
 unfold hdL
 exact Nat.le_trans (rnL_len _ _ _) (Nat.le_trans (rnL_len _ _ _) (rnL_len _ _ _))
theorem rdR_nil {w : Bool} : rdR [] w = [] := List.eq_nil_of_length_eq_zero (by have := rdR_le [] w; simpa using this)
end Go.Vai.L
set_option linter.unusedSimpArgs false
set_option linter.unusedVariables false
namespace Go.Vai.G
open Go.Vai.O Go.Vai.L
structure Page where
 kind : Int
 gen : Int
 mark : Int
 idx : Int
 part : Int
 parts : Int
 nil : Bool
 b : List (BitVec 8)
def pageA (p : Page) : AV := .agg [.i .i64 p.kind, .i .i64 p.gen, .i .i64 p.mark, .i .i64 p.idx, .i .i64 p.part, .i .i64 p.parts, .sl 1 p.nil (bsl p.b)]
@[simp] theorem noPtr_page (p : Page) : noPtr (pageA p) = true := by simp [pageA, noPtr, noPtrL, noPtrL_bsl]
@[simp] theorem noPtrL_pages (ps : List Page) : noPtrL (ps.map pageA) = true := noPtrL_map noPtr_page _
def page0 : Page := ⟨0, 0, 0, 0, 0, 0, true, []⟩
def wi (n lo hi : Int) : Bool := decide (n ≥ lo) && decide (n ≤ hi)
def pageOK (p : Page) : Bool := wi p.kind 1 9 && (wi p.gen 0 2147483648 && (wi p.mark 0 2147483648 && (wi p.idx 0 2147483648 && (wi p.parts 1 16 && (wi p.part 0 (p.parts - 1) && decide ((p.b.length : Int) ≤ 488))))))
def inn (n most : Int) : Bool := decide (n ≥ 0) && decide (n ≤ most)
def pageEq (p q : Page) : Bool := decide (p.kind = q.kind) && (decide (p.gen = q.gen) && (decide (p.mark = q.mark) && (decide (p.idx = q.idx) && (decide (p.part = q.part) && (decide (p.parts = q.parts) && decide (p.b = q.b))))))
def pageH (p : Page) : List (BitVec 8) := [87#8, 65#8, 89#8] ++ (numR p.kind 1 ++ (numR p.gen 4 ++ (numR p.mark 4 ++ (numR p.idx 4 ++ (numR p.part 1 ++ (numR p.parts 1 ++ (numR (p.b.length : Int) 2 ++ p.b)))))))
def pageB (p : Page) : List (BitVec 8) := pageH p ++ List.replicate (488 - p.b.length) 0#8
end Go.Vai.G
set_option linter.unusedSimpArgs false
set_option linter.unusedVariables false
namespace Go.Vai.G
open Go.Vai.O Go.Vai.L
theorem numV_inj : ∀ (n : Nat) (a b : List (BitVec 8)), a.length = n → b.length = n → numV a = numV b → a = b
 | 0, a, b, ha, hb, _ => by rw [List.eq_nil_of_length_eq_zero ha, List.eq_nil_of_length_eq_zero hb]
 | n + 1, a, b, ha, hb, h => by
  have ea : a = a.take n ++ [a[n]] := by rw [← List.take_succ_eq_append_getElem (by omega), List.take_of_length_le (by omega)]
  have eb : b = b.take n ++ [b[n]] := by rw [← List.take_succ_eq_append_getElem (by omega), List.take_of_length_le (by omega)]
  rw [ea, eb, numV_snoc, numV_snoc] at h
  have h1 := (a[n]).isLt
  have h2 := (b[n]).isLt
  have h3 := numV_inj n (a.take n) (b.take n) (by simp; omega) (by simp; omega) (by omega)
  have h4 : a[n] = b[n] := BitVec.eq_of_toNat_eq (by omega)
  rw [ea, eb, h3, h4]
theorem numR_numV {k : Nat} {x : List (BitVec 8)} (h : x.length = k) : numR (numV x) k = x := by
 obtain ⟨h1, h2⟩ := numV_range k x h
 refine numV_inj k _ _ (numR_length _ _) h ?_
 rw [numV_numR h1, pow_256]
 exact Int.emod_eq_of_lt h1 h2
def at1 (i : List (BitVec 8)) (k : Nat) : Int := ((i.getD k default).toNat : Int)
def at4 (i : List (BitVec 8)) (k : Nat) : Int := rV i k false 4
def pgN (i : List (BitVec 8)) : Int := rV i 18 false 2
def pgP (i : List (BitVec 8)) : Page := ⟨at1 i 3, at4 i 4, at4 i 8, at4 i 12, at1 i 16, at1 i 17, false, (i.drop 20).take (pgN i).toNat⟩
end Go.Vai.G
set_option linter.unusedSimpArgs false
set_option linter.unusedVariables false
namespace Go.Vai.L
open Go.Vai.O Go.Vai.G
theorem rn_cons {l : List (BitVec 8)} {w : Bool} {k : Int} (hk : 1 ≤ k ∧ k ≤ 8) (h : rnW l w k = false) : w = false ∧ l = numR (rnV l w k) k.toNat ++ rnL l w k := by
 have hm : mayW k = true := by simp [mayW]; omega
 simp only [rnW, hm, if_true, tkW] at h
 cases w with
 | true => simp at h
 | false =>
  refine ⟨rfl, ?_⟩
  simp only [Bool.false_eq_true, if_false, decide_eq_false_iff_not] at h
  simp only [rnV, rnL, hm, if_true, tkV, tkL, Bool.false_eq_true, if_false, if_neg h]
  rw [numR_numV (by simp; omega), List.take_append_drop]
theorem rdLinks_cons {l : List (BitVec 8)} {w : Bool} : ∀ {k : Nat} {xs : List LinkS} {l' : List (BitVec 8)}, rdLinks l w k = (xs, l', false) → w = false ∧ l = linksB xs ++ l' ∧ xs.length = k
 | 0, xs, l', h => by
  simp only [rdLinks, Prod.mk.injEq] at h
  obtain ⟨rfl, rfl, rfl⟩ := h
  exact ⟨rfl, rfl, rfl⟩
 | k + 1, xs, l', h => by
  rw [rdLinks] at h
  obtain ⟨ys, m, v, e⟩ : ∃ ys m v, rdLinks l w k = (ys, m, v) := ⟨_, _, _, rfl⟩
  rw [e] at h
  cases v with
  | true => simp [rdStep] at h
  | false =>
   simp only [rdStep, Bool.false_eq_true, if_false, Prod.mk.injEq] at h
   obtain ⟨h1, h2, h3⟩ := h
   obtain ⟨i1, i2, i3⟩ := rdLinks_cons e
   obtain ⟨j1, j2⟩ := rn_cons (k := 4) (by omega) h3
   obtain ⟨k1, k2⟩ := rn_cons (k := 1) (by omega) j1
   refine ⟨i1, ?_, by rw [← h1]; simp [i3]⟩
   rw [i2, k2, ← h1]
   simp only [linksB, List.flatMap_append, List.flatMap_cons, List.flatMap_nil, List.append_nil, linkB, List.append_assoc, List.append_cancel_left_eq]
   rw [← h2]
   exact congrArg _ j2
theorem numR_wrap (x : Int) : numR (IntKind.i64.wrap x) 8 = numR x 8 := by
 have h : ∃ q : Int, IntKind.i64.wrap x = x + q * 18446744073709551616 := by
  exact ⟨-((x + 9223372036854775808) / 18446744073709551616), by rw [IntKind.wrap_i64]; omega⟩
 obtain ⟨q, e⟩ := h
 rw [e]
 apply List.ext_getElem?
 intro j
 by_cases hj : j < 8
 ·rw [numR_get _ 8 j hj, numR_get _ 8 j hj]
  congr 1
  apply BitVec.eq_of_toNat_eq
  have h1 := byteAt_toNat (x + q * 18446744073709551616) (8 - 1 - j)
  have h2 := byteAt_toNat x (8 - 1 - j)
  have : (x + q * 18446744073709551616) / 2 ^ (8 * (8 - 1 - j)) % 256 = x / 2 ^ (8 * (8 - 1 - j)) % 256 := by
   have : j = 0 ∨ j = 1 ∨ j = 2 ∨ j = 3 ∨ j = 4 ∨ j = 5 ∨ j = 6 ∨ j = 7 := by omega
   rcases this with rfl | rfl | rfl | rfl | rfl | rfl | rfl | rfl <;> simp only [Nat.reduceSub, Nat.reduceMul, Int.reducePow] <;> omega
  omega
 ·rw [List.getElem?_eq_none (by rw [numR_length]; omega), List.getElem?_eq_none (by rw [numR_length]; omega)]
theorem rd_cons {l : List (BitVec 8)} {w : Bool} (h : rdOK l w = true) : w = false ∧ l = lsaB (rdL l w) ++ rdR l w ∧ lsaOK (rdL l w) = true ∧ rdW l w = false := by
 have hl : rdL l w = rdRaw l w := by rw [rdL, h, if_pos rfl]
 simp only [rdOK, Bool.and_eq_true, Bool.not_eq_true'] at h
 obtain ⟨h1, h2⟩ := h
 obtain ⟨xs, m, v, e⟩ : ∃ xs m v, rdP l w = (xs, m, v) := ⟨_, _, _, rfl⟩
 have hv : v = false := by rw [rdW, e] at h1; exact h1
 subst hv
 obtain ⟨i1, i2, i3⟩ := rdLinks_cons e
 obtain ⟨j1, j2⟩ := rn_cons (k := 1) (by omega) i1
 obtain ⟨k1, k2⟩ := rn_cons (k := 8) (by omega) j1
 obtain ⟨m1, m2⟩ := rn_cons (k := 1) (by omega) k1
 have hn : 0 ≤ hdN l w := (rnV_range _ _ 1).1
 refine ⟨m1, ?_, by rw [hl]; exact h2, h1⟩
 rw [hl]
 have er : rdR l w = m := by rw [rdR, e]
 have e2 : (rdRaw l w).ls = xs := by rw [rdRaw, e]
 have e3 : ((xs.length : Nat) : Int) = hdN l w := by rw [i3]; omega
 rw [er, lsaB, e2, e3]
 show l = numR (rnV l w 1) 1 ++ (numR (IntKind.i64.wrap (rnV (rnL l w 1) (rnW l w 1) 8)) 8 ++ (numR (hdN l w) 1 ++ linksB xs)) ++ m
 rw [numR_wrap]
 simp only [List.append_assoc]
 rw [← i2]
 conv => lhs; rw [m2, k2, j2]
 rfl
end Go.Vai.L
set_option linter.unusedSimpArgs false
set_option linter.unusedVariables false
namespace Go.Vai.C
open Go.Vai.O Go.Vai.L Go.Vai.G
structure Ch where
 kind : Int
 l : Lsa
 n : Int
 of : Int
def chA (c : Ch) : AV := .agg [.i .i64 c.kind, .i .i64 c.l.o, .i .i64 c.l.s, .sl 2 c.l.nil (c.l.ls.map linkA), .i .i64 c.n, .i .i64 c.of]
theorem cellsOf_ch (c : Ch) : cellsOf (chA c) = [.i .i64 c.kind, .i .i64 c.l.o, .i .i64 c.l.s, .sl 2 c.l.nil (c.l.ls.map linkA), .i .i64 c.n, .i .i64 c.of] := rfl
@[simp] theorem noPtr_ch (c : Ch) : noPtr (chA c) = true := by simp [chA, noPtr, noPtrL, noPtrL_links]
@[simp] theorem noPtrL_chs (l : List Ch) : noPtrL (l.map chA) = true := noPtrL_map noPtr_ch _
def bare (c : Ch) : Bool := decide (c.l.o = 0) && (decide (c.l.s = 0) && decide ((c.l.ls.length : Int) = 0))
def chOK (c : Ch) : Bool :=
 if c.kind = 1 then lsaOK c.l && (decide (c.n = 0) && decide (c.of = 0))
 else if c.kind = 2 then bare c && (wi c.n 1 4611686018427387904 && decide (c.of = 0))
 else if c.kind = 3 then bare c && (wi c.n 1 1073741824 && decide (c.of = 0))
 else if c.kind = 4 then bare c && (wi c.n 1 1073741824 && wi c.of 1 64)
 else false
def chE (c : Ch) : Int := if chOK c then 0 else 1
def chEq (a b : Ch) : Bool := decide (a.kind = b.kind) && (lsaEq a.l b.l && (decide (a.n = b.n) && decide (a.of = b.of)))
def chB (c : Ch) : List (BitVec 8) := numR c.kind 1 ++ (if c.kind = 1 then lsaB c.l else if c.kind = 2 then numR c.n 8 else if c.kind = 4 then numR c.of 1 ++ numR c.n 4 else numR c.n 4)
def chsB (l : List Ch) : List (BitVec 8) := l.flatMap chB
def many (l : List Ch) : Bool := decide (1 ≤ l.length) && decide (l.length ≤ 40)
def allCh (l : List Ch) : Bool := l.all chOK
def putB (l : List Ch) : List (BitVec 8) := numR (l.length : Int) 1 ++ chsB l
theorem ch_kind {c : Ch} (h : chOK c = true) : (c.kind = 1 ∧ lsaOK c.l = true ∧ c.n = 0 ∧ c.of = 0) ∨ (c.kind = 2 ∧ bare c = true ∧ (1 ≤ c.n ∧ c.n ≤ 4611686018427387904) ∧ c.of = 0) ∨ (c.kind = 3 ∧ bare c = true ∧ (1 ≤ c.n ∧ c.n ≤ 1073741824) ∧ c.of = 0) ∨ (c.kind = 4 ∧ bare c = true ∧ (1 ≤ c.n ∧ c.n ≤ 1073741824) ∧ (1 ≤ c.of ∧ c.of ≤ 64)) := by
 unfold chOK at h
 split at h
 ·simp only [Bool.and_eq_true, decide_eq_true_eq] at h; exact .inl ⟨by assumption, h.1, h.2.1, h.2.2⟩
 ·split at h
  ·simp only [wi, Bool.and_eq_true, decide_eq_true_eq] at h; exact .inr (.inl ⟨by assumption, h.1, by omega, h.2.2⟩)
  ·split at h
   ·simp only [wi, Bool.and_eq_true, decide_eq_true_eq] at h; exact .inr (.inr (.inl ⟨by assumption, h.1, by omega, h.2.2⟩))
   ·split at h
    ·simp only [wi, Bool.and_eq_true, decide_eq_true_eq] at h; exact .inr (.inr (.inr ⟨by assumption, h.1, by omega, by omega⟩))
    ·cases h
structure RdC where
 c : Ch
 ok : Bool
 l : List (BitVec 8)
 w : Bool
def rdC (l : List (BitVec 8)) (w : Bool) : RdC :=
 let k := rnV l w 1
 let l1 := rnL l w 1
 let w1 := rnW l w 1
 if k = 1 then ⟨⟨1, rdL l1 w1, 0, 0⟩, rdOK l1 w1, rdR l1 w1, rdW l1 w1⟩
 else if k = 2 then
  let c : Ch := ⟨2, lsa0, IntKind.i64.wrap (rnV l1 w1 8), 0⟩
  ⟨c, !rnW l1 w1 8 && chOK c, rnL l1 w1 8, rnW l1 w1 8⟩
 else if k = 4 then
  let l2 := rnL l1 w1 1
  let w2 := rnW l1 w1 1
  let c : Ch := ⟨4, lsa0, rnV l2 w2 4, rnV l1 w1 1⟩
  ⟨c, !rnW l2 w2 4 && chOK c, rnL l2 w2 4, rnW l2 w2 4⟩
 else if k = 3 then
  let c : Ch := ⟨3, lsa0, rnV l1 w1 4, 0⟩
  ⟨c, !rnW l1 w1 4 && chOK c, rnL l1 w1 4, rnW l1 w1 4⟩
 else ⟨⟨k, lsa0, 0, 0⟩, false, l1, w1⟩
def norm (c : Ch) : Ch := ⟨c.kind, ⟨c.l.o, c.l.s, if c.kind = 1 then c.l.ls.isEmpty else true, c.l.ls⟩, c.n, c.of⟩
end Go.Vai.C
namespace Go.Vai.C
open Go.Proofs Go.Vai Go.Vai.G Go.Vai.L Go.Vai.O
set_option linter.unusedSimpArgs false
set_option linter.unusedVariables false
set_option maxHeartbeats 4000000
set_option maxRecDepth 100000
attribute [go_sem] cellsOf_ch
theorem lsaE_dec (l : Lsa) : decide (lsaE l = 0) = lsaOK l := by cases h : lsaOK l <;> simp [lsaE, h]
theorem bare_eq (c : Ch) : lsaEq c.l lsa0 = bare c := by
  have : decide (c.l.ls = lsa0.ls) = decide ((c.l.ls.length : Int) = 0) := decide_eq_decide.2 ⟨fun h => by rw [h]; rfl, fun h => List.eq_nil_of_length_eq_zero (by omega)⟩
  rw [lsaEq, this]; rfl
theorem ch_k1 {c : Ch} (h : c.kind = 1) : chOK c = ((lsaOK c.l && decide (c.n = 0)) && decide (c.of = 0)) := by rw [chOK, if_pos h, Bool.and_assoc]
theorem ch_k2 {c : Ch} (h : c.kind = 2) : chOK c = ((bare c && wi c.n 1 4611686018427387904) && decide (c.of = 0)) := by rw [chOK, if_neg (by omega), if_pos h, Bool.and_assoc]
theorem ch_k3 {c : Ch} (h : c.kind = 3) : chOK c = ((bare c && wi c.n 1 1073741824) && decide (c.of = 0)) := by rw [chOK, if_neg (by omega), if_neg (by omega), if_pos h, Bool.and_assoc]
theorem ch_k4 {c : Ch} (h : c.kind = 4) : chOK c = ((bare c && wi c.n 1 1073741824) && wi c.of 1 64) := by rw [chOK, if_neg (by omega), if_neg (by omega), if_neg (by omega), if_pos h, Bool.and_assoc]
theorem ch_k0 {c : Ch} (h1 : ¬ c.kind = 1) (h2 : ¬ c.kind = 2) (h3 : ¬ c.kind = 3) (h4 : ¬ c.kind = 4) : chOK c = false := by rw [chOK, if_neg h1, if_neg h2, if_neg h3, if_neg h4]
theorem good_withinC (n lo hi : Int) : Good Try.prog 54 [(i64 n, false), (i64 lo, false), (i64 hi, false)] [] [(.b (wi n lo hi), false)] [] := by
  refine good_of_body2 15 Try.func54 rfl rfl rfl (by simp) ?_
  intro s m ha hr hv hG
  have f0 : s 0 = .v (i64 n) := ha 0 _ rfl
  have f1 : s 1 = .v (i64 lo) := ha 1 _ rfl
  have f2 : s 2 = .v (i64 hi) := ha 2 _ rfl
  clear ha
  have hc : True := trivial
  have F := (And.intro f0 (And.intro f1 (And.intro f2 hG)))
  refine AW.seq ?_
  refine AW.region (cfg := cfg) ?_
  refine stp (fun _ h => s0 h) ?_
  refine aops_nil ?_
  refine AW.seq ?_
  refine AW.region (cfg := cfg) ?_
  iterate 4 refine stp (fun _ h => s0 h) ?_
  iterate 3 refine mrg wa (fun hc _ h => s0 h) ?_
  iterate 2 refine stp (fun _ h => s0 h) ?_
  refine aops_nil ?_
  refine AW.ret ?_
  refine ⟨.inr rfl, ?_⟩
  refine leaves_tmp1 6 rfl ?_ (by exact hG)
  simp (disch := first | omega | decide) only [go_sem, F, aIndex_map]
  all_goals rfl
attribute [go_sem] lsaE_dec bare_eq
theorem good_bare (c : Ch) (hc : c.l.ls.length ≤ 9223372036854775807) : Good Try.prog 53 [(chA c, false)] [] [(.b (bare c), false)] [] := by
  refine good_of_body2 20 Try.func53 rfl rfl rfl (by simp) ?_
  intro s m ha hr hv hG
  have f0 : s 0 = .v (.agg [i64 c.kind, i64 c.l.o, i64 c.l.s, .sl 2 c.l.nil (c.l.ls.map linkA), i64 c.n, i64 c.of]) := ha 0 _ rfl
  clear ha
  have hc : True := trivial
  have F := (And.intro f0 hG)
  refine AW.seq ?_
  refine AW.region (cfg := cfg) ?_
  refine stp (fun _ h => sb h) ?_
  refine stp (fun _ h => s0 h) ?_
  refine aops_nil ?_
  refine AW.seq ?_
  refine AW.region (cfg := cfg) ?_
  iterate 2 refine stp (fun _ h => sx h) ?_
  refine stp (fun _ h => sl h) ?_
  iterate 2 refine stp (fun _ h => s0 h) ?_
  iterate 2 refine mrg wa (fun hc _ h => sx h) ?_
  refine mrg wa (fun hc _ h => sl h) ?_
  refine mrg wa (fun hc _ h => s0 h) ?_
  iterate 2 refine stp (fun _ h => s0 h) ?_
  iterate 2 refine mrg wa (fun hc _ h => sx h) ?_
  refine mrg wa (fun hc _ h => sl h) ?_
  refine mrg wa (fun hc _ h => sd h) ?_
  refine mrg wa (fun hc _ h => s0 h) ?_
  iterate 2 refine stp (fun _ h => s0 h) ?_
  refine aops_nil ?_
  refine AW.ret ?_
  refine ⟨.inr rfl, ?_⟩
  refine leaves_tmp1 2 rfl ?_ (by exact hG)
  simp (disch := first | omega | decide) only [go_sem, F, aIndex_map]
  all_goals (simp only [bare, Bool.and_assoc]; done)
theorem good_CheckC (c : Ch) (hc : c.l.ls.length ≤ 9223372036854775807) : Good Try.prog 26 [(chA c, false)] [] [(i64 (chE c), false)] [] := by
  refine good_of_body2 66 Try.func26 rfl rfl rfl (by simp) ?_
  intro s m ha hr hv hG
  have f0 : s 0 = .v (.agg [i64 c.kind, i64 c.l.o, i64 c.l.s, .sl 2 c.l.nil (c.l.ls.map linkA), i64 c.n, i64 c.of]) := ha 0 _ rfl
  clear ha
  have hc : True := trivial
  have F := (And.intro f0 hG)
  refine AW.seq ?_
  refine AW.region (cfg := cfg) ?_
  refine stp (fun _ h => sb h) ?_
  refine stp (fun _ h => s0 h) ?_
  refine aops_nil ?_
  refine AW.seq ?_
  refine AW.region (cfg := cfg) ?_
  refine stp (fun _ h => s0 h) ?_
  refine aops_nil ?_
  refine AW.seq ?_
  refine AW.seq ?_
  refine AW.region (cfg := cfg) ?_
  refine stp (fun _ h => sx h) ?_
  refine stp (fun _ h => sl h) ?_
  refine aops_nil ?_
  refine AW.block ?_
  refine AW.seq ?_
  refine AW.region (cfg := cfg) ?_
  iterate 2 refine stp (fun _ h => s0 h) ?_
  refine aops_nil ?_
  refine cnd (fun hb => ?ht1) (fun hb => ?hf1)
  case ht1 =>
    have hw6 := hb
    try simp only [bo1, bo2, bo3, bo4, bo5, bo6] at hb
    have hbt6 := hb
    refine AW.region (cfg := cfg) ?_
    refine stp (fun _ h => sx h) ?_
    refine stp (fun _ h => sl h) ?_
    refine stp (fun _ h => cs (w := L.good_Check c.l.o c.l.s c.l.nil c.l.ls (by omega)) (x := h)) ?_
    iterate 2 refine stp (fun _ h => s0 h) ?_
    refine mrg wa (fun hc _ h => sx h) ?_
    refine mrg wa (fun hc _ h => sl h) ?_
    refine mrg wa (fun hc _ h => s0 h) ?_
    iterate 2 refine stp (fun _ h => s0 h) ?_
    refine mrg wa (fun hc _ h => sx h) ?_
    refine mrg wa (fun hc _ h => sl h) ?_
    refine mrg wa (fun hc _ h => s0 h) ?_
    iterate 2 refine stp (fun _ h => s0 h) ?_
    refine aops_nil ?_
    refine AW.seq ?_
    refine AW.seq ?_
    refine AW.region (cfg := cfg) ?_
    iterate 2 refine stp (fun _ h => s0 h) ?_
    refine aops_nil ?_
    refine cnd (fun hb => ?ht2) (fun hb => ?hf2)
    case ht2 =>
      have hw65 := hb
      try simp only [bo1, bo2, bo3, bo4, bo5, bo6] at hb
      have hbt65 := hb
      refine AW.seq ?_
      refine AW.region (cfg := cfg) ?_
      refine stp (fun _ h => s0 h) ?_
      refine aops_nil ?_
      refine AW.ret ?_
      refine ⟨.inr rfl, ?_⟩
      refine leaves_tmp1 2 rfl ?_ (by exact hG)
      simp (disch := first | omega | decide) only [go_sem, F, aIndex_map]
      all_goals (rw [chE, ch_k1 hbt6, bnot_t hbt65]; rfl)
    case hf2 =>
      have hw65 := hb
      try simp only [bo1, bo2, bo3, bo4, bo5, bo6] at hb
      have hbt65 := hb
      refine AW.skip ?_
      refine AW.seq ?_
      refine AW.region (cfg := cfg) ?_
      refine stp (fun _ h => s0 h) ?_
      refine aops_nil ?_
      refine AW.ret ?_
      refine ⟨.inr rfl, ?_⟩
      refine leaves_tmp1 2 rfl ?_ (by exact hG)
      simp (disch := first | omega | decide) only [go_sem, F, aIndex_map]
      all_goals (rw [chE, ch_k1 hbt6, bnot_f hbt65]; rfl)
  case hf1 =>
    have hw6 := hb
    try simp only [bo1, bo2, bo3, bo4, bo5, bo6] at hb
    have hbt6 := hb
    refine AW.seq ?_
    refine AW.region (cfg := cfg) ?_
    iterate 2 refine stp (fun _ h => s0 h) ?_
    refine aops_nil ?_
    refine cnd (fun hb => ?ht3) (fun hb => ?hf3)
    case ht3 =>
      have hw22 := hb
      try simp only [bo1, bo2, bo3, bo4, bo5, bo6] at hb
      have hbt22 := hb
      refine AW.region (cfg := cfg) ?_
      refine stp (fun _ h => sl h) ?_
      refine stp (fun _ h => cs (w := good_bare c (by omega)) (x := h)) ?_
      refine stp (fun _ h => s0 h) ?_
      refine mrg wa (fun hc _ h => sx h) ?_
      refine mrg wa (fun hc _ h => sl h) ?_
      refine mrg wa (fun hc _ h => cs (w := good_withinC _ _ _) (x := h)) ?_
      iterate 2 refine stp (fun _ h => s0 h) ?_
      refine mrg wa (fun hc _ h => sx h) ?_
      refine mrg wa (fun hc _ h => sl h) ?_
      refine mrg wa (fun hc _ h => s0 h) ?_
      iterate 2 refine stp (fun _ h => s0 h) ?_
      refine aops_nil ?_
      refine AW.seq ?_
      refine AW.seq ?_
      refine AW.region (cfg := cfg) ?_
      iterate 2 refine stp (fun _ h => s0 h) ?_
      refine aops_nil ?_
      refine cnd (fun hb => ?ht4) (fun hb => ?hf4)
      case ht4 =>
        have hw65 := hb
        try simp only [bo1, bo2, bo3, bo4, bo5, bo6] at hb
        have hbt65 := hb
        refine AW.seq ?_
        refine AW.region (cfg := cfg) ?_
        refine stp (fun _ h => s0 h) ?_
        refine aops_nil ?_
        refine AW.ret ?_
        refine ⟨.inr rfl, ?_⟩
        refine leaves_tmp1 2 rfl ?_ (by exact hG)
        simp (disch := first | omega | decide) only [go_sem, F, aIndex_map]
        all_goals (rw [chE, ch_k2 hbt22, bnot_t hbt65]; rfl)
      case hf4 =>
        have hw65 := hb
        try simp only [bo1, bo2, bo3, bo4, bo5, bo6] at hb
        have hbt65 := hb
        refine AW.skip ?_
        refine AW.seq ?_
        refine AW.region (cfg := cfg) ?_
        refine stp (fun _ h => s0 h) ?_
        refine aops_nil ?_
        refine AW.ret ?_
        refine ⟨.inr rfl, ?_⟩
        refine leaves_tmp1 2 rfl ?_ (by exact hG)
        simp (disch := first | omega | decide) only [go_sem, F, aIndex_map]
        all_goals (rw [chE, ch_k2 hbt22, bnot_f hbt65]; rfl)
    case hf3 =>
      have hw22 := hb
      try simp only [bo1, bo2, bo3, bo4, bo5, bo6] at hb
      have hbt22 := hb
      refine AW.seq ?_
      refine AW.region (cfg := cfg) ?_
      iterate 2 refine stp (fun _ h => s0 h) ?_
      refine aops_nil ?_
      refine cnd (fun hb => ?ht5) (fun hb => ?hf5)
      case ht5 =>
        have hw36 := hb
        try simp only [bo1, bo2, bo3, bo4, bo5, bo6] at hb
        have hbt36 := hb
        refine AW.region (cfg := cfg) ?_
        refine stp (fun _ h => sl h) ?_
        refine stp (fun _ h => cs (w := good_bare c (by omega)) (x := h)) ?_
        refine stp (fun _ h => s0 h) ?_
        refine mrg wa (fun hc _ h => sx h) ?_
        refine mrg wa (fun hc _ h => sl h) ?_
        refine mrg wa (fun hc _ h => cs (w := good_withinC _ _ _) (x := h)) ?_
        iterate 2 refine stp (fun _ h => s0 h) ?_
        refine mrg wa (fun hc _ h => sx h) ?_
        refine mrg wa (fun hc _ h => sl h) ?_
        refine mrg wa (fun hc _ h => s0 h) ?_
        iterate 2 refine stp (fun _ h => s0 h) ?_
        refine aops_nil ?_
        refine AW.seq ?_
        refine AW.seq ?_
        refine AW.region (cfg := cfg) ?_
        iterate 2 refine stp (fun _ h => s0 h) ?_
        refine aops_nil ?_
        refine cnd (fun hb => ?ht6) (fun hb => ?hf6)
        case ht6 =>
          have hw65 := hb
          try simp only [bo1, bo2, bo3, bo4, bo5, bo6] at hb
          have hbt65 := hb
          refine AW.seq ?_
          refine AW.region (cfg := cfg) ?_
          refine stp (fun _ h => s0 h) ?_
          refine aops_nil ?_
          refine AW.ret ?_
          refine ⟨.inr rfl, ?_⟩
          refine leaves_tmp1 2 rfl ?_ (by exact hG)
          simp (disch := first | omega | decide) only [go_sem, F, aIndex_map]
          all_goals (rw [chE, ch_k3 hbt36, bnot_t hbt65]; rfl)
        case hf6 =>
          have hw65 := hb
          try simp only [bo1, bo2, bo3, bo4, bo5, bo6] at hb
          have hbt65 := hb
          refine AW.skip ?_
          refine AW.seq ?_
          refine AW.region (cfg := cfg) ?_
          refine stp (fun _ h => s0 h) ?_
          refine aops_nil ?_
          refine AW.ret ?_
          refine ⟨.inr rfl, ?_⟩
          refine leaves_tmp1 2 rfl ?_ (by exact hG)
          simp (disch := first | omega | decide) only [go_sem, F, aIndex_map]
          all_goals (rw [chE, ch_k3 hbt36, bnot_f hbt65]; rfl)
      case hf5 =>
        have hw36 := hb
        try simp only [bo1, bo2, bo3, bo4, bo5, bo6] at hb
        have hbt36 := hb
        refine AW.seq ?_
        refine AW.region (cfg := cfg) ?_
        iterate 2 refine stp (fun _ h => s0 h) ?_
        refine aops_nil ?_
        refine cnd (fun hb => ?ht7) (fun hb => ?hf7)
        case ht7 =>
          have hw50 := hb
          try simp only [bo1, bo2, bo3, bo4, bo5, bo6] at hb
          have hbt50 := hb
          refine AW.region (cfg := cfg) ?_
          refine stp (fun _ h => sl h) ?_
          refine stp (fun _ h => cs (w := good_bare c (by omega)) (x := h)) ?_
          refine stp (fun _ h => s0 h) ?_
          refine mrg wa (fun hc _ h => sx h) ?_
          refine mrg wa (fun hc _ h => sl h) ?_
          refine mrg wa (fun hc _ h => cs (w := good_withinC _ _ _) (x := h)) ?_
          iterate 2 refine stp (fun _ h => s0 h) ?_
          refine mrg wa (fun hc _ h => sx h) ?_
          refine mrg wa (fun hc _ h => sl h) ?_
          refine mrg wa (fun hc _ h => cs (w := good_withinC _ _ _) (x := h)) ?_
          iterate 2 refine stp (fun _ h => s0 h) ?_
          refine aops_nil ?_
          refine AW.seq ?_
          refine AW.seq ?_
          refine AW.region (cfg := cfg) ?_
          iterate 2 refine stp (fun _ h => s0 h) ?_
          refine aops_nil ?_
          refine cnd (fun hb => ?ht8) (fun hb => ?hf8)
          case ht8 =>
            have hw65 := hb
            try simp only [bo1, bo2, bo3, bo4, bo5, bo6] at hb
            have hbt65 := hb
            refine AW.seq ?_
            refine AW.region (cfg := cfg) ?_
            refine stp (fun _ h => s0 h) ?_
            refine aops_nil ?_
            refine AW.ret ?_
            refine ⟨.inr rfl, ?_⟩
            refine leaves_tmp1 2 rfl ?_ (by exact hG)
            simp (disch := first | omega | decide) only [go_sem, F, aIndex_map]
            all_goals (rw [chE, ch_k4 hbt50, bnot_t hbt65]; rfl)
          case hf8 =>
            have hw65 := hb
            try simp only [bo1, bo2, bo3, bo4, bo5, bo6] at hb
            have hbt65 := hb
            refine AW.skip ?_
            refine AW.seq ?_
            refine AW.region (cfg := cfg) ?_
            refine stp (fun _ h => s0 h) ?_
            refine aops_nil ?_
            refine AW.ret ?_
            refine ⟨.inr rfl, ?_⟩
            refine leaves_tmp1 2 rfl ?_ (by exact hG)
            simp (disch := first | omega | decide) only [go_sem, F, aIndex_map]
            all_goals (rw [chE, ch_k4 hbt50, bnot_f hbt65]; rfl)
        case hf7 =>
          have hw50 := hb
          try simp only [bo1, bo2, bo3, bo4, bo5, bo6] at hb
          have hbt50 := hb
          refine AW.skip ?_
          refine AW.seq ?_
          refine AW.seq ?_
          refine AW.region (cfg := cfg) ?_
          iterate 2 refine stp (fun _ h => s0 h) ?_
          refine aops_nil ?_
          refine cnd (fun hb => ?ht9) (fun hb => ?hf9)
          case ht9 =>
            have hw65 := hb
            try simp only [bo1, bo2, bo3, bo4, bo5, bo6] at hb
            have hbt65 := hb
            refine AW.seq ?_
            refine AW.region (cfg := cfg) ?_
            refine stp (fun _ h => s0 h) ?_
            refine aops_nil ?_
            refine AW.ret ?_
            refine ⟨.inr rfl, ?_⟩
            refine leaves_tmp1 2 rfl ?_ (by exact hG)
            simp (disch := first | omega | decide) only [go_sem, F, aIndex_map]
            all_goals (rw [chE, ch_k0 hbt6 hbt22 hbt36 hbt50]; rfl)
          case hf9 =>
            have hw65 := hb
            try simp only [bo1, bo2, bo3, bo4, bo5, bo6] at hb
            have hbt65 := hb
            refine AW.skip ?_
            refine AW.seq ?_
            refine AW.region (cfg := cfg) ?_
            refine stp (fun _ h => s0 h) ?_
            refine aops_nil ?_
            refine AW.ret ?_
            refine ⟨.inr rfl, ?_⟩
            refine leaves_tmp1 2 rfl ?_ (by exact hG)
            simp (disch := first | omega | decide) only [go_sem, F, aIndex_map]
            all_goals (exfalso; simp at hbt65; done)
def lightC (l : List Ch) : Bool := ((l.take 51).all fun c => decide ((c.l.ls.length : Int) ≤ 40)) && decide ((l.length : Int) ≤ 50)
end Go.Vai.C
namespace Go.Vai.O
open Go.Proofs Go.Vai
set_option linter.unusedSimpArgs false
set_option linter.unusedVariables false
set_option maxHeartbeats 4000000
set_option maxRecDepth 100000
attribute [simp] numB_length numR_length
theorem good_Clone (nil : Bool) (l : List (BitVec 8)) (hl : l.length ≤ 140737488355328) (hz : nil = true → l = []) : Good Try.prog 62 [(.sl 1 nil (bsl l), false)] [] [(.sl 1 nil (bsl l), true)] [] := by
  refine good_of_body3 8 Try.func62 rfl rfl rfl (by simp) ?_
  intro s m ha hr hv hG
  have f0 : s 0 = .v (.sl 1 nil (bsl l)) := ha 0 _ rfl
  clear ha
  have hc : True := trivial
  have F := (And.intro f0 hG)
  refine AW.seq ?_
  refine AW.region (cfg := cfg) ?_
  refine stp (fun _ h => s0 h) ?_
  refine aops_nil ?_
  refine AW.seq ?_
  refine AW.seq ?_
  refine AW.region (cfg := cfg) ?_
  iterate 2 refine stp (fun _ h => s0 h) ?_
  refine aops_nil ?_
  refine cnd (fun hb => ?ht1) (fun hb => ?hf1)
  case ht1 =>
    have hw4 := hb
    try simp only [bo1, bo2, bo3, bo4, bo5, bo6] at hb
    have hbt4 := hb
    refine AW.seq ?_
    refine AW.region (cfg := cfg) ?_
    refine stp (fun _ h => s0 h) ?_
    refine aops_nil ?_
    refine AW.ret ?_
    refine ⟨.inr rfl, ?_⟩
    (obtain rfl : nil = true := (by simpa using hb); obtain rfl := hz rfl; refine ⟨_, nilEq_nil (nilEq_refl _), leaves_own1 2 rfl (by simp (disch := first | omega | decide) only [go_sem, F, aIndex_map] <;> rfl) (by simp (disch := first | omega | decide) only [go_sem, F, aIndex_map] <;> rfl) (by decide) (by simp [sub, List.take_of_length_le]) (by exact hG)⟩)
  case hf1 =>
    have hw4 := hb
    try simp only [bo1, bo2, bo3, bo4, bo5, bo6] at hb
    have hbt4 := hb
    refine AW.skip ?_
    refine AW.seq ?_
    refine AW.region (cfg := cfg) ?_
    refine stp (fun _ h => sq h) ?_
    refine stp (fun _ h => s0 h) ?_
    refine stp (fun _ h => sp h) ?_
    refine stp (fun _ h => st h) ?_
    refine aops_nil ?_
    refine AW.ret ?_
    refine ⟨.inr rfl, ?_⟩
    (obtain rfl : nil = false := (by simpa using hb); refine leavesN (leaves_own1 2 rfl (by simp (disch := first | omega | decide) only [go_sem, F, aIndex_map] <;> rfl) (by simp (disch := first | omega | decide) only [go_sem, F, aIndex_map] <;> rfl) (by decide) (by simp [sub, List.take_of_length_le]) (by exact hG)))
theorem good_mayO (w : Int) : Good Try.prog 63 [(i64 w, false)] [] [(.b (mayW w), false)] [] := by
  refine good_of_body2 9 Try.func63 rfl rfl rfl (by simp) ?_
  intro s m ha hr hv hG
  have f0 : s 0 = .v (i64 w) := ha 0 _ rfl
  clear ha
  have hc : True := trivial
  have F := (And.intro f0 hG)
  refine AW.seq ?_
  refine AW.region (cfg := cfg) ?_
  refine stp (fun _ h => s0 h) ?_
  refine aops_nil ?_
  refine AW.seq ?_
  refine AW.region (cfg := cfg) ?_
  iterate 3 refine stp (fun _ h => s0 h) ?_
  iterate 2 refine mrg wa (fun hc _ h => s0 h) ?_
  iterate 2 refine stp (fun _ h => s0 h) ?_
  refine aops_nil ?_
  refine AW.ret ?_
  refine ⟨.inr rfl, ?_⟩
  refine leaves_mwp2 (rs := [.tmp 2]) rfl ?_
  simp (config := {failIfUnchanged := false}) [giveL, srcOne, rehome, freezeN, sub, upd, opn, aLoad, loadL, giveOne, reify, reifyL, readL, readOne, Mwp, M.bind, Mem.set, setAt, cellsL, hG, f0, mayW]
  all_goals first | done | omega | (simp_all; done) | (simp_all; omega) | grind
theorem good_Same (na nb : Bool) (a b : List (BitVec 8)) (ha : a.length ≤ 9223372036854775807) (hb : b.length ≤ 9223372036854775807) : Good Try.prog 21 [(.sl 1 na (bsl a), false), (.sl 1 nb (bsl b), false)] [] [(.b (decide (a = b)), false)] [] := by
  refine good_of_body2 26 Try.func21 rfl rfl rfl (by simp) ?_
  intro s m ha hr hv hG
  have f0 : s 0 = .v (.sl 1 na (bsl a)) := ha 0 _ rfl
  have f1 : s 1 = .v (.sl 1 nb (bsl b)) := ha 1 _ rfl
  clear ha
  have hc : True := trivial
  have F := (And.intro f0 (And.intro f1 hG))
  refine AW.seq ?_
  refine AW.region (cfg := cfg) ?_
  refine stp (fun _ h => s0 h) ?_
  refine aops_nil ?_
  refine AW.seq ?_
  refine AW.seq ?_
  refine AW.region (cfg := cfg) ?_
  refine stp (fun _ h => s0 h) ?_
  refine stp (fun _ h => sd h) ?_
  refine stp (fun _ h => s0 h) ?_
  refine stp (fun _ h => sd h) ?_
  refine stp (fun _ h => s0 h) ?_
  refine aops_nil ?_
  refine cnd (fun hb => ?ht1) (fun hb => ?hf1)
  case ht1 =>
    have hw10 := hb
    try simp only [bo1, bo2, bo3, bo4, bo5, bo6] at hb
    have hbt10 := hb
    refine AW.seq ?_
    refine AW.region (cfg := cfg) ?_
    refine stp (fun _ h => s0 h) ?_
    refine aops_nil ?_
    refine AW.ret ?_
    refine ⟨.inr rfl, ?_⟩
    refine leaves_tmp1 4 rfl ?_ (by first | rfl | exact hG | (simp only [mset_G, hG]; done) | (simp only [mset_G, hG]; rfl))
    simp (disch := first | omega | decide) only [go_sem, F, aIndex_map]
    all_goals first | (rw [decide_eq_false (fun e => by subst e; simp at hb)]; done) | (rw [decide_eq_true (by rw [List.take_length, mo0, List.take_length] at mo1; exact mo1)]; done) | (rw [decide_eq_false (fun e => by have := congrArg List.length e; omega)]; done) | trace_state
  case hf1 =>
    have hw10 := hb
    try simp only [bo1, bo2, bo3, bo4, bo5, bo6] at hb
    have hbt10 := hb
    refine AW.skip ?_
    refine AW.seq ?_
    refine AW.seq ?_
    refine AW.region (cfg := cfg) ?_
    refine stp (fun _ h => s0 h) ?_
    refine aops_nil ?_
    refine AW.block ?_
    refine AW.forN (fun k σ => ∃ s m, σ = ⟨26, s, m⟩ ∧ s 0 = .v (.sl 1 na (bsl a)) ∧ s 1 = .v (.sl 1 nb (bsl b)) ∧ s 5 = .v (i64 (k : Int)) ∧ (a.length = b.length) ∧ (a.take k = b.take k) ∧ m.G = []) (a.length) ?_ ?_ ?_
    · refine ⟨_, _, rfl, ?_, ?_, ?_, ?_, ?_, (by first | exact hG | rfl | (simp only [mset_G, hG]; done) | (simp only [mset_G, hG]; rfl))⟩ <;> try simp (disch := first | omega | decide) only [go_sem, F, aIndex_map]
      all_goals first | rfl | (simp; done) | omega
    · clear F f0 f1 hG
      rintro k σ hk ⟨s, m, rfl, f0, f1, f5, mo0, mo1, hG⟩
      have F := (And.intro f0 (And.intro f1 (And.intro f5 hG)))
      refine AW.seq ?_
      refine AW.seq ?_
      refine AW.region (cfg := cfg) ?_
      iterate 2 refine stp (fun _ h => s0 h) ?_
      refine stp (fun _ h => sd h) ?_
      refine stp (fun _ h => s0 h) ?_
      refine aops_nil ?_
      refine cnd (fun hb => ?ht2) (fun hb => ?hf2)
      case hf2 => first | (simp at hb; done) | (simp at hb; omega) | (have hb1 := of_decide_eq_false hb; omega) | (have hb1 := of_decide_eq_true hb; omega)
      case ht2 =>
      have hbt14 := hb
      refine AW.skip ?_
      refine AW.seq ?_
      refine AW.block ?_
      refine AW.seq ?_
      refine AW.draw (cfg := cfg) (by kernel_rfl) (by kernel_rfl) (by kernel_rfl) ?_
      iterate 2 refine dstp (fun _ h => s0 h) ?_
      refine dstp (fun _ h => si h) ?_
      refine dstp (fun _ h => sl h) ?_
      iterate 2 refine dstp (fun _ h => s0 h) ?_
      refine dstp (fun _ h => si h) ?_
      refine dstp (fun _ h => sl h) ?_
      refine dstp (fun _ h => s0 h) ?_
      refine adraw_nil (by kernel_rfl) ?_
      refine cnd (fun hb => ?ht3) (fun hb => ?hf3)
      case ht3 =>
        have hw25 := hb
        try simp only [bo1, bo2, bo3, bo4, bo5, bo6] at hb
        have hbt25 := hb
        refine AW.seq ?_
        refine AW.region (cfg := cfg) ?_
        refine stp (fun _ h => s0 h) ?_
        refine aops_nil ?_
        refine AW.ret ?_
        refine ⟨.inr rfl, ?_⟩
        refine leaves_tmp1 4 rfl ?_ (by first | rfl | exact hG | (simp only [mset_G, hG]; done) | (simp only [mset_G, hG]; rfl))
        simp (disch := first | omega | decide) only [go_sem, F, aIndex_map]
        all_goals first | (rw [decide_eq_false (fun e => by subst e; simp at hb)]; done) | (rw [decide_eq_true (by rw [List.take_length, mo0, List.take_length] at mo1; exact mo1)]; done) | (rw [decide_eq_false (fun e => by have := congrArg List.length e; omega)]; done) | trace_state
      case hf3 =>
        have hw25 := hb
        try simp only [bo1, bo2, bo3, bo4, bo5, bo6] at hb
        have hbt25 := hb
        refine AW.skip ?_
        refine AW.region (cfg := cfg) ?_
        refine stp (fun _ h => s0 h) ?_
        refine stp (fun _ h => sd h) ?_
        refine stp (fun _ h => s0 h) ?_
        refine aops_nil ?_
        refine ⟨_, _, rfl, ?_, ?_, ?_, ?_, ?_, (by first | exact hG | rfl | (simp only [mset_G, hG]; done) | (simp only [mset_G, hG]; rfl))⟩ <;> try simp (disch := first | omega | decide) only [go_sem, F, aIndex_map]
        all_goals first | rfl | assumption | skip
        all_goals (rw [List.take_succ_eq_append_getElem (by omega), List.take_succ_eq_append_getElem (by omega), mo1]; congr 2; apply BitVec.eq_of_toNat_eq; simp at hb; omega)
    · clear F f0 f1 hG
      rintro σ ⟨s, m, rfl, f0, f1, f5, mo0, mo1, hG⟩
      have F := (And.intro f0 (And.intro f1 (And.intro f5 hG)))
      refine AW.seq ?_
      refine AW.seq ?_
      refine AW.region (cfg := cfg) ?_
      iterate 2 refine stp (fun _ h => s0 h) ?_
      refine stp (fun _ h => sd h) ?_
      refine stp (fun _ h => s0 h) ?_
      refine aops_nil ?_
      refine cnd (fun hb => ?ht4) (fun hb => ?hf4)
      case ht4 => first | (simp at hb; done) | (simp at hb; omega) | (have hb1 := of_decide_eq_false hb; omega) | (have hb1 := of_decide_eq_true hb; omega)
      case hf4 =>
      have hbt14 := hb
      refine AW.exit ?_
      refine AW.seq ?_
      refine AW.region (cfg := cfg) ?_
      refine stp (fun _ h => s0 h) ?_
      refine aops_nil ?_
      refine AW.ret ?_
      refine ⟨.inr rfl, ?_⟩
      refine leaves_tmp1 4 rfl ?_ (by first | rfl | exact hG | (simp only [mset_G, hG]; done) | (simp only [mset_G, hG]; rfl))
      simp (disch := first | omega | decide) only [go_sem, F, aIndex_map]
      all_goals first | (rw [decide_eq_false (fun e => by subst e; simp at hb)]; done) | (rw [decide_eq_true (by rw [List.take_length, mo0, List.take_length] at mo1; exact mo1)]; done) | (rw [decide_eq_false (fun e => by have := congrArg List.length e; omega)]; done) | trace_state
theorem mayW_range {w : Int} (h : mayW w = true) : 1 ≤ w ∧ w ≤ 8 := by simpa [mayW] using h
theorem byte_div {n : Int} {w k : Nat} (h : k < w) : BitVec.ofInt 8 (n / 2 ^ (8 * ((w : Int) - 1 - (k : Int))).toNat) = byteAt n (w - 1 - k) := by
  unfold byteAt
  rw [show (8 * ((w : Int) - 1 - (k : Int))).toNat = 8 * (w - 1 - k) by omega]
theorem byte_wrap (x : Int) : IntKind.u8.wrap x = ((BitVec.ofInt 8 x).toNat : Int) := wrapu8 x
theorem numS_no {w n : Int} (h : mayW w = false) : numS w n = [] := by simp [numS, h]
theorem numS_is {w n : Int} (h : mayW w = true) : numS w n = numB w.toNat n w.toNat := by simp [numS, h]
attribute [go_sem] byte_wrap
theorem good_Num (nil : Bool) (l : List (BitVec 8)) (hl : l.length ≤ 140737488355320) (hz : nil = true → l = []) (w n : Int) (hn : 0 ≤ n ∧ n < 18446744073709551616) : Good Try.prog 42 [(.sl 1 nil (bsl l), false), (i64 w, false), (.i .u64 n, false)] [] [(.sl 1 (nil && !mayW w) (bsl (l ++ numS w n)), true)] [] := by
  refine good_of_body3 30 Try.func42 rfl rfl rfl (by simp) ?_
  intro s m ha hr hv hG
  have f0 : s 0 = .v (.sl 1 nil (bsl l)) := ha 0 _ rfl
  have f1 : s 1 = .v (i64 w) := ha 1 _ rfl
  have f2 : s 2 = .v (.i .u64 n) := ha 2 _ rfl
  clear ha
  have hc : True := trivial
  have F := (And.intro f0 (And.intro f1 (And.intro f2 hG)))
  refine AW.seq ?_
  refine AW.region (cfg := cfgN) ?_
  refine stp (fun _ h => s0 h) ?_
  refine aops_nil ?_
  refine AW.seq ?_
  refine AW.region (cfg := cfgN) ?_
  refine stp (fun _ h => s0 h) ?_
  refine stp (fun _ h => co1 (w := good_Clone _ _ (by omega) hz) (x := h)) ?_
  refine stp (fun _ h => st h) ?_
  refine aops_nil ?_
  refine AW.seq ?_
  refine AW.seq ?_
  refine AW.region (cfg := cfgN) ?_
  refine stp (fun _ h => s0 h) ?_
  refine stp (fun _ h => cs (w := good_mayO _) (x := h)) ?_
  refine stp (fun _ h => s0 h) ?_
  refine aops_nil ?_
  refine cnd (fun hb => ?ht1) (fun hb => ?hf1)
  case ht1 =>
    have hw13 := hb
    try simp only [bo1, bo2, bo3, bo4, bo5, bo6] at hb
    have hbt13 := hb
    refine AW.seq ?_
    refine AW.region (cfg := cfgN) ?_
    refine stp (fun _ h => s0 h) ?_
    refine stp (fun _ h => sm h) ?_
    refine aops_nil ?_
    refine AW.ret ?_
    refine ⟨.inr rfl, ?_⟩
    (have hw : mayW w = false := (by simpa using hb); have e0 : (nil && !mayW w) = nil := (by simp [hw]); rw [e0, numS_no hw, List.append_nil]; refine leavesN (leaves_own1 6 rfl (by simp (disch := first | omega | decide) only [go_sem, F, aIndex_map] <;> rfl) (by simp (disch := first | omega | decide) only [go_sem, F, aIndex_map] <;> rfl) (by decide) (by simp [sub, List.take_of_length_le]) (by exact hG)))
  case hf1 =>
    have hw13 := hb
    try simp only [bo1, bo2, bo3, bo4, bo5, bo6] at hb
    have hbt13 := hb
    refine AW.skip ?_
    refine AW.seq ?_
    refine AW.seq ?_
    have hw : mayW w = true := by simpa using hbt13
    have hw2 := mayW_range hw
    have e0 : (nil && !mayW w) = false := by simp [hw]
    obtain ⟨W, rfl⟩ := Int.eq_ofNat_of_zero_le (show 0 ≤ w by omega)
    refine AW.region (cfg := cfgN) ?_
    refine stp (fun _ h => s0 h) ?_
    refine stp (fun _ h => sd h) ?_
    refine stp (fun _ h => s0 h) ?_
    refine aops_nil ?_
    refine AW.block ?_
    refine AW.forN (fun k σ => ∃ s m, σ = ⟨30, s, m⟩ ∧ s 2 = .v (.i .u64 n) ∧ s 7 = .own (.var 7) (m.objs (.var 7)).1 0 (l.length + k) ∧ (m.objs (.var 7)).2 = .arr (nil && decide (k = 0)) 1 (bsl (l ++ numB W n k)) ∧ s 8 = .v (i64 ((W : Int) - 1 - (k : Int))) ∧ (mayW (W : Int) = true) ∧ (∀ i, (m.objs (.res i)).2 = .dead) ∧ m.G = []) (W) ?_ ?_ ?_
    · refine ⟨_, _, rfl, ?_, ?_, ?_, ?_, ?_, (by intro i; simp [Mem.set, hr]), (by exact hG)⟩ <;> try simp (disch := first | omega | decide) only [go_sem, F, aIndex_map]
      all_goals first | rfl | assumption | (simp [numB]; done)
    · clear F f0 f1 f2 hr hG
      rintro k σ hk ⟨s, m, rfl, f2, f7, o7, f8, mo0, hr, hG⟩
      obtain ⟨g7, o7⟩ : ∃ g, m.objs (.var 7) = (g, .arr (nil && decide (k = 0)) 1 (bsl (l ++ numB W n k))) := ⟨_, Prod.ext rfl o7⟩
      rw [o7] at f7
      have F := (And.intro f2 (And.intro f7 (And.intro f8 (And.intro o7 hG))))
      refine AW.seq ?_
      refine AW.seq ?_
      refine AW.region (cfg := cfgN) ?_
      iterate 2 refine stp (fun _ h => s0 h) ?_
      refine aops_nil ?_
      refine cnd (fun hb => ?ht2) (fun hb => ?hf2)
      case hf2 => (simp at hb; omega)
      case ht2 =>
      have hbt18 := hb
      refine AW.skip ?_
      refine AW.seq ?_
      refine AW.block ?_
      refine AW.region (cfg := cfgN) ?_
      iterate 3 refine stp (fun _ h => s0 h) ?_
      iterate 3 refine stp (fun _ h => sd h) ?_
      refine stp (fun _ h => sq h) ?_
      refine stp (fun _ h => sp h) ?_
      refine stp (fun _ h => st h) ?_
      refine aops_nil ?_
      refine AW.region (cfg := cfgN) ?_
      refine stp (fun _ h => s0 h) ?_
      refine stp (fun _ h => sd h) ?_
      refine stp (fun _ h => s0 h) ?_
      refine aops_nil ?_
      refine ⟨_, _, rfl, ?_, ?_, ?_, ?_, ?_, (by intro i; simp [Mem.set, hr]), (by exact hG)⟩ <;> try simp (disch := first | omega | decide) only [go_sem, F, aIndex_map]
      all_goals first | rfl | assumption | (simp [numB_length]; omega) | (rw [numB_succ]; simp [sub, byte_div hk]; done)
    · clear F f0 f1 f2 hr hG
      rintro σ ⟨s, m, rfl, f2, f7, o7, f8, mo0, hr, hG⟩
      obtain ⟨g7, o7⟩ : ∃ g, m.objs (.var 7) = (g, .arr (nil && decide (W = 0)) 1 (bsl (l ++ numB W n W))) := ⟨_, Prod.ext rfl o7⟩
      rw [o7] at f7
      have F := (And.intro f2 (And.intro f7 (And.intro f8 (And.intro o7 hG))))
      refine AW.seq ?_
      refine AW.seq ?_
      refine AW.region (cfg := cfgN) ?_
      iterate 2 refine stp (fun _ h => s0 h) ?_
      refine aops_nil ?_
      refine cnd (fun hb => ?ht3) (fun hb => ?hf3)
      case ht3 => (simp at hb; omega)
      case hf3 =>
      have hbt18 := hb
      refine AW.exit ?_
      refine AW.seq ?_
      refine AW.region (cfg := cfgN) ?_
      refine stp (fun _ h => s0 h) ?_
      refine stp (fun _ h => sm h) ?_
      refine aops_nil ?_
      refine AW.ret ?_
      refine ⟨.inr rfl, ?_⟩
      (rw [show (nil && !mayW (W : Int)) = (nil && decide (W = 0)) by (have := mayW_range mo0; simp [mo0]; omega), numS_is mo0, Int.toNat_natCast]; refine leavesN (leaves_own1 6 rfl (by simp (disch := first | omega | decide) only [go_sem, F, aIndex_map] <;> rfl) (by simp (disch := first | omega | decide) only [go_sem, F, aIndex_map] <;> rfl) (by decide) (sub_full (by simp [numB_length])) (by exact hG)))
theorem byte_rem (x : Int) : BitVec.ofInt 8 (x % 256) = BitVec.ofInt 8 x := by
  apply BitVec.eq_of_toNat_eq
  simp [BitVec.toNat_ofInt]
theorem div_step (n : Int) (k : Nat) : n / 2 ^ (8 * k) / 256 = n / 2 ^ (8 * (k + 1)) := by
  rw [Int.ediv_ediv_of_nonneg (Int.le_of_lt (Int.pow_pos (by omega))), show 8 * (k + 1) = 8 * k + 8 by omega, Int.pow_add]
  rfl
theorem div_range {n : Int} (h : 0 ≤ n ∧ n < 18446744073709551616) (k : Nat) : 0 ≤ n / 2 ^ (8 * k) ∧ n / 2 ^ (8 * k) < 18446744073709551616 :=
  ⟨Int.ediv_nonneg h.1 (Int.le_of_lt (Int.pow_pos (by omega))), Int.lt_of_le_of_lt (Int.ediv_le_self _ h.1) h.2⟩
attribute [go_sem] byte_rem
theorem good_refNum (W : Nat) (n : Int) (hW : W ≤ 8) (hn : 0 ≤ n ∧ n < 18446744073709551616) : Good Try.prog 50 [(i64 (W : Int), false), (.i .u64 n, false)] [] [(.sl 1 false (bsl (numR n W)), true)] [] := by
  refine good_of_body3 22 Try.func50 rfl rfl rfl (by simp) ?_
  intro s m ha hr hv hG
  have f0 : s 0 = .v (i64 (W : Int)) := ha 0 _ rfl
  have f1 : s 1 = .v (.i .u64 n) := ha 1 _ rfl
  clear ha
  have hc : True := trivial
  have F := (And.intro f0 (And.intro f1 hG))
  refine AW.seq ?_
  refine AW.region (cfg := cfg4) ?_
  refine stp (fun _ h => s0 h) ?_
  refine aops_nil ?_
  refine AW.seq ?_
  refine AW.region (cfg := cfg4) ?_
  refine stp (fun _ h => sq h) ?_
  refine stp (fun _ h => st h) ?_
  refine aops_nil ?_
  refine AW.seq ?_
  refine AW.seq ?_
  refine AW.region (cfg := cfg4) ?_
  refine stp (fun _ h => s0 h) ?_
  refine aops_nil ?_
  refine AW.block ?_
  refine AW.forN (fun k σ => ∃ s m, σ = ⟨22, s, m⟩ ∧ s 0 = .v (i64 (W : Int)) ∧ s 1 = .v (.i .u64 (n / 2 ^ (8 * k))) ∧ s 5 = .own (.var 5) (m.objs (.var 5)).1 0 (k) ∧ (m.objs (.var 5)).2 = .arr false 1 (bsl (numR n k)) ∧ s 6 = .v (i64 (k : Int)) ∧ (∀ i, (m.objs (.res i)).2 = .dead) ∧ m.G = []) (W) ?_ ?_ ?_
  · refine ⟨_, _, rfl, ?_, ?_, ?_, ?_, ?_, (by intro i; simp [Mem.set, hr]), (by exact hG)⟩ <;> try simp (disch := first | omega | decide) only [go_sem, F, aIndex_map]
    all_goals first | rfl | (simp; done)
  · clear F f0 f1 hr hG
    rintro k σ hk ⟨s, m, rfl, f0, f1, f5, o5, f6, hr, hG⟩
    obtain ⟨g5, o5⟩ : ∃ g, m.objs (.var 5) = (g, .arr false 1 (bsl (numR n k))) := ⟨_, Prod.ext rfl o5⟩
    rw [o5] at f5
    have F := (And.intro f0 (And.intro f1 (And.intro f5 (And.intro f6 (And.intro o5 hG)))))
    refine AW.seq ?_
    refine AW.seq ?_
    refine AW.region (cfg := cfg4) ?_
    iterate 3 refine stp (fun _ h => s0 h) ?_
    refine aops_nil ?_
    refine cnd (fun hb => ?ht1) (fun hb => ?hf1)
    case hf1 => (simp at hb; omega)
    case ht1 =>
    have hbt10 := hb
    refine AW.skip ?_
    refine AW.seq ?_
    refine AW.block ?_
    refine AW.seq ?_
    have hd := div_range hn k
    refine AW.region (cfg := cfg4) ?_
    refine stp (fun _ h => s0 h) ?_
    iterate 2 refine stp (fun _ h => sd h) ?_
    refine stp (fun _ h => sq h) ?_
    refine stp (fun _ h => s0 h) ?_
    refine stp (fun _ h => sp h) ?_
    refine stp (fun _ h => st h) ?_
    refine aops_nil ?_
    refine AW.region (cfg := cfg4) ?_
    refine stp (fun _ h => s0 h) ?_
    refine stp (fun _ h => sd h) ?_
    refine stp (fun _ h => s0 h) ?_
    refine aops_nil ?_
    refine AW.region (cfg := cfg4) ?_
    refine stp (fun _ h => s0 h) ?_
    refine stp (fun _ h => sd h) ?_
    refine stp (fun _ h => s0 h) ?_
    refine aops_nil ?_
    refine ⟨_, _, rfl, ?_, ?_, ?_, ?_, ?_, (by intro i; simp [Mem.set, hr]), (by exact hG)⟩ <;> try simp (disch := first | omega | decide) only [go_sem, F, aIndex_map]
    all_goals first | rfl | (simp [numR_length]; omega) | (rw [div_step]; done)
  · clear F f0 f1 hr hG
    rintro σ ⟨s, m, rfl, f0, f1, f5, o5, f6, hr, hG⟩
    obtain ⟨g5, o5⟩ : ∃ g, m.objs (.var 5) = (g, .arr false 1 (bsl (numR n W))) := ⟨_, Prod.ext rfl o5⟩
    rw [o5] at f5
    have F := (And.intro f0 (And.intro f1 (And.intro f5 (And.intro f6 (And.intro o5 hG)))))
    refine AW.seq ?_
    refine AW.seq ?_
    refine AW.region (cfg := cfg4) ?_
    iterate 3 refine stp (fun _ h => s0 h) ?_
    refine aops_nil ?_
    refine cnd (fun hb => ?ht2) (fun hb => ?hf2)
    case ht2 => (simp at hb; done)
    case hf2 =>
    have hbt10 := hb
    refine AW.exit ?_
    refine AW.seq ?_
    refine AW.region (cfg := cfg4) ?_
    refine stp (fun _ h => s0 h) ?_
    refine stp (fun _ h => sm h) ?_
    refine aops_nil ?_
    refine AW.ret ?_
    refine ⟨.inr rfl, ?_⟩
    refine leavesN (leaves_own1 4 rfl (by simp (disch := first | omega | decide) only [go_sem, F, aIndex_map] <;> rfl) (by simp (disch := first | omega | decide) only [go_sem, F, aIndex_map] <;> rfl) (by decide) (sub_full (by simp [numR_length])) (by exact hG))
def txO (t : List (BitVec 8)) : Bool := decide (t.length ≤ 65535)
def txR (l t : List (BitVec 8)) : List (BitVec 8) := if txO t then l ++ numS 2 (t.length : Int) ++ t else l
theorem good_Read (nil : Bool) (l : List (BitVec 8)) (hl : l.length ≤ 140737488355328) (hz : nil = true → l = []) : Good Try.prog 36 [(.sl 1 nil (bsl l), false)] [] [(.gp 0 0, false)] [[.sl 1 (nil) (bsl (l)), .b (false)]] := by
  refine good_of_body2 7 Try.func36 rfl rfl rfl (by simp) ?_
  intro s m ha hr hv hG
  have f0 : s 0 = .v (.sl 1 nil (bsl l)) := ha 0 _ rfl
  clear ha
  have hc : True := trivial
  have F := (And.intro f0 hG)
  refine AW.seq ?_
  refine AW.region (cfg := cfgG) ?_
  refine stp (fun _ h => s0 h) ?_
  refine aops_nil ?_
  refine AW.seq ?_
  refine AW.region (cfg := cfgG) ?_
  refine stp (fun _ h => s0 h) ?_
  refine stp (fun _ h => co1 (w := good_Clone _ _ (by omega) hz) (x := h)) ?_
  refine stp (fun _ h => su h) ?_
  refine stp (fun _ h => sbg h) ?_
  refine stp (fun _ h => s0 h) ?_
  refine aops_nil ?_
  refine AW.ret ?_
  refine ⟨.inr rfl, ?_⟩
  refine leaves_tmp1 2 rfl ?_ (by simp [sub, List.take_of_length_le, Mem.set, hG])
  simp (disch := first | omega | decide) only [go_sem, F, aIndex_map]
  all_goals simp [hG, Mem.set]
theorem good_Wrong (nil : Bool) (l : List (BitVec 8)) (w : Bool) (hl : l.length ≤ 140737488355000) (hz : nil = true → l = []) : Good Try.prog 65 [(.gp 0 0, false)] [[.sl 1 (nil) (bsl (l)), .b (w)]] [(.b w, false)] [[.sl 1 (nil) (bsl (l)), .b (w)]] := by
  refine good_of_body2 11 Try.func65 rfl rfl rfl (by simp) ?_
  intro s m ha hr hv hG
  have f0 : s 0 = .v (.gp 0 0) := ha 0 _ rfl
  clear ha
  have hc : True := trivial
  have F := (And.intro f0 hG)
  refine AW.seq ?_
  refine AW.region (cfg := cfg) ?_
  refine stp (fun _ h => s0 h) ?_
  refine aops_nil ?_
  refine AW.seq ?_
  refine AW.region (cfg := cfg) ?_
  iterate 3 refine stp (fun _ h => s0 h) ?_
  refine mrg wa (fun hc _ h => s0 h) ?_
  refine mrg wa (fun hc _ h => sd h) ?_
  refine mrg wa (fun hc _ h => sx h) ?_
  refine mrg wa (fun hc _ h => sl h) ?_
  iterate 2 refine stp (fun _ h => s0 h) ?_
  refine aops_nil ?_
  refine AW.ret ?_
  refine ⟨.inr rfl, ?_⟩
  refine leaves_tmp1 2 rfl ?_ (by exact hG)
  simp (disch := first | omega | decide) only [go_sem, F, aIndex_map]
  all_goals rfl
theorem good_Done (nil : Bool) (l : List (BitVec 8)) (w : Bool) (hl : l.length ≤ 140737488355000) (hz : nil = true → l = []) : Good Try.prog 39 [(.gp 0 0, false)] [[.sl 1 (nil) (bsl (l)), .b (w)]] [(.b (!w && decide ((l.length : Int) = 0)), false)] [[.sl 1 (nil) (bsl (l)), .b (w)]] := by
  refine good_of_body2 14 Try.func39 rfl rfl rfl (by simp) ?_
  intro s m ha hr hv hG
  have f0 : s 0 = .v (.gp 0 0) := ha 0 _ rfl
  clear ha
  have hc : True := trivial
  have F := (And.intro f0 hG)
  refine AW.seq ?_
  refine AW.region (cfg := cfg) ?_
  refine stp (fun _ h => s0 h) ?_
  refine aops_nil ?_
  refine AW.seq ?_
  refine AW.region (cfg := cfg) ?_
  refine stp (fun _ h => s0 h) ?_
  refine stp (fun _ h => cg (w := good_Wrong _ _ _ (by omega) hz) (x := h)) ?_
  iterate 2 refine stp (fun _ h => s0 h) ?_
  refine mrg wa (fun hc _ h => s0 h) ?_
  refine mrg wa (fun hc _ h => sd h) ?_
  refine mrg wa (fun hc _ h => sx h) ?_
  refine mrg wa (fun hc _ h => sl h) ?_
  refine mrg wa (fun hc _ h => sd h) ?_
  refine mrg wa (fun hc _ h => s0 h) ?_
  iterate 2 refine stp (fun _ h => s0 h) ?_
  refine aops_nil ?_
  refine AW.ret ?_
  refine ⟨.inr rfl, ?_⟩
  refine leaves_tmp1 2 rfl ?_ (by rfl)
  simp (disch := first | omega | decide) only [go_sem, F, aIndex_map]
  all_goals first | done | rfl | (simp; done)
theorem tk_w (nil : Bool) (l : List (BitVec 8)) (n : Int) : tkF nil l true n = true ∧ tkV l true n = [] ∧ tkL l true n = l ∧ tkW l true n = true := ⟨rfl, rfl, rfl, rfl⟩
theorem tk_far {nil : Bool} {l : List (BitVec 8)} {n : Int} (h : n > (l.length : Int)) : tkF nil l false n = true ∧ tkV l false n = [] ∧ tkL l false n = l ∧ tkW l false n = true := by
  simp [tkF, tkV, tkL, tkW, h]
theorem tk_ok {nil : Bool} {l : List (BitVec 8)} {n : Int} (h : ¬ n > (l.length : Int)) : tkF nil l false n = nil ∧ tkV l false n = l.take n.toNat ∧ tkL l false n = l.drop n.toNat ∧ tkW l false n = false := by
  simp [tkF, tkV, tkL, tkW, h]
attribute [go_sem] Bool.false_or
theorem good_take (nil : Bool) (l : List (BitVec 8)) (w : Bool) (hl : l.length ≤ 140737488355000) (hz : nil = true → l = []) (n : Int) (hn : 0 ≤ n ∧ n ≤ 9223372036854775807) : Good Try.prog 64 [(.gp 0 0, false), (i64 n, false)] [[.sl 1 (nil) (bsl (l)), .b (w)]] [(.sl 1 (tkF nil l w n) (bsl (tkV l w n)), false)] [[.sl 1 (nil) (bsl (tkL l w n)), .b (tkW l w n)]] := by
  refine good_of_body3 41 Try.func64 rfl rfl rfl (by simp) ?_
  intro s m ha hr hv hG
  have f0 : s 0 = .v (.gp 0 0) := ha 0 _ rfl
  have f1 : s 1 = .v (i64 n) := ha 1 _ rfl
  clear ha
  have hc : True := trivial
  have F := (And.intro f0 (And.intro f1 hG))
  refine AW.seq ?_
  refine AW.region (cfg := cfg) ?_
  refine stp (fun _ h => s0 h) ?_
  refine aops_nil ?_
  refine AW.seq ?_
  refine AW.seq ?_
  refine AW.region (cfg := cfg) ?_
  iterate 4 refine stp (fun _ h => s0 h) ?_
  refine stp (fun _ h => sd h) ?_
  refine stp (fun _ h => sx h) ?_
  refine stp (fun _ h => sl h) ?_
  refine stp (fun _ h => s0 h) ?_
  refine aops_nil ?_
  refine cnd (fun hb => ?ht1) (fun hb => ?hf1)
  case ht1 =>
    have hw13 := hb
    try simp only [bo1, bo2, bo3, bo4, bo5, bo6] at hb
    have hbt13 := hb
    refine AW.seq ?_
    refine AW.region (cfg := cfg) ?_
    refine stp (fun _ h => s0 h) ?_
    refine aops_nil ?_
    refine AW.ret ?_
    refine ⟨.inr rfl, ?_⟩
    cases w
    all_goals first | (exfalso; simp at hbt13; done) | skip
    all_goals (obtain ⟨e1, e2, e3, e4⟩ := tk_w nil l n; rw [e1, e2, e3, e4]; refine ⟨_, nilEq_nil (nilEq_refl _), leaves_frz1 4 rfl (by simp (disch := first | omega | decide) only [go_sem, F, aIndex_map] <;> rfl) (by simp (disch := first | omega | decide) only [go_sem, F, aIndex_map] <;> rfl) rfl (by exact hG)⟩)
  case hf1 =>
    have hw13 := hb
    try simp only [bo1, bo2, bo3, bo4, bo5, bo6] at hb
    have hbt13 := hb
    refine AW.skip ?_
    refine AW.seq ?_
    refine AW.seq ?_
    refine AW.region (cfg := cfg) ?_
    iterate 2 refine stp (fun _ h => s0 h) ?_
    refine stp (fun _ h => sd h) ?_
    refine stp (fun _ h => sx h) ?_
    refine stp (fun _ h => sl h) ?_
    refine stp (fun _ h => sd h) ?_
    refine stp (fun _ h => s0 h) ?_
    refine aops_nil ?_
    refine cnd (fun hb => ?ht2) (fun hb => ?hf2)
    case ht2 =>
      have hw20 := hb
      try simp only [bo1, bo2, bo3, bo4, bo5, bo6] at hb
      have hbt20 := hb
      refine AW.seq ?_
      refine AW.region (cfg := cfg) ?_
      refine stp (fun _ h => s0 h) ?_
      refine stp (fun _ h => sd h) ?_
      refine stp (fun _ h => sx h) ?_
      refine stp0 (fun _ h => ss h) ?_
      refine aops_nil ?_
      refine AW.seq ?_
      refine AW.region (cfg := cfg) ?_
      refine stp (fun _ h => s0 h) ?_
      refine aops_nil ?_
      refine AW.ret ?_
      refine ⟨.inr rfl, ?_⟩
      cases w
      all_goals first | (exfalso; simp at hbt13; done) | skip
      all_goals (have z : n > (l.length : Int) := hbt20; obtain ⟨e1, e2, e3, e4⟩ := tk_far (nil := nil) z; rw [e1, e2, e3, e4]; refine ⟨_, nilEq_nil (nilEq_refl _), leaves_frz1 4 rfl (by simp (disch := first | omega | decide) only [go_sem, F, aIndex_map] <;> rfl) (by simp (disch := first | omega | decide) only [go_sem, F, aIndex_map] <;> rfl) rfl (by rfl)⟩)
    case hf2 =>
      have hw20 := hb
      try simp only [bo1, bo2, bo3, bo4, bo5, bo6] at hb
      have hbt20 := hb
      refine AW.skip ?_
      refine AW.seq ?_
      refine AW.region (cfg := cfg) ?_
      refine stp (fun _ h => s0 h) ?_
      refine stp (fun _ h => sd h) ?_
      refine stp (fun _ h => sx h) ?_
      refine stp (fun _ h => sl h) ?_
      iterate 2 refine stp (fun _ h => s0 h) ?_
      refine stp (fun _ h => sd h) ?_
      refine stp (fun _ h => s0 h) ?_
      refine aops_nil ?_
      refine AW.seq ?_
      refine AW.region (cfg := cfg) ?_
      iterate 2 refine stp (fun _ h => s0 h) ?_
      refine stp (fun _ h => sd h) ?_
      refine stp (fun _ h => sx h) ?_
      refine stp (fun _ h => sl h) ?_
      refine stp (fun _ h => s0 h) ?_
      iterate 2 refine stp (fun _ h => sd h) ?_
      refine stp (fun _ h => sx h) ?_
      refine stp0 (fun _ h => ss h) ?_
      refine aops_nil ?_
      refine AW.seq ?_
      refine AW.region (cfg := cfg) ?_
      iterate 2 refine stp (fun _ h => s0 h) ?_
      refine aops_nil ?_
      refine AW.ret ?_
      refine ⟨.inr rfl, ?_⟩
      cases w
      all_goals first | (exfalso; simp at hbt13; done) | skip
      all_goals (have z : ¬ n > (l.length : Int) := hbt20; obtain ⟨e1, e2, e3, e4⟩ := tk_ok (nil := nil) z; rw [e1, e2, e3, e4]; refine leavesN (leaves_tmp1 4 rfl (by simp (disch := first | omega | decide) only [go_sem, F, aIndex_map] <;> rfl) (by rfl)))
theorem rn_no {nil : Bool} {l : List (BitVec 8)} {w : Bool} {k : Int} (h : mayW k = false) : rnV l w k = 0 ∧ rnL l w k = l ∧ rnW l w k = true := by simp [rnV, rnL, rnW, h]
theorem rn_is {l : List (BitVec 8)} {w : Bool} {k : Int} (h : mayW k = true) : rnV l w k = numV (tkV l w k) ∧ rnL l w k = tkL l w k ∧ rnW l w k = tkW l w k := by simp [rnV, rnL, rnW, h]
attribute [go_sem] List.take_length
theorem good_NumR (nil : Bool) (l : List (BitVec 8)) (w : Bool) (hl : l.length ≤ 140737488355000) (hz : nil = true → l = []) (k : Int) : Good Try.prog 37 [(.gp 0 0, false), (i64 k, false)] [[.sl 1 (nil) (bsl (l)), .b (w)]] [(.i .u64 (rnV l w k), false)] [[.sl 1 (nil) (bsl (rnL l w k)), .b (rnW l w k)]] := by
  refine good_of_body3 31 Try.func37 rfl rfl rfl (by simp) ?_
  intro s m ha hr hv hG
  have f0 : s 0 = .v (.gp 0 0) := ha 0 _ rfl
  have f1 : s 1 = .v (i64 k) := ha 1 _ rfl
  clear ha
  have hc : True := trivial
  have F := (And.intro f0 (And.intro f1 hG))
  refine AW.seq ?_
  refine AW.region (cfg := cfg) ?_
  refine stp (fun _ h => s0 h) ?_
  refine aops_nil ?_
  refine AW.seq ?_
  refine AW.seq ?_
  refine AW.region (cfg := cfg) ?_
  refine stp (fun _ h => s0 h) ?_
  refine stp (fun _ h => cs (w := good_mayO _) (x := h)) ?_
  refine stp (fun _ h => s0 h) ?_
  refine aops_nil ?_
  refine cnd (fun hb => ?ht1) (fun hb => ?hf1)
  case ht1 =>
    have hw10 := hb
    try simp only [bo1, bo2, bo3, bo4, bo5, bo6] at hb
    have hbt10 := hb
    refine AW.seq ?_
    refine AW.seq ?_
    refine AW.region (cfg := cfg) ?_
    iterate 2 refine stp (fun _ h => s0 h) ?_
    refine aops_nil ?_
    refine cnd (fun hb => ?ht2) (fun hb => ?hf2)
    case hf2 => simp at hb
    case ht2 =>
    have hbt12 := hb
    refine AW.region (cfg := cfg) ?_
    refine stp (fun _ h => s0 h) ?_
    refine stp (fun _ h => sd h) ?_
    refine stp (fun _ h => sx h) ?_
    refine stp0 (fun _ h => ss h) ?_
    refine aops_nil ?_
    refine AW.seq ?_
    refine AW.region (cfg := cfg) ?_
    refine stp (fun _ h => s0 h) ?_
    refine aops_nil ?_
    refine AW.ret ?_
    refine ⟨.inr rfl, ?_⟩
    all_goals (have hw : mayW k = false := (by simpa using hbt10); obtain ⟨e1, e2, e3⟩ := rn_no (nil := nil) (l := l) (w := w) hw; rw [e1, e2, e3]; refine leavesN (leaves_tmp1 4 rfl (by simp (disch := first | omega | decide) only [go_sem, F, aIndex_map] <;> rfl) (by rfl)))
  case hf1 =>
    have hw10 := hb
    try simp only [bo1, bo2, bo3, bo4, bo5, bo6] at hb
    have hbt10 := hb
    refine AW.skip ?_
    refine AW.seq ?_
    refine AW.region (cfg := cfg) ?_
    refine stp (fun _ h => s0 h) ?_
    refine aops_nil ?_
    refine AW.seq ?_
    refine AW.seq ?_
    have hw : mayW k = true := by simpa using hbt10
    have hw2 := mayW_range hw
    have hkl := tkV_length l w k
    refine AW.region (cfg := cfg) ?_
    iterate 2 refine stp (fun _ h => s0 h) ?_
    refine stp (fun _ h => cg (w := good_take nil l w (by omega) hz _ (by omega)) (x := h)) ?_
    refine stp (fun _ h => sd h) ?_
    refine stp (fun _ h => s0 h) ?_
    refine aops_nil ?_
    refine AW.block ?_
    refine AW.forN (fun j σ => ∃ s m, σ = ⟨31, s, m⟩ ∧ s 5 = .v (.i .u64 (numV ((tkV l w k).take j))) ∧ s 18 = .v (.sl 1 (tkF nil l w k) (bsl (tkV l w k))) ∧ s 19 = .v (i64 ((tkV l w k).length : Int)) ∧ s 20 = .v (i64 (j : Int)) ∧ m.G = [[.sl 1 (nil) (bsl (tkL l w k)), .b (tkW l w k)]]) ((tkV l w k).length) ?_ ?_ ?_
    · refine ⟨_, _, rfl, ?_, ?_, ?_, ?_, (by rfl)⟩ <;> try simp (disch := first | omega | decide) only [go_sem, F, aIndex_map]
      all_goals rfl
    · clear F f0 f1 hG
      rintro j σ hj ⟨s, m, rfl, f5, f18, f19, f20, hG⟩
      have F := (And.intro f5 (And.intro f18 (And.intro f19 (And.intro f20 hG))))
      refine AW.seq ?_
      refine AW.region (cfg := cfg) ?_
      refine stp (fun _ h => s0 h) ?_
      refine aops_nil ?_
      refine AW.seq ?_
      refine cnd (fun hb => ?ht3) (fun hb => ?hf3)
      case hf3 => (simp at hb; omega)
      case ht3 =>
      have hbt21 := hb
      refine AW.skip ?_
      refine AW.seq ?_
      refine AW.block ?_
      refine AW.seq ?_
      refine AW.region (cfg := cfg) ?_
      refine stp (fun _ h => si h) ?_
      refine stp (fun _ h => sl h) ?_
      refine stp (fun _ h => s0 h) ?_
      refine aops_nil ?_
      have hv := numV_lt (b := (tkV l w k).take j) (by simp; omega)
      refine AW.region (cfg := cfg) ?_
      refine stp (fun _ h => s0 h) ?_
      refine stp (fun _ h => sd h) ?_
      refine stp (fun _ h => s0 h) ?_
      iterate 2 refine stp (fun _ h => sd h) ?_
      refine stp (fun _ h => s0 h) ?_
      refine aops_nil ?_
      refine AW.region (cfg := cfg) ?_
      refine stp (fun _ h => sd h) ?_
      refine stp (fun _ h => s0 h) ?_
      refine aops_nil ?_
      refine ⟨_, _, rfl, ?_, ?_, ?_, ?_, (by exact hG)⟩ <;> try simp (disch := first | omega | decide) only [go_sem, F, aIndex_map]
      all_goals first | rfl | (rw [numV_take hj]; done)
    · clear F f0 f1 hG
      rintro σ ⟨s, m, rfl, f5, f18, f19, f20, hG⟩
      have F := (And.intro f5 (And.intro f18 (And.intro f19 (And.intro f20 hG))))
      refine AW.seq ?_
      refine AW.region (cfg := cfg) ?_
      refine stp (fun _ h => s0 h) ?_
      refine aops_nil ?_
      refine AW.seq ?_
      refine cnd (fun hb => ?ht4) (fun hb => ?hf4)
      case ht4 => (simp at hb; done)
      case hf4 =>
      have hbt21 := hb
      refine AW.exit ?_
      refine AW.seq ?_
      refine AW.region (cfg := cfg) ?_
      iterate 2 refine stp (fun _ h => s0 h) ?_
      refine aops_nil ?_
      refine AW.ret ?_
      refine ⟨.inr rfl, ?_⟩
      all_goals (obtain ⟨e1, e2, e3⟩ := rn_is (l := l) (w := w) hw; rw [e1, e2, e3]; refine leavesN (leaves_tmp1 4 rfl (by simp (disch := first | omega | decide) only [go_sem, F, aIndex_map] <;> rfl) (by exact hG)))
theorem r_bad {l : List (BitVec 8)} {at_ : Nat} {w : Bool} {k : Int} (h : rBad l at_ w k = true) : rV l at_ w k = 0 ∧ rA l at_ w k = at_ := by simp [rV, rA, h]
theorem r_ok {l : List (BitVec 8)} {at_ : Nat} {w : Bool} {k : Int} (h : rBad l at_ w k = false) : rV l at_ w k = numV ((l.drop at_).take k.toNat) ∧ rA l at_ w k = at_ + k.toNat := by simp [rV, rA, h]
theorem drop_get {l : List (BitVec 8)} {a j n : Nat} (h : j < ((l.drop a).take n).length) : ((l.drop a).take n)[j] = l[a + j]'(by simp at h; omega) := by simp
theorem good_refReadNum (nil : Bool) (l : List (BitVec 8)) (at_ : Nat) (w : Bool) (hl : l.length ≤ 140737488355000) (hat : at_ ≤ l.length) (k : Int) : Good Try.prog 40 [(.agg [.sl 1 nil (bsl l), i64 (at_ : Int), .b w], false), (i64 k, false)] [] [(.agg [.sl 1 nil (bsl l), i64 (rA l at_ w k : Int), .b (rBad l at_ w k)], false), (.i .u64 (rV l at_ w k), false)] [] := by
  refine good_of_body2 54 Try.func40 rfl rfl rfl (by simp) ?_
  intro s m ha hr hv hG
  have f0 : s 0 = .v (.agg [.sl 1 nil (bsl l), i64 (at_ : Int), .b w]) := ha 0 _ rfl
  have f1 : s 1 = .v (i64 k) := ha 1 _ rfl
  clear ha
  have hc : True := trivial
  have F := (And.intro f0 (And.intro f1 hG))
  refine AW.seq ?_
  refine AW.region (cfg := cfg) ?_
  refine stp (fun _ h => sb h) ?_
  refine stp (fun _ h => sd h) ?_
  refine stp (fun _ h => s0 h) ?_
  refine aops_nil ?_
  refine AW.seq ?_
  refine AW.seq ?_
  refine AW.region (cfg := cfg) ?_
  refine stp (fun _ h => sx h) ?_
  refine stp (fun _ h => sl h) ?_
  refine stp (fun _ h => s0 h) ?_
  iterate 2 refine mrg wa (fun hc _ h => s0 h) ?_
  iterate 2 refine stp (fun _ h => s0 h) ?_
  iterate 2 refine mrg wa (fun hc _ h => s0 h) ?_
  iterate 2 refine stp (fun _ h => s0 h) ?_
  refine mrg wa (fun hc _ h => s0 h) ?_
  refine mrg wa (fun hc _ h => sx h) ?_
  refine mrg wa (fun hc _ h => sl h) ?_
  refine mrg wa (fun hc _ h => sd h) ?_
  refine mrg wa (fun hc _ h => sx h) ?_
  refine mrg wa (fun hc _ h => sl h) ?_
  refine mrg wa (fun hc _ h => sd h) ?_
  refine mrg wa (fun hc _ h => s0 h) ?_
  refine stp (fun _ h => s0 h) ?_
  refine aops_nil ?_
  refine cnd (fun hb => ?ht1) (fun hb => ?hf1)
  case ht1 =>
    have hw27 := hb
    try simp only [bo1, bo2, bo3, bo4, bo5, bo6] at hb
    have hbt27 := hb
    refine AW.seq ?_
    refine AW.region (cfg := cfg) ?_
    refine stp (fun _ h => sx h) ?_
    refine stp0 (fun _ h => ss h) ?_
    refine aops_nil ?_
    refine AW.seq ?_
    refine AW.region (cfg := cfg) ?_
    refine stp (fun _ h => sl h) ?_
    refine stp0 (fun _ h => ss h) ?_
    refine stp (fun _ h => s0 h) ?_
    refine aops_nil ?_
    refine AW.ret ?_
    refine ⟨.inr rfl, ?_⟩
    refine leaves_mwp2 (rs := [.cell 4 73, .tmp 5]) rfl ?_
    simp (config := {failIfUnchanged := false}) [giveL, srcOne, rehome, freezeN, sub, ti73, upd, opn, aLoad, loadL, giveOne, reify, reifyL, readL, readOne, Mwp, M.bind, Mem.set, setAt, cellsL, hG, f0, f1]
    all_goals (have hb0 : rBad l at_ w k = true := (by simpa [rBad] using hbt27); obtain ⟨e1, e2⟩ := r_bad hb0; simp [hb0, e1, e2]; done)
  case hf1 =>
    have hw27 := hb
    try simp only [bo1, bo2, bo3, bo4, bo5, bo6] at hb
    have hbt27 := hb
    refine AW.skip ?_
    refine AW.seq ?_
    have hb0 : rBad l at_ w k = false := by simpa [rBad] using hbt27
    have hb1 := hb0
    simp [rBad] at hb1
    obtain ⟨e1, e2⟩ := r_ok hb0
    refine AW.region (cfg := cfg) ?_
    refine stp (fun _ h => s0 h) ?_
    refine aops_nil ?_
    refine AW.seq ?_
    refine AW.seq ?_
    refine AW.region (cfg := cfg) ?_
    refine stp (fun _ h => s0 h) ?_
    refine aops_nil ?_
    refine AW.block ?_
    refine AW.forN (fun j σ => ∃ s m, σ = ⟨54, s, m⟩ ∧ s 1 = .v (i64 k) ∧ s 2 = .lptr (.tmp 2 0) (m.objs (.tmp 2 0)).1 0 ∧ (m.objs (.tmp 2 0)).2 = .box [.v (.sl 1 nil (bsl l)), .v (i64 (at_ : Int)), .v (.b w)] ∧ s 4 = .lptr (.tmp 4 0) (m.objs (.tmp 4 0)).1 0 ∧ (m.objs (.tmp 4 0)).2 = .box [.v (.sl 1 true []), .v (i64 0), .v (.b false)] ∧ s 6 = .v (.i .u64 (numV (((l.drop at_).take k.toNat).take j))) ∧ s 7 = .v (i64 (j : Int)) ∧ m.G = []) (k.toNat) ?_ ?_ ?_
    · refine ⟨_, _, rfl, ?_, ?_, ?_, ?_, ?_, ?_, ?_, (by exact hG)⟩ <;> try simp (disch := first | omega | decide) only [go_sem, F, aIndex_map]
      all_goals rfl
    · clear F f0 f1 hG
      rintro j σ hj ⟨s, m, rfl, f1, f2, o2, f4, o4, f6, f7, hG⟩
      obtain ⟨g2, o2⟩ : ∃ g, m.objs (.tmp 2 0) = (g, .box [.v (.sl 1 nil (bsl l)), .v (i64 (at_ : Int)), .v (.b w)]) := ⟨_, Prod.ext rfl o2⟩
      rw [o2] at f2
      obtain ⟨g4, o4⟩ : ∃ g, m.objs (.tmp 4 0) = (g, .box [.v (.sl 1 true []), .v (i64 0), .v (.b false)]) := ⟨_, Prod.ext rfl o4⟩
      rw [o4] at f4
      have F := (And.intro f1 (And.intro f2 (And.intro f4 (And.intro f6 (And.intro f7 (And.intro o2 (And.intro o4 hG)))))))
      refine AW.seq ?_
      refine AW.seq ?_
      refine AW.region (cfg := cfg) ?_
      iterate 3 refine stp (fun _ h => s0 h) ?_
      refine aops_nil ?_
      refine cnd (fun hb => ?ht2) (fun hb => ?hf2)
      case hf2 => (simp at hb; omega)
      case ht2 =>
      have hbt32 := hb
      refine AW.skip ?_
      refine AW.seq ?_
      refine AW.block ?_
      have hlen : ((l.drop at_).take k.toNat).length = k.toNat := by simp; omega
      have hv := numV_lt (b := ((l.drop at_).take k.toNat).take j) (by simp; omega)
      refine AW.region (cfg := cfg) ?_
      refine stp (fun _ h => s0 h) ?_
      refine stp (fun _ h => sd h) ?_
      refine stp (fun _ h => sx h) ?_
      refine stp (fun _ h => sl h) ?_
      refine stp (fun _ h => sx h) ?_
      refine stp (fun _ h => sl h) ?_
      refine stp (fun _ h => s0 h) ?_
      refine stp (fun _ h => sd h) ?_
      refine stp (fun _ h => si h) ?_
      refine stp (fun _ h => sl h) ?_
      iterate 2 refine stp (fun _ h => sd h) ?_
      refine stp (fun _ h => s0 h) ?_
      refine aops_nil ?_
      refine AW.region (cfg := cfg) ?_
      refine stp (fun _ h => s0 h) ?_
      refine stp (fun _ h => sd h) ?_
      refine stp (fun _ h => s0 h) ?_
      refine aops_nil ?_
      refine ⟨_, _, rfl, ?_, ?_, ?_, ?_, ?_, ?_, ?_, (by exact hG)⟩ <;> try simp (disch := first | omega | decide) only [go_sem, F, aIndex_map]
      all_goals first | rfl | (rw [numV_take (by rw [hlen]; exact hj), drop_get]; rfl)
    · clear F f0 f1 hG
      rintro σ ⟨s, m, rfl, f1, f2, o2, f4, o4, f6, f7, hG⟩
      obtain ⟨g2, o2⟩ : ∃ g, m.objs (.tmp 2 0) = (g, .box [.v (.sl 1 nil (bsl l)), .v (i64 (at_ : Int)), .v (.b w)]) := ⟨_, Prod.ext rfl o2⟩
      rw [o2] at f2
      obtain ⟨g4, o4⟩ : ∃ g, m.objs (.tmp 4 0) = (g, .box [.v (.sl 1 true []), .v (i64 0), .v (.b false)]) := ⟨_, Prod.ext rfl o4⟩
      rw [o4] at f4
      have F := (And.intro f1 (And.intro f2 (And.intro f4 (And.intro f6 (And.intro f7 (And.intro o2 (And.intro o4 hG)))))))
      refine AW.seq ?_
      refine AW.seq ?_
      refine AW.region (cfg := cfg) ?_
      iterate 3 refine stp (fun _ h => s0 h) ?_
      refine aops_nil ?_
      refine cnd (fun hb => ?ht3) (fun hb => ?hf3)
      case ht3 => (simp at hb; omega)
      case hf3 =>
      have hbt32 := hb
      refine AW.exit ?_
      refine AW.seq ?_
      refine AW.region (cfg := cfg) ?_
      refine stp (fun _ h => sx h) ?_
      refine stp (fun _ h => sl h) ?_
      refine stp (fun _ h => s0 h) ?_
      refine stp (fun _ h => sd h) ?_
      refine stp (fun _ h => sx h) ?_
      refine stp0 (fun _ h => ss h) ?_
      refine aops_nil ?_
      refine AW.seq ?_
      refine AW.region (cfg := cfg) ?_
      refine stp (fun _ h => sl h) ?_
      refine stp (fun _ h => s0 h) ?_
      refine stp0 (fun _ h => ss h) ?_
      refine stp (fun _ h => s0 h) ?_
      refine aops_nil ?_
      refine AW.ret ?_
      refine ⟨.inr rfl, ?_⟩
      refine leaves_mwp2 (rs := [.cell 4 73, .tmp 5]) rfl ?_
      simp (config := {failIfUnchanged := false}) [giveL, srcOne, rehome, freezeN, sub, ti73, upd, opn, aLoad, loadL, giveOne, reify, reifyL, readL, readOne, Mwp, M.bind, Mem.set, setAt, cellsL, hG, f1, f2, f4, f6, f7, o2, o4]
      all_goals (rw [hb0, e1, e2, List.take_of_length_le (List.length_take_le _ _)]; refine ⟨⟨by omega, hb1.1.1.1⟩, rfl⟩)
def nilS (l : List (BitVec 8)) (at_ : Nat) (w : Bool) : Bool := sBad l at_ w
end Go.Vai.O
