import Derived.Test.YtheihmlgnldijaatDb2
import Derived.Shelf.Spec.SlicesInsert
namespace Go.Vai.DB
open Go.Proofs Go.Vai Go.Vai.D Go.Vai.I Go.Vai.L Go.Vai.N Go.Vai.O
set_option linter.unusedSimpArgs false
set_option linter.unusedVariables false
set_option maxHeartbeats 4000000
set_option maxRecDepth 100000
theorem InsLsa_shift (inf : TypeInfo) (hi0 : Try.prog.info? 33 = some inf) (hsz : inf.size = 3) (b n c i vc : Nat) (ad : Addr) (cs : Array Value) (tb : TypeId) (ca0 : Array Value) (ta : TypeId) (fa : Nat × Nat) (vs : List Value) (w : World) (hi : i < n) (hroom : n + 1 ≤ c) (hc63 : c ≤ 9223372036854775807)
    (hb : w.heap[b]? = some (.cells cs tb (0, 0))) (hcs : c * 3 ≤ cs.size) (hne : ad.block ≠ b) (ha : w.heap[ad.block]? = some (.cells ca0 ta fa)) (hka : ca0.size ≠ 0)
    (hvl : vs.length = 3) (hvs : ∀ j v, vs[j]? = some v → w.cell? (ad.add j) = some v) (h1c : ∀ v ∈ cs.toList.take (n * 3), v.oneCell' = true) (h1v : ∀ v ∈ vs, v.oneCell' = true) :
    Calls Try.prog 51 #[.slice (some ⟨b, 0, none⟩) n c, .int .i64 i, .slice (some ad) 1 vc] w fun e w' =>
      e = .returned (.slice (some ⟨b, 0, none⟩) (n + 1) c) ∧ w' = (w.drew.setRow b (spl cs ((i + 1) * 3) ((cs.toList.take (n * 3)).drop (i * 3)))).setRow b (spl (spl cs ((i + 1) * 3) ((cs.toList.take (n * 3)).drop (i * 3))) (i * 3) vs) := by
  have tS := un22
  have uS' := run_underlying (P := Try.prog) un22
  have t3 : Try.prog.underlying 3 = some (.int .i64) := by kernel_rfl
  have u3' := run_underlying (P := Try.prog) t3
  have zE : ∀ w, (Go.sizeOf 33).run Try.prog w = .ok 3 w := fun w => by rw [run_sizeOf hi0, hsz]
  have hz2 : ¬ ((i : Int) = (n : Int)) := by omega
  have hov : ∀ lb cb, (callFunc 60 #[.slice (some ad) 1 vc, .slice (some ⟨b, (i + 1) * 3, none⟩) lb cb]).run Try.prog w = .ok (.value (.bool false)) w := fun lb cb => by
    rw [run_callFunc_extern Try.func60 (by kernel_rfl) (by kernel_rfl) (by kernel_rfl) (e := Extern.SlicesOverlaps.overlaps #[22, 22] #[4]) (by kernel_rfl),
      run_overlaps_own tS hi0 hne ha hb (by omega) hka]
    rfl
  obtain ⟨mv, hmv⟩ : ∃ mv, mv = (cs.toList.take (n * 3)).drop (i * 3) := ⟨_, rfl⟩
  rw [← hmv]
  have hml : mv.length = (n - i) * inf.size := by rw [hmv, hsz]; simp; omega
  have hcp1 : ∀ ty dc sc, (Builtin.copy_ #[22, 22] ty #[.slice (some ⟨b, (i + 1) * 3, none⟩) (n - i) dc, .slice (some ⟨b, i * 3, none⟩) (n + 1 - i) sc]).run Try.prog w.drew = .ok (goInt (n - i : Nat)) (w.drew.setRow b (spl cs ((i + 1) * 3) mv)) := fun ty dc sc =>
    run_copy_k w.drew 22 22 ty 33 inf mv tS hi0 (n - i) (by simp only [Nat.min_def]; split <;> omega) hml
      (fun j v hj => by
        rw [add_off]
        show w.cell? _ = _
        simp only [World.cell?, hb]
        rw [hmv, List.getElem?_drop, List.getElem?_take] at hj
        split at hj
        · simpa using hj
        · cases hj) hb (by rw [hml, hsz]; omega) (fun v hv => h1c v (by rw [hmv] at hv; exact List.mem_of_mem_drop hv))
  obtain ⟨cs1, hcs1⟩ : ∃ cs1, cs1 = spl cs ((i + 1) * 3) mv := ⟨_, rfl⟩
  rw [← hcs1] at hcp1 ⊢
  have hb1 : (w.drew.setRow b cs1).heap[b]? = some (.cells cs1 tb (0, 0)) := setRow_heap w.drew b cs cs1 tb (0, 0) hb
  have hs1 : cs1.size = cs.size := by rw [hcs1]; exact spl_size (by rw [hml, hsz]; omega)
  have hcp2 : ∀ ty dc, (Builtin.copy_ #[22, 22] ty #[.slice (some ⟨b, i * 3, none⟩) (n + 1 - i) dc, .slice (some ad) 1 vc]).run Try.prog (w.drew.setRow b cs1) = .ok (goInt (1 : Nat)) ((w.drew.setRow b cs1).setRow b (spl cs1 (i * 3) vs)) := fun ty dc =>
    run_copy_k _ 22 22 ty 33 inf vs tS hi0 1 (by simp only [Nat.min_def]; split <;> omega) (by rw [hvl, hsz])
      (fun j v hj => by
        have e : (ad.add j).block ≠ b := by rw [add_block]; exact hne
        rw [cell_setRow_other _ _ _ _ e]
        exact hvs j v hj) hb1 (by rw [hvl, hs1]; omega) h1v
  have hw1 : IntKind.i64.wrap ((i : Int) + 1) = (i : Int) + 1 := by rw [IntKind.wrap_i64]; omega
  have hw2 : (0 : Int) ≤ (i : Int) + 1 := by omega
  have hw3 : (i : Int) + 1 ≤ (n : Int) + 1 := by omega
  have hw4 : (i : Int) ≤ (n : Int) + 1 := by omega
  have htn : ((i : Int) + 1).toNat = i + 1 := by omega
  have hin : i ≤ n := by omega
  have hb4 : ¬ (c = i) := by omega
  have hb2 : ¬ (c = i + 1) := by omega
  have hb5 : n + 1 - (i + 1) = n - i := by omega
  have mixed : Try.prog.follows .mixedOrders = true := by kernel_rfl
  clear hcs1 hmv hs1 hml
  go_enter Try.func51, Try.ntmps51
  go_wp2_with (simp only [hov])
  go_region_law_o (refine step_copy_runI rfl _ _ 22 22 rfl _ _ (by simp [Act.eval, Act.put]) (by simp [Act.eval, Act.put]) (hcp1 _ _ _) ?_)
  go_wp2_with (at_builtin; refine wpList_copy_runI _ rfl _ _ 22 22 rfl _ _ rfl rfl (hcp2 _ _) ?_)
  go_ret
  exact ⟨rfl, rfl⟩
theorem InsLsa_end0 (inf : TypeInfo) (hi0 : Try.prog.info? 33 = some inf) (hsz : inf.size = 3) (vc : Nat) (ad : Addr) (w w2 : World) (v2 : Value)
    (hrun : ∀ ty, (Builtin.append_ #[22, 22] ty #[.slice none 0 0, .slice (some ad) 1 vc]).run Try.prog w = .ok v2 w2) :
    Calls Try.prog 51 #[.slice none 0 0, .int .i64 (0 : Nat), .slice (some ad) 1 vc] w fun e w' => e = .returned v2 ∧ w' = w2 := by
  have tS := un22
  have uS' := run_underlying (P := Try.prog) un22
  have t3 : Try.prog.underlying 3 = some (.int .i64) := by kernel_rfl
  have u3' := run_underlying (P := Try.prog) t3
  have zE : ∀ w, (Go.sizeOf 33).run Try.prog w = .ok 3 w := fun w => by rw [run_sizeOf hi0, hsz]
  go_enter Try.func51, Try.ntmps51
  go_wp2_with (at_builtin; refine Lib.wpList_append_run _ rfl _ _ _ _ rfl _ _ rfl rfl _ _ (hrun _) ?_)
  go_ret
  exact ⟨rfl, rfl⟩
theorem InsLsa_end1 (inf : TypeInfo) (hi0 : Try.prog.info? 33 = some inf) (hsz : inf.size = 3) (b n c vc : Nat) (ad : Addr) (w w2 : World) (v2 : Value) (hnc : n ≤ c) (hc63 : c ≤ 9223372036854775807)
    (hrun : ∀ ty, (Builtin.append_ #[22, 22] ty #[.slice (some ⟨b, 0, none⟩) n c, .slice (some ad) 1 vc]).run Try.prog w = .ok v2 w2) :
    Calls Try.prog 51 #[.slice (some ⟨b, 0, none⟩) n c, .int .i64 n, .slice (some ad) 1 vc] w fun e w' => e = .returned v2 ∧ w' = w2 := by
  have tS := un22
  have uS' := run_underlying (P := Try.prog) un22
  have t3 : Try.prog.underlying 3 = some (.int .i64) := by kernel_rfl
  have u3' := run_underlying (P := Try.prog) t3
  have zE : ∀ w, (Go.sizeOf 33).run Try.prog w = .ok 3 w := fun w => by rw [run_sizeOf hi0, hsz]
  go_enter Try.func51, Try.ntmps51
  go_wp2_with (at_builtin; refine Lib.wpList_append_run _ rfl _ _ _ _ rfl _ _ rfl rfl _ _ (hrun _) ?_)
  all_goals (go_ret; exact ⟨rfl, rfl⟩)
theorem InsLsa_grow (inf : TypeInfo) (hi0 : Try.prog.info? 33 = some inf) (hsz : inf.size = 3) (b n c i vc G : Nat) (ad : Addr) (cs ROW : Array Value) (tb : TypeId) (vs : List Value) (w : World) (hi : i < n) (hnc : n ≤ c) (hroom : c < n + 1) (hc63 : c ≤ 9223372036854775807) (hG : n + 1 ≤ G) (hG63 : G ≤ 9223372036854775807)
    (hb : w.heap[b]? = some (.cells cs tb (0, 0))) (hcs : n * 3 ≤ cs.size) (hav : ad.block ≠ w.heap.size)
    (hvl : vs.length = 3) (hvs : ∀ j v, vs[j]? = some v → w.cell? (ad.add j) = some v) (h1c : ∀ v ∈ cs.toList.take (n * 3), v.oneCell' = true) (h1v : ∀ v ∈ vs, v.oneCell' = true)
    (hrun : ∀ ty, (Builtin.append_ #[22, 3] ty #[.slice (some ⟨b, 0, none⟩) i c, .int .i64 ((n : Int) + 1 - (i : Int))]).run Try.prog w = .ok (.slice (some ⟨w.heap.size, 0, none⟩) (n + 1) G) (w.drew.alloc (.cells ROW 33))) (hrow : (n + 1) * 3 ≤ ROW.size) :
    Calls Try.prog 51 #[.slice (some ⟨b, 0, none⟩) n c, .int .i64 i, .slice (some ad) 1 vc] w fun e w' =>
      e = .returned (.slice (some ⟨w.heap.size, 0, none⟩) (n + 1) G) ∧
      w' = (((w.drew.alloc (.cells ROW 33)).setRow w.heap.size (spl ROW (i * 3) vs)).drew).setRow w.heap.size (spl (spl ROW (i * 3) vs) ((i + 1) * 3) ((cs.toList.take (n * 3)).drop (i * 3))) := by
  have tS := un22
  have uS' := run_underlying (P := Try.prog) un22
  have t3 : Try.prog.underlying 3 = some (.int .i64) := by kernel_rfl
  have u3' := run_underlying (P := Try.prog) t3
  have zE : ∀ w, (Go.sizeOf 33).run Try.prog w = .ok 3 w := fun w => by rw [run_sizeOf hi0, hsz]
  have hz2 : ¬ ((i : Int) = (n : Int)) := by omega
  have hz3 : (c : Int) < (n : Int) + 1 := by omega
  obtain ⟨mv, hmv⟩ : ∃ mv, mv = (cs.toList.take (n * 3)).drop (i * 3) := ⟨_, rfl⟩
  rw [← hmv]
  have hml : mv.length = (n - i) * inf.size := by rw [hmv, hsz]; simp; omega
  have hbw : b < w.heap.size := (Array.getElem?_eq_some_iff.1 hb).1
  have hbN : b ≠ w.heap.size := by omega
  obtain ⟨N, hN⟩ : ∃ N, N = w.heap.size := ⟨_, rfl⟩
  obtain ⟨W1, hW1⟩ : ∃ W1, W1 = w.drew.alloc (.cells ROW 33) := ⟨_, rfl⟩
  have hbA : W1.heap[N]? = some (.cells ROW 33 (0, 0)) := by rw [hW1, hN]; exact alloc_new w.drew _
  have hbB : W1.heap[b]? = some (.cells cs tb (0, 0)) := by rw [hW1, alloc_same w.drew _ b hbw (by show b ≠ w.heap.size; omega)]; exact hb
  rw [← hW1, ← hN] at hrun ⊢
  rw [← hN] at hav hbN
  have hcpA : ∀ ty dc, (Builtin.copy_ #[22, 22] ty #[.slice (some ⟨N, i * 3, none⟩) (n + 1 - i) dc, .slice (some ad) 1 vc]).run Try.prog W1 = .ok (goInt (1 : Nat)) (W1.setRow N (spl ROW (i * 3) vs)) := fun ty dc =>
    run_copy_k _ 22 22 ty 33 inf vs tS hi0 1 (by simp only [Nat.min_def]; split <;> omega) (by rw [hvl, hsz])
      (fun j v hj => by
        have h := hvs j v hj
        have hlt : (ad.add j).block < w.drew.heap.size := by
          simp only [World.cell?] at h
          split at h
          · exact (Array.getElem?_eq_some_iff.1 (by assumption)).1
          · cases h
        rw [hW1]
        exact (cell_same (w := w) (w' := w.drew.alloc (.cells ROW 33)) (alloc_same w.drew _ _ hlt (by omega))).trans h) hbA (by omega) h1v
  obtain ⟨R2, hR2⟩ : ∃ R2, R2 = spl ROW (i * 3) vs := ⟨_, rfl⟩
  rw [← hR2] at hcpA ⊢
  have hs2 : R2.size = ROW.size := by rw [hR2]; exact spl_size (by omega)
  have hbC : (W1.setRow N R2).drew.heap[N]? = some (.cells R2 33 (0, 0)) := setRow_heap W1 N ROW R2 33 (0, 0) hbA
  have hbD : (W1.setRow N R2).drew.heap[b]? = some (.cells cs tb (0, 0)) := (setRow_other W1 N b R2 hbN).trans hbB
  have hcpB : ∀ ty dc sc, (Builtin.copy_ #[22, 22] ty #[.slice (some ⟨N, (i + 1) * 3, none⟩) (n - i) dc, .slice (some ⟨b, i * 3, none⟩) (n - i) sc]).run Try.prog (W1.setRow N R2).drew = .ok (goInt (n - i : Nat)) ((W1.setRow N R2).drew.setRow N (spl R2 ((i + 1) * 3) mv)) := fun ty dc sc =>
    run_copy_k _ 22 22 ty 33 inf mv tS hi0 (n - i) (by simp only [Nat.min_def]; split <;> omega) hml
      (fun j v hj => by
        rw [add_off]
        simp only [World.cell?, hbD]
        rw [hmv, List.getElem?_drop, List.getElem?_take] at hj
        split at hj
        · simpa using hj
        · cases hj) hbC (by rw [hml, hsz]; omega) (fun v hv => h1c v (by rw [hmv] at hv; exact List.mem_of_mem_drop hv))
  have hw1 : IntKind.i64.wrap ((i : Int) + 1) = (i : Int) + 1 := by rw [IntKind.wrap_i64]; omega
  have hw5 : IntKind.i64.wrap ((n : Int) + 1) = (n : Int) + 1 := by rw [IntKind.wrap_i64]; omega
  have hw6 : IntKind.i64.wrap ((n : Int) + 1 - (i : Int)) = (n : Int) + 1 - (i : Int) := by rw [IntKind.wrap_i64]; omega
  have hw2 : (0 : Int) ≤ (i : Int) + 1 := by omega
  have hw3 : (i : Int) + 1 ≤ (n : Int) + 1 := by omega
  have hw4 : (i : Int) ≤ (n : Int) + 1 := by omega
  have htn : ((i : Int) + 1).toNat = i + 1 := by omega
  have hin : i ≤ n := by omega
  have hic : (i : Int) ≤ (c : Int) := by omega
  have hb4 : ¬ (c = i) := by omega
  have hGi : ¬ (G = i) := by omega
  have hGim : ¬ (G = i + 1) := by omega
  have hb5 : n + 1 - (i + 1) = n - i := by omega
  have mixed : Try.prog.follows .mixedOrders = true := by kernel_rfl
  clear hR2 hmv hs2 hml hN hW1 hbA hbB hbC hbD hrow hcs
  go_enter Try.func51, Try.ntmps51
  go_wp2_with (first
    | (at_builtin; refine Lib.wpList_append_run _ rfl _ _ _ _ rfl _ _ rfl rfl _ _ (hrun _) ?_)
    | (at_builtin; refine wpList_copy_runI _ rfl _ _ 22 22 rfl _ _ rfl rfl (hcpA _ _) ?_)
    | (at_builtin; refine wpList_copy_runI _ rfl _ _ 22 22 rfl _ _ rfl rfl (hcpB _ _ _) ?_))
  go_region_law_o (refine step_copy_runI rfl _ _ 22 22 rfl _ _ (by simp [Act.eval, Act.put]) (by simp [Act.eval, Act.put]) (hcpB _ _ _) ?_)
  go_wp2
  go_ret
  exact ⟨rfl, rfl⟩
theorem runs_InsLsa : InsRuns Try.prog 51 22 3 33 3 := by
  have ti := tiOf_ok ti33
  obtain ⟨inf, z', dd, k1, k2, k3, k0, k4, k10, k5, k6, k7, k8, k9⟩ := ti.info
  have hsz : inf.size = 3 := k5.symm
  exact ⟨fun b n c i vc ad cs tb ca0 ta fa vs w h1 h2 h3 h4 h5 h6 h7 h8 h9 h10 h11 h12 => InsLsa_shift inf k1 hsz b n c i vc ad cs tb ca0 ta fa vs w h1 h2 h3 h4 h5 h6 h7 h8 h9 h10 h11 h12,
    fun vc ad w w2 v2 h => InsLsa_end0 inf k1 hsz vc ad w w2 v2 h, fun b n c vc ad w w2 v2 h1 h2 h => InsLsa_end1 inf k1 hsz b n c vc ad w w2 v2 h1 h2 h,
    fun b n c i vc G ad cs ROW tb vs w h1 h2 h3 h4 h5 h6 h7 h8 h9 h10 h11 h12 h13 h14 h15 => InsLsa_grow inf k1 hsz b n c i vc G ad cs ROW tb vs w h1 h2 h3 h4 h5 h6 h7 h8 h9 h10 h11 h12 h13 h14 h15⟩
theorem good_InsLsa (nil : Bool) (l : List Lsa) (y : Lsa) (i : Nat) (hi : i ≤ l.length) (hl : l.length ≤ 1000000) :
    Good Try.prog 51 [(.sl 3 nil (l.map lsaA), true), (i64 i, false), (.sl 3 false [lsaA y], false)] [] [(.sl 3 false ((l.take i ++ [y] ++ l.drop i).map lsaA), true)] [] := by
  have h := good_insert (tiOf_ok ti33) un22 (by kernel_rfl) ⟨_, _, Try.func51, rfl, rfl⟩ runs_InsLsa nil (l.map lsaA) (lsaA y) i (by simpa using hi) (by rw [List.length_map]; simp only [roomB]; omega)
  simpa only [List.map_append, List.map_take, List.map_drop, List.map_cons, List.map_nil] using h
end Go.Vai.DB
