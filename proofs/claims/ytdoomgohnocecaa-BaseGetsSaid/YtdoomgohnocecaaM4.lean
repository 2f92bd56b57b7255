import Derived.Test.YtdoomgohnocecaaM3
import Derived.Shelf.Spec.SlicesInsert
import Derived.Test.YtdoomgohnocecaaM2
namespace Go.Vai.BA
open Go.Proofs Go.Vai Go.Vai.C Go.Vai.D Go.Vai.DB Go.Vai.G Go.Vai.I Go.Vai.L Go.Vai.N Go.Vai.O
set_option linter.unusedSimpArgs false
set_option linter.unusedVariables false
set_option maxHeartbeats 4000000
set_option maxRecDepth 100000
theorem InsIt_shift (inf : TypeInfo) (hi0 : Try.prog.info? 61 = some inf) (hsz : inf.size = 2) (b n c i vc : Nat) (ad : Addr) (cs : Array Value) (tb : TypeId) (ca0 : Array Value) (ta : TypeId) (fa : Nat × Nat) (vs : List Value) (w : World) (hi : i < n) (hroom : n + 1 ≤ c) (hc63 : c ≤ 9223372036854775807)
    (hb : w.heap[b]? = some (.cells cs tb (0, 0))) (hcs : c * 2 ≤ cs.size) (hne : ad.block ≠ b) (ha : w.heap[ad.block]? = some (.cells ca0 ta fa)) (hka : ca0.size ≠ 0)
    (hvl : vs.length = 2) (hvs : ∀ j v, vs[j]? = some v → w.cell? (ad.add j) = some v) (h1c : ∀ v ∈ cs.toList.take (n * 2), v.oneCell' = true) (h1v : ∀ v ∈ vs, v.oneCell' = true) :
    Calls Try.prog 75 #[.slice (some ⟨b, 0, none⟩) n c, .int .i64 i, .slice (some ad) 1 vc] w fun e w' =>
      e = .returned (.slice (some ⟨b, 0, none⟩) (n + 1) c) ∧ w' = (w.drew.setRow b (spl cs ((i + 1) * 2) ((cs.toList.take (n * 2)).drop (i * 2)))).setRow b (spl (spl cs ((i + 1) * 2) ((cs.toList.take (n * 2)).drop (i * 2))) (i * 2) vs) := by
  have tS := un23
  have uS' := run_underlying (P := Try.prog) un23
  have t3 : Try.prog.underlying 3 = some (.int .i64) := by kernel_rfl
  have u3' := run_underlying (P := Try.prog) t3
  have zE : ∀ w, (Go.sizeOf 61).run Try.prog w = .ok 2 w := fun w => by rw [run_sizeOf hi0, hsz]
  have hz2 : ¬ ((i : Int) = (n : Int)) := by omega
  have hov : ∀ lb cb, (callFunc 79 #[.slice (some ad) 1 vc, .slice (some ⟨b, (i + 1) * 2, none⟩) lb cb]).run Try.prog w = .ok (.value (.bool false)) w := fun lb cb => by
    rw [run_callFunc_extern Try.func79 (by kernel_rfl) (by kernel_rfl) (by kernel_rfl) (e := Extern.SlicesOverlaps.overlaps #[23, 23] #[4]) (by kernel_rfl),
      run_overlaps_own tS hi0 hne ha hb (by omega) hka]
    rfl
  obtain ⟨mv, hmv⟩ : ∃ mv, mv = (cs.toList.take (n * 2)).drop (i * 2) := ⟨_, rfl⟩
  rw [← hmv]
  have hml : mv.length = (n - i) * inf.size := by rw [hmv, hsz]; simp; omega
  have hcp1 : ∀ ty dc sc, (Builtin.copy_ #[23, 23] ty #[.slice (some ⟨b, (i + 1) * 2, none⟩) (n - i) dc, .slice (some ⟨b, i * 2, none⟩) (n + 1 - i) sc]).run Try.prog w.drew = .ok (goInt (n - i : Nat)) (w.drew.setRow b (spl cs ((i + 1) * 2) mv)) := fun ty dc sc =>
    run_copy_k w.drew 23 23 ty 61 inf mv tS hi0 (n - i) (by simp only [Nat.min_def]; split <;> omega) hml
      (fun j v hj => by
        rw [add_off]
        show w.cell? _ = _
        simp only [World.cell?, hb]
        rw [hmv, List.getElem?_drop, List.getElem?_take] at hj
        split at hj
        · simpa using hj
        · cases hj) hb (by rw [hml, hsz]; omega) (fun v hv => h1c v (by rw [hmv] at hv; exact List.mem_of_mem_drop hv))
  obtain ⟨cs1, hcs1⟩ : ∃ cs1, cs1 = spl cs ((i + 1) * 2) mv := ⟨_, rfl⟩
  rw [← hcs1] at hcp1 ⊢
  have hb1 : (w.drew.setRow b cs1).heap[b]? = some (.cells cs1 tb (0, 0)) := setRow_heap w.drew b cs cs1 tb (0, 0) hb
  have hs1 : cs1.size = cs.size := by rw [hcs1]; exact spl_size (by rw [hml, hsz]; omega)
  have hcp2 : ∀ ty dc, (Builtin.copy_ #[23, 23] ty #[.slice (some ⟨b, i * 2, none⟩) (n + 1 - i) dc, .slice (some ad) 1 vc]).run Try.prog (w.drew.setRow b cs1) = .ok (goInt (1 : Nat)) ((w.drew.setRow b cs1).setRow b (spl cs1 (i * 2) vs)) := fun ty dc =>
    run_copy_k _ 23 23 ty 61 inf vs tS hi0 1 (by simp only [Nat.min_def]; split <;> omega) (by rw [hvl, hsz])
      (fun j v hj => by
        have e : (ad.add j).block ≠ b := by rw [add_block]; exact hne
        rw [cell_setRow_other _ _ _ _ e]
        exact hvs j v hj) hb1 (by rw [hvl, hs1]; omega) h1v
  have hw1 : IntKind.i64.wrap ((i : Int) + 1) = (i : Int) + 1 := by rw [IntKind.wrap_i64]; omega
  have hw2 : (0 : Int) ≤ (i : Int) + 1 := by omega
  have hw3 : (i : Int) + 1 ≤ (n : Int) + 1 := by omega
  have hw4 : (i : Int) ≤ (n : Int) + 1 := by omega
  have htn : ((i : Int) + 1).toNat = i + 1 := by omega
  have hin : i ≤ n := by omega
  have hb4 : ¬ (c = i) := by omega
  have hb2 : ¬ (c = i + 1) := by omega
  have hb5 : n + 1 - (i + 1) = n - i := by omega
  have mixed : Try.prog.follows .mixedOrders = true := by kernel_rfl
  clear hcs1 hmv hs1 hml
  go_enter Try.func75, Try.ntmps75
  go_wp2_with (simp only [hov])
  go_region_law_o (refine step_copy_runI rfl _ _ 23 23 rfl _ _ (by simp [Act.eval, Act.put]) (by simp [Act.eval, Act.put]) (hcp1 _ _ _) ?_)
  go_wp2_with (at_builtin; refine wpList_copy_runI _ rfl _ _ 23 23 rfl _ _ rfl rfl (hcp2 _ _) ?_)
  go_ret
  exact ⟨rfl, rfl⟩
theorem InsIt_end0 (inf : TypeInfo) (hi0 : Try.prog.info? 61 = some inf) (hsz : inf.size = 2) (vc : Nat) (ad : Addr) (w w2 : World) (v2 : Value)
    (hrun : ∀ ty, (Builtin.append_ #[23, 23] ty #[.slice none 0 0, .slice (some ad) 1 vc]).run Try.prog w = .ok v2 w2) :
    Calls Try.prog 75 #[.slice none 0 0, .int .i64 (0 : Nat), .slice (some ad) 1 vc] w fun e w' => e = .returned v2 ∧ w' = w2 := by
  have tS := un23
  have uS' := run_underlying (P := Try.prog) un23
  have t3 : Try.prog.underlying 3 = some (.int .i64) := by kernel_rfl
  have u3' := run_underlying (P := Try.prog) t3
  have zE : ∀ w, (Go.sizeOf 61).run Try.prog w = .ok 2 w := fun w => by rw [run_sizeOf hi0, hsz]
  go_enter Try.func75, Try.ntmps75
  go_wp2_with (at_builtin; refine Lib.wpList_append_run _ rfl _ _ _ _ rfl _ _ rfl rfl _ _ (hrun _) ?_)
  go_ret
  exact ⟨rfl, rfl⟩
theorem InsIt_end1 (inf : TypeInfo) (hi0 : Try.prog.info? 61 = some inf) (hsz : inf.size = 2) (b n c vc : Nat) (ad : Addr) (w w2 : World) (v2 : Value) (hnc : n ≤ c) (hc63 : c ≤ 9223372036854775807)
    (hrun : ∀ ty, (Builtin.append_ #[23, 23] ty #[.slice (some ⟨b, 0, none⟩) n c, .slice (some ad) 1 vc]).run Try.prog w = .ok v2 w2) :
    Calls Try.prog 75 #[.slice (some ⟨b, 0, none⟩) n c, .int .i64 n, .slice (some ad) 1 vc] w fun e w' => e = .returned v2 ∧ w' = w2 := by
  have tS := un23
  have uS' := run_underlying (P := Try.prog) un23
  have t3 : Try.prog.underlying 3 = some (.int .i64) := by kernel_rfl
  have u3' := run_underlying (P := Try.prog) t3
  have zE : ∀ w, (Go.sizeOf 61).run Try.prog w = .ok 2 w := fun w => by rw [run_sizeOf hi0, hsz]
  go_enter Try.func75, Try.ntmps75
  go_wp2_with (at_builtin; refine Lib.wpList_append_run _ rfl _ _ _ _ rfl _ _ rfl rfl _ _ (hrun _) ?_)
  all_goals (go_ret; exact ⟨rfl, rfl⟩)
theorem InsIt_grow (inf : TypeInfo) (hi0 : Try.prog.info? 61 = some inf) (hsz : inf.size = 2) (b n c i vc G : Nat) (ad : Addr) (cs ROW : Array Value) (tb : TypeId) (vs : List Value) (w : World) (hi : i < n) (hnc : n ≤ c) (hroom : c < n + 1) (hc63 : c ≤ 9223372036854775807) (hG : n + 1 ≤ G) (hG63 : G ≤ 9223372036854775807)
    (hb : w.heap[b]? = some (.cells cs tb (0, 0))) (hcs : n * 2 ≤ cs.size) (hav : ad.block ≠ w.heap.size)
    (hvl : vs.length = 2) (hvs : ∀ j v, vs[j]? = some v → w.cell? (ad.add j) = some v) (h1c : ∀ v ∈ cs.toList.take (n * 2), v.oneCell' = true) (h1v : ∀ v ∈ vs, v.oneCell' = true)
    (hrun : ∀ ty, (Builtin.append_ #[23, 3] ty #[.slice (some ⟨b, 0, none⟩) i c, .int .i64 ((n : Int) + 1 - (i : Int))]).run Try.prog w = .ok (.slice (some ⟨w.heap.size, 0, none⟩) (n + 1) G) (w.drew.alloc (.cells ROW 61))) (hrow : (n + 1) * 2 ≤ ROW.size) :
    Calls Try.prog 75 #[.slice (some ⟨b, 0, none⟩) n c, .int .i64 i, .slice (some ad) 1 vc] w fun e w' =>
      e = .returned (.slice (some ⟨w.heap.size, 0, none⟩) (n + 1) G) ∧
      w' = (((w.drew.alloc (.cells ROW 61)).setRow w.heap.size (spl ROW (i * 2) vs)).drew).setRow w.heap.size (spl (spl ROW (i * 2) vs) ((i + 1) * 2) ((cs.toList.take (n * 2)).drop (i * 2))) := by
  have tS := un23
  have uS' := run_underlying (P := Try.prog) un23
  have t3 : Try.prog.underlying 3 = some (.int .i64) := by kernel_rfl
  have u3' := run_underlying (P := Try.prog) t3
  have zE : ∀ w, (Go.sizeOf 61).run Try.prog w = .ok 2 w := fun w => by rw [run_sizeOf hi0, hsz]
  have hz2 : ¬ ((i : Int) = (n : Int)) := by omega
  have hz3 : (c : Int) < (n : Int) + 1 := by omega
  obtain ⟨mv, hmv⟩ : ∃ mv, mv = (cs.toList.take (n * 2)).drop (i * 2) := ⟨_, rfl⟩
  rw [← hmv]
  have hml : mv.length = (n - i) * inf.size := by rw [hmv, hsz]; simp; omega
  have hbw : b < w.heap.size := (Array.getElem?_eq_some_iff.1 hb).1
  have hbN : b ≠ w.heap.size := by omega
  obtain ⟨N, hN⟩ : ∃ N, N = w.heap.size := ⟨_, rfl⟩
  obtain ⟨W1, hW1⟩ : ∃ W1, W1 = w.drew.alloc (.cells ROW 61) := ⟨_, rfl⟩
  have hbA : W1.heap[N]? = some (.cells ROW 61 (0, 0)) := by rw [hW1, hN]; exact alloc_new w.drew _
  have hbB : W1.heap[b]? = some (.cells cs tb (0, 0)) := by rw [hW1, alloc_same w.drew _ b hbw (by show b ≠ w.heap.size; omega)]; exact hb
  rw [← hW1, ← hN] at hrun ⊢
  rw [← hN] at hav hbN
  have hcpA : ∀ ty dc, (Builtin.copy_ #[23, 23] ty #[.slice (some ⟨N, i * 2, none⟩) (n + 1 - i) dc, .slice (some ad) 1 vc]).run Try.prog W1 = .ok (goInt (1 : Nat)) (W1.setRow N (spl ROW (i * 2) vs)) := fun ty dc =>
    run_copy_k _ 23 23 ty 61 inf vs tS hi0 1 (by simp only [Nat.min_def]; split <;> omega) (by rw [hvl, hsz])
      (fun j v hj => by
        have h := hvs j v hj
        have hlt : (ad.add j).block < w.drew.heap.size := by
          simp only [World.cell?] at h
          split at h
          · exact (Array.getElem?_eq_some_iff.1 (by assumption)).1
          · cases h
        rw [hW1]
        exact (cell_same (w := w) (w' := w.drew.alloc (.cells ROW 61)) (alloc_same w.drew _ _ hlt (by omega))).trans h) hbA (by omega) h1v
  obtain ⟨R2, hR2⟩ : ∃ R2, R2 = spl ROW (i * 2) vs := ⟨_, rfl⟩
  rw [← hR2] at hcpA ⊢
  have hs2 : R2.size = ROW.size := by rw [hR2]; exact spl_size (by omega)
  have hbC : (W1.setRow N R2).drew.heap[N]? = some (.cells R2 61 (0, 0)) := setRow_heap W1 N ROW R2 61 (0, 0) hbA
  have hbD : (W1.setRow N R2).drew.heap[b]? = some (.cells cs tb (0, 0)) := (setRow_other W1 N b R2 hbN).trans hbB
  have hcpB : ∀ ty dc sc, (Builtin.copy_ #[23, 23] ty #[.slice (some ⟨N, (i + 1) * 2, none⟩) (n - i) dc, .slice (some ⟨b, i * 2, none⟩) (n - i) sc]).run Try.prog (W1.setRow N R2).drew = .ok (goInt (n - i : Nat)) ((W1.setRow N R2).drew.setRow N (spl R2 ((i + 1) * 2) mv)) := fun ty dc sc =>
    run_copy_k _ 23 23 ty 61 inf mv tS hi0 (n - i) (by simp only [Nat.min_def]; split <;> omega) hml
      (fun j v hj => by
        rw [add_off]
        simp only [World.cell?, hbD]
        rw [hmv, List.getElem?_drop, List.getElem?_take] at hj
        split at hj
        · simpa using hj
        · cases hj) hbC (by rw [hml, hsz]; omega) (fun v hv => h1c v (by rw [hmv] at hv; exact List.mem_of_mem_drop hv))
  have hw1 : IntKind.i64.wrap ((i : Int) + 1) = (i : Int) + 1 := by rw [IntKind.wrap_i64]; omega
  have hw5 : IntKind.i64.wrap ((n : Int) + 1) = (n : Int) + 1 := by rw [IntKind.wrap_i64]; omega
  have hw6 : IntKind.i64.wrap ((n : Int) + 1 - (i : Int)) = (n : Int) + 1 - (i : Int) := by rw [IntKind.wrap_i64]; omega
  have hw2 : (0 : Int) ≤ (i : Int) + 1 := by omega
  have hw3 : (i : Int) + 1 ≤ (n : Int) + 1 := by omega
  have hw4 : (i : Int) ≤ (n : Int) + 1 := by omega
  have htn : ((i : Int) + 1).toNat = i + 1 := by omega
  have hin : i ≤ n := by omega
  have hic : (i : Int) ≤ (c : Int) := by omega
  have hb4 : ¬ (c = i) := by omega
  have hGi : ¬ (G = i) := by omega
  have hGim : ¬ (G = i + 1) := by omega
  have hb5 : n + 1 - (i + 1) = n - i := by omega
  have mixed : Try.prog.follows .mixedOrders = true := by kernel_rfl
  clear hR2 hmv hs2 hml hN hW1 hbA hbB hbC hbD hrow hcs
  go_enter Try.func75, Try.ntmps75
  go_wp2_with (first
    | (at_builtin; refine Lib.wpList_append_run _ rfl _ _ _ _ rfl _ _ rfl rfl _ _ (hrun _) ?_)
    | (at_builtin; refine wpList_copy_runI _ rfl _ _ 23 23 rfl _ _ rfl rfl (hcpA _ _) ?_)
    | (at_builtin; refine wpList_copy_runI _ rfl _ _ 23 23 rfl _ _ rfl rfl (hcpB _ _ _) ?_))
  go_region_law_o (refine step_copy_runI rfl _ _ 23 23 rfl _ _ (by simp [Act.eval, Act.put]) (by simp [Act.eval, Act.put]) (hcpB _ _ _) ?_)
  go_wp2
  go_ret
  exact ⟨rfl, rfl⟩
theorem runs_InsIt : InsRuns Try.prog 75 23 3 61 2 := by
  have ti := tiOf_ok ti61
  obtain ⟨inf, z', dd, k1, k2, k3, k0, k4, k10, k5, k6, k7, k8, k9⟩ := ti.info
  have hsz : inf.size = 2 := k5.symm
  exact ⟨fun b n c i vc ad cs tb ca0 ta fa vs w h1 h2 h3 h4 h5 h6 h7 h8 h9 h10 h11 h12 => InsIt_shift inf k1 hsz b n c i vc ad cs tb ca0 ta fa vs w h1 h2 h3 h4 h5 h6 h7 h8 h9 h10 h11 h12,
    fun vc ad w w2 v2 h => InsIt_end0 inf k1 hsz vc ad w w2 v2 h, fun b n c vc ad w w2 v2 h1 h2 h => InsIt_end1 inf k1 hsz b n c vc ad w w2 v2 h1 h2 h,
    fun b n c i vc G ad cs ROW tb vs w h1 h2 h3 h4 h5 h6 h7 h8 h9 h10 h11 h12 h13 h14 h15 => InsIt_grow inf k1 hsz b n c i vc G ad cs ROW tb vs w h1 h2 h3 h4 h5 h6 h7 h8 h9 h10 h11 h12 h13 h14 h15⟩
theorem good_InsIt (nil : Bool) (l : List It) (y : It) (i : Nat) (hi : i ≤ l.length) (hl : l.length ≤ 1000000) :
    Good Try.prog 75 [(.sl 2 nil (l.map itA), true), (i64 i, false), (.sl 2 false [itA y], false)] [] [(.sl 2 false ((l.take i ++ [y] ++ l.drop i).map itA), true)] [] := by
  have h := good_insert (tiOf_ok ti61) un23 (by kernel_rfl) ⟨_, _, Try.func75, rfl, rfl⟩ runs_InsIt nil (l.map itA) (itA y) i (by simpa using hi) (by rw [List.length_map]; simp only [roomB]; omega)
  simpa only [List.map_append, List.map_take, List.map_drop, List.map_cons, List.map_nil] using h
end Go.Vai.BA
set_option linter.unusedSimpArgs false
set_option linter.unusedVariables false
namespace Go.Vai.BA
open Go.Vai.L Go.Vai.D Go.Vai.I Go.Vai.G Go.Vai.C
def putB (a : Sta) (x : Lsa) : Bool × Sta × Nat :=
 if sqL a.db x.o ≥ x.s then (false, a, 0) else (true, { a with db := insP Lsa.o a.db x, n1 := false }, if isK Lsa.o a.db x.o then 0 else 2)
def epB (a : Sta) (e : It) : Bool × Sta × Nat :=
 if qK a.ep e.o ≥ e.s then (false, a, 0) else (true, { a with ep := insP It.o a.ep e, n2 := false }, if isK It.o a.ep e.o then 0 else 2)
def upS (a : Sta) (n : Int) : Sta := if n ≤ a.up then a else { a with up := n }
def boS (a : Sta) (n : Int) : Sta := if n ≤ a.bo then a else { a with bo := n }
theorem isK_gk {l : List Lsa} {t : Int} (h : isK Lsa.o l t = false) : gK Lsa.o l t = none := by
 rw [isK_gK] at h; simpa using h
theorem isK_ge {l : List It} {t : Int} (h : isK It.o l t = false) : gK It.o l t = none := by
 rw [isK_gK] at h; simpa using h
theorem putB_new {a : Sta} {x : Lsa} (h : 1 ≤ x.s) (h3 : isK Lsa.o a.db x.o = false) : putB a x = (true, { a with db := insP Lsa.o a.db x, n1 := false }, 2) := by
 rw [putB, sqL_none (isK_gk h3), if_neg (by omega), h3]; rfl
theorem putB_set {a : Sta} {x : Lsa} (hs : Srt Lsa.o a.db) (h3 : isK Lsa.o a.db x.o = true) (h4 : newer x (a.db[posK Lsa.o a.db x.o]'(pos_lt hs h3)) = true) : putB a x = (true, { a with db := insP Lsa.o a.db x, n1 := false }, 0) := by
 have hp := pos_at hs h3
 simp only [newer, Bool.and_eq_true, decide_eq_true_eq] at h4
 rw [putB, sqL_some hp.2, if_neg (by omega), h3]; rfl
theorem putB_old {a : Sta} {x : Lsa} (hs : Srt Lsa.o a.db) (h3 : isK Lsa.o a.db x.o = true) (h4 : newer x (a.db[posK Lsa.o a.db x.o]'(pos_lt hs h3)) = false) : putB a x = (false, a, 0) := by
 have hp := pos_at hs h3
 have h1 : x.o = (a.db[posK Lsa.o a.db x.o]'(pos_lt hs h3)).o := hp.1.symm
 simp only [newer, Bool.and_eq_false_iff, decide_eq_false_iff_not] at h4
 rcases h4 with h4 | h4
 ·exact absurd h1 h4
 ·rw [putB, sqL_some hp.2, if_pos (by omega)]
theorem epB_new {a : Sta} {x : It} (h : 1 ≤ x.s) (h3 : isK It.o a.ep x.o = false) : epB a x = (true, { a with ep := insP It.o a.ep x, n2 := false }, 2) := by
 rw [epB, qK_none (isK_ge h3), if_neg (by omega), h3]; rfl
theorem epB_set {a : Sta} {x : It} (hs : Srt It.o a.ep) (h3 : isK It.o a.ep x.o = true) (h4 : x.s > (a.ep[posK It.o a.ep x.o]'(pos_lt hs h3)).s) : epB a x = (true, { a with ep := insP It.o a.ep x, n2 := false }, 0) := by
 have hp := pos_at hs h3
 have hq : qK a.ep x.o = (a.ep[posK It.o a.ep x.o]'(pos_lt hs h3)).s := by rw [qK, hp.2]; rfl
 rw [epB, hq, if_neg (by omega), h3]; rfl
theorem epB_old {a : Sta} {x : It} (hs : Srt It.o a.ep) (h3 : isK It.o a.ep x.o = true) (h4 : ¬ x.s > (a.ep[posK It.o a.ep x.o]'(pos_lt hs h3)).s) : epB a x = (false, a, 0) := by
 have hp := pos_at hs h3
 have hq : qK a.ep x.o = (a.ep[posK It.o a.ep x.o]'(pos_lt hs h3)).s := by rw [qK, hp.2]; rfl
 rw [epB, hq, if_pos (by omega)]
def doB (a : Sta) (c : Ch) : Bool × Sta × Nat × Nat :=
 if c.kind = 1 then ((putB a c.l).1, (putB a c.l).2.1, (putB a c.l).2.2, 0)
 else if c.kind = 2 then (!decide (c.n ≤ a.up), upS a c.n, 0, 0)
 else if c.kind = 3 then (!decide (c.n ≤ a.bo), boS a c.n, 0, 0)
 else ((epB a ⟨c.of, c.n⟩).1, (epB a ⟨c.of, c.n⟩).2.1, 0, (epB a ⟨c.of, c.n⟩).2.2)
theorem doB_1 {a : Sta} {c : Ch} (h : c.kind = 1) : doB a c = ((putB a c.l).1, (putB a c.l).2.1, (putB a c.l).2.2, 0) := by rw [doB, if_pos h]
theorem doB_2 {a : Sta} {c : Ch} (h : c.kind = 2) : doB a c = (!decide (c.n ≤ a.up), upS a c.n, 0, 0) := by rw [doB, if_neg (by omega), if_pos h]
theorem doB_3 {a : Sta} {c : Ch} (h : c.kind = 3) : doB a c = (!decide (c.n ≤ a.bo), boS a c.n, 0, 0) := by rw [doB, if_neg (by omega), if_neg (by omega), if_pos h]
theorem doB_4 {a : Sta} {c : Ch} (h1 : ¬ c.kind = 1) (h2 : ¬ c.kind = 2) (h3 : ¬ c.kind = 3) : doB a c = ((epB a ⟨c.of, c.n⟩).1, (epB a ⟨c.of, c.n⟩).2.1, 0, (epB a ⟨c.of, c.n⟩).2.2) := by rw [doB, if_neg h1, if_neg h2, if_neg h3]
theorem doB_some {a : Sta} {c : Ch} (h : (doB a c).1 = true) : doS a c = some (doB a c).2.1 := by
 by_cases h1 : c.kind = 1
 ·rw [doB_1 h1] at h ⊢
  simp only [putB] at h ⊢
  rw [doS, if_pos h1]
  split at h
  ·cases h
  ·rename_i h2; rw [if_neg h2, if_neg h2]
 ·by_cases h2 : c.kind = 2
  ·rw [doB_2 h2] at h ⊢
   have h : ¬ c.n ≤ a.up := by simpa using h
   rw [doS, if_neg h1, if_pos h2, if_neg (by omega), upS, if_neg h]
  ·by_cases h3 : c.kind = 3
   ·rw [doB_3 h3] at h ⊢
    have h : ¬ c.n ≤ a.bo := by simpa using h
    rw [doS, if_neg h1, if_neg h2, if_pos h3, if_neg (by omega), boS, if_neg h]
   ·rw [doB_4 h1 h2 h3] at h ⊢
    simp only [epB] at h ⊢
    rw [doS, if_neg h1, if_neg h2, if_neg h3]
    split at h
    ·cases h
    ·rename_i h2; rw [if_neg h2, if_neg h2]
theorem doB_none {a : Sta} {c : Ch} (h : (doB a c).1 = false) : doS a c = none := by
 by_cases h1 : c.kind = 1
 ·rw [doB_1 h1] at h
  simp only [putB] at h
  rw [doS, if_pos h1]
  split at h
  ·rename_i h2; rw [if_pos h2]
  ·cases h
 ·by_cases h2 : c.kind = 2
  ·rw [doB_2 h2] at h
   have h : c.n ≤ a.up := by simpa using h
   rw [doS, if_neg h1, if_pos h2, if_pos h]
  ·by_cases h3 : c.kind = 3
   ·rw [doB_3 h3] at h
    have h : c.n ≤ a.bo := by simpa using h
    rw [doS, if_neg h1, if_neg h2, if_pos h3, if_pos h]
   ·rw [doB_4 h1 h2 h3] at h
    simp only [epB] at h
    rw [doS, if_neg h1, if_neg h2, if_neg h3]
    split at h
    ·rename_i h2; rw [if_pos h2]
    ·cases h
abbrev fitL (x : Lsa) : Prop := x.ls.length ≤ 1000000 ∧ (x.nil = true → x.ls = [])
theorem doB_fit {a : Sta} {c : Ch} (pa : ∀ x ∈ a.db, fitL x) (pc : fitL c.l) : ∀ x ∈ (doB a c).2.1.db, fitL x := by
 by_cases h1 : c.kind = 1
 ·rw [doB_1 h1, putB]
  split
  ·exact pa
  ·intro x hx
   rcases insP_mem hx with rfl | h
   ·exact pc
   ·exact pa x h
 ·by_cases h2 : c.kind = 2
  ·rw [doB_2 h2, upS]; split <;> exact pa
  ·by_cases h3 : c.kind = 3
   ·rw [doB_3 h3, boS]; split <;> exact pa
   ·rw [doB_4 h1 h2 h3, epB]; split <;> exact pa
theorem doB_n1 {a : Sta} {c : Ch} (h : a.n1 = true → a.db = []) : (doB a c).2.1.n1 = true → (doB a c).2.1.db = [] := by
 by_cases h1 : c.kind = 1
 ·rw [doB_1 h1, putB]
  split
  ·exact h
  ·intro e; cases e
 ·by_cases h2 : c.kind = 2
  ·rw [doB_2 h2, upS]; split <;> exact h
  ·by_cases h3 : c.kind = 3
   ·rw [doB_3 h3, boS]; split <;> exact h
   ·rw [doB_4 h1 h2 h3, epB]; split <;> exact h
theorem doB_n2 {a : Sta} {c : Ch} (h : a.n2 = true → a.ep = []) : (doB a c).2.1.n2 = true → (doB a c).2.1.ep = [] := by
 by_cases h1 : c.kind = 1
 ·rw [doB_1 h1, putB]; split <;> exact h
 ·by_cases h2 : c.kind = 2
  ·rw [doB_2 h2, upS]; split <;> exact h
  ·by_cases h3 : c.kind = 3
   ·rw [doB_3 h3, boS]; split <;> exact h
   ·rw [doB_4 h1 h2 h3, epB]
    split
    ·exact h
    ·intro e; cases e
theorem allCh_no {l : List Ch} (h : (l.any fun c => !chOK c) = true) : allCh l = false := by
 rw [List.any_eq_true] at h
 obtain ⟨c, hc, h⟩ := h
 rw [allCh, List.all_eq_false]
 exact ⟨c, hc, by simpa using h⟩
theorem allCh_yes {l : List Ch} (h : (l.any fun c => !chOK c) = false) : allCh l = true := by
 rw [List.any_eq_false] at h
 rw [allCh, List.all_eq_true]
 intro c hc
 simpa using h c hc
theorem allCh_at {l : List Ch} (h : allCh l = true) {k : Nat} (hk : k < l.length) : chOK l[k] = true := List.all_eq_true.1 h _ (List.getElem_mem hk)
theorem applyR_bad {a : Sta} {l : List Ch} (h : staE a ≠ 0 ∨ (l.any fun c => !chOK c) = true) : applyR a l = (sta0, 1) := by
 rcases h with h | h
 ·exact applyR_s (staE_1 h).1
 ·exact applyR_l (allCh_no h)
theorem sta_lens {a : Sta} (h : staOK a = true) : a.db.length ≤ 64 ∧ a.ep.length ≤ 64 := ⟨db_len (sta_parts h).2.1, ep_len (sta_parts h).2.2⟩
end Go.Vai.BA
namespace Go.Vai.BA
open Go.Proofs Go.Vai Go.Vai.C Go.Vai.D Go.Vai.DB Go.Vai.G Go.Vai.I Go.Vai.L Go.Vai.N Go.Vai.O
set_option linter.unusedSimpArgs false
set_option linter.unusedVariables false
set_option maxHeartbeats 4000000
set_option maxRecDepth 100000
theorem hg_put (m : Mem) (hG0 : m.G = []) (g g0 g3 : Nat) (a : Sta) (hs : HasS 1006 g g0 g3 a m) (ok : staOK a = true) (pa : ∀ x ∈ a.db, fit x) (z1 : a.n1 = true → a.db = []) (z2 : a.n2 = true → a.ep = []) (x : Lsa) (px : fit x) (hxs : 1 ≤ x.s) : HGood Try.prog 55 [.lptr (.tmp 1006 0) g 0, .agg [.v (i64 x.o), .v (i64 x.s), .v (.sl 2 x.nil (x.ls.map linkA))]] m (.v (.b (putB a x).1)) (wr 1006 g (g0 + (putB a x).2.2) g3 (putB a x).2.1 m) := by
  refine hgood_of_body 50 0 Try.func55 rfl rfl rfl (by simp) ?_
  intro s m1 ha hu
  have f0 : s 0 = .lptr (.tmp 2006 0) g 0 := ha 0 _ rfl
  have f1 : s 1 = .agg [.v (i64 x.o), .v (i64 x.s), .v (.sl 2 x.nil (x.ls.map linkA))] := ha 1 _ rfl
  have oB : m1.objs (.tmp 2006 0) = (g, .box [.own (.cell 2006 0) g0 0 a.db.length, .v (i64 a.up), .v (i64 a.bo), .own (.cell 2006 3) g3 0 a.ep.length]) := (hu.up (.tmp 1006 0)).trans (by rw [hs.bx]; rfl)
  have oC : m1.objs (.cell 2006 0) = (g0, .arr a.n1 3 (a.db.map lsaA)) := (hu.up (.cell 1006 0)).trans (by rw [hs.r0]; rfl)
  have oD : m1.objs (.cell 2006 3) = (g3, .arr a.n2 2 (a.ep.map itA)) := (hu.up (.cell 1006 3)).trans (by rw [hs.r3]; rfl)
  have hr : m1.objs (.res 0) = (0, .dead) := hu.own _ rfl
  have hG : m1.G = [] := hu.G.trans hG0
  clear ha
  have hc : True := trivial
  have F := (And.intro f0 (And.intro f1 (And.intro oB (And.intro oC (And.intro oD hG)))))
  have h0 := (sta_parts ok).2.1
  have hsr := db_srt h0
  have hle := db_len h0
  refine AW.seq ?_
  refine AW.region (cfg := cfg) ?_
  refine stp (fun _ h => sb h) ?_
  refine stp (fun _ h => s0 h) ?_
  refine aops_nil ?_
  refine AW.seq ?_
  refine AW.draw (cfg := cfg) (by kernel_rfl) (by kernel_rfl) (by kernel_rfl) ?_
  refine dstp (fun _ h => s0 h) ?_
  refine dstp (fun _ h => sy h) ?_
  refine dstp (fun _ h => sx h) ?_
  refine dstp (fun _ h => sl h) ?_
  refine dstp (fun _ h => sx h) ?_
  refine dstp (fun _ h => sl h) ?_
  refine dstp (fun _ h => ct (w := good_BSearchLsa a.n1 a.db x.o 69 (by omega) (rise_iff.2 hsr) rfl rfl rfl (fun y => good_cmpPutB y x.o)) (x := h)) ?_
  iterate 5 refine dstp (fun _ h => s0 h) ?_
  refine adraw_nil (by kernel_rfl) ?_
  refine AW.seq ?_
  refine AW.block ?_
  refine AW.seq ?_
  refine AW.region (cfg := cfg) ?_
  iterate 3 refine stp (fun _ h => s0 h) ?_
  refine aops_nil ?_
  refine cnd (fun hb => ?ht1) (fun hb => ?hf1)
  case ht1 =>
    have hw17 := hb
    try simp only [bo1, bo2, bo3, bo4, bo5, bo6] at hb
    have hbt17 := hb
    have h3 : isK Lsa.o a.db x.o = false := by simpa using hbt17
    have hq := pos_le Lsa.o a.db x.o
    refine AW.draw (cfg := cfg) (by kernel_rfl) (by kernel_rfl) (by kernel_rfl) ?_
    iterate 2 refine dstp (fun _ h => s0 h) ?_
    refine dstp (fun _ h => sy h) ?_
    refine dstp (fun _ h => sx h) ?_
    refine dstp (fun _ h => sl h) ?_
    refine dstp (fun _ h => s0 h) ?_
    refine dstp (fun _ h => sl h) ?_
    refine dstp (fun _ h => cr (w := good_CopyX x px) (x := h)) ?_
    refine dstp (fun _ h => sq h) ?_
    refine dstp (fun _ h => cx1 (w := good_InsLsa a.n1 a.db x (posK Lsa.o a.db x.o) hq (by omega)) (x := h)) ?_
    refine dstp (fun _ h => sy h) ?_
    refine dstp (fun _ h => sx h) ?_
    refine dstp0 (fun _ h => ss h) ?_
    refine adraw_nil (by kernel_rfl) ?_
    refine AW.seq ?_
    refine AW.region (cfg := cfg) ?_
    refine stp (fun _ h => s0 h) ?_
    refine aops_nil ?_
    refine AW.ret ?_
    refine ⟨.inr rfl, ?_⟩
    (rw [putB_new hxs h3, ← ins_new hsr h3])
    refine hleaves_tmp1 4 rfl ?_ (by simp only [mset_G, hG, hG0, wr_G]) (up_wr hu ⟨?_, ?_, ?_⟩ (fun n h1 h2 h3 => by cases n <;> simp_all [mset_if, Nm.up]))
    all_goals (try simp (disch := first | omega | decide) only [go_sem, F, aIndex_map])
    all_goals first | done | rfl | (simp; done) | trace_state
  case hf1 =>
    have hw17 := hb
    try simp only [bo1, bo2, bo3, bo4, bo5, bo6] at hb
    have hbt17 := hb
    refine AW.seq ?_
    have h3 : isK Lsa.o a.db x.o = true := by simpa using hbt17
    have hp := pos_lt hsr h3
    have e1 : a.n1 = false := by (cases e : a.n1; rfl; rw [z1 e] at hp; cases hp)
    have pk := pa a.db[posK Lsa.o a.db x.o] (List.getElem_mem hp)
    have hz0 : 0 + posK Lsa.o a.db x.o = posK Lsa.o a.db x.o := Nat.zero_add _
    have F := And.intro e1 F
    have F := And.intro hz0 F
    refine AW.draw (cfg := cfg) (by kernel_rfl) (by kernel_rfl) (by kernel_rfl) ?_
    refine dstp (fun _ h => sl h) ?_
    refine dstp (fun _ h => s0 h) ?_
    refine dstp (fun _ h => sy h) ?_
    refine dstp (fun _ h => sx h) ?_
    refine dstp (fun _ h => sl h) ?_
    refine dstp (fun _ h => s0 h) ?_
    refine dstp (fun _ h => si h) ?_
    refine dstp (fun _ h => sel h) ?_
    refine dstp (fun _ h => cs (w := L.good_Newer x (by have := px.1; omega) a.db[posK Lsa.o a.db x.o] (by have := pk.1; omega)) (x := h)) ?_
    refine dstp (fun _ h => s0 h) ?_
    refine adraw_nil (by kernel_rfl) ?_
    refine cnd (fun hb => ?ht2) (fun hb => ?hf2)
    case ht2 =>
      have hw32 := hb
      try simp only [bo1, bo2, bo3, bo4, bo5, bo6] at hb
      have hbt32 := hb
      refine AW.draw (cfg := cfg) (by kernel_rfl) (by kernel_rfl) (by kernel_rfl) ?_
      refine dstp (fun _ h => s0 h) ?_
      refine dstp (fun _ h => sy h) ?_
      refine dstp (fun _ h => sx h) ?_
      refine dstp (fun _ h => sl h) ?_
      refine dstp (fun _ h => s0 h) ?_
      refine dstp (fun _ h => sl h) ?_
      refine dstp (fun _ h => cr (w := good_CopyX x px) (x := h)) ?_
      refine dstp (fun _ h => si h) ?_
      refine dstp0 (fun _ h => se2 (w := lsaA_eq x) (x := h)) ?_
      refine adraw_nil (by kernel_rfl) ?_
      refine AW.seq ?_
      refine AW.region (cfg := cfg) ?_
      refine stp (fun _ h => s0 h) ?_
      refine aops_nil ?_
      refine AW.ret ?_
      refine ⟨.inr rfl, ?_⟩
      (rw [putB_set hsr h3 hbt32, ← ins_old hsr h3])
      refine hleaves_tmp1 4 rfl ?_ (by simp only [mset_G, hG, hG0, wr_G]) (up_wr hu ⟨?_, ?_, ?_⟩ (fun n h1 h2 h3 => by cases n <;> simp_all [mset_if, Nm.up]))
      all_goals (try simp (disch := first | omega | decide) only [go_sem, F, aIndex_map])
      all_goals first | rfl | (simp; done)
    case hf2 =>
      have hw32 := hb
      try simp only [bo1, bo2, bo3, bo4, bo5, bo6] at hb
      have hbt32 := hb
      refine AW.seq ?_
      refine AW.region (cfg := cfg) ?_
      refine stp (fun _ h => s0 h) ?_
      refine aops_nil ?_
      refine AW.ret ?_
      refine ⟨.inr rfl, ?_⟩
      (rw [putB_old hsr h3 hbt32])
      refine hleaves_tmp1 4 rfl ?_ (by simp only [mset_G, hG, hG0, wr_G]) (up_wr hu ⟨?_, ?_, ?_⟩ (fun n h1 h2 h3 => by cases n <;> simp_all [mset_if, Nm.up]))
      all_goals (try simp (disch := first | omega | decide) only [go_sem, F, aIndex_map])
      all_goals rfl
theorem hg_epoch (m : Mem) (hG0 : m.G = []) (g g0 g3 : Nat) (a : Sta) (hs : HasS 1006 g g0 g3 a m) (ok : staOK a = true) (pa : ∀ x ∈ a.db, fit x) (z1 : a.n1 = true → a.db = []) (z2 : a.n2 = true → a.ep = []) (x : It) (hxs : 1 ≤ x.s) : HGood Try.prog 57 [.lptr (.tmp 1006 0) g 0, .agg [.v (i64 x.o), .v (i64 x.s)]] m (.v (.b (epB a x).1)) (wr 1006 g g0 (g3 + (epB a x).2.2) (epB a x).2.1 m) := by
  refine hgood_of_body 50 0 Try.func57 rfl rfl rfl (by simp) ?_
  intro s m1 ha hu
  have f0 : s 0 = .lptr (.tmp 2006 0) g 0 := ha 0 _ rfl
  have f1 : s 1 = .agg [.v (i64 x.o), .v (i64 x.s)] := ha 1 _ rfl
  have oB : m1.objs (.tmp 2006 0) = (g, .box [.own (.cell 2006 0) g0 0 a.db.length, .v (i64 a.up), .v (i64 a.bo), .own (.cell 2006 3) g3 0 a.ep.length]) := (hu.up (.tmp 1006 0)).trans (by rw [hs.bx]; rfl)
  have oC : m1.objs (.cell 2006 0) = (g0, .arr a.n1 3 (a.db.map lsaA)) := (hu.up (.cell 1006 0)).trans (by rw [hs.r0]; rfl)
  have oD : m1.objs (.cell 2006 3) = (g3, .arr a.n2 2 (a.ep.map itA)) := (hu.up (.cell 1006 3)).trans (by rw [hs.r3]; rfl)
  have hr : m1.objs (.res 0) = (0, .dead) := hu.own _ rfl
  have hG : m1.G = [] := hu.G.trans hG0
  clear ha
  have hc : True := trivial
  have F := (And.intro f0 (And.intro f1 (And.intro oB (And.intro oC (And.intro oD hG)))))
  have h0 := (sta_parts ok).2.2
  have hsr := ep_srt h0
  have hle := ep_len h0
  refine AW.seq ?_
  refine AW.region (cfg := cfg) ?_
  refine stp (fun _ h => sb h) ?_
  refine stp (fun _ h => s0 h) ?_
  refine aops_nil ?_
  refine AW.seq ?_
  refine AW.draw (cfg := cfg) (by kernel_rfl) (by kernel_rfl) (by kernel_rfl) ?_
  refine dstp (fun _ h => s0 h) ?_
  refine dstp (fun _ h => sy h) ?_
  refine dstp (fun _ h => sx h) ?_
  refine dstp (fun _ h => sl h) ?_
  refine dstp (fun _ h => sx h) ?_
  refine dstp (fun _ h => sl h) ?_
  refine dstp (fun _ h => ct (w := good_BSearchIt a.n2 a.ep x.o 74 (by omega) (rise_iff.2 hsr) rfl rfl rfl (fun y => good_cmpEpB y x.o)) (x := h)) ?_
  iterate 5 refine dstp (fun _ h => s0 h) ?_
  refine adraw_nil (by kernel_rfl) ?_
  refine AW.seq ?_
  refine AW.block ?_
  refine AW.seq ?_
  refine AW.region (cfg := cfg) ?_
  iterate 3 refine stp (fun _ h => s0 h) ?_
  refine aops_nil ?_
  refine cnd (fun hb => ?ht1) (fun hb => ?hf1)
  case ht1 =>
    have hw17 := hb
    try simp only [bo1, bo2, bo3, bo4, bo5, bo6] at hb
    have hbt17 := hb
    have h3 : isK It.o a.ep x.o = false := by simpa using hbt17
    have hq := pos_le It.o a.ep x.o
    refine AW.draw (cfg := cfg) (by kernel_rfl) (by kernel_rfl) (by kernel_rfl) ?_
    iterate 2 refine dstp (fun _ h => s0 h) ?_
    refine dstp (fun _ h => sy h) ?_
    refine dstp (fun _ h => sx h) ?_
    refine dstp (fun _ h => sl h) ?_
    refine dstp (fun _ h => s0 h) ?_
    refine dstp (fun _ h => sl h) ?_
    refine dstp (fun _ h => sq h) ?_
    refine dstp (fun _ h => cx1 (w := good_InsIt a.n2 a.ep x (posK It.o a.ep x.o) hq (by omega)) (x := h)) ?_
    refine dstp (fun _ h => sy h) ?_
    refine dstp (fun _ h => sx h) ?_
    refine dstp0 (fun _ h => ss h) ?_
    refine adraw_nil (by kernel_rfl) ?_
    refine AW.seq ?_
    refine AW.region (cfg := cfg) ?_
    refine stp (fun _ h => s0 h) ?_
    refine aops_nil ?_
    refine AW.ret ?_
    refine ⟨.inr rfl, ?_⟩
    (rw [epB_new hxs h3, ← ins_new hsr h3])
    refine hleaves_tmp1 4 rfl ?_ (by simp only [mset_G, hG, hG0, wr_G]) (up_wr hu ⟨?_, ?_, ?_⟩ (fun n h1 h2 h3 => by cases n <;> simp_all [mset_if, Nm.up]))
    all_goals (try simp (disch := first | omega | decide) only [go_sem, F, aIndex_map])
    all_goals first | done | rfl | (simp; done) | trace_state
  case hf1 =>
    have hw17 := hb
    try simp only [bo1, bo2, bo3, bo4, bo5, bo6] at hb
    have hbt17 := hb
    refine AW.seq ?_
    have h3 : isK It.o a.ep x.o = true := by simpa using hbt17
    have hp := pos_lt hsr h3
    have e1 : a.n2 = false := by (cases e : a.n2; rfl; rw [z2 e] at hp; cases hp)
    have hz0 : 0 + posK It.o a.ep x.o = posK It.o a.ep x.o := Nat.zero_add _
    have F := And.intro e1 F
    have F := And.intro hz0 F
    refine AW.draw (cfg := cfg) (by kernel_rfl) (by kernel_rfl) (by kernel_rfl) ?_
    refine dstp (fun _ h => sx h) ?_
    refine dstp (fun _ h => sl h) ?_
    refine dstp (fun _ h => s0 h) ?_
    refine dstp (fun _ h => sy h) ?_
    refine dstp (fun _ h => sx h) ?_
    refine dstp (fun _ h => sl h) ?_
    refine dstp (fun _ h => s0 h) ?_
    refine dstp (fun _ h => si h) ?_
    refine dstp (fun _ h => sxe h) ?_
    refine dstp (fun _ h => sle h) ?_
    iterate 2 refine dstp (fun _ h => s0 h) ?_
    refine adraw_nil (by kernel_rfl) ?_
    refine cnd (fun hb => ?ht2) (fun hb => ?hf2)
    case ht2 =>
      have hw31 := hb
      try simp only [bo1, bo2, bo3, bo4, bo5, bo6] at hb
      have hbt31 := hb
      refine AW.draw (cfg := cfg) (by kernel_rfl) (by kernel_rfl) (by kernel_rfl) ?_
      refine dstp (fun _ h => s0 h) ?_
      refine dstp (fun _ h => sy h) ?_
      refine dstp (fun _ h => sx h) ?_
      refine dstp (fun _ h => sl h) ?_
      refine dstp (fun _ h => s0 h) ?_
      refine dstp (fun _ h => sl h) ?_
      refine dstp (fun _ h => si h) ?_
      refine dstp0 (fun _ h => se2 (w := itA_eq x) (x := h)) ?_
      refine adraw_nil (by kernel_rfl) ?_
      refine AW.seq ?_
      refine AW.region (cfg := cfg) ?_
      refine stp (fun _ h => s0 h) ?_
      refine aops_nil ?_
      refine AW.ret ?_
      refine ⟨.inr rfl, ?_⟩
      (rw [epB_set hsr h3 hbt31, ← ins_old hsr h3])
      refine hleaves_tmp1 4 rfl ?_ (by simp only [mset_G, hG, hG0, wr_G]) (up_wr hu ⟨?_, ?_, ?_⟩ (fun n h1 h2 h3 => by cases n <;> simp_all [mset_if, Nm.up]))
      all_goals (try simp (disch := first | omega | decide) only [go_sem, F, aIndex_map])
      all_goals first | rfl | (simp; done)
    case hf2 =>
      have hw31 := hb
      try simp only [bo1, bo2, bo3, bo4, bo5, bo6] at hb
      have hbt31 := hb
      refine AW.seq ?_
      refine AW.region (cfg := cfg) ?_
      refine stp (fun _ h => s0 h) ?_
      refine aops_nil ?_
      refine AW.ret ?_
      refine ⟨.inr rfl, ?_⟩
      (rw [epB_old hsr h3 hbt31])
      refine hleaves_tmp1 4 rfl ?_ (by simp only [mset_G, hG, hG0, wr_G]) (up_wr hu ⟨?_, ?_, ?_⟩ (fun n h1 h2 h3 => by cases n <;> simp_all [mset_if, Nm.up]))
      all_goals (try simp (disch := first | omega | decide) only [go_sem, F, aIndex_map])
      all_goals rfl
theorem hg_raiseUp (m : Mem) (hG0 : m.G = []) (g g0 g3 : Nat) (a : Sta) (hs : HasS 1006 g g0 g3 a m) (n : Int) : HGood Try.prog 56 [.lptr (.tmp 1006 0) g 1, .v (i64 n)] m (.v (.b (!decide (n ≤ a.up)))) (wr 1006 g g0 g3 (upS a n) m) := by
  refine hgood_of_body 13 0 Try.func56 rfl rfl rfl (by simp) ?_
  intro s m1 ha hu
  have f0 : s 0 = .lptr (.tmp 2006 0) g 1 := ha 0 _ rfl
  have f1 : s 1 = .v (i64 n) := ha 1 _ rfl
  have oB : m1.objs (.tmp 2006 0) = (g, .box [.own (.cell 2006 0) g0 0 a.db.length, .v (i64 a.up), .v (i64 a.bo), .own (.cell 2006 3) g3 0 a.ep.length]) := (hu.up (.tmp 1006 0)).trans (by rw [hs.bx]; rfl)
  have oC : m1.objs (.cell 2006 0) = (g0, .arr a.n1 3 (a.db.map lsaA)) := (hu.up (.cell 1006 0)).trans (by rw [hs.r0]; rfl)
  have oD : m1.objs (.cell 2006 3) = (g3, .arr a.n2 2 (a.ep.map itA)) := (hu.up (.cell 1006 3)).trans (by rw [hs.r3]; rfl)
  have hr : m1.objs (.res 0) = (0, .dead) := hu.own _ rfl
  have hG : m1.G = [] := hu.G.trans hG0
  clear ha
  have hc : True := trivial
  have F := (And.intro f0 (And.intro f1 (And.intro oB (And.intro oC (And.intro oD hG)))))
  refine AW.seq ?_
  refine AW.region (cfg := cfg) ?_
  refine stp (fun _ h => s0 h) ?_
  refine aops_nil ?_
  refine AW.seq ?_
  refine AW.seq ?_
  refine AW.region (cfg := cfg) ?_
  iterate 2 refine stp (fun _ h => s0 h) ?_
  refine stp (fun _ h => sy h) ?_
  refine stp (fun _ h => sl h) ?_
  refine stp (fun _ h => s0 h) ?_
  refine aops_nil ?_
  refine cnd (fun hb => ?ht1) (fun hb => ?hf1)
  case ht1 =>
    have hw9 := hb
    try simp only [bo1, bo2, bo3, bo4, bo5, bo6] at hb
    have hbt9 := hb
    refine AW.seq ?_
    refine AW.region (cfg := cfg) ?_
    refine stp (fun _ h => s0 h) ?_
    refine aops_nil ?_
    refine AW.ret ?_
    refine ⟨.inr rfl, ?_⟩
    (rw [upS, if_pos hbt9, decide_eq_true hbt9])
    refine hleaves_tmp1 4 rfl ?_ (by simp only [mset_G, hG, hG0, wr_G]) (up_wr hu ⟨?_, ?_, ?_⟩ (fun n h1 h2 h3 => by cases n <;> simp_all [mset_if, Nm.up]))
    all_goals (try simp (disch := first | omega | decide) only [go_sem, F, aIndex_map])
    all_goals rfl
  case hf1 =>
    have hw9 := hb
    try simp only [bo1, bo2, bo3, bo4, bo5, bo6] at hb
    have hbt9 := hb
    refine AW.skip ?_
    refine AW.seq ?_
    refine AW.region (cfg := cfg) ?_
    iterate 2 refine stp (fun _ h => s0 h) ?_
    refine stp (fun _ h => sy h) ?_
    refine stp0 (fun _ h => ss h) ?_
    refine aops_nil ?_
    refine AW.seq ?_
    refine AW.region (cfg := cfg) ?_
    refine stp (fun _ h => s0 h) ?_
    refine aops_nil ?_
    refine AW.ret ?_
    refine ⟨.inr rfl, ?_⟩
    (rw [upS, if_neg hbt9, decide_eq_false hbt9])
    refine hleaves_tmp1 4 rfl ?_ (by simp only [mset_G, hG, hG0, wr_G]) (up_wr hu ⟨?_, ?_, ?_⟩ (fun n h1 h2 h3 => by cases n <;> simp_all [mset_if, Nm.up]))
    all_goals (try simp (disch := first | omega | decide) only [go_sem, F, aIndex_map])
    all_goals rfl
theorem hg_raiseBo (m : Mem) (hG0 : m.G = []) (g g0 g3 : Nat) (a : Sta) (hs : HasS 1006 g g0 g3 a m) (n : Int) : HGood Try.prog 56 [.lptr (.tmp 1006 0) g 2, .v (i64 n)] m (.v (.b (!decide (n ≤ a.bo)))) (wr 1006 g g0 g3 (boS a n) m) := by
  refine hgood_of_body 13 0 Try.func56 rfl rfl rfl (by simp) ?_
  intro s m1 ha hu
  have f0 : s 0 = .lptr (.tmp 2006 0) g 2 := ha 0 _ rfl
  have f1 : s 1 = .v (i64 n) := ha 1 _ rfl
  have oB : m1.objs (.tmp 2006 0) = (g, .box [.own (.cell 2006 0) g0 0 a.db.length, .v (i64 a.up), .v (i64 a.bo), .own (.cell 2006 3) g3 0 a.ep.length]) := (hu.up (.tmp 1006 0)).trans (by rw [hs.bx]; rfl)
  have oC : m1.objs (.cell 2006 0) = (g0, .arr a.n1 3 (a.db.map lsaA)) := (hu.up (.cell 1006 0)).trans (by rw [hs.r0]; rfl)
  have oD : m1.objs (.cell 2006 3) = (g3, .arr a.n2 2 (a.ep.map itA)) := (hu.up (.cell 1006 3)).trans (by rw [hs.r3]; rfl)
  have hr : m1.objs (.res 0) = (0, .dead) := hu.own _ rfl
  have hG : m1.G = [] := hu.G.trans hG0
  clear ha
  have hc : True := trivial
  have F := (And.intro f0 (And.intro f1 (And.intro oB (And.intro oC (And.intro oD hG)))))
  refine AW.seq ?_
  refine AW.region (cfg := cfg) ?_
  refine stp (fun _ h => s0 h) ?_
  refine aops_nil ?_
  refine AW.seq ?_
  refine AW.seq ?_
  refine AW.region (cfg := cfg) ?_
  iterate 2 refine stp (fun _ h => s0 h) ?_
  refine stp (fun _ h => sy h) ?_
  refine stp (fun _ h => sl h) ?_
  refine stp (fun _ h => s0 h) ?_
  refine aops_nil ?_
  refine cnd (fun hb => ?ht1) (fun hb => ?hf1)
  case ht1 =>
    have hw9 := hb
    try simp only [bo1, bo2, bo3, bo4, bo5, bo6] at hb
    have hbt9 := hb
    refine AW.seq ?_
    refine AW.region (cfg := cfg) ?_
    refine stp (fun _ h => s0 h) ?_
    refine aops_nil ?_
    refine AW.ret ?_
    refine ⟨.inr rfl, ?_⟩
    (rw [boS, if_pos hbt9, decide_eq_true hbt9])
    refine hleaves_tmp1 4 rfl ?_ (by simp only [mset_G, hG, hG0, wr_G]) (up_wr hu ⟨?_, ?_, ?_⟩ (fun n h1 h2 h3 => by cases n <;> simp_all [mset_if, Nm.up]))
    all_goals (try simp (disch := first | omega | decide) only [go_sem, F, aIndex_map])
    all_goals rfl
  case hf1 =>
    have hw9 := hb
    try simp only [bo1, bo2, bo3, bo4, bo5, bo6] at hb
    have hbt9 := hb
    refine AW.skip ?_
    refine AW.seq ?_
    refine AW.region (cfg := cfg) ?_
    iterate 2 refine stp (fun _ h => s0 h) ?_
    refine stp (fun _ h => sy h) ?_
    refine stp0 (fun _ h => ss h) ?_
    refine aops_nil ?_
    refine AW.seq ?_
    refine AW.region (cfg := cfg) ?_
    refine stp (fun _ h => s0 h) ?_
    refine aops_nil ?_
    refine AW.ret ?_
    refine ⟨.inr rfl, ?_⟩
    (rw [boS, if_neg hbt9, decide_eq_false hbt9])
    refine hleaves_tmp1 4 rfl ?_ (by simp only [mset_G, hG, hG0, wr_G]) (up_wr hu ⟨?_, ?_, ?_⟩ (fun n h1 h2 h3 => by cases n <;> simp_all [mset_if, Nm.up]))
    all_goals (try simp (disch := first | omega | decide) only [go_sem, F, aIndex_map])
    all_goals rfl
end Go.Vai.BA
namespace Go.Vai.BA
open Go.Proofs Go.Vai Go.Vai.C Go.Vai.D Go.Vai.DB Go.Vai.G Go.Vai.I Go.Vai.L Go.Vai.N Go.Vai.O
set_option linter.unusedSimpArgs false
set_option linter.unusedVariables false
set_option maxHeartbeats 4000000
set_option maxRecDepth 100000
theorem ch1_s {c : Ch} (h : chOK c = true) (hk : c.kind = 1) : 1 ≤ c.l.s := by
  rcases ch_kind h with h | h | h | h
  · have := lsa_bd h.2.1; omega
  · omega
  · omega
  · omega
theorem ch4_n {c : Ch} (h : chOK c = true) (h1 : ¬ c.kind = 1) (h2 : ¬ c.kind = 2) (h3 : ¬ c.kind = 3) : 1 ≤ c.n := by
  rcases ch_kind h with h | h | h | h
  · omega
  · omega
  · omega
  · omega
theorem hg_do (m : Mem) (hG0 : m.G = []) (g g0 g3 : Nat) (a : Sta) (hs : HasS 6 g g0 g3 a m) (ok : staOK a = true) (pa : ∀ x ∈ a.db, fit x) (z1 : a.n1 = true → a.db = []) (z2 : a.n2 = true → a.ep = []) (c : Ch) (pc : fit c.l) (okc : chOK c = true) : HGood Try.prog 27 [.lptr (.tmp 6 0) g 0, .agg [.v (i64 c.kind), .v (i64 c.l.o), .v (i64 c.l.s), .v (.sl 2 c.l.nil (c.l.ls.map linkA)), .v (i64 c.n), .v (i64 c.of)]] m (.v (.b (doB a c).1)) (wr 6 g (g0 + (doB a c).2.2.1) (g3 + (doB a c).2.2.2) (doB a c).2.1 m) := by
  refine hgood_of_body 36 0 Try.func27 rfl rfl rfl (by simp) ?_
  intro s m1 ha hu
  have f0 : s 0 = .lptr (.tmp 1006 0) g 0 := ha 0 _ rfl
  have f1 : s 1 = .agg [.v (i64 c.kind), .v (i64 c.l.o), .v (i64 c.l.s), .v (.sl 2 c.l.nil (c.l.ls.map linkA)), .v (i64 c.n), .v (i64 c.of)] := ha 1 _ rfl
  have oB : m1.objs (.tmp 1006 0) = (g, .box [.own (.cell 1006 0) g0 0 a.db.length, .v (i64 a.up), .v (i64 a.bo), .own (.cell 1006 3) g3 0 a.ep.length]) := (hu.up (.tmp 6 0)).trans (by rw [hs.bx]; rfl)
  have oC : m1.objs (.cell 1006 0) = (g0, .arr a.n1 3 (a.db.map lsaA)) := (hu.up (.cell 6 0)).trans (by rw [hs.r0]; rfl)
  have oD : m1.objs (.cell 1006 3) = (g3, .arr a.n2 2 (a.ep.map itA)) := (hu.up (.cell 6 3)).trans (by rw [hs.r3]; rfl)
  have hr : m1.objs (.res 0) = (0, .dead) := hu.own _ rfl
  have hG : m1.G = [] := hu.G.trans hG0
  clear ha
  have hc : True := trivial
  have F := (And.intro f0 (And.intro f1 (And.intro oB (And.intro oC (And.intro oD hG)))))
  refine AW.seq ?_
  refine AW.region (cfg := cfg) ?_
  refine stp (fun _ h => sb h) ?_
  refine stp (fun _ h => s0 h) ?_
  refine aops_nil ?_
  refine AW.seq ?_
  refine AW.seq ?_
  refine AW.region (cfg := cfg) ?_
  refine stp (fun _ h => sx h) ?_
  refine stp (fun _ h => sl h) ?_
  refine aops_nil ?_
  refine AW.block ?_
  refine AW.seq ?_
  refine AW.region (cfg := cfg) ?_
  iterate 2 refine stp (fun _ h => s0 h) ?_
  refine aops_nil ?_
  refine cnd (fun hb => ?ht1) (fun hb => ?hf1)
  case ht1 =>
    have hw7 := hb
    try simp only [bo1, bo2, bo3, bo4, bo5, bo6] at hb
    have hbt7 := hb
    refine AW.seq ?_
    refine AW.region (cfg := cfg) ?_
    refine stp (fun _ h => s0 h) ?_
    refine stp (fun _ h => sx h) ?_
    refine stp (fun _ h => sl h) ?_
    refine hst (hg_put _ (by simp only [mset_G, hG]) g g0 g3 a ⟨(by simp (disch := first | omega | decide) only [go_sem, F]), (by simp (disch := first | omega | decide) only [go_sem, F]), (by simp (disch := first | omega | decide) only [go_sem, F])⟩ ok pa z1 z2 c.l pc (ch1_s okc hbt7)) (by (simp (disch := first | omega | decide) only [go_sem, F, aIndex_map, List.map]; done)) ?_
    refine stp (fun _ h => s0 h) ?_
    refine aops_nil ?_
    refine AW.ret ?_
    refine ⟨.inr rfl, ?_⟩
    (rw [doB_1 hbt7])
    refine hleaves_tmp1 4 rfl ?_ (by simp only [mset_G, hG, hG0, wr_G]) (up_wr hu wr_has (fun n h1 h2 h3 => (wr_other (fun e => h1 (Nm.up_inj e)) (fun e => h2 (Nm.up_inj e)) (fun e => h3 (Nm.up_inj e))).trans (by cases n <;> simp [mset_if, Nm.up])))
    all_goals (try simp (disch := first | omega | decide) only [go_sem, F, aIndex_map])
    all_goals first | done | rfl | (simp; done) | trace_state
  case hf1 =>
    have hw7 := hb
    try simp only [bo1, bo2, bo3, bo4, bo5, bo6] at hb
    have hbt7 := hb
    refine AW.seq ?_
    refine AW.region (cfg := cfg) ?_
    iterate 2 refine stp (fun _ h => s0 h) ?_
    refine aops_nil ?_
    refine cnd (fun hb => ?ht2) (fun hb => ?hf2)
    case ht2 =>
      have hw13 := hb
      try simp only [bo1, bo2, bo3, bo4, bo5, bo6] at hb
      have hbt13 := hb
      refine AW.seq ?_
      refine AW.draw (cfg := cfg) (by kernel_rfl) (by kernel_rfl) (by kernel_rfl) ?_
      refine dstp (fun _ h => s0 h) ?_
      refine dstp (fun _ h => sy h) ?_
      iterate 2 refine dstp (fun _ h => sx h) ?_
      refine dstp (fun _ h => sl h) ?_
      refine dhst (hg_raiseUp _ (by simp only [mset_G, hG]) g g0 g3 a ⟨(by simp (disch := first | omega | decide) only [go_sem, F]), (by simp (disch := first | omega | decide) only [go_sem, F]), (by simp (disch := first | omega | decide) only [go_sem, F])⟩ c.n) (by (simp (disch := first | omega | decide) only [go_sem, F, aIndex_map, List.map]; done)) ?_
      refine dstp (fun _ h => s0 h) ?_
      refine adraw_nil (by kernel_rfl) ?_
      refine AW.ret ?_
      refine ⟨.inr rfl, ?_⟩
      (rw [doB_2 hbt13])
      refine hleaves_tmp1 4 rfl ?_ (by simp only [mset_G, hG, hG0, wr_G]) (up_wr hu wr_has (fun n h1 h2 h3 => (wr_other (fun e => h1 (Nm.up_inj e)) (fun e => h2 (Nm.up_inj e)) (fun e => h3 (Nm.up_inj e))).trans (by cases n <;> simp [mset_if, Nm.up])))
      all_goals (try simp (disch := first | omega | decide) only [go_sem, F, aIndex_map])
      all_goals first | done | rfl | (simp; done) | trace_state
    case hf2 =>
      have hw13 := hb
      try simp only [bo1, bo2, bo3, bo4, bo5, bo6] at hb
      have hbt13 := hb
      refine AW.seq ?_
      refine AW.region (cfg := cfg) ?_
      iterate 2 refine stp (fun _ h => s0 h) ?_
      refine aops_nil ?_
      refine cnd (fun hb => ?ht3) (fun hb => ?hf3)
      case ht3 =>
        have hw21 := hb
        try simp only [bo1, bo2, bo3, bo4, bo5, bo6] at hb
        have hbt21 := hb
        refine AW.seq ?_
        refine AW.draw (cfg := cfg) (by kernel_rfl) (by kernel_rfl) (by kernel_rfl) ?_
        refine dstp (fun _ h => s0 h) ?_
        refine dstp (fun _ h => sy h) ?_
        iterate 2 refine dstp (fun _ h => sx h) ?_
        refine dstp (fun _ h => sl h) ?_
        refine dhst (hg_raiseBo _ (by simp only [mset_G, hG]) g g0 g3 a ⟨(by simp (disch := first | omega | decide) only [go_sem, F]), (by simp (disch := first | omega | decide) only [go_sem, F]), (by simp (disch := first | omega | decide) only [go_sem, F])⟩ c.n) (by (simp (disch := first | omega | decide) only [go_sem, F, aIndex_map, List.map]; done)) ?_
        refine dstp (fun _ h => s0 h) ?_
        refine adraw_nil (by kernel_rfl) ?_
        refine AW.ret ?_
        refine ⟨.inr rfl, ?_⟩
        (rw [doB_3 hbt21])
        refine hleaves_tmp1 4 rfl ?_ (by simp only [mset_G, hG, hG0, wr_G]) (up_wr hu wr_has (fun n h1 h2 h3 => (wr_other (fun e => h1 (Nm.up_inj e)) (fun e => h2 (Nm.up_inj e)) (fun e => h3 (Nm.up_inj e))).trans (by cases n <;> simp [mset_if, Nm.up])))
        all_goals (try simp (disch := first | omega | decide) only [go_sem, F, aIndex_map])
        all_goals first | done | rfl | (simp; done) | trace_state
      case hf3 =>
        have hw21 := hb
        try simp only [bo1, bo2, bo3, bo4, bo5, bo6] at hb
        have hbt21 := hb
        refine AW.skip ?_
        refine AW.seq ?_
        refine AW.region (cfg := cfg) ?_
        refine stp (fun _ h => s0 h) ?_
        refine stp (fun _ h => sx h) ?_
        refine stp (fun _ h => sl h) ?_
        refine stp (fun _ h => sx h) ?_
        refine stp (fun _ h => sl h) ?_
        refine stp (fun _ h => su h) ?_
        refine hst (hg_epoch _ (by simp only [mset_G, hG]) g g0 g3 a ⟨(by simp (disch := first | omega | decide) only [go_sem, F]), (by simp (disch := first | omega | decide) only [go_sem, F]), (by simp (disch := first | omega | decide) only [go_sem, F])⟩ ok pa z1 z2 ⟨c.of, c.n⟩ (ch4_n okc hbt7 hbt13 hbt21)) (by (simp (disch := first | omega | decide) only [go_sem, F, aIndex_map, List.map]; done)) ?_
        refine stp (fun _ h => s0 h) ?_
        refine aops_nil ?_
        refine AW.ret ?_
        refine ⟨.inr rfl, ?_⟩
        (rw [doB_4 hbt7 hbt13 hbt21])
        refine hleaves_tmp1 4 rfl ?_ (by simp only [mset_G, hG, hG0, wr_G]) (up_wr hu wr_has (fun n h1 h2 h3 => (wr_other (fun e => h1 (Nm.up_inj e)) (fun e => h2 (Nm.up_inj e)) (fun e => h3 (Nm.up_inj e))).trans (by cases n <;> simp [mset_if, Nm.up])))
        all_goals (try simp (disch := first | omega | decide) only [go_sem, F, aIndex_map])
        all_goals first | done | rfl | (simp; done) | trace_state
end Go.Vai.BA
namespace Go.Vai.BA
open Go.Proofs Go.Vai Go.Vai.C Go.Vai.D Go.Vai.DB Go.Vai.G Go.Vai.I Go.Vai.L Go.Vai.N Go.Vai.O
set_option linter.unusedSimpArgs false
set_option linter.unusedVariables false
set_option maxHeartbeats 4000000
set_option maxRecDepth 100000
theorem hg_copy (mc : Mem) (hG0 : mc.G = []) (a : Sta) (ha1 : a.db.length ≤ 1000000) (ha2 : a.ep.length ≤ 1000000) (pa : ∀ x ∈ a.db, fit x) (z1 : a.n1 = true → a.db = []) (z2 : a.n2 = true → a.ep = []) : HGood Try.prog 20 [.agg [.v (.sl 3 a.n1 (a.db.map lsaA)), .v (i64 a.up), .v (i64 a.bo), .v (.sl 2 a.n2 (a.ep.map itA))]] mc (.agg [.own (.tmp 18 0) ((mc.objs (.tmp 18 0)).1 + 1) 0 a.db.length, .v (i64 a.up), .v (i64 a.bo), .own (.tmp 18 3) ((mc.objs (.tmp 18 3)).1 + 1) 0 a.ep.length]) ((mc.set (.tmp 18 0) ((mc.objs (.tmp 18 0)).1 + 1, .arr a.n1 3 (a.db.map lsaA))).set (.tmp 18 3) ((mc.objs (.tmp 18 3)).1 + 1, .arr a.n2 2 (a.ep.map itA))) := by
  refine hgood_of_body 29 18 Try.func20 rfl rfl rfl (by simp) ?_
  intro s m1 ha hu
  have f0 : s 0 = .agg [.v (.sl 3 a.n1 (a.db.map lsaA)), .v (i64 a.up), .v (i64 a.bo), .v (.sl 2 a.n2 (a.ep.map itA))] := ha 0 _ rfl
  have hr : m1.objs (.res 0) = (0, .dead) := hu.own _ rfl
  have hG : m1.G = [] := hu.G.trans hG0
  clear ha
  have hc : True := trivial
  have F := (And.intro f0 hG)
  refine AW.seq ?_
  refine AW.region (cfg := cfg) ?_
  refine stp (fun _ h => sb h) ?_
  refine stp (fun _ h => sd h) ?_
  refine aops_nil ?_
  refine AW.seq ?_
  refine AW.draw (cfg := cfg) (by kernel_rfl) (by kernel_rfl) (by kernel_rfl) ?_
  refine dstp (fun _ h => sx h) ?_
  refine dstp (fun _ h => sl h) ?_
  refine dstp (fun _ h => co1 (w := good_CloneLsa a.n1 a.db (by omega) z1) (x := h)) ?_
  refine dstp (fun _ h => sx h) ?_
  refine dstp (fun _ h => sl h) ?_
  refine dstp (fun _ h => co1 (w := good_CloneIt a.n2 a.ep (by omega) z2) (x := h)) ?_
  refine dstp (fun _ h => sx h) ?_
  refine dstp0 (fun _ h => ss h) ?_
  refine dstp (fun _ h => sx h) ?_
  refine dstp0 (fun _ h => ss h) ?_
  refine adraw_nil (by kernel_rfl) ?_
  refine AW.seq ?_
  refine AW.seq ?_
  refine AW.region (cfg := cfg) ?_
  refine stp (fun _ h => sx h) ?_
  refine stp (fun _ h => sl h) ?_
  refine stp (fun _ h => sn h) ?_
  refine stp (fun _ h => s0 h) ?_
  refine aops_nil ?_
  refine AW.block ?_
  refine AW.forN (fun k σ => ∃ s m, σ = ⟨29, s, m⟩ ∧ s 1 = .lptr (.tmp 1 0) (m.objs (.tmp 1 0)).1 0 ∧ (m.objs (.tmp 1 0)).2 = .box [.own (.cell 1 0) (m.objs (.cell 1 0)).1 0 a.db.length, .v (i64 a.up), .v (i64 a.bo), .own (.cell 1 3) (m.objs (.cell 1 3)).1 0 a.ep.length] ∧ (m.objs (.cell 1 0)).2 = .arr a.n1 3 (a.db.map lsaA) ∧ (m.objs (.cell 1 3)).2 = .arr a.n2 2 (a.ep.map itA) ∧ s 2 = .lptr (.tmp 2 0) (m.objs (.tmp 2 0)).1 0 ∧ (m.objs (.tmp 2 0)).2 = .box [.v (.sl 3 true []), .v (i64 0), .v (i64 0), .v (.sl 2 true [])] ∧ s 14 = .own (.cell 1 0) (m.objs (.cell 1 0)).1 0 a.db.length ∧ s 15 = .v (i64 (a.db.length : Int)) ∧ s 16 = .v (i64 (k : Int)) ∧ (∀ n : Nm, m.objs n.up = m1.objs n.up) ∧ m.G = []) (a.db.length) ?_ ?_ ?_
  · refine ⟨_, _, rfl, ?_, ?_, ?_, ?_, ?_, ?_, ?_, ?_, ?_, ?_, (by exact hG)⟩ <;> try simp (disch := first | omega | decide) only [go_sem, F, aIndex_map]
    all_goals first | rfl | (intro n; cases n <;> simp [mset_if, Nm.up]; done)
  · clear F f0 hG
    rintro k σ hk ⟨s, m, rfl, f1, o1, o1c0, o1c3, f2, o2, f14, f15, f16, mo0, hG⟩
    obtain ⟨g1c0, o1c0⟩ : ∃ g, m.objs (.cell 1 0) = (g, .arr a.n1 3 (a.db.map lsaA)) := ⟨_, Prod.ext rfl o1c0⟩
    rw [o1c0] at o1
    obtain ⟨g1c3, o1c3⟩ : ∃ g, m.objs (.cell 1 3) = (g, .arr a.n2 2 (a.ep.map itA)) := ⟨_, Prod.ext rfl o1c3⟩
    rw [o1c3] at o1
    simp only at o1
    obtain ⟨g1, o1⟩ : ∃ g, m.objs (.tmp 1 0) = (g, .box [.own (.cell 1 0) g1c0 0 a.db.length, .v (i64 a.up), .v (i64 a.bo), .own (.cell 1 3) g1c3 0 a.ep.length]) := ⟨_, Prod.ext rfl o1⟩
    rw [o1] at f1
    obtain ⟨g2, o2⟩ : ∃ g, m.objs (.tmp 2 0) = (g, .box [.v (.sl 3 true []), .v (i64 0), .v (i64 0), .v (.sl 2 true [])]) := ⟨_, Prod.ext rfl o2⟩
    rw [o2] at f2
    simp only [o1, o2, o1c0, o1c3] at f14
    have F := (And.intro f1 (And.intro f2 (And.intro f14 (And.intro f15 (And.intro f16 (And.intro o1 (And.intro o2 (And.intro o1c0 (And.intro o1c3 hG)))))))))
    refine AW.seq ?_
    refine AW.region (cfg := cfg) ?_
    refine stp (fun _ h => s0 h) ?_
    refine aops_nil ?_
    refine AW.seq ?_
    refine cnd (fun hb => ?ht1) (fun hb => ?hf1)
    case hf1 => (simp at hb; omega)
    case ht1 =>
    have hbt17 := hb
    refine AW.skip ?_
    refine AW.seq ?_
    refine AW.block ?_
    refine AW.seq ?_
    have hkl : k < a.db.length := by assumption
    refine AW.region (cfg := cfg) ?_
    refine stp (fun _ h => s0 h) ?_
    refine stp (fun _ h => si h) ?_
    refine stp (fun _ h => sel h) ?_
    refine stp (fun _ h => sd h) ?_
    refine stp (fun _ h => s0 h) ?_
    refine stp0 (fun _ h => ss h) ?_
    refine aops_nil ?_
    have hkl : k < a.db.length := by assumption
    have pk := pa a.db[k] (List.getElem_mem hkl)
    have hz0 : 0 + k = k := Nat.zero_add _
    have F := And.intro hz0 F
    refine AW.draw (cfg := cfg) (by kernel_rfl) (by kernel_rfl) (by kernel_rfl) ?_
    refine dstp (fun _ h => sx h) ?_
    refine dstp (fun _ h => sl h) ?_
    refine dstp (fun _ h => s0 h) ?_
    refine dstp (fun _ h => sl h) ?_
    refine dstp (fun _ h => cr (w := good_CopyX a.db[k] pk) (x := h)) ?_
    refine dstp (fun _ h => si h) ?_
    refine dstp0 (fun _ h => se2 (w := lsaA_eq a.db[k]) (x := h)) ?_
    refine adraw_nil (by kernel_rfl) ?_
    refine AW.region (cfg := cfg) ?_
    refine stp (fun _ h => sd h) ?_
    refine stp (fun _ h => s0 h) ?_
    refine aops_nil ?_
    refine ⟨_, _, rfl, ?_, ?_, ?_, ?_, ?_, ?_, ?_, ?_, ?_, ?_, (by exact hG)⟩ <;> try simp (disch := first | omega | decide) only [go_sem, F, aIndex_map]
    all_goals first | rfl | (rw [List.set_getElem_self]; done) | (intro n; refine Eq.trans ?_ (mo0 n); cases n <;> simp [mset_if, Nm.up]; done)
  · clear F f0 hG
    rintro σ ⟨s, m, rfl, f1, o1, o1c0, o1c3, f2, o2, f14, f15, f16, mo0, hG⟩
    obtain ⟨g1c0, o1c0⟩ : ∃ g, m.objs (.cell 1 0) = (g, .arr a.n1 3 (a.db.map lsaA)) := ⟨_, Prod.ext rfl o1c0⟩
    rw [o1c0] at o1
    obtain ⟨g1c3, o1c3⟩ : ∃ g, m.objs (.cell 1 3) = (g, .arr a.n2 2 (a.ep.map itA)) := ⟨_, Prod.ext rfl o1c3⟩
    rw [o1c3] at o1
    simp only at o1
    obtain ⟨g1, o1⟩ : ∃ g, m.objs (.tmp 1 0) = (g, .box [.own (.cell 1 0) g1c0 0 a.db.length, .v (i64 a.up), .v (i64 a.bo), .own (.cell 1 3) g1c3 0 a.ep.length]) := ⟨_, Prod.ext rfl o1⟩
    rw [o1] at f1
    obtain ⟨g2, o2⟩ : ∃ g, m.objs (.tmp 2 0) = (g, .box [.v (.sl 3 true []), .v (i64 0), .v (i64 0), .v (.sl 2 true [])]) := ⟨_, Prod.ext rfl o2⟩
    rw [o2] at f2
    simp only [o1, o2, o1c0, o1c3] at f14
    have F := (And.intro f1 (And.intro f2 (And.intro f14 (And.intro f15 (And.intro f16 (And.intro o1 (And.intro o2 (And.intro o1c0 (And.intro o1c3 hG)))))))))
    refine AW.seq ?_
    refine AW.region (cfg := cfg) ?_
    refine stp (fun _ h => s0 h) ?_
    refine aops_nil ?_
    refine AW.seq ?_
    refine cnd (fun hb => ?ht2) (fun hb => ?hf2)
    case ht2 => (simp at hb; done)
    case hf2 =>
    have hbt17 := hb
    refine AW.exit ?_
    refine AW.seq ?_
    refine AW.cellOut 1 0 901 (by simp (disch := first | omega | decide) only [go_sem, F]; rfl) (by rfl) (by simp (disch := first | omega | decide) only [go_sem, F]; rfl) (by decide) ?_
    refine AW.cellOut 1 3 901 (by simp (disch := first | omega | decide) only [go_sem, F]; rfl) (by rfl) (by simp (disch := first | omega | decide) only [go_sem, F]; rfl) (by decide) ?_
    refine AW.region (cfg := cfg) ?_
    refine stp (fun _ h => sl h) ?_
    refine stp0 (fun _ h => ss h) ?_
    refine aops_nil ?_
    refine AW.ret ?_
    refine ⟨.inr rfl, ?_⟩
    have e0 : m.objs (.tmp 1018 0) = upO (mc.objs (.tmp 18 0)) := (mo0 (.tmp 18 0)).trans (hu.up _)
    have e3 : m.objs (.tmp 1018 3) = upO (mc.objs (.tmp 18 3)) := (mo0 (.tmp 18 3)).trans (hu.up _)
    refine hleaves_mwp (x := .cell 2 25) rfl ?_
    simp (config := {failIfUnchanged := false}) [srcOne, giveH, giveHL, rehome, upd, opn, aLoad, loadL, Mwp, M.bind, mset_if, setAt, cellsL, hG, ti25, f1, f2, f14, f15, f16, o1, o2, o1c0, o1c3]
    refine ⟨by rw [e0, e3]; rfl, hG0, fun n => ?_⟩
    by_cases q3 : n = .tmp 18 3
    · subst q3; simp [Nm.up, upO, Obj.up, e3, mset_if]
    · by_cases q0 : n = .tmp 18 0
      · subst q0; simp [Nm.up, upO, Obj.up, e0, mset_if]
      · have q := (mo0 n).trans (hu.up n)
        have q5 : ¬ n.up = .tmp 1018 3 := fun e => q3 (Nm.up_inj e)
        have q6 : ¬ n.up = .tmp 1018 0 := fun e => q0 (Nm.up_inj e)
        simp only [if_neg q3, if_neg q0, if_neg q5, if_neg q6]
        cases n <;> simp_all [Nm.up, upO, mset_if]
    all_goals first | done | trace_state
end Go.Vai.BA
namespace Go.Vai.BA
open Go.Proofs Go.Vai Go.Vai.C Go.Vai.D Go.Vai.DB Go.Vai.G Go.Vai.I Go.Vai.L Go.Vai.N Go.Vai.O
set_option linter.unusedSimpArgs false
set_option linter.unusedVariables false
set_option maxHeartbeats 4000000
set_option maxRecDepth 100000
attribute [go_sem] wr
theorem good_IndexFuncCh (nil : Bool) (l : List Ch) (f : FuncId) (caps : List AV) (p : Ch → Bool) (hl : l.length ≤ 9223372036854775807) (hcn : noPtrL caps = true) (hpu : cfg.pure f = true) (hsc : cfg.scalar f = true) (hxf : cfg.xfer f = false) (hp : ∀ x ∈ l, Good Try.prog f (([chA x] ++ caps).map fun a => (a, false)) [] [(.b (p x), false)] []) : Good Try.prog 52 [(.sl 6 nil (l.map chA), false), (.clo f caps, false)] [] [(i64 (findI p l), false)] [] := by
  refine good_of_body2 19 Try.func52 rfl rfl rfl (by simp) ?_
  intro s m ha hr hv hG
  have f0 : s 0 = .v (.sl 6 nil (l.map chA)) := ha 0 _ rfl
  have f1 : s 1 = .v (.clo f caps) := ha 1 _ rfl
  clear ha
  have hc : True := trivial
  have F := (And.intro f0 (And.intro f1 hG))
  refine AW.seq ?_
  refine AW.region (cfg := cfg) ?_
  refine stp (fun _ h => s0 h) ?_
  refine aops_nil ?_
  refine AW.seq ?_
  refine AW.seq ?_
  refine AW.region (cfg := cfg) ?_
  refine stp (fun _ h => s0 h) ?_
  refine stp (fun _ h => sd h) ?_
  refine stp (fun _ h => s0 h) ?_
  refine aops_nil ?_
  refine AW.block ?_
  refine AW.forN (fun k σ => ∃ s m, σ = ⟨19, s, m⟩ ∧ s 0 = .v (.sl 6 nil (l.map chA)) ∧ s 1 = .v (.clo f caps) ∧ s 7 = .v (i64 (l.length : Int)) ∧ s 8 = .v (i64 (k : Int)) ∧ (∀ x ∈ l.take k, p x = false) ∧ m.G = []) (l.length) ?_ ?_ ?_
  · refine ⟨_, _, rfl, ?_, ?_, ?_, ?_, ?_, (by exact hG)⟩ <;> try simp (disch := first | omega | decide) only [go_sem, F, aIndex_map]
    all_goals first | rfl | (simp; done)
  · clear F f0 f1 hG
    rintro k σ hk ⟨s, m, rfl, f0, f1, f7, f8, mo0, hG⟩
    have F := (And.intro f0 (And.intro f1 (And.intro f7 (And.intro f8 hG))))
    refine AW.seq ?_
    refine AW.region (cfg := cfg) ?_
    refine stp (fun _ h => s0 h) ?_
    refine aops_nil ?_
    refine AW.seq ?_
    refine cnd (fun hb => ?ht1) (fun hb => ?hf1)
    case hf1 => (simp at hb; omega)
    case ht1 =>
    have hbt9 := hb
    refine AW.skip ?_
    refine AW.seq ?_
    refine AW.block ?_
    refine AW.seq ?_
    refine AW.region (cfg := cfg) ?_
    iterate 2 refine stp (fun _ h => s0 h) ?_
    refine aops_nil ?_
    refine AW.seq ?_
    refine AW.region (cfg := cfg) ?_
    iterate 3 refine stp (fun _ h => s0 h) ?_
    refine stp (fun _ h => si h) ?_
    refine stp (fun _ h => sl h) ?_
    apply aops_step (by decide) rfl
    · intro K hK
      simp (disch := first | omega | decide) only [go_sem, F, aIndex_map, act_callv, List.map]
      apply mwp_call_sc hpu hxf hsc
      · intro Q hQ
        simp (disch := first | omega | decide) only [go_sem, F, aIndex_map, peekL, reifyL_nil, reifyL_cons, reify_v]
        exact hQ
      · exact hp l[k] (List.getElem_mem hk)
      · simp [noPtrL, noPtr, chA, hcn]
      · rfl
      · exact hK _
    refine aops_nil ?_
    refine cnd (fun hb => ?ht2) (fun hb => ?hf2)
    case ht2 =>
      have hw16 := hb
      try simp only [bo1, bo2, bo3, bo4, bo5, bo6] at hb
      have hbt16 := hb
      refine AW.seq ?_
      refine AW.region (cfg := cfg) ?_
      iterate 2 refine stp (fun _ h => s0 h) ?_
      refine aops_nil ?_
      refine AW.ret ?_
      refine ⟨.inr rfl, ?_⟩
      refine leaves_tmp1 4 rfl ?_ (by exact hG)
      simp (disch := first | omega | decide) only [go_sem, F, aIndex_map]
      all_goals (rw [findI_at hk mo0 hb]; done)
    case hf2 =>
      have hw16 := hb
      try simp only [bo1, bo2, bo3, bo4, bo5, bo6] at hb
      have hbt16 := hb
      refine AW.skip ?_
      refine AW.region (cfg := cfg) ?_
      refine stp (fun _ h => sd h) ?_
      refine stp (fun _ h => s0 h) ?_
      refine aops_nil ?_
      refine ⟨_, _, rfl, ?_, ?_, ?_, ?_, ?_, (by exact hG)⟩ <;> try simp (disch := first | omega | decide) only [go_sem, F, aIndex_map]
      all_goals first | rfl | skip
      all_goals (intro x hx; rw [List.take_succ_eq_append_getElem hk] at hx; rcases List.mem_append.1 hx with h | h; exact mo0 x h; rw [List.mem_singleton.1 h]; exact hb)
  · clear F f0 f1 hG
    rintro σ ⟨s, m, rfl, f0, f1, f7, f8, mo0, hG⟩
    have F := (And.intro f0 (And.intro f1 (And.intro f7 (And.intro f8 hG))))
    refine AW.seq ?_
    refine AW.region (cfg := cfg) ?_
    refine stp (fun _ h => s0 h) ?_
    refine aops_nil ?_
    refine AW.seq ?_
    refine cnd (fun hb => ?ht3) (fun hb => ?hf3)
    case ht3 => (simp at hb; done)
    case hf3 =>
    have hbt9 := hb
    refine AW.exit ?_
    refine AW.seq ?_
    refine AW.region (cfg := cfg) ?_
    refine stp (fun _ h => s0 h) ?_
    refine aops_nil ?_
    refine AW.ret ?_
    refine ⟨.inr rfl, ?_⟩
    refine leaves_tmp1 4 rfl ?_ (by exact hG)
    simp (disch := first | omega | decide) only [go_sem, F, aIndex_map]
    all_goals (rw [findI_none (by simpa using mo0)]; done)
theorem good_ContainsFuncCh (nil : Bool) (l : List Ch) (f : FuncId) (caps : List AV) (p : Ch → Bool) (hl : l.length ≤ 9223372036854775807) (hcn : noPtrL caps = true) (hpu : cfg.pure f = true) (hsc : cfg.scalar f = true) (hxf : cfg.xfer f = false) (hp : ∀ x ∈ l, Good Try.prog f (([chA x] ++ caps).map fun a => (a, false)) [] [(.b (p x), false)] []) : Good Try.prog 24 [(.sl 6 nil (l.map chA), false), (.clo f caps, false)] [] [(.b (l.any p), false)] [] := by
  refine good_of_body2 9 Try.func24 rfl rfl rfl (by simp) ?_
  intro s m ha hr hv hG
  have f0 : s 0 = .v (.sl 6 nil (l.map chA)) := ha 0 _ rfl
  have f1 : s 1 = .v (.clo f caps) := ha 1 _ rfl
  clear ha
  have hc : True := trivial
  have F := (And.intro f0 (And.intro f1 hG))
  have F := And.intro hcn F
  refine AW.seq ?_
  refine AW.region (cfg := cfg) ?_
  refine stp (fun _ h => s0 h) ?_
  refine aops_nil ?_
  refine AW.seq ?_
  refine AW.region (cfg := cfg) ?_
  iterate 2 refine stp (fun _ h => s0 h) ?_
  refine stp (fun _ h => cs (w := good_IndexFuncCh nil l f caps p hl hcn hpu hsc hxf hp) (x := h)) ?_
  iterate 2 refine stp (fun _ h => s0 h) ?_
  refine aops_nil ?_
  refine AW.ret ?_
  refine ⟨.inr rfl, ?_⟩
  refine leaves_tmp1 4 rfl ?_ (by exact hG)
  simp (disch := first | omega | decide) only [go_sem, F, aIndex_map]
  all_goals (rw [findI_any]; done)
theorem chE_not (c : Ch) : decide (chE c ≠ 0) = !chOK c := by cases h : chOK c <;> simp [chE, h]
theorem good_ap1 (c : Ch) (pc : fit c.l) : Good Try.prog 25 [(chA c, false)] [] [(.b (!chOK c), false)] [] := by
  refine good_of_body2 6 Try.func25 rfl rfl rfl (by simp) ?_
  intro s m ha hr hv hG
  have f0 : s 0 = .v (.agg [i64 c.kind, i64 c.l.o, i64 c.l.s, .sl 2 c.l.nil (c.l.ls.map linkA), i64 c.n, i64 c.of]) := ha 0 _ rfl
  clear ha
  have hc : True := trivial
  have F := (And.intro f0 hG)
  refine AW.seq ?_
  refine AW.region (cfg := cfg) ?_
  refine stp (fun _ h => sb h) ?_
  refine stp (fun _ h => s0 h) ?_
  refine aops_nil ?_
  refine AW.seq ?_
  refine AW.region (cfg := cfg) ?_
  refine stp (fun _ h => sl h) ?_
  refine stp (fun _ h => cs (w := C.good_CheckC c (by have := pc.1; omega)) (x := h)) ?_
  iterate 2 refine stp (fun _ h => s0 h) ?_
  refine aops_nil ?_
  refine AW.ret ?_
  refine ⟨.inr rfl, ?_⟩
  refine leaves_tmp1 2 rfl ?_ (by exact hG)
  simp (disch := first | omega | decide) only [go_sem, F, aIndex_map]
  all_goals (rw [chE_not]; done)
theorem good_ApplyB (a : Sta) (ha1 : a.db.length ≤ 1000000) (ha2 : a.ep.length ≤ 1000000) (pa : ∀ x ∈ a.db, fit x) (z1 : a.n1 = true → a.db = []) (z2 : a.n2 = true → a.ep = []) (nl : Bool) (l : List Ch) (hl : l.length ≤ 1000000) (pl : ∀ c ∈ l, fit c.l) : Good Try.prog 10 [(staA a, false), (.sl 6 nl (l.map chA), false)] [] [(staA (applyR a l).1, false), (i64 (applyR a l).2, false)] [] := by
  refine good_of_body2 31 Try.func10 rfl rfl rfl (by simp) ?_
  intro s m ha hr hv hG
  have f0 : s 0 = .v (.agg [.sl 3 a.n1 (a.db.map lsaA), i64 a.up, i64 a.bo, .sl 2 a.n2 (a.ep.map itA)]) := ha 0 _ rfl
  have f1 : s 1 = .v (.sl 6 nl (l.map chA)) := ha 1 _ rfl
  clear ha
  have hc : True := trivial
  have F := (And.intro f0 (And.intro f1 hG))
  refine AW.seq ?_
  refine AW.region (cfg := cfg) ?_
  refine stp (fun _ h => sb h) ?_
  refine stp (fun _ h => sd h) ?_
  refine stp (fun _ h => s0 h) ?_
  refine aops_nil ?_
  refine AW.seq ?_
  refine AW.seq ?_
  refine AW.region (cfg := cfg) ?_
  refine stp (fun _ h => sl h) ?_
  refine stp (fun _ h => cs (w := good_CheckB a (by omega) (by omega) (fun x hx => by have := (pa x hx).1; omega)) (x := h)) ?_
  iterate 2 refine stp (fun _ h => s0 h) ?_
  refine mrg wa (fun hc _ h => s0 h) ?_
  refine mrg wa (fun hc _ h => cs (w := good_ContainsFuncCh nl l 25 [] (fun c => !chOK c) (by omega) rfl rfl rfl rfl (fun c hc => good_ap1 c (pl c hc))) (x := h)) ?_
  refine stp (fun _ h => s0 h) ?_
  refine aops_nil ?_
  refine cnd (fun hb => ?ht1) (fun hb => ?hf1)
  case ht1 =>
    have hw15 := hb
    try simp only [bo1, bo2, bo3, bo4, bo5, bo6] at hb
    have hbt15 := hb
    refine AW.seq ?_
    refine AW.region (cfg := cfg) ?_
    refine stp (fun _ h => su h) ?_
    refine stp0 (fun _ h => ss h) ?_
    refine stp (fun _ h => s0 h) ?_
    refine aops_nil ?_
    refine AW.ret ?_
    refine ⟨.inr rfl, ?_⟩
    refine leaves_mwp2 (rs := [.cell 4 25, .tmp 5]) rfl ?_
    simp (config := {failIfUnchanged := false}) [giveL, srcOne, rehome, freezeN, sub, ti25, upd, opn, aLoad, loadL, giveOne, reify, reifyL, readL, readOne, Mwp, M.bind, Mem.set, setAt, cellsL, hG, f0, f1]
    all_goals (rw [applyR_bad hbt15]; exact ⟨rfl, rfl⟩)
  case hf1 =>
    have hw15 := hb
    try simp only [bo1, bo2, bo3, bo4, bo5, bo6] at hb
    have hbt15 := hb
    refine AW.skip ?_
    refine AW.seq ?_
    have ok1 := staE_0 hbt15.1
    have ok2 := allCh_yes hbt15.2
    refine AW.region (cfg := cfg) ?_
    refine stp (fun _ h => sl h) ?_
    refine hst (hg_copy _ (by simp only [mset_G, hG]) a (by omega) (by omega) pa z1 z2) (by (simp (disch := first | omega | decide) only [go_sem, F, aIndex_map, List.map]; done)) ?_
    refine stp (fun _ h => sd h) ?_
    refine stp0 (fun _ h => ss h) ?_
    refine aops_nil ?_
    refine AW.seq ?_
    refine AW.seq ?_
    refine AW.region (cfg := cfg) ?_
    refine stp (fun _ h => s0 h) ?_
    refine stp (fun _ h => sd h) ?_
    refine stp (fun _ h => s0 h) ?_
    refine aops_nil ?_
    refine AW.block ?_
    refine AW.forN (fun k σ => ∃ (s : Nat → LV) (m : Mem) (z : Sta), σ = ⟨31, s, m⟩ ∧ s 4 = .lptr (.tmp 4 0) (m.objs (.tmp 4 0)).1 0 ∧ (m.objs (.tmp 4 0)).2 = .box [.v (.sl 3 true []), .v (i64 0), .v (i64 0), .v (.sl 2 true [])] ∧ s 6 = .lptr (.tmp 6 0) (m.objs (.tmp 6 0)).1 0 ∧ (m.objs (.tmp 6 0)).2 = .box [.own (.cell 6 0) (m.objs (.cell 6 0)).1 0 z.db.length, .v (i64 z.up), .v (i64 z.bo), .own (.cell 6 3) (m.objs (.cell 6 3)).1 0 z.ep.length] ∧ (m.objs (.cell 6 0)).2 = .arr z.n1 3 (z.db.map lsaA) ∧ (m.objs (.cell 6 3)).2 = .arr z.n2 2 (z.ep.map itA) ∧ s 19 = .v (.sl 6 nl (l.map chA)) ∧ s 20 = .v (i64 (l.length : Int)) ∧ s 21 = .v (i64 (k : Int)) ∧ (foldS a (l.take k) = some z) ∧ (staOK z = true) ∧ (∀ x ∈ z.db, fit x) ∧ (z.n1 = true → z.db = []) ∧ (z.n2 = true → z.ep = []) ∧ (∀ i, (m.objs (.res i)).2 = .dead) ∧ m.G = []) (l.length) ?_ ?_ ?_
    · refine ⟨_, _, a, rfl, ?_, ?_, ?_, ?_, ?_, ?_, ?_, ?_, ?_, ?_, ?_, ?_, ?_, ?_, (by intro i; simp [Mem.set, hr]), (by exact hG)⟩ <;> try simp (disch := first | omega | decide) only [go_sem, F, aIndex_map]
      all_goals first | rfl | assumption
    · clear F f0 f1 hr hG
      rintro k σ hk ⟨s, m, z, rfl, f4, o4, f6, o6, o6c0, o6c3, f19, f20, f21, mo0, mo1, mo2, mo3, mo4, hr, hG⟩
      obtain ⟨g4, o4⟩ : ∃ g, m.objs (.tmp 4 0) = (g, .box [.v (.sl 3 true []), .v (i64 0), .v (i64 0), .v (.sl 2 true [])]) := ⟨_, Prod.ext rfl o4⟩
      rw [o4] at f4
      obtain ⟨g6c0, o6c0⟩ : ∃ g, m.objs (.cell 6 0) = (g, .arr z.n1 3 (z.db.map lsaA)) := ⟨_, Prod.ext rfl o6c0⟩
      rw [o6c0] at o6
      obtain ⟨g6c3, o6c3⟩ : ∃ g, m.objs (.cell 6 3) = (g, .arr z.n2 2 (z.ep.map itA)) := ⟨_, Prod.ext rfl o6c3⟩
      rw [o6c3] at o6
      simp only at o6
      obtain ⟨g6, o6⟩ : ∃ g, m.objs (.tmp 6 0) = (g, .box [.own (.cell 6 0) g6c0 0 z.db.length, .v (i64 z.up), .v (i64 z.bo), .own (.cell 6 3) g6c3 0 z.ep.length]) := ⟨_, Prod.ext rfl o6⟩
      rw [o6] at f6
      have F := (And.intro f4 (And.intro f6 (And.intro f19 (And.intro f20 (And.intro f21 (And.intro o4 (And.intro o6 (And.intro o6c0 (And.intro o6c3 hG)))))))))
      refine AW.seq ?_
      refine AW.region (cfg := cfg) ?_
      refine stp (fun _ h => s0 h) ?_
      refine aops_nil ?_
      refine AW.seq ?_
      refine cnd (fun hb => ?ht2) (fun hb => ?hf2)
      case hf2 => (simp at hb; omega)
      case ht2 =>
      have hbt22 := hb
      refine AW.skip ?_
      refine AW.seq ?_
      refine AW.block ?_
      refine AW.seq ?_
      have hkl : k < l.length := by assumption
      refine AW.region (cfg := cfg) ?_
      refine stp (fun _ h => si h) ?_
      refine stp (fun _ h => sl h) ?_
      refine stp (fun _ h => sd h) ?_
      refine stp0 (fun _ h => ss h) ?_
      refine aops_nil ?_
      refine AW.seq ?_
      have pk := pl l[k] (List.getElem_mem hkl)
      have okk := allCh_at ok2 hkl
      have zl := sta_lens mo1
      refine AW.region (cfg := cfg) ?_
      refine stp (fun _ h => sl h) ?_
      refine hst (hg_do _ (by simp only [mset_G, hG]) g6 g6c0 g6c3 z ⟨(by simp (disch := first | omega | decide) only [go_sem, F]; done), (by simp (disch := first | omega | decide) only [go_sem, F]; done), (by simp (disch := first | omega | decide) only [go_sem, F]; done)⟩ mo1 mo2 mo3 mo4 l[k] pk okk) (by (simp (disch := first | omega | decide) only [go_sem, F, aIndex_map, List.map]; rfl)) ?_
      refine stp (fun _ h => s0 h) ?_
      refine aops_nil ?_
      refine cnd (fun hb => ?ht3) (fun hb => ?hf3)
      case ht3 =>
        have hw27 := hb
        try simp only [bo1, bo2, bo3, bo4, bo5, bo6] at hb
        have hbt27 := hb
        refine AW.seq ?_
        refine AW.region (cfg := cfg) ?_
        refine stp (fun _ h => su h) ?_
        refine stp0 (fun _ h => ss h) ?_
        refine stp (fun _ h => s0 h) ?_
        refine aops_nil ?_
        refine AW.ret ?_
        refine ⟨.inr rfl, ?_⟩
        refine leaves_mwp2 (rs := [.cell 4 25, .tmp 5]) rfl ?_
        simp (config := {failIfUnchanged := false}) [giveL, srcOne, rehome, freezeN, sub, ti25, upd, opn, aLoad, loadL, giveOne, reify, reifyL, readL, readOne, Mwp, M.bind, Mem.set, setAt, cellsL, hG, f4, f6, f19, f20, f21, o4, o6, o6c0, o6c3]
        all_goals (rw [applyR_old ok1 ok2 (foldS_none hkl mo0 (doB_none (by simpa using hbt27)))]; exact ⟨rfl, rfl⟩)
      case hf3 =>
        have hw27 := hb
        try simp only [bo1, bo2, bo3, bo4, bo5, bo6] at hb
        have hbt27 := hb
        refine AW.skip ?_
        refine AW.region (cfg := cfg) ?_
        refine stp (fun _ h => sd h) ?_
        refine stp (fun _ h => s0 h) ?_
        refine aops_nil ?_
        refine ⟨_, _, (doB z l[k]).2.1, rfl, ?_, ?_, ?_, ?_, ?_, ?_, ?_, ?_, ?_, ?_, ?_, ?_, ?_, ?_, (by intro i; simp [Mem.set, hr]), (by exact hG)⟩ <;> try simp (disch := first | omega | decide) only [go_sem, F, aIndex_map]
        all_goals first | rfl | (rw [foldS_take hkl mo0]; exact doB_some (by simpa using hbt27)) | exact doS_ok mo1 okk (doB_some (by simpa using hbt27)) | exact doB_fit mo2 pk | exact doB_n1 mo3 | exact doB_n2 mo4
    · clear F f0 f1 hr hG
      rintro σ ⟨s, m, z, rfl, f4, o4, f6, o6, o6c0, o6c3, f19, f20, f21, mo0, mo1, mo2, mo3, mo4, hr, hG⟩
      obtain ⟨g4, o4⟩ : ∃ g, m.objs (.tmp 4 0) = (g, .box [.v (.sl 3 true []), .v (i64 0), .v (i64 0), .v (.sl 2 true [])]) := ⟨_, Prod.ext rfl o4⟩
      rw [o4] at f4
      obtain ⟨g6c0, o6c0⟩ : ∃ g, m.objs (.cell 6 0) = (g, .arr z.n1 3 (z.db.map lsaA)) := ⟨_, Prod.ext rfl o6c0⟩
      rw [o6c0] at o6
      obtain ⟨g6c3, o6c3⟩ : ∃ g, m.objs (.cell 6 3) = (g, .arr z.n2 2 (z.ep.map itA)) := ⟨_, Prod.ext rfl o6c3⟩
      rw [o6c3] at o6
      simp only at o6
      obtain ⟨g6, o6⟩ : ∃ g, m.objs (.tmp 6 0) = (g, .box [.own (.cell 6 0) g6c0 0 z.db.length, .v (i64 z.up), .v (i64 z.bo), .own (.cell 6 3) g6c3 0 z.ep.length]) := ⟨_, Prod.ext rfl o6⟩
      rw [o6] at f6
      have F := (And.intro f4 (And.intro f6 (And.intro f19 (And.intro f20 (And.intro f21 (And.intro o4 (And.intro o6 (And.intro o6c0 (And.intro o6c3 hG)))))))))
      refine AW.seq ?_
      refine AW.region (cfg := cfg) ?_
      refine stp (fun _ h => s0 h) ?_
      refine aops_nil ?_
      refine AW.seq ?_
      refine cnd (fun hb => ?ht4) (fun hb => ?hf4)
      case ht4 => (simp at hb; done)
      case hf4 =>
      have hbt22 := hb
      refine AW.exit ?_
      refine AW.seq ?_
      refine AW.region (cfg := cfg) ?_
      refine stp (fun _ h => sl h) ?_
      refine stp0 (fun _ h => ss h) ?_
      refine stp (fun _ h => s0 h) ?_
      refine aops_nil ?_
      refine AW.ret ?_
      refine ⟨.inr rfl, ?_⟩
      refine leaves_mwp2 (rs := [.cell 4 25, .tmp 5]) rfl ?_
      simp (config := {failIfUnchanged := false}) [giveL, srcOne, rehome, freezeN, sub, ti25, upd, opn, aLoad, loadL, giveOne, reify, reifyL, readL, readOne, Mwp, M.bind, Mem.set, setAt, cellsL, hG, f4, f6, f19, f20, f21, o4, o6, o6c0, o6c3]
      all_goals (rw [List.take_length] at mo0; rw [applyR_ok ok1 ok2 mo0]; simp only [staA]; (simp [List.take_of_length_le, sub]; done))
end Go.Vai.BA
set_option linter.unusedSimpArgs false
set_option linter.unusedVariables false
namespace Go.Vai.D
open Go.Vai.I Go.Vai.L
def nz (x : Lsa) : Lsa := ⟨x.o, x.s, true, x.ls⟩
theorem lsaEq_nz {x y : Lsa} : lsaEq x y = true ↔ nz x = nz y := by
 simp [lsaEq, nz]
theorem eqAll_cons {x y : Lsa} {l m : List Lsa} : eqAll lsaEq (x :: l) (y :: m) = (lsaEq x y && eqAll lsaEq l m) := by
 simp only [eqAll, List.length_cons, List.zip_cons_cons, List.all_cons]
 rw [show decide (l.length + 1 = m.length + 1) = decide (l.length = m.length) from by congr 1; simp]
 cases decide (l.length = m.length) <;> cases lsaEq x y <;> rfl
theorem eqAll_nz : ∀ {l m : List Lsa}, eqAll lsaEq l m = true ↔ l.map nz = m.map nz
 | [], [] => by simp [eqAll]
 | [], y :: m => by simp [eqAll]
 | x :: l, [] => by simp [eqAll]
 | x :: l, y :: m => by
  rw [eqAll_cons, Bool.and_eq_true, lsaEq_nz, eqAll_nz, List.map_cons, List.map_cons, List.cons.injEq]
theorem gK_nz {l : List Lsa} {t : Int} : gK Lsa.o (l.map nz) t = (gK Lsa.o l t).map nz := by
 unfold gK; rw [List.find?_map]; rfl
theorem srt_nz {l : List Lsa} (h : Srt Lsa.o l) : Srt Lsa.o (l.map nz) := by
 unfold Srt at h ⊢; rw [List.pairwise_map]; exact h
theorem nz_ext {l m : List Lsa} (h1 : Srt Lsa.o l) (h2 : Srt Lsa.o m) (h : ∀ t, (gK Lsa.o l t).map nz = (gK Lsa.o m t).map nz) : eqAll lsaEq l m = true := by
 rw [eqAll_nz]
 refine srt_ext (srt_nz h1) (srt_nz h2) fun t => ?_
 rw [gK_nz, gK_nz, h]
theorem gK_flt {l : List Lsa} {p : Lsa → Bool} {t : Int} (h : Srt Lsa.o l) : gK Lsa.o (l.filter p) t = (gK Lsa.o l t).filter p := by
 cases hg : gK Lsa.o l t with
 | none =>
  rw [gK_none] at hg
  rw [Option.filter_none, gK_none]
  exact fun x hx => hg x (List.mem_filter.1 hx).1
 | some x =>
  have hm := gK_mem hg
  cases hp : p x with
  | true => rw [Option.filter_some_pos hp]; exact gK_of h.filter (List.mem_filter.2 ⟨hm.1, hp⟩) hm.2
  | false =>
   rw [Option.filter_some_neg (by simp [hp]), gK_none]
   intro y hy e
   obtain ⟨h1, h2⟩ := List.mem_filter.1 hy
   have := srt_inj h h1 hm.1 (e.trans hm.2.symm)
   rw [this, hp] at h2; cases h2
theorem gd_way {l : List Lsa} (h : dbOK l = true) (t : Int) : (gK Lsa.o l t = none ∧ isK Lsa.o l t = false ∧ sqL l t = 0) ∨ ∃ x, gK Lsa.o l t = some x ∧ isK Lsa.o l t = true ∧ sqL l t = x.s ∧ x.o = t ∧ (1 ≤ t ∧ t ≤ 64) ∧ 1 ≤ x.s ∧ x ∈ l := by
 rw [isK_gK]
 cases hg : gK Lsa.o l t with
 | none => exact .inl ⟨rfl, rfl, sqL_none hg⟩
 | some x =>
  have hm := gK_mem hg
  have hb := lsa_bd (db_mem h x hm.1)
  refine .inr ⟨x, rfl, rfl, sqL_some hg, hm.2, ?_, hb.2.1.1, hm.1⟩
  rw [← hm.2]; exact hb.1
end Go.Vai.D
namespace Go.Vai.D
open Go.Vai.I Go.Vai.L
theorem nw_way {a : List Lsa} {y : Lsa} (ha : dbOK a = true) (hy : 1 ≤ y.s) : nwP a y = decide (sqL a y.o < y.s) := by
 rw [nwP]
 rcases gd_way ha y.o with ⟨g, i, s⟩ | ⟨x, g, i, s, o, _⟩
 ·rw [i, s]; simp; omega
 ·rw [i, g, s]
  simp [newer, o]
theorem gn_mem {a b : List Lsa} {x : Lsa} (ha : dbOK a = true) (hx : x ∈ a) : hasN (gnL a b) x.o = gnP b x := by
 rw [Bool.eq_iff_iff, hasN, List.any_eq_true]
 constructor
 ·rintro ⟨z, hz, e⟩
  obtain ⟨w, hw, rfl⟩ := List.mem_map.1 hz
  obtain ⟨h1, h2⟩ := List.mem_filter.1 hw
  have := srt_inj (db_srt ha) hx h1 (of_decide_eq_true e)
  rw [this]; exact h2
 ·intro h
  exact ⟨x.o, List.mem_map.2 ⟨x, List.mem_filter.2 ⟨hx, h⟩, rfl⟩, by simp⟩
theorem dl_ok {a b : List Lsa} (hb : dbOK b = true) : ∀ y ∈ mo (dlR a b), lsaOK y = true := fun y hy => by
 rcases List.mem_append.1 hy with h | h <;> exact db_mem hb y (List.mem_filter.1 h).1
theorem back {a b : List Lsa} (ha : dbOK a = true) (hb : dbOK b = true) : eqAll lsaEq (xS (apA a (dlR a b)) (mo (dlR a b)) (mo (dlR a b)).length) b = true := by
 have hA : dbOK (apA a (dlR a b)) = true := db_filter ha
 have hX : dbOK (xS (apA a (dlR a b)) (mo (dlR a b)) (mo (dlR a b)).length) = true := xS_ok hA (dl_ok (a := a) hb) (mo (dlR a b)).length
 have hs := db_srt hb
 refine nz_ext (db_srt hX) hs fun t => ?_
 have e : xS (apA a (dlR a b)) (mo (dlR a b)) (mo (dlR a b)).length = xS (xS (apA a (dlR a b)) (olL a b) (olL a b).length) (nwL a b) (nwL a b).length := xS_app.symm
 have k1 : Srt Lsa.o (nwL a b) := hs.filter
 have k2 : Srt Lsa.o (olL a b) := hs.filter
 rw [e, xS_gK k1 t _ (Nat.le_refl _), List.take_length, xS_gK k2 t _ (Nat.le_refl _), List.take_length]
 show ((gK Lsa.o (b.filter (nwP a)) t).or ((gK Lsa.o (b.filter (olP a)) t).or (gK Lsa.o (a.filter (kp (dlR a b))) t))).map nz = _
 rw [gK_flt hs, gK_flt hs, gK_flt (db_srt ha)]
 rcases gd_way hb t with ⟨gb, ib, sb⟩ | ⟨y, gb, ib, sb, ob, tb, pb, mb⟩
 ·rw [gb]
  rcases gd_way ha t with ⟨ga, _, _⟩ | ⟨x, ga, _, _, oa, _, _, ma⟩
  ·rw [ga]; rfl
  ·rw [ga]
   have : kp (dlR a b) x = false := by
    show (!hasN (gnL a b) x.o) = false
    rw [gn_mem ha ma, gnP, oa, ib]; rfl
   simp [Option.filter, this]
 ·rw [gb]
  cases h1 : nwP a y with
  | true => simp [Option.filter, h1]
  | false =>
   cases h2 : olP a y with
   | true => simp [Option.filter, h1, h2]
   | false =>
    rcases gd_way ha t with ⟨ga, ia, sa⟩ | ⟨x, ga, ia, sa, oa, _, _, ma⟩
    ·rw [nw_way ha pb, ob, sa] at h1
     simp at h1; omega
    ·have h3 : kp (dlR a b) x = true := by
      show (!hasN (gnL a b) x.o) = true
      rw [gn_mem ha ma, gnP, oa, ib]; rfl
     have h4 : lsaEq y x = true := by
      rw [olP, h1, ob, ga] at h2
      simpa using h2
     rw [ga]
     simp [Option.filter, h1, h2, h3, (lsaEq_nz.1 h4).symm]
end Go.Vai.D
namespace Go.Vai.D
open Go.Vai.I Go.Vai.L
end Go.Vai.D
set_option linter.unusedSimpArgs false
set_option linter.unusedVariables false
namespace Go.Vai.BA
open Go.Vai.L Go.Vai.D Go.Vai.I Go.Vai.G Go.Vai.C
def epN (l : List It) (e : It) (i : Nat) : Int := if (i : Int) + 1 = e.o then e.s else qK l ((i : Int) + 1)
def epI (l : List It) (e : It) (i : Nat) : Option It := if epN l e i > 0 then some ⟨(i : Int) + 1, epN l e i⟩ else none
theorem ep_at {l : List It} (h : epOK l = true) {x : It} (hx : x ∈ l) : epV x = true ∧ 0 < x.o := chn_ok h x hx
theorem epV_bd {x : It} (h : epV x = true) : x.o ≤ 64 ∧ 1 ≤ x.s ∧ x.s ≤ 1073741824 := by
 simp only [epV, Bool.and_eq_true, decide_eq_true_eq] at h; omega
def W (a z : Sta) : Prop := (∀ t, sqL a.db t < sqL z.db t ∨ gK Lsa.o z.db t = gK Lsa.o a.db t) ∧ (∀ t, qK a.ep t ≤ qK z.ep t) ∧ a.up ≤ z.up ∧ a.bo ≤ z.bo
theorem W.refl (a : Sta) : W a a := ⟨fun _ => .inr rfl, fun _ => Int.le_refl _, Int.le_refl _, Int.le_refl _⟩
theorem W.trans {a b c : Sta} (h : W a b) (k : W b c) : W a c := by
 obtain ⟨h1, h2, h3, h4⟩ := h
 obtain ⟨k1, k2, k3, k4⟩ := k
 refine ⟨fun t => ?_, fun t => by have := h2 t; have := k2 t; omega, by omega, by omega⟩
 rcases h1 t with h | h
 ·rcases k1 t with k | k
  ·left; omega
  ·left; rw [show sqL c.db t = sqL b.db t by rw [sqL, sqL, k]]; exact h
 ·rcases k1 t with k | k
  ·left; rw [show sqL a.db t = sqL b.db t by rw [sqL, sqL, h]]; exact k
  ·right; exact k.trans h
def wiD (b : List Lsa) (x : Lsa) : Bool := decide (((gK Lsa.o b x.o).getD default).s < x.s) || (decide (((gK Lsa.o b x.o).getD default).s = x.s) && !lsaEq ((gK Lsa.o b x.o).getD default) x)
def wiE (b : List It) (x : It) : Bool := decide (qK b x.o < x.s)
def withinS (a b : Sta) : Bool := (!(a.db.any (wiD b.db)) && !(a.ep.any (wiE b.ep))) && (decide (a.up ≤ b.up) && decide (a.bo ≤ b.bo))
theorem ch_k4 {c : Ch} (h : chOK c = true) (h1 : ¬ c.kind = 1) (h2 : ¬ c.kind = 2) (h3 : ¬ c.kind = 3) : c.kind = 4 := by
 rcases ch_kind h with h | h | h | h <;> omega
end Go.Vai.BA
namespace Go.Vai.BA
open Go.Proofs Go.Vai Go.Vai.C Go.Vai.D Go.Vai.DB Go.Vai.G Go.Vai.I Go.Vai.L Go.Vai.N Go.Vai.O
set_option linter.unusedSimpArgs false
set_option linter.unusedVariables false
set_option maxHeartbeats 4000000
set_option maxRecDepth 100000
end Go.Vai.BA
namespace Go.Vai.BA
open Go.Proofs Go.Vai Go.Vai.C Go.Vai.D Go.Vai.DB Go.Vai.G Go.Vai.I Go.Vai.L Go.Vai.N Go.Vai.O
set_option linter.unusedSimpArgs false
set_option linter.unusedVariables false
set_option maxHeartbeats 4000000
set_option maxRecDepth 100000
end Go.Vai.BA
set_option linter.unusedSimpArgs false
set_option linter.unusedVariables false
namespace Go.Vai.BA
open Go.Vai.O Go.Vai.L Go.Vai.D Go.Vai.I Go.Vai.G Go.Vai.C
def dbB (l : List Lsa) : List (BitVec 8) := l.flatMap lsaB
def epoB (x : It) : List (BitVec 8) := numR x.o 1 ++ numR x.s 4
def epsB (l : List It) : List (BitVec 8) := l.flatMap epoB
def staB (a : Sta) : List (BitVec 8) := numR a.up 8 ++ (numR a.bo 4 ++ (numR (a.db.length : Int) 1 ++ (dbB a.db ++ (numR (a.ep.length : Int) 1 ++ epsB a.ep))))
def staS (a : Sta) : List (BitVec 8) := if staOK a then staB a else []
theorem dbB_take {l : List Lsa} {k : Nat} (h : k < l.length) : dbB (l.take (k + 1)) = dbB (l.take k) ++ lsaB l[k] := by
 rw [List.take_succ_eq_append_getElem h]; simp only [dbB, List.flatMap_append, List.flatMap_cons, List.flatMap_nil, List.append_nil]
theorem epsB_take {l : List It} {k : Nat} (h : k < l.length) : epsB (l.take (k + 1)) = epsB (l.take k) ++ epoB l[k] := by
 rw [List.take_succ_eq_append_getElem h]; simp only [epsB, List.flatMap_append, List.flatMap_cons, List.flatMap_nil, List.append_nil]
theorem epsB_len : ∀ (l : List It), (epsB l).length = 5 * l.length
 | [] => rfl
 | x :: l => by
  have := epsB_len l
  simp only [epsB, List.flatMap_cons, List.length_append, epoB, numR_length, List.length_cons] at this ⊢
  omega
theorem dbB_le : ∀ {l : List Lsa}, (∀ x ∈ l, lsaOK x = true) → (dbB l).length ≤ 90 * l.length
 | [], _ => Nat.le_refl _
 | x :: l, h => by
  have h1 := dbB_le (l := l) fun y hy => h y (by simp [hy])
  have h2 := (lsa_bd (h x (by simp))).2.2.1
  simp only [dbB, List.flatMap_cons, List.length_append, List.length_cons, lsaB_len] at h1 ⊢
  omega
theorem staS_no {a : Sta} (h : staE a ≠ 0) : staS a = [] ∧ staOK a = false ∧ staE a = 1 := by
 have := staE_1 h
 exact ⟨by rw [staS, this.1]; rfl, this.1, this.2⟩
theorem staS_yes {a : Sta} (h : staOK a = true) : staS a = staB a ∧ staE a = 0 := ⟨by rw [staS, h]; rfl, by rw [staE, h]; rfl⟩
theorem nu_bd {a : Sta} (h : staOK a = true) : (0 ≤ a.up ∧ a.up ≤ 4611686018427387904) ∧ (0 ≤ a.bo ∧ a.bo ≤ 1073741824) := by
 have := (sta_parts h).1
 simp only [nuOK, Bool.and_eq_true, decide_eq_true_eq] at this
 omega
theorem sta_list {a : Sta} (h : staOK a = true) : (∀ x ∈ a.db, lsaOK x = true) ∧ ∀ x ∈ a.ep, (0 < x.o ∧ x.o ≤ 64) ∧ (1 ≤ x.s ∧ x.s ≤ 1073741824) := by
 obtain ⟨_, h2, h3⟩ := sta_parts h
 refine ⟨db_mem h2, fun x hx => ?_⟩
 have := ep_at h3 hx
 have := epV_bd this.1
 omega
end Go.Vai.BA
namespace Go.Vai.BA
open Go.Proofs Go.Vai Go.Vai.C Go.Vai.D Go.Vai.DB Go.Vai.G Go.Vai.I Go.Vai.L Go.Vai.N Go.Vai.O
set_option linter.unusedSimpArgs false
set_option linter.unusedVariables false
set_option maxHeartbeats 4000000
set_option maxRecDepth 100000
open Go.Vai.O
attribute [simp] epsB_len
theorem lsaS_is {x : Lsa} (h : lsaOK x = true) : lsaS ⟨x.o, x.s, x.nil, x.ls⟩ = lsaB x := by
  show lsaS x = _
  rw [lsaS, h]; rfl
theorem good_PutX (nil : Bool) (l : List (BitVec 8)) (x : Lsa) (hl : l.length ≤ 140737488350000) (hz : nil = true → l = []) (hx : lsaOK x = true) : Good Try.prog 43 [(.sl 1 nil (bsl l), false), (lsaA x, false)] [] [(.sl 1 false (bsl (l ++ lsaB x)), true)] [] := by
  have := good_Put nil l x.o x.s x.nil x.ls hl hz (by have := (lsa_bd hx).2.2.1; omega)
  rw [lsaS_is hx, show lsaOK ⟨x.o, x.s, x.nil, x.ls⟩ = true from hx, Bool.not_true, Bool.and_false] at this
  exact this
theorem good_refPutX (x : Lsa) (h : lsaOK x = true) : Good Try.prog 51 [(lsaA x, false)] [] [(.sl 1 false (bsl (lsaB x)), true)] [] := good_refPut x.o x.s x.nil x.ls h
attribute [go_sem] List.nil_append
theorem good_PutB (a : Sta) (ha1 : a.db.length ≤ 1000000) (ha2 : a.ep.length ≤ 1000000) (pa : ∀ x ∈ a.db, fit x) : Good Try.prog 18 [(staA a, false)] [] [(.sl 1 (!staOK a) (bsl (staS a)), false), (i64 (staE a), false)] [] := by
  refine good_of_body3 64 Try.func18 rfl rfl rfl (by simp) ?_
  intro s m ha hr hv hG
  have f0 : s 0 = .v (.agg [.sl 3 a.n1 (a.db.map lsaA), i64 a.up, i64 a.bo, .sl 2 a.n2 (a.ep.map itA)]) := ha 0 _ rfl
  clear ha
  have hc : True := trivial
  have F := (And.intro f0 hG)
  refine AW.seq ?_
  refine AW.region (cfg := cfg) ?_
  refine stp (fun _ h => sb h) ?_
  iterate 2 refine stp (fun _ h => s0 h) ?_
  refine aops_nil ?_
  refine AW.seq ?_
  refine AW.seq ?_
  refine AW.region (cfg := cfg) ?_
  refine stp (fun _ h => sl h) ?_
  refine stp (fun _ h => cs (w := good_CheckB a (by omega) (by omega) (fun x hx => by have := (pa x hx).1; omega)) (x := h)) ?_
  refine stp (fun _ h => s0 h) ?_
  refine aops_nil ?_
  refine AW.seq ?_
  refine AW.region (cfg := cfg) ?_
  iterate 2 refine stp (fun _ h => s0 h) ?_
  refine aops_nil ?_
  refine cnd (fun hb => ?ht1) (fun hb => ?hf1)
  case ht1 =>
    have hw13 := hb
    try simp only [bo1, bo2, bo3, bo4, bo5, bo6] at hb
    have hbt13 := hb
    refine AW.seq ?_
    refine AW.region (cfg := cfg) ?_
    iterate 3 refine stp (fun _ h => s0 h) ?_
    refine aops_nil ?_
    refine AW.ret ?_
    refine ⟨.inr rfl, ?_⟩
    all_goals (obtain ⟨e1, e2, e3⟩ := staS_no hbt13; rw [e1, e2, e3]; refine ⟨_, nilEq_nil (s := 1) (nilEq_refl _), ?_⟩; refine leaves_mwp2 (rs := [.tmp 2, .tmp 3]) rfl ?_; simp (config := {failIfUnchanged := false}) [giveL, srcOne, rehome, freezeN, sub, upd, opn, aLoad, loadL, giveOne, reify, reifyL, readL, readOne, Mwp, M.bind, Mem.set, setAt, cellsL, hG, f0]; done)
  case hf1 =>
    have hw13 := hb
    try simp only [bo1, bo2, bo3, bo4, bo5, bo6] at hb
    have hbt13 := hb
    refine AW.skip ?_
    refine AW.seq ?_
    have ok := staE_0 hbt13
    obtain ⟨b1, b2⟩ := nu_bd ok
    obtain ⟨b3, b4⟩ := sta_list ok
    have b5 := sta_lens ok
    refine AW.draw (cfg := cfg) (by kernel_rfl) (by kernel_rfl) (by kernel_rfl) ?_
    refine dstp (fun _ h => sx h) ?_
    refine dstp (fun _ h => sl h) ?_
    refine dstp (fun _ h => sd h) ?_
    refine dstp (fun _ h => co1 (w := (O.good_Num true [] (by simp) (by simp) 8 a.up (by omega)).nil0) (x := h)) ?_
    refine dstp (fun _ h => sx h) ?_
    refine dstp (fun _ h => sl h) ?_
    refine dstp (fun _ h => sd h) ?_
    refine dstp (fun _ h => co1 (w := O.good_Num _ _ (by (simp; done)) (by simp) _ _ (by omega)) (x := h)) ?_
    refine dstp (fun _ h => st h) ?_
    refine adraw_nil (by kernel_rfl) ?_
    refine AW.seq ?_
    refine AW.region (cfg := cfg) ?_
    refine stp (fun _ h => s0 h) ?_
    refine stp (fun _ h => sx h) ?_
    refine stp (fun _ h => sl h) ?_
    iterate 2 refine stp (fun _ h => sd h) ?_
    refine stp (fun _ h => co1 (w := O.good_Num _ _ (by (simp; done)) (by simp) _ _ (by omega)) (x := h)) ?_
    refine stp (fun _ h => st h) ?_
    refine aops_nil ?_
    refine AW.seq ?_
    refine AW.seq ?_
    refine AW.region (cfg := cfg) ?_
    refine stp (fun _ h => sx h) ?_
    refine stp (fun _ h => sl h) ?_
    refine stp (fun _ h => sd h) ?_
    refine stp (fun _ h => s0 h) ?_
    refine aops_nil ?_
    refine AW.block ?_
    refine AW.forN (fun k σ => ∃ s m, σ = ⟨64, s, m⟩ ∧ s 1 = .lptr (.tmp 1 0) (m.objs (.tmp 1 0)).1 0 ∧ (m.objs (.tmp 1 0)).2 = .box [.v (.sl 3 a.n1 (a.db.map lsaA)), .v (i64 a.up), .v (i64 a.bo), .v (.sl 2 a.n2 (a.ep.map itA))] ∧ s 5 = .own (.var 5) (m.objs (.var 5)).1 0 ((numR a.up 8 ++ (numR a.bo 4 ++ (numR (a.db.length : Int) 1 ++ dbB (a.db.take k)))).length) ∧ (m.objs (.var 5)).2 = .arr false 1 (bsl (numR a.up 8 ++ (numR a.bo 4 ++ (numR (a.db.length : Int) 1 ++ dbB (a.db.take k))))) ∧ s 30 = .v (.sl 3 a.n1 (a.db.map lsaA)) ∧ s 31 = .v (i64 (a.db.length : Int)) ∧ s 32 = .v (i64 (k : Int)) ∧ (∀ i, (m.objs (.res i)).2 = .dead) ∧ m.G = []) (a.db.length) ?_ ?_ ?_
    · refine ⟨_, _, rfl, ?_, ?_, ?_, ?_, ?_, ?_, ?_, (by intro i; simp [Mem.set, hr]), (by exact hG)⟩ <;> try simp (disch := first | omega | decide) only [go_sem, F, aIndex_map]
      all_goals rfl
    · clear F f0 hr hG
      rintro k σ hk ⟨s, m, rfl, f1, o1, f5, o5, f30, f31, f32, hr, hG⟩
      obtain ⟨g1, o1⟩ : ∃ g, m.objs (.tmp 1 0) = (g, .box [.v (.sl 3 a.n1 (a.db.map lsaA)), .v (i64 a.up), .v (i64 a.bo), .v (.sl 2 a.n2 (a.ep.map itA))]) := ⟨_, Prod.ext rfl o1⟩
      rw [o1] at f1
      obtain ⟨g5, o5⟩ : ∃ g, m.objs (.var 5) = (g, .arr false 1 (bsl (numR a.up 8 ++ (numR a.bo 4 ++ (numR (a.db.length : Int) 1 ++ dbB (a.db.take k)))))) := ⟨_, Prod.ext rfl o5⟩
      rw [o5] at f5
      have F := (And.intro f1 (And.intro f5 (And.intro f30 (And.intro f31 (And.intro f32 (And.intro o1 (And.intro o5 hG)))))))
      refine AW.seq ?_
      refine AW.region (cfg := cfg) ?_
      refine stp (fun _ h => s0 h) ?_
      refine aops_nil ?_
      refine AW.seq ?_
      refine cnd (fun hb => ?ht2) (fun hb => ?hf2)
      case hf2 => (simp at hb; omega)
      case ht2 =>
      have hbt33 := hb
      refine AW.skip ?_
      refine AW.seq ?_
      refine AW.block ?_
      refine AW.seq ?_
      refine AW.region (cfg := cfg) ?_
      refine stp (fun _ h => si h) ?_
      refine stp (fun _ h => sl h) ?_
      refine stp (fun _ h => sd h) ?_
      refine stp0 (fun _ h => ss h) ?_
      refine aops_nil ?_
      have hkl : k < a.db.length := by assumption
      have okk := b3 _ (List.getElem_mem hkl)
      have w0 := dbB_le (l := a.db.take k) (fun x hx => b3 x (List.mem_of_mem_take hx))
      simp only [List.length_take] at w0
      refine AW.region (cfg := cfg) ?_
      refine stp (fun _ h => s0 h) ?_
      refine stp (fun _ h => sl h) ?_
      refine stp (fun _ h => co1 (w := good_PutX false _ a.db[k] (by simp; omega) (by simp) okk) (x := h)) ?_
      refine stp (fun _ h => st h) ?_
      refine aops_nil ?_
      refine AW.region (cfg := cfg) ?_
      refine stp (fun _ h => sd h) ?_
      refine stp (fun _ h => s0 h) ?_
      refine aops_nil ?_
      refine ⟨_, _, rfl, ?_, ?_, ?_, ?_, ?_, ?_, ?_, (by intro i; simp [Mem.set, hr]), (by exact hG)⟩ <;> try simp (disch := first | omega | decide) only [go_sem, F, aIndex_map]
      all_goals first | rfl | (rw [dbB_take hkl]; done)
    · clear F f0 hr hG
      rintro σ ⟨s, m, rfl, f1, o1, f5, o5, f30, f31, f32, hr, hG⟩
      obtain ⟨g1, o1⟩ : ∃ g, m.objs (.tmp 1 0) = (g, .box [.v (.sl 3 a.n1 (a.db.map lsaA)), .v (i64 a.up), .v (i64 a.bo), .v (.sl 2 a.n2 (a.ep.map itA))]) := ⟨_, Prod.ext rfl o1⟩
      rw [o1] at f1
      obtain ⟨g5, o5⟩ : ∃ g, m.objs (.var 5) = (g, .arr false 1 (bsl (numR a.up 8 ++ (numR a.bo 4 ++ (numR (a.db.length : Int) 1 ++ dbB (a.db.take a.db.length)))))) := ⟨_, Prod.ext rfl o5⟩
      rw [o5] at f5
      have F := (And.intro f1 (And.intro f5 (And.intro f30 (And.intro f31 (And.intro f32 (And.intro o1 (And.intro o5 hG)))))))
      refine AW.seq ?_
      refine AW.region (cfg := cfg) ?_
      refine stp (fun _ h => s0 h) ?_
      refine aops_nil ?_
      refine AW.seq ?_
      refine cnd (fun hb => ?ht3) (fun hb => ?hf3)
      case ht3 => (simp at hb; done)
      case hf3 =>
      have hbt33 := hb
      refine AW.exit ?_
      refine AW.seq ?_
      have w0 := dbB_le b3
      refine AW.region (cfg := cfg) ?_
      refine stp (fun _ h => s0 h) ?_
      refine stp (fun _ h => sx h) ?_
      refine stp (fun _ h => sl h) ?_
      iterate 2 refine stp (fun _ h => sd h) ?_
      refine stp (fun _ h => co1 (w := O.good_Num _ _ (by (simp; omega)) (by simp) _ _ (by omega)) (x := h)) ?_
      refine stp (fun _ h => st h) ?_
      refine aops_nil ?_
      refine AW.seq ?_
      refine AW.seq ?_
      refine AW.region (cfg := cfg) ?_
      refine stp (fun _ h => sx h) ?_
      refine stp (fun _ h => sl h) ?_
      refine stp (fun _ h => sd h) ?_
      refine stp (fun _ h => s0 h) ?_
      refine aops_nil ?_
      refine AW.block ?_
      refine AW.forN (fun k σ => ∃ s m, σ = ⟨64, s, m⟩ ∧ s 5 = .own (.var 5) (m.objs (.var 5)).1 0 ((numR a.up 8 ++ (numR a.bo 4 ++ (numR (a.db.length : Int) 1 ++ (dbB a.db ++ (numR (a.ep.length : Int) 1 ++ epsB (a.ep.take k)))))).length) ∧ (m.objs (.var 5)).2 = .arr false 1 (bsl (numR a.up 8 ++ (numR a.bo 4 ++ (numR (a.db.length : Int) 1 ++ (dbB a.db ++ (numR (a.ep.length : Int) 1 ++ epsB (a.ep.take k))))))) ∧ s 47 = .v (.sl 2 a.n2 (a.ep.map itA)) ∧ s 48 = .v (i64 (a.ep.length : Int)) ∧ s 49 = .v (i64 (k : Int)) ∧ (∀ i, (m.objs (.res i)).2 = .dead) ∧ m.G = []) (a.ep.length) ?_ ?_ ?_
      · refine ⟨_, _, rfl, ?_, ?_, ?_, ?_, ?_, (by intro i; simp [Mem.set, hr]), (by exact hG)⟩ <;> try simp (disch := first | omega | decide) only [go_sem, F, aIndex_map]
        all_goals rfl
      · clear F f1 f5 f30 f31 f32 o1 o5 hr hG
        rintro k σ hk ⟨s, m, rfl, f5, o5, f47, f48, f49, hr, hG⟩
        obtain ⟨g5, o5⟩ : ∃ g, m.objs (.var 5) = (g, .arr false 1 (bsl (numR a.up 8 ++ (numR a.bo 4 ++ (numR (a.db.length : Int) 1 ++ (dbB a.db ++ (numR (a.ep.length : Int) 1 ++ epsB (a.ep.take k)))))))) := ⟨_, Prod.ext rfl o5⟩
        rw [o5] at f5
        have F := (And.intro f5 (And.intro f47 (And.intro f48 (And.intro f49 (And.intro o5 hG)))))
        refine AW.seq ?_
        refine AW.region (cfg := cfg) ?_
        refine stp (fun _ h => s0 h) ?_
        refine aops_nil ?_
        refine AW.seq ?_
        refine cnd (fun hb => ?ht4) (fun hb => ?hf4)
        case hf4 => (simp at hb; omega)
        case ht4 =>
        have hbt50 := hb
        refine AW.skip ?_
        refine AW.seq ?_
        refine AW.block ?_
        refine AW.seq ?_
        refine AW.region (cfg := cfg) ?_
        refine stp (fun _ h => si h) ?_
        refine stp (fun _ h => sl h) ?_
        refine stp (fun _ h => sd h) ?_
        refine stp0 (fun _ h => ss h) ?_
        refine aops_nil ?_
        have hkl : k < a.ep.length := by assumption
        have okk := b4 _ (List.getElem_mem hkl)
        have w0 := dbB_le b3
        refine AW.draw (cfg := cfg) (by kernel_rfl) (by kernel_rfl) (by kernel_rfl) ?_
        refine dstp (fun _ h => s0 h) ?_
        refine dstp (fun _ h => sx h) ?_
        refine dstp (fun _ h => sl h) ?_
        refine dstp (fun _ h => sd h) ?_
        refine dstp (fun _ h => co1 (w := O.good_Num _ _ (by (simp; omega)) (by simp) _ _ (by omega)) (x := h)) ?_
        refine dstp (fun _ h => sx h) ?_
        refine dstp (fun _ h => sl h) ?_
        refine dstp (fun _ h => sd h) ?_
        refine dstp (fun _ h => co1 (w := O.good_Num _ _ (by (simp; omega)) (by simp) _ _ (by omega)) (x := h)) ?_
        refine dstp (fun _ h => st h) ?_
        refine adraw_nil (by kernel_rfl) ?_
        refine AW.region (cfg := cfg) ?_
        refine stp (fun _ h => sd h) ?_
        refine stp (fun _ h => s0 h) ?_
        refine aops_nil ?_
        refine ⟨_, _, rfl, ?_, ?_, ?_, ?_, ?_, (by intro i; simp [Mem.set, hr]), (by exact hG)⟩ <;> try simp (disch := first | omega | decide) only [go_sem, F, aIndex_map]
        all_goals first | rfl | (rw [epsB_take hkl, epoB]; done)
      · clear F f1 f5 f30 f31 f32 o1 o5 hr hG
        rintro σ ⟨s, m, rfl, f5, o5, f47, f48, f49, hr, hG⟩
        obtain ⟨g5, o5⟩ : ∃ g, m.objs (.var 5) = (g, .arr false 1 (bsl (numR a.up 8 ++ (numR a.bo 4 ++ (numR (a.db.length : Int) 1 ++ (dbB a.db ++ (numR (a.ep.length : Int) 1 ++ epsB (a.ep.take a.ep.length)))))))) := ⟨_, Prod.ext rfl o5⟩
        rw [o5] at f5
        have F := (And.intro f5 (And.intro f47 (And.intro f48 (And.intro f49 (And.intro o5 hG)))))
        refine AW.seq ?_
        refine AW.region (cfg := cfg) ?_
        refine stp (fun _ h => s0 h) ?_
        refine aops_nil ?_
        refine AW.seq ?_
        refine cnd (fun hb => ?ht5) (fun hb => ?hf5)
        case ht5 => (simp at hb; done)
        case hf5 =>
        have hbt50 := hb
        refine AW.exit ?_
        refine AW.seq ?_
        refine AW.region (cfg := cfg) ?_
        refine stp (fun _ h => s0 h) ?_
        refine stp (fun _ h => sm h) ?_
        refine stp (fun _ h => s0 h) ?_
        refine aops_nil ?_
        refine AW.ret ?_
        refine ⟨.inr rfl, ?_⟩
        all_goals (obtain ⟨e1, e2⟩ := staS_yes ok; rw [e1, e2, ok]; refine leavesN ?_; refine leaves_mwp2 (rs := [.tmp 2, .tmp 3]) rfl ?_; simp (config := {failIfUnchanged := false}) [giveL, srcOne, rehome, freezeN, sub, upd, opn, aLoad, loadL, giveOne, reify, reifyL, readL, readOne, Mwp, M.bind, Mem.set, setAt, cellsL, hG, f5, f47, f48, f49, o5]; all_goals (simp [staB, sub, List.take_of_length_le]; done))
end Go.Vai.BA
namespace Go.Vai.BA
open Go.Proofs Go.Vai Go.Vai.C Go.Vai.D Go.Vai.DB Go.Vai.G Go.Vai.I Go.Vai.L Go.Vai.N Go.Vai.O
set_option linter.unusedSimpArgs false
set_option linter.unusedVariables false
set_option maxHeartbeats 4000000
set_option maxRecDepth 100000
def lightB (a : Sta) : Bool := lightD a.db && decide ((a.ep.length : Int) ≤ 70)
def x0 : Lsa := ⟨2, 3, true, []⟩
def c0 : Ch := ⟨1, x0, 0, 0⟩
def sta1 : Sta := ⟨false, [x0], 0, 0, true, []⟩
theorem ap0 : applyR sta0 [c0] = (sta1, 0) := by rfl
theorem ap1 : applyR sta1 [c0] = (sta0, 10) := by rfl
theorem x0_fit : fit x0 := ⟨by decide, fun _ => rfl⟩
theorem c0_all : ∀ c ∈ [c0], fit c.l := fun c hc => by
  rw [List.mem_singleton] at hc; subst hc; exact x0_fit
theorem s0_all : ∀ x ∈ sta0.db, fit x := fun x hx => absurd hx (by simp [sta0])
theorem s1_all : ∀ x ∈ sta1.db, fit x := fun x hx => by
  rw [show sta1.db = [x0] from rfl, List.mem_singleton] at hx; subst hx; exact x0_fit
theorem good_Ap0 : Good Try.prog 10 [(staA sta0, false), (.sl 6 false [chA c0], false)] [] [(staA sta1, false), (i64 0, false)] [] := by
  have c := good_ApplyB sta0 (by decide) (by decide) s0_all (fun _ => rfl) (fun _ => rfl) false [c0] (by simp) c0_all
  rw [ap0] at c
  exact c
theorem good_Ap1 : Good Try.prog 10 [(staA sta1, false), (.sl 6 false [chA c0], false)] [] [(staA sta0, false), (i64 10, false)] [] := by
  have c := good_ApplyB sta1 (by decide) (by decide) s1_all (fun h => by cases h) (fun _ => rfl) false [c0] (by simp) c0_all
  rw [ap1] at c
  exact c
theorem s0_ok : staOK sta0 = true := by rfl
theorem s0_len : (staS sta0).length = 14 := by rfl
theorem good_Put00 : Good Try.prog 18 [(staA sta0, false)] [] [(.sl 1 false (bsl (staS sta0)), false), (i64 0, false)] [] := by
  have c := good_PutB sta0 (by decide) (by decide) s0_all
  rw [(staS_yes s0_ok).2, s0_ok] at c
  exact c
theorem good_awakeB  : Good Try.prog 9 [] [] [(.b true, false)] [] := by
  refine good_of_body2 49 Try.func9 rfl rfl rfl (by simp) ?_
  intro s m ha hr hv hG
  clear ha
  have hc : True := trivial
  have F := hG
  refine AW.seq ?_
  refine AW.region (cfg := cfg) ?_
  refine stp (fun _ h => s0 h) ?_
  refine aops_nil ?_
  refine AW.seq ?_
  refine AW.region (cfg := cfg) ?_
  iterate 3 refine stp (fun _ h => su h) ?_
  refine stp (fun _ h => sq h) ?_
  refine stp (fun _ h => cr (w := good_Ap0) (x := h)) ?_
  iterate 3 refine stp (fun _ h => s0 h) ?_
  refine stp (fun _ h => sd h) ?_
  refine stp0 (fun _ h => ssw h) ?_
  refine stp (fun _ h => s0 h) ?_
  refine aops_nil ?_
  refine AW.seq ?_
  refine AW.region (cfg := cfg) ?_
  refine stp (fun _ h => sl h) ?_
  iterate 2 refine stp (fun _ h => su h) ?_
  refine stp (fun _ h => sq h) ?_
  refine stp (fun _ h => cr (w := good_Ap1) (x := h)) ?_
  iterate 3 refine stp (fun _ h => s0 h) ?_
  refine stp (fun _ h => sd h) ?_
  refine stp0 (fun _ h => ssw h) ?_
  refine stp (fun _ h => s0 h) ?_
  refine aops_nil ?_
  refine AW.seq ?_
  refine AW.region (cfg := cfg) ?_
  refine stp (fun _ h => su h) ?_
  refine stp (fun _ h => cr (w := good_Put00) (x := h)) ?_
  iterate 5 refine stp (fun _ h => s0 h) ?_
  refine aops_nil ?_
  refine AW.seq ?_
  have e14 := s0_len
  have F := And.intro e14 F
  refine AW.region (cfg := cfg) ?_
  iterate 3 refine stp (fun _ h => s0 h) ?_
  refine mrg wa (fun hc _ h => sx h) ?_
  refine mrg wa (fun hc _ h => sl h) ?_
  refine mrg wa (fun hc _ h => sd h) ?_
  refine mrg wa (fun hc _ h => s0 h) ?_
  iterate 2 refine stp (fun _ h => s0 h) ?_
  iterate 2 refine mrg wa (fun hc _ h => s0 h) ?_
  iterate 2 refine stp (fun _ h => s0 h) ?_
  iterate 2 refine mrg wa (fun hc _ h => s0 h) ?_
  iterate 2 refine stp (fun _ h => s0 h) ?_
  refine mrg wa (fun hc _ h => s0 h) ?_
  refine mrg wa (fun hc _ h => sd h) ?_
  refine mrg wa (fun hc _ h => s0 h) ?_
  iterate 2 refine stp (fun _ h => s0 h) ?_
  refine aops_nil ?_
  refine AW.ret ?_
  refine ⟨.inr rfl, ?_⟩
  refine leaves_tmp1 0 rfl ?_ (by exact hG)
  simp (disch := first | omega | decide) only [go_sem, F, aIndex_map]
  all_goals rfl
end Go.Vai.BA
