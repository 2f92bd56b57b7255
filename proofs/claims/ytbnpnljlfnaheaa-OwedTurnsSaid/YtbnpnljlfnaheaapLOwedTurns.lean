import Derived.Test.YtbnpnljlfnaheaapIt7
import Derived.Test.YtbnpnljlfnaheaaVaiE
import Derived.Test.YtbnpnljlfnaheaaItPl2
namespace Go.Vai.IT
open Go.Proofs Go.Vai Go.Vai.I Go.Vai.N
set_option linter.unusedSimpArgs false
set_option linter.unusedVariables false
set_option maxHeartbeats 4000000
set_option maxRecDepth 100000
theorem next_at {nil : Bool} {l : List It} {most K : Int} (h : itOK l = true) (hK : K = if (if most < (l.length : Int) then most else (l.length : Int)) < 0 then 0 else (if most < (l.length : Int) then most else (l.length : Int))) : (nextR nil l most).2 = l.take K.toNat := by
  rw [nextR, h, Bool.true_and]
  by_cases h1 : 1 ≤ most
  · rw [decide_eq_true h1]
    simp only [if_true]
    congr 2
    subst hK
    split <;> split <;> omega
  · rw [decide_eq_false h1]
    simp only [Bool.false_eq_true, if_false]
    have : K.toNat = 0 := by subst hK; split <;> split <;> omega
    rw [this]; rfl
theorem next_len {nil : Bool} {l : List It} {most : Int} : (nextR nil l most).2.length ≤ l.length := by
  rw [nextR]; split
  · simp; omega
  · simp
theorem next_none {nil : Bool} {l : List It} {most : Int} (h : itOK l = false) : nextR nil l most = (true, []) := by rw [nextR, h]; rfl
theorem all_nil (l : List It) : (itOK l && ([] : List It).all it1) = itOK l := by simp
theorem good_OwedTurns (nil : Bool) (l : List It) (hl : l.length ≤ 9223372036854775807) (hz : nil = true → l = []) (nx : Bool) (x : List It) (hx : x.length ≤ 9223372036854775807) (most : Int) (hm : -9223372036854775808 ≤ most ∧ most ≤ 9223372036854775807) : Good Try.prog 5 [(.sl 2 nil (l.map itA), false), (.sl 2 nx (x.map itA), false), (i64 most, false)] [] [(.b true, false)] [] := by
  refine good_of_body2 109 Try.func5 rfl rfl rfl (by simp) ?_
  intro s m ha hr hv hG
  have f0 : s 0 = .v (.sl 2 nil (l.map itA)) := ha 0 _ rfl
  have f1 : s 1 = .v (.sl 2 nx (x.map itA)) := ha 1 _ rfl
  have f2 : s 2 = .v (i64 most) := ha 2 _ rfl
  clear ha
  have hc : True := trivial
  have F := (And.intro f0 (And.intro f1 (And.intro f2 hG)))
  refine AW.seq ?_
  refine AW.region (cfg := cfg) ?_
  refine stp (fun _ h => s0 h) ?_
  refine aops_nil ?_
  refine AW.seq ?_
  refine AW.seq ?_
  refine AW.region (cfg := cfg) ?_
  refine stp (fun _ h => s0 h) ?_
  refine stp (fun _ h => sd h) ?_
  iterate 2 refine stp (fun _ h => s0 h) ?_
  refine mrg wa (fun hc _ h => s0 h) ?_
  refine mrg wa (fun hc _ h => sd h) ?_
  refine mrg wa (fun hc _ h => s0 h) ?_
  refine stp (fun _ h => s0 h) ?_
  refine aops_nil ?_
  refine cnd (fun hb => ?ht1) (fun hb => ?hf1)
  case ht1 =>
    have hw20 := hb
    try simp only [bo1, bo2, bo3, bo4, bo5, bo6] at hb
    have hbt20 := hb
    refine AW.seq ?_
    refine AW.region (cfg := cfg) ?_
    refine stp (fun _ h => cs (w := good_awakeI) (x := h)) ?_
    refine stp (fun _ h => s0 h) ?_
    refine aops_nil ?_
    refine AW.ret ?_
    refine ⟨.inr rfl, ?_⟩
    refine leaves_tmp1 6 rfl ?_ (by exact hG)
    simp (disch := first | omega | decide) only [go_sem, F, aIndex_map]
    all_goals first | done | rfl | (exfalso; simp [next_at (nil := nil) (most := most) hok rfl, hbt53, hbt56] at hw62; done) | (have q1 := oweR_no (nil := nil) hw66; have q2 := payR_no (nil := nil) hw66; simp [q1, q2]; done) | (simp [e3, e4]; done) | trace_state
  case hf1 =>
    have hw20 := hb
    try simp only [bo1, bo2, bo3, bo4, bo5, bo6] at hb
    have hbt20 := hb
    refine AW.skip ?_
    refine AW.seq ?_
    have hl2 : l.length ≤ 70 := by omega
    have hx2 : x.length ≤ 70 := by omega
    refine AW.region (cfg := cfg) ?_
    iterate 2 refine stp (fun _ h => s0 h) ?_
    refine stp (fun _ h => cr (w := good_Owe nil l (by omega) hz nx x (by omega)) (x := h)) ?_
    iterate 5 refine stp (fun _ h => s0 h) ?_
    refine aops_nil ?_
    refine AW.seq ?_
    refine AW.region (cfg := cfg) ?_
    iterate 2 refine stp (fun _ h => s0 h) ?_
    refine stp (fun _ h => cr (w := good_Paid nil l (by omega) hz nx x (by omega)) (x := h)) ?_
    iterate 5 refine stp (fun _ h => s0 h) ?_
    refine aops_nil ?_
    refine AW.seq ?_
    refine AW.region (cfg := cfg) ?_
    iterate 2 refine stp (fun _ h => s0 h) ?_
    refine stp (fun _ h => cr (w := good_Next nil l (by omega) hz most hm) (x := h)) ?_
    refine stp (fun _ h => s0 h) ?_
    refine aops_nil ?_
    refine AW.seq ?_
    refine AW.seq ?_
    have ea := all_nil l
    have F := And.intro ea F
    refine AW.region (cfg := cfg) ?_
    refine stp (fun _ h => s0 h) ?_
    refine stp (fun _ h => cs (w := good_ItCheck nil l (by omega)) (x := h)) ?_
    iterate 2 refine stp (fun _ h => s0 h) ?_
    refine stp (fun _ h => cs (w := (good_May20 nil l (by omega) true [] (by simp)).nil1) (x := h)) ?_
    refine stp (fun _ h => s0 h) ?_
    refine aops_nil ?_
    refine cnd (fun hb => ?ht2) (fun hb => ?hf2)
    case ht2 => simp [itE_dec0] at hb
    case hf2 =>
    have hbt42 := hb
    refine AW.skip ?_
    refine AW.join (fun σ => ∃ s m, σ = ⟨109, s, m⟩ ∧ s 0 = .v (.sl 2 nil (l.map itA)) ∧ s 1 = .v (.sl 2 nx (x.map itA)) ∧ s 7 = .v (.sl 2 (oweR nil l x).1 ((oweR nil l x).2.1.map itA)) ∧ s 8 = .v (i64 (oweR nil l x).2.2) ∧ s 9 = .v (.sl 2 (payR nil l x).1 ((payR nil l x).2.1.map itA)) ∧ s 10 = .v (i64 (payR nil l x).2.2) ∧ (∀ i, (m.objs (.res i)).2 = .dead) ∧ m.G = []) ?_ ?_
    · skip
      refine AW.seq ?_
      refine AW.region (cfg := cfg) ?_
      refine stp (fun _ h => s0 h) ?_
      refine stp (fun _ h => cs (w := (good_May20 nil l (by omega) true [] (by simp)).nil1) (x := h)) ?_
      refine stp (fun _ h => s0 h) ?_
      refine aops_nil ?_
      refine cnd (fun hb => ?ht3) (fun hb => ?hf3)
      case ht3 =>
        have hw45 := hb
        try simp only [bo1, bo2, bo3, bo4, bo5, bo6] at hb
        have hbt45 := hb
        refine AW.seq ?_
        have hok : itOK l = false := by simpa using hw45
        have en := next_none (nil := nil) (most := most) hok
        have F := And.intro en F
        refine AW.region (cfg := cfg) ?_
        refine stp (fun _ h => s0 h) ?_
        refine stp (fun _ h => sd h) ?_
        refine stp (fun _ h => s0 h) ?_
        refine aops_nil ?_
        refine cnd (fun hb => ?ht4) (fun hb => ?hf4)
        case ht4 => simp at hb
        case hf4 =>
        have hbt48 := hb
        refine AW.skip ?_
        refine ⟨_, _, rfl, ?_, ?_, ?_, ?_, ?_, ?_, (by intro i; simp [Mem.set, hr]), (by exact hG)⟩ <;> try simp (disch := first | omega | decide) only [go_sem, F, aIndex_map]
        all_goals first | rfl | trace_state
      case hf3 =>
        have hw45 := hb
        try simp only [bo1, bo2, bo3, bo4, bo5, bo6] at hb
        have hbt45 := hb
        refine AW.seq ?_
        have hok : itOK l = true := by simpa using hw45
        have wl := next_len (nil := nil) (l := l) (most := most)
        refine AW.region (cfg := cfg) ?_
        refine stp (fun _ h => s0 h) ?_
        refine stp (fun _ h => sd h) ?_
        refine stp (fun _ h => s0 h) ?_
        refine aops_nil ?_
        refine AW.seq ?_
        refine AW.seq ?_
        refine AW.region (cfg := cfg) ?_
        iterate 3 refine stp (fun _ h => s0 h) ?_
        refine aops_nil ?_
        refine cnd (fun hb => ?ht5) (fun hb => ?hf5)
        case ht5 =>
          have hw53 := hb
          try simp only [bo1, bo2, bo3, bo4, bo5, bo6] at hb
          have hbt53 := hb
          refine AW.region (cfg := cfg) ?_
          iterate 2 refine stp (fun _ h => s0 h) ?_
          refine aops_nil ?_
          refine AW.seq ?_
          refine AW.seq ?_
          refine AW.region (cfg := cfg) ?_
          iterate 2 refine stp (fun _ h => s0 h) ?_
          refine aops_nil ?_
          refine cnd (fun hb => ?ht6) (fun hb => ?hf6)
          case ht6 =>
            have hw56 := hb
            try simp only [bo1, bo2, bo3, bo4, bo5, bo6] at hb
            have hbt56 := hb
            refine AW.region (cfg := cfg) ?_
            refine stp (fun _ h => s0 h) ?_
            refine aops_nil ?_
            refine AW.seq ?_
            refine AW.region (cfg := cfg) ?_
            iterate 3 refine stp (fun _ h => s0 h) ?_
            refine stp (fun _ h => sd h) ?_
            refine stp (fun _ h => cs (w := good_sameI _ _ (nextR nil l most).2 _ (by omega) (by (simp; done))) (x := h)) ?_
            refine stp (fun _ h => s0 h) ?_
            refine aops_nil ?_
            refine cnd (fun hb => ?ht7) (fun hb => ?hf7)
            case ht7 =>
              have hw62 := hb
              try simp only [bo1, bo2, bo3, bo4, bo5, bo6] at hb
              have hbt62 := hb
              refine AW.seq ?_
              refine AW.region (cfg := cfg) ?_
              refine stp (fun _ h => s0 h) ?_
              refine aops_nil ?_
              refine AW.ret ?_
              refine ⟨.inr rfl, ?_⟩
              refine leaves_tmp1 6 rfl ?_ (by exact hG)
              simp (disch := first | omega | decide) only [go_sem, F, aIndex_map]
              all_goals (exfalso; simp [next_at (nil := nil) (most := most) hok rfl, hbt53, hbt56] at hw62; done)
            case hf7 =>
              have hw62 := hb
              try simp only [bo1, bo2, bo3, bo4, bo5, bo6] at hb
              have hbt62 := hb
              refine AW.skip ?_
              refine ⟨_, _, rfl, ?_, ?_, ?_, ?_, ?_, ?_, (by intro i; simp [Mem.set, hr]), (by exact hG)⟩ <;> try simp (disch := first | omega | decide) only [go_sem, F, aIndex_map]
              all_goals first | rfl | trace_state
          case hf6 =>
            have hw56 := hb
            try simp only [bo1, bo2, bo3, bo4, bo5, bo6] at hb
            have hbt56 := hb
            refine AW.skip ?_
            refine AW.seq ?_
            refine AW.region (cfg := cfg) ?_
            iterate 3 refine stp (fun _ h => s0 h) ?_
            refine stp (fun _ h => sd h) ?_
            refine stp (fun _ h => cs (w := good_sameI _ _ (nextR nil l most).2 _ (by omega) (by (simp; omega))) (x := h)) ?_
            refine stp (fun _ h => s0 h) ?_
            refine aops_nil ?_
            refine cnd (fun hb => ?ht8) (fun hb => ?hf8)
            case ht8 =>
              have hw62 := hb
              try simp only [bo1, bo2, bo3, bo4, bo5, bo6] at hb
              have hbt62 := hb
              refine AW.seq ?_
              refine AW.region (cfg := cfg) ?_
              refine stp (fun _ h => s0 h) ?_
              refine aops_nil ?_
              refine AW.ret ?_
              refine ⟨.inr rfl, ?_⟩
              refine leaves_tmp1 6 rfl ?_ (by exact hG)
              simp (disch := first | omega | decide) only [go_sem, F, aIndex_map]
              all_goals (exfalso; simp [next_at (nil := nil) (most := most) hok rfl, hbt53, hbt56] at hw62; done)
            case hf8 =>
              have hw62 := hb
              try simp only [bo1, bo2, bo3, bo4, bo5, bo6] at hb
              have hbt62 := hb
              refine AW.skip ?_
              refine ⟨_, _, rfl, ?_, ?_, ?_, ?_, ?_, ?_, (by intro i; simp [Mem.set, hr]), (by exact hG)⟩ <;> try simp (disch := first | omega | decide) only [go_sem, F, aIndex_map]
              all_goals first | rfl | trace_state
        case hf5 =>
          have hw53 := hb
          try simp only [bo1, bo2, bo3, bo4, bo5, bo6] at hb
          have hbt53 := hb
          refine AW.skip ?_
          refine AW.seq ?_
          refine AW.seq ?_
          refine AW.region (cfg := cfg) ?_
          iterate 2 refine stp (fun _ h => s0 h) ?_
          refine aops_nil ?_
          refine cnd (fun hb => ?ht9) (fun hb => ?hf9)
          case ht9 =>
            have hw56 := hb
            try simp only [bo1, bo2, bo3, bo4, bo5, bo6] at hb
            have hbt56 := hb
            refine AW.region (cfg := cfg) ?_
            refine stp (fun _ h => s0 h) ?_
            refine aops_nil ?_
            refine AW.seq ?_
            refine AW.region (cfg := cfg) ?_
            iterate 3 refine stp (fun _ h => s0 h) ?_
            refine stp (fun _ h => sd h) ?_
            refine stp (fun _ h => cs (w := good_sameI _ _ (nextR nil l most).2 _ (by omega) (by (simp; done))) (x := h)) ?_
            refine stp (fun _ h => s0 h) ?_
            refine aops_nil ?_
            refine cnd (fun hb => ?ht10) (fun hb => ?hf10)
            case ht10 =>
              have hw62 := hb
              try simp only [bo1, bo2, bo3, bo4, bo5, bo6] at hb
              have hbt62 := hb
              refine AW.seq ?_
              refine AW.region (cfg := cfg) ?_
              refine stp (fun _ h => s0 h) ?_
              refine aops_nil ?_
              refine AW.ret ?_
              refine ⟨.inr rfl, ?_⟩
              refine leaves_tmp1 6 rfl ?_ (by exact hG)
              simp (disch := first | omega | decide) only [go_sem, F, aIndex_map]
              all_goals (exfalso; simp [next_at (nil := nil) (most := most) hok rfl, hbt53, hbt56] at hw62; done)
            case hf10 =>
              have hw62 := hb
              try simp only [bo1, bo2, bo3, bo4, bo5, bo6] at hb
              have hbt62 := hb
              refine AW.skip ?_
              refine ⟨_, _, rfl, ?_, ?_, ?_, ?_, ?_, ?_, (by intro i; simp [Mem.set, hr]), (by exact hG)⟩ <;> try simp (disch := first | omega | decide) only [go_sem, F, aIndex_map]
              all_goals first | rfl | trace_state
          case hf9 =>
            have hw56 := hb
            try simp only [bo1, bo2, bo3, bo4, bo5, bo6] at hb
            have hbt56 := hb
            refine AW.skip ?_
            refine AW.seq ?_
            refine AW.region (cfg := cfg) ?_
            iterate 3 refine stp (fun _ h => s0 h) ?_
            refine stp (fun _ h => sd h) ?_
            refine stp (fun _ h => cs (w := good_sameI _ _ (nextR nil l most).2 _ (by omega) (by (simp; omega))) (x := h)) ?_
            refine stp (fun _ h => s0 h) ?_
            refine aops_nil ?_
            refine cnd (fun hb => ?ht11) (fun hb => ?hf11)
            case ht11 =>
              have hw62 := hb
              try simp only [bo1, bo2, bo3, bo4, bo5, bo6] at hb
              have hbt62 := hb
              refine AW.seq ?_
              refine AW.region (cfg := cfg) ?_
              refine stp (fun _ h => s0 h) ?_
              refine aops_nil ?_
              refine AW.ret ?_
              refine ⟨.inr rfl, ?_⟩
              refine leaves_tmp1 6 rfl ?_ (by exact hG)
              simp (disch := first | omega | decide) only [go_sem, F, aIndex_map]
              all_goals (exfalso; simp [next_at (nil := nil) (most := most) hok rfl, hbt53, hbt56] at hw62; done)
            case hf11 =>
              have hw62 := hb
              try simp only [bo1, bo2, bo3, bo4, bo5, bo6] at hb
              have hbt62 := hb
              refine AW.skip ?_
              refine ⟨_, _, rfl, ?_, ?_, ?_, ?_, ?_, ?_, (by intro i; simp [Mem.set, hr]), (by exact hG)⟩ <;> try simp (disch := first | omega | decide) only [go_sem, F, aIndex_map]
              all_goals first | rfl | trace_state
    · clear F f0 f1 f2 hr hG
      rintro σ ⟨s, m, rfl, f0, f1, f7, f8, f9, f10, hr, hG⟩
      have F := (And.intro f0 (And.intro f1 (And.intro f7 (And.intro f8 (And.intro f9 (And.intro f10 (And.intro ea hG)))))))
      refine AW.seq ?_
      refine AW.seq ?_
      refine AW.region (cfg := cfg) ?_
      iterate 2 refine stp (fun _ h => s0 h) ?_
      refine stp (fun _ h => cs (w := good_May20 nil l (by omega) nx x (by omega)) (x := h)) ?_
      refine stp (fun _ h => s0 h) ?_
      refine aops_nil ?_
      refine cnd (fun hb => ?ht12) (fun hb => ?hf12)
      case ht12 =>
        have hw66 := hb
        try simp only [bo1, bo2, bo3, bo4, bo5, bo6] at hb
        have hbt66 := hb
        refine AW.seq ?_
        refine AW.region (cfg := cfg) ?_
        iterate 3 refine stp (fun _ h => s0 h) ?_
        iterate 2 refine mrg wa (fun hc _ h => s0 h) ?_
        iterate 2 refine stp (fun _ h => s0 h) ?_
        refine mrg wa (fun hc _ h => s0 h) ?_
        refine mrg wa (fun hc _ h => sd h) ?_
        refine mrg wa (fun hc _ h => s0 h) ?_
        iterate 2 refine stp (fun _ h => s0 h) ?_
        refine mrg wa (fun hc _ h => s0 h) ?_
        refine mrg wa (fun hc _ h => sd h) ?_
        refine mrg wa (fun hc _ h => s0 h) ?_
        iterate 2 refine stp (fun _ h => s0 h) ?_
        refine mrg wa (fun hc _ h => cs (w := good_awakeI) (x := h)) ?_
        iterate 2 refine stp (fun _ h => s0 h) ?_
        refine aops_nil ?_
        refine AW.ret ?_
        refine ⟨.inr rfl, ?_⟩
        refine leaves_tmp1 6 rfl ?_ (by exact hG)
        simp (disch := first | omega | decide) only [go_sem, F, aIndex_map]
        all_goals (have q1 := oweR_no (nil := nil) hw66; have q2 := payR_no (nil := nil) hw66; simp [q1, q2]; done)
      case hf12 =>
        have hw66 := hb
        try simp only [bo1, bo2, bo3, bo4, bo5, bo6] at hb
        have hbt66 := hb
        refine AW.skip ?_
        refine AW.seq ?_
        have hw := hw66
        obtain ⟨h0, hx1⟩ := wr_no hw66
        have e1 := oweR_ok (nil := nil) hw66
        have e2 := payR_ok (nil := nil) hw66
        have e3 := owe_same (nil := nil) h0 hx1 x.length
        have e4 := pay_same (nil := nil) h0 hx1 x.length
        have e5 := it_len (owe_all h0 hx1 x.length)
        have e6 := it_len (pay_all (x := x) h0 x.length)
        have e7 : (rOweS nil l x x.length).2.length ≤ 64 := by (rw [e3]; exact e5)
        have e8 : (rPayS nil l x x.length).2.length ≤ 64 := by (rw [e4]; exact e6)
        have F := And.intro e1 F
        have F := And.intro e2 F
        refine AW.region (cfg := cfg) ?_
        iterate 3 refine stp (fun _ h => s0 h) ?_
        iterate 2 refine mrg wa (fun hc _ h => s0 h) ?_
        iterate 2 refine stp (fun _ h => s0 h) ?_
        iterate 3 refine mrg wa (fun hc _ h => s0 h) ?_
        refine mrg wa (fun hc _ h => cr (w := good_rOwe nil l (by omega) nx x (by omega)) (x := h)) ?_
        refine mrg wa (fun hc _ h => cs (w := good_sameI _ _ (oweS l x x.length) (rOweS nil l x x.length).2 (by omega) (by omega)) (x := h)) ?_
        iterate 2 refine stp (fun _ h => s0 h) ?_
        iterate 3 refine mrg wa (fun hc _ h => s0 h) ?_
        refine mrg wa (fun hc _ h => cr (w := good_rPaid nil l (by omega) nx x (by omega)) (x := h)) ?_
        refine mrg wa (fun hc _ h => cs (w := good_sameI _ _ (payS l x x.length) (rPayS nil l x x.length).2 (by omega) (by omega)) (x := h)) ?_
        iterate 2 refine stp (fun _ h => s0 h) ?_
        refine mrg wa (fun hc _ h => cs (w := good_awakeI) (x := h)) ?_
        iterate 2 refine stp (fun _ h => s0 h) ?_
        refine aops_nil ?_
        refine AW.ret ?_
        refine ⟨.inr rfl, ?_⟩
        refine leaves_tmp1 6 rfl ?_ (by exact hG)
        simp (disch := first | omega | decide) only [go_sem, F, aIndex_map]
        all_goals (simp [e3, e4]; done)
end Go.Vai.IT
