/- Part 27 of 41. -/
import Derived.Test.YtpkajhmchcbbhaaK16
import Derived.Test.YtpkajhmchcbbhaaK20
import Derived.WalkMore
set_option linter.unusedSimpArgs false
set_option linter.unusedVariables false
section
namespace Go.Proofs.Ytpkajhmchcbbhaa.P
open Go.RowKit Go.Proofs.YtpkajhmchcbbhaaW.PrintWords Go.Proofs.YtpkajhmchcbbhaaW.PrintLast Go.Proofs.YtpkajhmchcbbhaaW.PrintMore
theorem idxF_drop_no {α : Type} (p : α → Bool) (l : List α) (d : α) (k : Nat) (h : ∀ j, k ≤ j → j < l.length → p (l.getD j d) = false) : idxF p (l.drop k) = -1 := by
  refine idxF_no p (l.drop k) d (fun j hj => ?_)
  rw [List.length_drop] at hj
  have := h (k + j) (by omega) (by omega)
  rwa [List.getD_eq_getElem?_getD, List.getElem?_drop, ← List.getD_eq_getElem?_getD]
theorem idxF_drop_at {α : Type} (p : α → Bool) (l : List α) (d : α) (k m : Nat) (hk : k ≤ m) (hm : m < l.length) (hno : ∀ j, k ≤ j → j < m → p (l.getD j d) = false) (hp : p (l.getD m d) = true) : idxF p (l.drop k) = ((m - k : Nat) : Int) := by
  have hg : ∀ j, (l.drop k).getD j d = l.getD (k + j) d := fun j => by
    rw [List.getD_eq_getElem?_getD, List.getElem?_drop, ← List.getD_eq_getElem?_getD]
  refine idxF_at p (l.drop k) (m - k) d (by rw [List.length_drop]; omega) (fun j hj => ?_) ?_
  · rw [hg]; exact hno _ (by omega) (by omega)
  rw [hg, show k + (m - k) = m from by omega]; exact hp
theorem clashAux_cons (r : SRow) (l : List SRow) (i : Int) : clashAux (r :: l) i = if idxF (fun q : SRow => decide (q.f1.f1 < r.f1.f0)) l < 0 then clashAux l (i + 1) else (i, i + 1 + idxF (fun q : SRow => decide (q.f1.f1 < r.f1.f0)) l, 0) := rfl
theorem clash_next (l : List SRow) (k : Nat) (hk : k < l.length) (h : ∀ j, k + 1 ≤ j → j < l.length → ¬ hiR l j < loR l k) : clashAux (l.drop k) k = clashAux (l.drop (k + 1)) ((k + 1 : Nat) : Int) := by
  rw [drop_row l k hk, clashAux_cons]
  rw [idxF_drop_no (d := zRow) (h := fun j h1 h2 => decide_eq_false (h j h1 h2))]
  simp
theorem clash_here (l : List SRow) (k m : Nat) (hk : k < m) (hm : m < l.length) (hno : ∀ j, k + 1 ≤ j → j < m → ¬ hiR l j < loR l k) (h : hiR l m < loR l k) : clashAux (l.drop k) k = ((k : Int), (m : Int), 0) := by
  rw [drop_row l k (by omega), clashAux_cons]
  rw [idxF_drop_at (d := zRow) (k := k + 1) (m := m) (hk := by omega) (hm := hm) (hno := fun j h1 h2 => decide_eq_false (hno j h1 h2)) (hp := decide_eq_true h)]
  rw [if_neg (by omega)]
  simp only [Prod.mk.injEq, true_and, and_true]
  omega
set_option maxRecDepth 100000 in
set_option maxHeartbeats 4000000 in
theorem chart_Clash.calls (A0_0 : Option Addr) (c0_0 : Nat) (l0_0 : List SRow) (a0_1 : Int) (r1 : Int) (r2 : Int) (r3 : Int) (w : World) (hr0_0 : Kd.C kRow w A0_0 l0_0.length l0_0) (hc0_0 : l0_0.length ≤ c0_0) (h : chart_Clash.f l0_0 a0_1 = some (r1, r2, r3)) :
    Calls Try.prog 19 #[.agg #[.slice A0_0 l0_0.length c0_0, .int .i64 a0_1]] w fun e w' => e = .returned (.tuple #[.int .i64 r1, .int .i64 r2, .int .i64 r3]) ∧ Below w.heap.size w w' := by
  have HE := Aside0.mk (Option.some.inj h)
  have HR := Aside0.mk hr0_0
  have HC := Aside0.mk hc0_0
  clear h hr0_0 hc0_0
  have hu1 := Try.underlying24
  have hu2 := Try.underlying70
  have hu3 := Try.underlying43
  go_enter Try.func19, Try.ntmps19
  go_wp2_with fail
  go_step3
  go_wp2_with fail
  have hB0 : Below w.heap.size w (w.alloc (.cells #[.slice A0_0 l0_0.length c0_0, .int .i64 a0_1] 24)) := (Below.refl _ _).alloc (Nat.le_refl _) _
  refine (chart_CheckTank.calls A0_0 c0_0 l0_0 a0_1 (checkTank l0_0 a0_1) _ (Kd.C_below HR.out hB0) HC.out rfl).mono ?_
  rintro e w1 ⟨rfl, hB1⟩
  have HK1 := Aside0.mk (below_blk hB1 (blk_new _ _) (by simp))
  have HB1 := Aside0.mk (below_then hB0 hB1)
  have hc0 : w1.cell? ⟨w.heap.size, 0, none⟩ = some (.slice A0_0 l0_0.length c0_0) := blk_cell HK1.out 0
  clear hB0 hB1
  by_cases h0 : checkTank l0_0 a0_1 = 0
  · have H0 := Lib.hid h0
    have HE2 := Aside0.mk (show clashAux l0_0 0 = (r1, r2, r3) by rw [← HE.out, if_pos h0])
    have hn2 : 2 ≤ l0_0.length ∧ l0_0.length ≤ 16 := by
      unfold checkTank at h0
      split at h0
      · cases h0
      omega
    have HN := Aside0.mk hn2
    rw [h0]
    clear h0 hn2
    go_wp2_with fail
    try go_step3
    go_wp2_with fail
    go_loopw [6, 7, 19] (fun v6 v7 v19 w' => ∃ k : Nat, k ≤ l0_0.length ∧ v6 = .int .i64 0 ∧ v7 = .int .i64 0 ∧ v19 = .int .i64 k ∧ Aside0 (clashAux l0_0 0 = clashAux (l0_0.drop k) k) ∧ Below w1.heap.size w1 w') (fun _ _ v19 _ => l0_0.length - (intOf v19).toNat)
    case atStart => exact ⟨0, Nat.zero_le _, rfl, rfl, rfl, ⟨by simp⟩, Below.refl _ _⟩
    case round =>
      obtain ⟨k, hk, rfl, rfl, rfl, HA, hB⟩ := hrel
      have HB := Aside0.mk hB
      have HBw := Aside0.mk (below_then HB1.out hB)
      have HK2 := Aside0.mk (below_blk hB HK1.out (blk_lt HK1.out))
      clear hB
      obtain ⟨wo, hwo⟩ : ∃ wo : World, wo = wr := ⟨_, rfl⟩
      rw [← hwo] at HB HBw HK2 ⊢
      clear hwo wr
      by_cases hlt : k < l0_0.length
      · obtain ⟨ad, rfl, c0, c1, c2⟩ := row_cells HR.out k hlt
        replace c0 := pw_cell_below HBw.out c0
        replace c1 := pw_cell_below HBw.out c1
        replace c2 := pw_cell_below HBw.out c2
        have HLR := Lib.hid (show loR l0_0 k = (l0_0.getD k zRow).f1.f0 from rfl)
        obtain ⟨q, hq⟩ : ∃ q, q = l0_0.getD k zRow := ⟨_, rfl⟩
        rw [← hq] at c0 c1 c2 HLR
        clear hq
        have hx0 : wo.cell? ⟨w.heap.size, 0, none⟩ = some (.slice (some ad) l0_0.length c0_0) := blk_cell HK2.out 0
        have k1 : (k : Int) < l0_0.length := by omega
        have n16 : (l0_0.length : Int) ≤ 16 := by have := HN.out; omega
        go_wp2_with fail
        obtain ⟨W1, hW1⟩ : ∃ W1, wo.alloc (.cells #[.int .i64 q.f0, .int .i64 q.f1.f0, .int .i64 q.f1.f1] 70) = W1 := ⟨_, rfl⟩
        try rw [hW1]
        have KR : Aside0 (W1.heap[wo.heap.size]? = some (.cells #[.int .i64 q.f0, .int .i64 q.f1.f0, .int .i64 q.f1.f1] 70 (0, 0))) := ⟨by rw [← hW1]; exact blk_new _ _⟩
        have KB : Aside0 (Below wo.heap.size wo W1) := ⟨by rw [← hW1]; exact (Below.refl _ _).alloc (Nat.le_refl _) _⟩
        clear hW1 c0 c1 c2 hx0
        obtain ⟨rb, hrb⟩ : ∃ rb, rb = wo.heap.size := ⟨_, rfl⟩
        rw [← hrb] at KR ⊢
        have HRB := Lib.hid hrb
        clear hrb
        go_loopw [6, 7, 10] (fun v6 v7 v10 w' => ∃ m : Nat, k + 1 ≤ m ∧ m ≤ l0_0.length ∧ v6 = .int .i64 0 ∧ v7 = .int .i64 0 ∧ v10 = .int .i64 m ∧ Aside0 (∀ j, k + 1 ≤ j → j < m → loR l0_0 k ≤ hiR l0_0 j) ∧ Below W1.heap.size W1 w') (fun _ _ v10 _ => l0_0.length - (intOf v10).toNat)
        case atStart => exact ⟨k + 1, Nat.le_refl _, hlt, rfl, rfl, by simp, ⟨fun j h1 h2 => by omega⟩, Below.refl _ _⟩
        case round =>
          obtain ⟨m, hm1, hm2, rfl, rfl, rfl, HNO, hBm⟩ := hrel
          have HBm := Aside0.mk (below_then KB.out hBm)
          have hKT := below_blk HBm.out HK2.out (blk_lt HK2.out)
          have hKR := below_blk hBm KR.out (blk_lt KR.out)
          have hx0 : wr.cell? ⟨w.heap.size, 0, none⟩ = some (.slice (some ad) l0_0.length c0_0) := blk_cell hKT 0
          have hy1 : wr.cell? ⟨rb, 1, none⟩ = some (.int .i64 q.f1.f0) := blk_cell hKR 1
          have HBM := Aside0.mk hBm
          clear hKT hKR hBm
          by_cases hmlt : m < l0_0.length
          · obtain ⟨ad', had, c0, c1, c2⟩ := row_cells HR.out m hmlt
            obtain rfl := Option.some.inj had
            clear had c0 c1
            replace c2 := pw_cell_below (below_then HBw.out HBm.out) c2
            have HHR := Lib.hid (show hiR l0_0 m = (l0_0.getD m zRow).f1.f1 from rfl)
            obtain ⟨hi, hhi⟩ : ∃ hi, hi = (l0_0.getD m zRow).f1.f1 := ⟨_, rfl⟩
            rw [← hhi] at c2 HHR
            clear hhi
            have m1 : (m : Int) < l0_0.length := by omega
            by_cases hcl : hi < q.f1.f0
            · have m0 : ((m : Int) == 0) = false := by
                rw [beq_eq_false_iff_ne]; omega
              go_wp2_with fail
              (refine start_ (n := 11) (S := fun w' => w' = _) (ds := []) (List.toArray (false :: false :: false :: false :: false :: false :: false :: false :: false :: false :: false :: [])) (by kernel_rfl) rfl rfl rfl (fun plS => ?_); clear plS; refine pureY (i := 0) (N := (some 33)) ?_; refine pureY (i := 1) (N := (some 34)) ?_; refine pureY (i := 3) (N := (some 36)) ?_; refine pureY (i := 5) (N := (some 38)) ?_; refine takeE (i := 2) (N := (some 35)) ?_; refine takeE (i := 4) (N := (some 37)) ?_; refine pureY (i := 6) (N := (some 39)) ?_; refine pureY (i := 7) (N := (some 40)) ?_; refine pureY (i := 8) (N := (some 41)) ?_; refine takeE (i := 9) (N := (some 42)) ?_; refine pureY (i := 10) (N := (some 43)) ?_; refine done_ (by kernel_rfl) ?_)
              go_wp2
              try rw [Exit.noGoto_ret]
              go_ret3
              rw [clash_here l0_0 k m (by omega) hmlt (fun j h1 h2 => Int.not_lt.mpr (HNO.out j h1 h2)) (by rw [HHR.out, HLR.out]; exact hcl)] at HA
              have he := HA.out.symm.trans HE2.out
              simp only [Prod.mk.injEq] at he
              obtain ⟨rfl, rfl, rfl⟩ := he
              exact ⟨rfl, below_then HBw.out HBm.out.drew⟩
            go_wp2_with fail
            (refine start_ (n := 11) (S := fun w' => w' = _) (ds := []) (List.toArray (false :: false :: false :: false :: false :: false :: false :: false :: false :: false :: false :: [])) (by kernel_rfl) rfl rfl rfl (fun plS => ?_); clear plS; refine pureY (i := 0) (N := (some 33)) ?_; refine pureY (i := 1) (N := (some 34)) ?_; refine pureY (i := 3) (N := (some 36)) ?_; refine pureY (i := 5) (N := (some 38)) ?_; refine takeE (i := 2) (N := (some 35)) ?_; refine takeE (i := 4) (N := (some 37)) ?_; refine pureY (i := 6) (N := (some 39)) ?_; refine pureY (i := 7) (N := (some 40)) ?_; refine pureY (i := 8) (N := (some 41)) ?_; refine takeE (i := 9) (N := (some 42)) ?_; refine pureY (i := 10) (N := (some 43)) ?_; refine done_ (by kernel_rfl) ?_)
            go_wp2
            go_roundw
            case rel => exact ⟨m + 1, by omega, by omega, rfl, rfl, by go_num, ⟨fun j h1 h2 => by
              rcases Nat.lt_succ_iff_lt_or_eq.mp h2 with h3 | rfl
              · exact HNO.out j h1 h3
              rw [HHR.out, HLR.out]; omega⟩, HBM.out.drew⟩
            case measure => simp [intOf]; omega
          obtain rfl : m = l0_0.length := by omega
          go_wp2
          go_roundw
          case rel => exact ⟨k + 1, by omega, rfl, rfl, by go_num, ⟨by rw [HA.out, clash_next l0_0 k hlt (fun j h1 h2 => Int.not_lt.mpr (HNO.out j h1 h2))]⟩, below_then HB.out HBm.out⟩
          case measure => simp [intOf]; omega
      obtain rfl : k = l0_0.length := by omega
      go_wp2
      rw [Exit.noGoto_ret]
      go_ret3
      rw [List.drop_eq_nil_of_le (Nat.le_refl _)] at HA
      have he : ((0 : Int), (0 : Int), (5 : Int)) = (r1, r2, r3) := HA.out.symm.trans HE2.out
      simp only [Prod.mk.injEq] at he
      obtain ⟨rfl, rfl, rfl⟩ := he
      exact ⟨rfl, HBw.out⟩
  have H0 := Lib.hid h0
  have hb : ((checkTank l0_0 a0_1) == 0) = false := by simpa using h0
  have hb' : ((checkTank l0_0 a0_1) != 0) = true := by simpa using h0
  have HE2 := Aside0.mk (show (0, 0, checkTank l0_0 a0_1) = (r1, r2, r3) by rw [← HE.out, if_neg h0])
  go_wp2
  rw [Exit.noGoto_ret]
  go_ret3
  have he := HE2.out
  simp only [Prod.mk.injEq] at he
  obtain ⟨rfl, rfl, rfl⟩ := he
  exact ⟨rfl, HB1.out⟩
end Go.Proofs.Ytpkajhmchcbbhaa.P
end
