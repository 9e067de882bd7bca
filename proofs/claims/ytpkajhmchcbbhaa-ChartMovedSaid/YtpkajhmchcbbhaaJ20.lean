/- Part 20 of 39. -/
import Derived.Test.YtpkajhmchcbbhaaJ16
import Derived.Test.YtpkajhmchcbbhaaJ17
import Derived.Test.YtpkajhmchcbbhaaJ19
import Derived.Test.YtpkajhmchcbbhaaJ12
import Derived.Test.YtpkajhmchcbbhaaJ11
set_option linter.unusedSimpArgs false
set_option linter.unusedVariables false
section
namespace Go.Proofs.Ytpkajhmchcbbhaa.P
open Go.RowKit Go.Proofs.YtpkajhmchcbbhaaW.PrintWords Go.Proofs.YtpkajhmchcbbhaaW.PrintLast Go.Proofs.YtpkajhmchcbbhaaW.PrintMore
attribute [local go_sem ↓] exec_load97 exec_store97 sem_load97 sem_store97
attribute [local go_sem] load97_at store97_at SegOk_alloc seg_alloc SegOk_drew seg_drew SegOk_drewN seg_drewN ints_size Ones_ints store97_new store97_newD
theorem wts_within2 {l : List SRow} (h : DipOk l) (dip : Int) (h0 : 0 ≤ dip) (h1 : dip ≤ 4000) : ∀ x, x ∈ wts l dip → -100000000 ≤ x ∧ x ≤ 100000000 := by
 intro x hx
 obtain ⟨i, hi, rfl⟩ := List.getElem_of_mem hx
 have := wts_within h dip h0 h1 i (by rw [wts_length] at hi; exact hi)
 rw [List.getD_eq_getElem?_getD, List.getElem?_eq_getElem hi] at this
 simp only [Option.getD_some] at this
 omega
set_option maxRecDepth 100000 in
set_option maxHeartbeats 40000000 in
theorem chart_Below.calls (A0_0 : Option Addr) (c0_0 : Nat) (l0_0 : List SRow) (a0_1 : Int) (A1 : Option Addr) (c1 : Nat) (l1 : List Int) (a2 : Int) (r1 : Int) (r2 : Int) (r3 : Int) (w : World) (hr0_0 : Kd.C kRow w A0_0 l0_0.length l0_0) (hc0_0 : l0_0.length ≤ c0_0) (hr1 : Kd.C (Kd.int .i64) w A1 l1.length l1) (hc1 : l1.length ≤ c1) (h : chart_Below.f l0_0 a0_1 l1 a2 = some (r1, r2, r3)) :
  Calls Try.prog 26 #[.agg #[.slice A0_0 l0_0.length c0_0, .int .i64 a0_1], .slice A1 l1.length c1, .int .i64 a2] w fun e w' => e = .returned (.tuple #[.agg #[.int .i64 r1, .int .i64 r2], .int .i64 r3]) ∧ Below w.heap.size w w' := by
 have HE := Aside0.mk (Option.some.inj h)
 have HR := Aside0.mk hr0_0
 have HC := Aside0.mk hc0_0
 have HR1 := Aside0.mk hr1
 have HC1 := Aside0.mk hc1
 obtain ⟨kc, hkc⟩ := checkChart_some l0_0 a0_1 l1
 have HKC := Aside0.mk hkc
 clear h hr0_0 hc0_0 hr1 hc1 hkc
 have hu1 := Try.underlying24
 have hu2 := Try.underlying70
 have hu5 := Try.underlying97
 have hu8 := Try.underlying39
 go_enter Try.func26, Try.ntmps26
 go_wp2_with fail
 obtain ⟨V0, hV0⟩ : ∃ V, (w.alloc (.cells #[.slice A0_0 l0_0.length c0_0, .int .i64 a0_1] 24)).alloc (.cells #[.int .i64 0, .int .i64 0] 39) = V := ⟨_, rfl⟩
 have K0 : Aside0 (V0.heap[w.heap.size]? = some (.cells #[.slice A0_0 l0_0.length c0_0, .int .i64 a0_1] 24 (0, 0))) := ⟨by rw [← hV0]; exact blk_old (blk_new _ _)⟩
 have K1 : Aside0 (V0.heap[w.heap.size + 1]? = some (.cells #[.int .i64 0, .int .i64 0] 39 (0, 0))) := ⟨by rw [← hV0]; exact blk_new' (by simp)⟩
 have KB : Aside0 (Below w.heap.size w V0) := ⟨by rw [← hV0]; exact ((Below.refl _ _).alloc (Nat.le_refl _) _).alloc (by simp) _⟩
 rw [hV0]
 clear hV0
 refine (chart_CheckChart.calls kc A0_0 c0_0 l0_0 a0_1 A1 c1 l1 (checkChart l0_0 a0_1 l1) _ (Kd.C_below HR.out KB.out) HC.out (Kd.C_below HR1.out KB.out) HC1.out HKC.out).mono ?_
 rintro e w1 ⟨rfl, hB1⟩
 have M0 := Aside0.mk (below_blk hB1 K0.out (blk_lt K0.out))
 have M1 := Aside0.mk (below_blk hB1 K1.out (blk_lt K1.out))
 have MB := Aside0.mk (below_then KB.out hB1)
 clear hB1 K0 K1 KB V0
 have x0 : w1.cell? ⟨w.heap.size, 0, none⟩ = some (.slice A0_0 l0_0.length c0_0) := blk_cell M0.out 0
 have x1 : w1.cell? ⟨w.heap.size, 1, none⟩ = some (.int .i64 a0_1) := blk_cell M0.out 1
 have y0 : w1.cell? ⟨w.heap.size + 1, 0, none⟩ = some (.int .i64 0) := blk_cell M1.out 0
 have y1 : w1.cell? ⟨w.heap.size + 1, 1, none⟩ = some (.int .i64 0) := blk_cell M1.out 1
 have z0 := blk_frozen M1.out 0
 have z1 := blk_frozen M1.out 1
 by_cases h0 : checkChart l0_0 a0_1 l1 = 0
 ·obtain ⟨hct, hlen, _, hin⟩ := checkChart_spec h0
  have hT := tankOk_of hct
  have HT := Aside0.mk hT
  have HIN := Aside0.mk hin
  have HLEN := Lib.hid hlen
  have HE2 := Aside0.mk (HE.out.symm.trans (by rw [if_neg (by rw [h0]; simp)]))
  rw [h0]
  have n2 : 2 ≤ l0_0.length := hT.n2
  have n16 : l0_0.length ≤ 16 := hT.n16
  clear h0 hct hT HE hin hlen
  obtain ⟨ad, rfl, d0, _, _⟩ := row_cells HR.out 0 (by omega)
  obtain ⟨ad', had, e0, _, _⟩ := row_cells HR.out (l0_0.length - 1) (by omega)
  obtain rfl := Option.some.inj had
  clear had
  replace d0 := pw_cell_below MB.out d0
  replace e0 := pw_cell_below MB.out e0
  have i1 : (0 : Int) < l0_0.length := by omega
  have i2 : ((l0_0.length - 1 : Nat) : Int) = (l0_0.length : Int) - 1 := by omega
  have i3 : (l0_0.length : Int) - 1 < l0_0.length := by omega
  have i4 : (0 : Int) ≤ (l0_0.length : Int) - 1 := by omega
  have i5 : ((l0_0.length : Int) - 1).toNat = l0_0.length - 1 := by omega
  obtain ⟨a, ha⟩ : ∃ a, a = (l0_0.getD 0 zRow).f0 := ⟨_, rfl⟩
  obtain ⟨b, hb⟩ : ∃ b, b = (l0_0.getD (l0_0.length - 1) zRow).f0 := ⟨_, rfl⟩
  rw [← ha] at d0
  rw [← hb] at e0
  replace d0 : w1.cell? ad = some (.int .i64 a) := by rw [Nat.zero_mul, addr_add0] at d0; exact d0
  have HA := Lib.hid (show firstD l0_0 = a by rw [ha]; rfl)
  have HB := Lib.hid (show lastD l0_0 = b by rw [hb]; rfl)
  clear ha hb
  go_wp2_with fail
  (refine start_ (n := 18) (S := fun w' => Below (World.heap _).size _ w') (ds := []) (List.toArray (false :: false :: false :: false :: false :: false :: false :: false :: false :: false :: false :: false :: false :: false :: false :: false :: false :: false :: [])) (by kernel_rfl) rfl rfl (belowDrew _) (fun plS => ?_); refine pureY (i := 0) (N := (some 19)) ?_; refine pureY (i := 5) (N := (some 24)) ?_; refine pureY (i := 7) (N := (some 26)) ?_; refine pureY (i := 14) (N := (some 33)) ?_; refine takeF (i := 1) (N := (some 20)) (hS := plS) (hy := by (intro w' hw'; replace hw' : Below (World.heap w1).size w1 w' := hw'; have q0 := pw_cell_below hw' x1; have q1 := pw_cell_below hw' y0; have q2 := pw_cell_below hw' y1; have q3 := pw_cell_below hw' x0; have q4 := pw_cell_below hw' e0; have q5 := pw_cell_below hw' d0; exact yieldA)) (h := ?_); refine pureY (i := 2) (N := (some 21)) ?_; refine pureY (i := 3) (N := (some 22)) ?_; refine takeF (i := 4) (N := (some 23)) (hS := plS) (hy := by (intro w' hw'; replace hw' : Below (World.heap w1).size w1 w' := hw'; have q0 := pw_cell_below hw' x1; have q1 := pw_cell_below hw' y0; have q2 := pw_cell_below hw' y1; have q3 := pw_cell_below hw' x0; have q4 := pw_cell_below hw' e0; have q5 := pw_cell_below hw' d0; exact yieldA)) (h := ?_); refine takeF (i := 6) (N := (some 25)) (hS := plS) (hy := by (intro w' hw'; replace hw' : Below (World.heap w1).size w1 w' := hw'; have q0 := pw_cell_below hw' x1; have q1 := pw_cell_below hw' y0; have q2 := pw_cell_below hw' y1; have q3 := pw_cell_below hw' x0; have q4 := pw_cell_below hw' e0; have q5 := pw_cell_below hw' d0; exact yieldA)) (h := ?_); refine takeF (i := 8) (N := (some 27)) (hS := plS) (hy := by (intro w' hw'; replace hw' : Below (World.heap w1).size w1 w' := hw'; have q0 := pw_cell_below hw' x1; have q1 := pw_cell_below hw' y0; have q2 := pw_cell_below hw' y1; have q3 := pw_cell_below hw' x0; have q4 := pw_cell_below hw' e0; have q5 := pw_cell_below hw' d0; exact yieldA)) (h := ?_); refine pureY (i := 9) (N := (some 28)) ?_; refine pureY (i := 10) (N := (some 29)) ?_; refine pureY (i := 11) (N := (some 30)) ?_; refine pureY (i := 12) (N := (some 31)) ?_; refine takeF (i := 13) (N := (some 32)) (hS := plS) (hy := by (intro w' hw'; replace hw' : Below (World.heap w1).size w1 w' := hw'; have q0 := pw_cell_below hw' x1; have q1 := pw_cell_below hw' y0; have q2 := pw_cell_below hw' y1; have q3 := pw_cell_below hw' x0; have q4 := pw_cell_below hw' e0; have q5 := pw_cell_below hw' d0; exact yieldA)) (h := ?_); refine oneY (i := 15) (fun plK plH => ?_); rw [if_pos (by rfl)]; (first | gi_big_move | go_big_op | go_simp))
  have hBx := ((Below.refl w1.heap.size w1).alloc (Nat.le_refl _) (.cells #[.int .i64 a2] 2)).drew
  ((try simp only [Act.put, List.getElem_toArray, List.getElem_cons_succ, List.getElem_cons_zero, List.setIfInBounds_toArray, List.set_cons_succ, List.set_cons_zero]); refine plH _ _ hBx (fun plS => ?_); clear plH plK; refine oneY (i := 16) (fun plK plH => ?_); rw [if_pos (by rfl)]; (first | gi_big_move | go_big_op | go_simp))
  have hBc := (MB.out.alloc MB.out.size (.cells #[.int .i64 a2] 2)).drew
  refine (chart_within.calls a b (some ⟨w1.heap.size, 0, none⟩) 1 [a2] (inB a b a2) ((w1.alloc (.cells #[.int .i64 a2] 2)).drew) (C_arr (l := [a2]) (show (w1.alloc (.cells #[.int .i64 a2] 2)).drew.heap[w1.heap.size]? = _ from blk_new _ _) (by simp)) (by simp) (by simp [chart_within.f])).mono ?_
  rintro e w2 ⟨rfl, hB2⟩
  have N0 := Aside0.mk (below_blk hB2 (show (w1.alloc (.cells #[.int .i64 a2] 2)).drew.heap[w.heap.size]? = _ from blk_old M0.out) (by have := blk_lt M0.out; simp; omega))
  have N1 := Aside0.mk (below_blk hB2 (show (w1.alloc (.cells #[.int .i64 a2] 2)).drew.heap[w.heap.size + 1]? = _ from blk_old M1.out) (by have := blk_lt M1.out; simp; omega))
  have NB := Aside0.mk (below_then hBc hB2)
  have hBy : Below w1.heap.size w1 w2 := below_then hBx hB2
  clear hBc hB2 M0 M1 MB y0 y1 z0 z1
  ((try simp only [Act.put, List.getElem_toArray, List.getElem_cons_succ, List.getElem_cons_zero, List.setIfInBounds_toArray, List.set_cons_succ, List.set_cons_zero]); refine plH _ _ hBy (fun plS => ?_); clear plH plK; refine pureY (i := 17) (N := (some 36)) ?_; refine done_ (by kernel_rfl) ?_)
  clear x0 x1 d0 e0 hBx hBy
  have x0 : w2.cell? ⟨w.heap.size, 0, none⟩ = some (.slice (some ad) l0_0.length c0_0) := blk_cell N0.out 0
  have x1 : w2.cell? ⟨w.heap.size, 1, none⟩ = some (.int .i64 a0_1) := blk_cell N0.out 1
  cases hin : inB a b a2 with
  | false =>
   have y0 : w2.cell? ⟨w.heap.size + 1, 0, none⟩ = some (.int .i64 0) := blk_cell N1.out 0
   have y1 : w2.cell? ⟨w.heap.size + 1, 1, none⟩ = some (.int .i64 0) := blk_cell N1.out 1
   have z0 := blk_frozen N1.out 0
   have z1 := blk_frozen N1.out 1
   obtain ⟨rfl, rfl, rfl⟩ : r1 = 0 ∧ r2 = 0 ∧ r3 = 3 := by
    have := HE2.out
    rw [HA.out, HB.out, hin] at this
    simpa using this
   clear hin HE2
   go_wp2
   have hf := blk_put (blk_put N1.out 0 (.int .i64 0) rfl) 1 (.int .i64 0) rfl
   refine bodyPost_ret (results_arr2 rfl rfl isAggQ sizeOfQ (SegOk.mk' hf 0 2 (by simp))) rfl ⟨?_, ?_⟩
   ·rw [seg_whole (n := 2) hf rfl]; rfl
   exact (NB.out.setCell (p := ⟨w.heap.size + 1, 0, none⟩) (Nat.le_succ _) _).setCell (p := ⟨w.heap.size + 1, 1, none⟩) (Nat.le_succ _) _
  | true =>
   have hin2 := (inB_iff a b a2).1 hin
   have HE3 := Aside0.mk (show (leastN (dot (wts l0_0 a2) l1) (wden l0_0 a2), leastD (dot (wts l0_0 a2) l1) (wden l0_0 a2), (0 : Int)) = (r1, r2, r3) by
    have := HE2.out
    rw [HA.out, HB.out, hin, if_neg (by simp)] at this
    exact this.symm)
   have hfl := HT.out.first_last
   rw [HA.out, HB.out] at hfl
   have d0 : 0 ≤ a2 := by omega
   have d1 : a2 ≤ 4000 := by omega
   clear hin HE2 hin2 hfl
   go_wp2_with fail
   refine (newGauge_calls (some ad) c0_0 l0_0 a0_1 _ (Kd.C_below HR.out NB.out) n16).mono ?_
   rintro e w3 ⟨g, rfl, hg0, hG, hB3⟩
   have N1' := Aside0.mk (below_blk hB3 N1.out (blk_lt N1.out))
   have NB' := Aside0.mk (below_then NB.out hB3)
   clear N0 N1 NB x0 x1 hB3
   go_wp2_with fail
   refine (weigh_calls g (some ad) c0_0 l0_0 a0_1 _ _ a2 w3 (Kd.C_below HR.out NB'.out) HT.out.dipOk (by omega) (by omega) hG).mono ?_
   rintro e w4 ⟨rfl, hB4⟩
   have P1 := Aside0.mk (below_blk hB4 N1'.out (blk_lt N1'.out))
   have PB := Aside0.mk (below_then NB'.out hB4)
   clear hB4 N1' NB' hG hg0
   have hwl := wts_length l0_0 a2
   have HWB := Aside0.mk (wts_within2 HT.out.dipOk a2 d0 d1)
   have hwd := wden_within HT.out.dipOk a2
   have hwp := HT.out.wden_pos a2
   obtain ⟨W, hW⟩ : ∃ W, W = wts l0_0 a2 := ⟨_, rfl⟩
   obtain ⟨den, hdn⟩ : ∃ den, den = wden l0_0 a2 := ⟨_, rfl⟩
   rw [← hW] at hwl HWB HE3 ⊢
   rw [← hdn] at hwd hwp HE3 ⊢
   clear hW hdn
   have hS1 := SegOk.mk' (blk_new w4 (.cells (ints W) 97)) 0 16 (by simp [ints, hwl])
   have hV1 := seg_whole (n := 16) (blk_new w4 (.cells (ints W) 97)) (by simp [ints, hwl])
   go_wp2_with fail
   clear hS1 hV1
   have hBd := PB.out.alloc PB.out.size (.cells (ints W) 97)
   have hll := HLEN.out
   refine (sum_calls W hwl HWB.out A1 c1 l1 (by omega) (fun x hx => by have := HIN.out x hx; omega) _ (Kd.C_below HR1.out hBd)).mono ?_
   rintro e w5 ⟨rfl, hB5⟩
   have hdb := dot_within W l1 HWB.out (fun x hx => by have := HIN.out x hx; omega)
   obtain ⟨S, hS⟩ : ∃ S, S = dot W l1 := ⟨_, rfl⟩
   rw [← hS] at hdb HE3 ⊢
   clear hS
   have hdb1 : -1600000000000000 ≤ S ∧ S ≤ 1600000000000000 := by omega
   have P1' := Aside0.mk (below_blk hB5 (blk_old P1.out) (by have := blk_lt P1.out; simp; omega))
   have PB' := Aside0.mk (below_then hBd hB5)
   clear hdb hBd hB5 P1 PB hll
   go_wp2_with fail
   refine (least_calls S den (by omega) (by omega) (by omega) _).mono ?_
   rintro e w6 ⟨rfl, hB6⟩
   have R1 := Aside0.mk (below_blk hB6 P1'.out (blk_lt P1'.out))
   have RB := Aside0.mk (below_then PB'.out hB6)
   clear hB6 P1' PB'
   have y0 : w6.cell? ⟨w.heap.size + 1, 0, none⟩ = some (.int .i64 0) := blk_cell R1.out 0
   have y1 : w6.cell? ⟨w.heap.size + 1, 1, none⟩ = some (.int .i64 0) := blk_cell R1.out 1
   have z0 := blk_frozen R1.out 0
   have z1 := blk_frozen R1.out 1
   have he := HE3.out
   simp only [Prod.mk.injEq] at he
   obtain ⟨h1, h2, rfl⟩ := he
   rw [h1, h2]
   clear HE3 h1 h2
   go_wp2
   have hf := blk_put (blk_put R1.out 0 (.int .i64 r1) rfl) 1 (.int .i64 r2) rfl
   refine bodyPost_ret (results_arr2 rfl rfl isAggQ sizeOfQ (SegOk.mk' hf 0 2 (by simp))) rfl ⟨?_, ?_⟩
   ·rw [seg_whole (n := 2) hf rfl]; rfl
   exact (RB.out.setCell (p := ⟨w.heap.size + 1, 0, none⟩) (Nat.le_succ _) _).setCell (p := ⟨w.heap.size + 1, 1, none⟩) (Nat.le_succ _) _
 have H0 := Lib.hid h0
 have hb : ((checkChart l0_0 a0_1 l1) == 0) = false := by simpa using h0
 have hb' : ((checkChart l0_0 a0_1 l1) != 0) = true := by simpa using h0
 obtain ⟨rfl, rfl, rfl⟩ : r1 = 0 ∧ r2 = 0 ∧ r3 = checkChart l0_0 a0_1 l1 := by
  have := HE.out
  rw [if_pos h0] at this
  simp only [Prod.mk.injEq] at this
  exact ⟨this.1.symm, this.2.1.symm, this.2.2.symm⟩
 clear HE
 go_wp2
 have hf := blk_put (blk_put M1.out 0 (.int .i64 0) rfl) 1 (.int .i64 0) rfl
 refine bodyPost_ret (results_arr2 rfl rfl isAggQ sizeOfQ (SegOk.mk' hf 0 2 (by simp))) rfl ⟨?_, ?_⟩
 ·rw [seg_whole (n := 2) hf rfl]; rfl
 exact (MB.out.setCell (p := ⟨w.heap.size + 1, 0, none⟩) (Nat.le_succ _) _).setCell (p := ⟨w.heap.size + 1, 1, none⟩) (Nat.le_succ _) _
end Go.Proofs.Ytpkajhmchcbbhaa.P
end
section
namespace Go.Proofs.Ytpkajhmchcbbhaa.P
open Go.RowKit Go.Proofs.YtpkajhmchcbbhaaW.PrintWords Go.Proofs.YtpkajhmchcbbhaaW.PrintLast Go.Proofs.YtpkajhmchcbbhaaW.PrintMore
attribute [local go_sem] max2_mx min2_mn max_two min_two
set_option maxRecDepth 100000 in
set_option maxHeartbeats 40000000 in
theorem chart_Metered.calls (A0_0 : Option Addr) (c0_0 : Nat) (l0_0 : List SRow) (a0_1 : Int) (a1 : Int) (a2 : Int) (r1 : Int) (r2 : Int) (r3 : Int) (w : World) (hr0_0 : Kd.C kRow w A0_0 l0_0.length l0_0) (hc0_0 : l0_0.length ≤ c0_0) (h : chart_Metered.f l0_0 a0_1 a1 a2 = some (r1, r2, r3)) :
  Calls Try.prog 28 #[.agg #[.slice A0_0 l0_0.length c0_0, .int .i64 a0_1], .int .i64 a1, .int .i64 a2] w fun e w' => e = .returned (.tuple #[.agg #[.int .i64 r1, .int .i64 r2], .int .i64 r3]) ∧ Below w.heap.size w w' := by
 have HE := Aside0.mk (Option.some.inj h)
 have HR := Aside0.mk hr0_0
 have HC := Aside0.mk hc0_0
 clear h hr0_0 hc0_0
 have hu1 := Try.underlying24
 have hu2 := Try.underlying70
 have hu3 := Try.underlying99
 have hu4 := Try.underlying43
 have hu5 := Try.underlying97
 go_enter Try.func28, Try.ntmps28
 go_wp2_with fail
 obtain ⟨V0, hV0⟩ : ∃ V, (w.alloc (.cells #[.slice A0_0 l0_0.length c0_0, .int .i64 a0_1] 24)).alloc (.cells #[.int .i64 0, .int .i64 0] 43) = V := ⟨_, rfl⟩
 have K0 : Aside0 (V0.heap[w.heap.size]? = some (.cells #[.slice A0_0 l0_0.length c0_0, .int .i64 a0_1] 24 (0, 0))) := ⟨by rw [← hV0]; exact blk_old (blk_new _ _)⟩
 have K1 : Aside0 (V0.heap[w.heap.size + 1]? = some (.cells #[.int .i64 0, .int .i64 0] 43 (0, 0))) := ⟨by rw [← hV0]; exact blk_new' (by simp)⟩
 have KB : Aside0 (Below w.heap.size w V0) := ⟨by rw [← hV0]; exact ((Below.refl _ _).alloc (Nat.le_refl _) _).alloc (by simp) _⟩
 rw [hV0]
 clear hV0
 refine (chart_CheckTank.calls A0_0 c0_0 l0_0 a0_1 (checkTank l0_0 a0_1) _ (Kd.C_below HR.out KB.out) HC.out rfl).mono ?_
 rintro e w1 ⟨rfl, hB1⟩
 have M0 := Aside0.mk (below_blk hB1 K0.out (blk_lt K0.out))
 have M1 := Aside0.mk (below_blk hB1 K1.out (blk_lt K1.out))
 have MB := Aside0.mk (below_then KB.out hB1)
 clear hB1 K0 K1 KB V0
 have x0 : w1.cell? ⟨w.heap.size, 0, none⟩ = some (.slice A0_0 l0_0.length c0_0) := blk_cell M0.out 0
 have x1 : w1.cell? ⟨w.heap.size, 1, none⟩ = some (.int .i64 a0_1) := blk_cell M0.out 1
 have y0 : w1.cell? ⟨w.heap.size + 1, 0, none⟩ = some (.int .i64 0) := blk_cell M1.out 0
 have y1 : w1.cell? ⟨w.heap.size + 1, 1, none⟩ = some (.int .i64 0) := blk_cell M1.out 1
 have z0 := blk_frozen M1.out 0
 have z1 := blk_frozen M1.out 1
 have HBZ : Aside0 (Below w.heap.size w ((w1.setCell ⟨w.heap.size + 1, 0, none⟩ (.int .i64 0)).setCell ⟨w.heap.size + 1, 1, none⟩ (.int .i64 0))) := ⟨(MB.out.setCell (p := ⟨w.heap.size + 1, 0, none⟩) (Nat.le_succ _) _).setCell (p := ⟨w.heap.size + 1, 1, none⟩) (Nat.le_succ _) _⟩
 have HFZ := Aside0.mk (blk_put (blk_put M1.out 0 (.int .i64 0) rfl) 1 (.int .i64 0) rfl)
 have hzero : ∀ (tmps : Array Value) (r3 : Int), tmps.getD 6 undef = .pointer (some ⟨w.heap.size + 1, 0, none⟩) → tmps.getD 7 undef = .int .i64 r3 →
   (results Try.f28 tmps).run Try.prog ((w1.setCell ⟨w.heap.size + 1, 0, none⟩ (.int .i64 0)).setCell ⟨w.heap.size + 1, 1, none⟩ (.int .i64 0)) = .ok (.tuple #[.agg #[.int .i64 0, .int .i64 0], .int .i64 r3]) ((w1.setCell ⟨w.heap.size + 1, 0, none⟩ (.int .i64 0)).setCell ⟨w.heap.size + 1, 1, none⟩ (.int .i64 0)) := fun tmps r3 h6 h7 => by
  rw [results_arr2 rfl h6 isAggR sizeOfR (SegOk.mk' HFZ.out 0 2 (by simp)), seg_whole (n := 2) HFZ.out rfl, h7]
  rfl
 have HZ := Aside0.mk hzero
 clear hzero
 by_cases h0 : checkTank l0_0 a0_1 = 0
 ·have H0 := Lib.hid h0
  have hT := tankOk_of h0
  have n16 : (l0_0.length : Int) ≤ 16 := by have := hT.n16; omega
  have HT := Aside0.mk hT
  have HE2 := Aside0.mk (HE.out.symm.trans (by rw [if_neg (by rw [h0]; simp)]))
  rw [h0]
  clear h0 hT HE
  by_cases hrg : a1 < 0 ∨ (l0_0.length : Int) ≤ a1 ∨ a2 < 0 ∨ (l0_0.length : Int) ≤ a2
  ·have HE3 := Aside0.mk (HE2.out.trans (if_pos hrg))
   obtain ⟨rfl, rfl, rfl⟩ : r1 = 0 ∧ r2 = 0 ∧ r3 = 3 := by simpa using HE3.out
   have key : a1 < 0 ∨ (¬ a1 < 0 ∧ (l0_0.length : Int) ≤ a1) ∨ (¬ a1 < 0 ∧ ¬ (l0_0.length : Int) ≤ a1 ∧ a2 < 0) ∨ (¬ a1 < 0 ∧ ¬ (l0_0.length : Int) ≤ a1 ∧ ¬ a2 < 0 ∧ (l0_0.length : Int) ≤ a2) := by omega
   clear hrg HE2 HE3
   rcases key with q1 | ⟨q1, q2⟩ | ⟨q1, q2, q3⟩ | ⟨q1, q2, q3, q4⟩ <;> go_wp2
   all_goals exact bodyPost_ret (HZ.out _ _ rfl rfl) rfl ⟨rfl, HBZ.out⟩
  have HE3 := Aside0.mk (HE2.out.trans (if_neg hrg))
  obtain ⟨q1, q2, q3, q4⟩ : ¬ a1 < 0 ∧ ¬ (l0_0.length : Int) ≤ a1 ∧ ¬ a2 < 0 ∧ ¬ (l0_0.length : Int) ≤ a2 := by omega
  clear hrg HE2
  by_cases hgt : a2 < a1
  ·obtain ⟨rfl, rfl, rfl⟩ : r1 = 0 ∧ r2 = 0 ∧ r3 = 2 := by simpa [hgt] using HE3.out
   go_wp2
   exact bodyPost_ret (HZ.out _ _ rfl rfl) rfl ⟨rfl, HBZ.out⟩
  have HE4 := Aside0.mk (HE3.out.trans (if_neg hgt))
  clear HE3
  go_wp2_with fail
  refine (open_calls A0_0 c0_0 l0_0 a0_1 none 0 [] w1 (Kd.C_below HR.out MB.out) HC.out (C_none _) (Nat.le_refl _)).mono ?_
  rintro e w2 ⟨hB2, hO⟩
  have N1 := Aside0.mk (below_blk hB2 M1.out (blk_lt M1.out))
  have NB := Aside0.mk (below_then MB.out hB2)
  clear hB2 M0 M1 MB x0 x1 y0 y1 z0 z1 HBZ HFZ HZ
  have y0 : w2.cell? ⟨w.heap.size + 1, 0, none⟩ = some (.int .i64 0) := blk_cell N1.out 0
  have y1 : w2.cell? ⟨w.heap.size + 1, 1, none⟩ = some (.int .i64 0) := blk_cell N1.out 1
  have z0 := blk_frozen N1.out 0
  have z1 := blk_frozen N1.out 1
  have HBZ : Aside0 (Below w.heap.size w ((w2.setCell ⟨w.heap.size + 1, 0, none⟩ (.int .i64 0)).setCell ⟨w.heap.size + 1, 1, none⟩ (.int .i64 0))) := ⟨(NB.out.setCell (p := ⟨w.heap.size + 1, 0, none⟩) (Nat.le_succ _) _).setCell (p := ⟨w.heap.size + 1, 1, none⟩) (Nat.le_succ _) _⟩
  have HFZ := Aside0.mk (blk_put (blk_put N1.out 0 (.int .i64 0) rfl) 1 (.int .i64 0) rfl)
  have hzero : ∀ (tmps : Array Value) (r3 : Int), tmps.getD 6 undef = .pointer (some ⟨w.heap.size + 1, 0, none⟩) → tmps.getD 7 undef = .int .i64 r3 →
    (results Try.f28 tmps).run Try.prog ((w2.setCell ⟨w.heap.size + 1, 0, none⟩ (.int .i64 0)).setCell ⟨w.heap.size + 1, 1, none⟩ (.int .i64 0)) = .ok (.tuple #[.agg #[.int .i64 0, .int .i64 0], .int .i64 r3]) ((w2.setCell ⟨w.heap.size + 1, 0, none⟩ (.int .i64 0)).setCell ⟨w.heap.size + 1, 1, none⟩ (.int .i64 0)) := fun tmps r3 h6 h7 => by
   rw [results_arr2 rfl h6 isAggR sizeOfR (SegOk.mk' HFZ.out 0 2 (by simp)), seg_whole (n := 2) HFZ.out rfl, h7]
   rfl
  have HZ := Aside0.mk hzero
  clear hzero
  have hoe : openE l0_0 a0_1 [] = if tightOk l0_0 then 0 else 21 := by
   unfold openE
   rw [if_neg (by rw [H0.out]; simp)]
   simp
  have HOE := Lib.hid hoe
  clear hoe
  rcases hO with ⟨hne, rfl⟩ | ⟨heq, g, rfl, hg0, hG⟩
  ·have ht : tightOk l0_0 = false := by
    rw [HOE.out] at hne
    cases hq : tightOk l0_0 <;> simp [hq] at hne ⊢
   have ho : openE l0_0 a0_1 [] = 21 := by rw [HOE.out, ht]; rfl
   obtain ⟨rfl, rfl, rfl⟩ : r1 = 0 ∧ r2 = 0 ∧ r3 = 21 := by simpa [ht] using HE4.out
   rw [ho]
   clear ho ht hne HOE
   go_wp2
   exact bodyPost_ret (HZ.out _ _ rfl rfl) rfl ⟨rfl, HBZ.out⟩
  have ht : tightOk l0_0 = true := by
   rw [HOE.out] at heq
   cases hq : tightOk l0_0 <;> simp [hq] at heq ⊢
  have HE5 := Aside0.mk (HE4.out.trans (if_neg (by rw [ht]; simp)))
  clear heq ht HOE HE4
  by_cases heq : a1 = a2
  ·subst heq
   obtain ⟨rfl, rfl, rfl⟩ : r1 = 0 ∧ r2 = 0 ∧ r3 = 0 := by simpa using HE5.out
   go_wp2
   exact bodyPost_ret (HZ.out _ _ rfl rfl) rfl ⟨rfl, HBZ.out⟩
  have HE6 := Aside0.mk (HE5.out.trans (if_neg heq))
  have hne : (a1 == a2) = false := by simpa using heq
  clear HE5 HZ HBZ HFZ
  obtain ⟨i, rfl⟩ : ∃ i : Nat, a1 = i := ⟨a1.toNat, by omega⟩
  obtain ⟨k, rfl⟩ : ∃ k : Nat, a2 = k := ⟨a2.toNat, by omega⟩
  have hi : i < l0_0.length := by omega
  have hk : k < l0_0.length := by omega
  have h16 := HT.out.n16
  have c1 := hG.cl i (by omega)
  have c2 := hG.cl k (by omega)
  have c3 := hG.ch i (by omega)
  have c4 := hG.ch k (by omega)
  rw [LowAt_get l0_0 i hi h16] at c1
  rw [LowAt_get l0_0 k hk h16] at c2
  rw [HighAt_get l0_0 i hi h16] at c3
  rw [HighAt_get l0_0 k hk h16] at c4
  have e1 := HT.out.lowN_in i hi
  have e2 := HT.out.lowN_in k hk
  have e3 := HT.out.highN_in i hi
  have e4 := HT.out.highN_in k hk
  have hgl := hG.lt
  have HE7 := Aside0.mk (show (mx 0 (lowN l0_0 k - highN l0_0 i), highN l0_0 k - lowN l0_0 i, 0) = (r1, r2, r3) by rw [HE6.out, Int.toNat_natCast, Int.toNat_natCast])
  obtain ⟨u1, hu1'⟩ : ∃ u, u = lowN l0_0 i := ⟨_, rfl⟩
  obtain ⟨u2, hu2'⟩ : ∃ u, u = lowN l0_0 k := ⟨_, rfl⟩
  obtain ⟨u3, hu3'⟩ : ∃ u, u = highN l0_0 i := ⟨_, rfl⟩
  obtain ⟨u4, hu4'⟩ : ∃ u, u = highN l0_0 k := ⟨_, rfl⟩
  rw [← hu1'] at c1 e1 HE7
  rw [← hu2'] at c2 e2 HE7
  rw [← hu3'] at c3 e3 HE7
  rw [← hu4'] at c4 e4 HE7
  obtain ⟨e1a, e1b, _⟩ := e1
  obtain ⟨e2a, e2b, _⟩ := e2
  obtain ⟨e3a, e3b⟩ := e3
  obtain ⟨e4a, e4b⟩ := e4
  have i16 : i < 16 := by omega
  have k16 : k < 16 := by omega
  clear hu1' hu2' hu3' hu4' hG HE6 HT H0 hi hk
  go_wp2_with fail
  (refine start_ (n := 30) (S := fun w' => w' = _) (ds := [28]) (List.toArray (false :: false :: false :: false :: false :: false :: false :: false :: false :: false :: false :: false :: false :: false :: false :: false :: false :: false :: false :: false :: false :: false :: false :: false :: false :: false :: false :: false :: false :: false :: [])) (by kernel_rfl) rfl rfl rfl (fun plS => ?_); clear plS; refine pureY (i := 0) (N := (some 58)) ?_; refine pureY (i := 1) (N := (some 59)) ?_; refine pureY (i := 2) (N := (some 60)) ?_; refine pureY (i := 3) (N := (some 61)) ?_; refine pureY (i := 4) (N := (some 62)) ?_; refine pureY (i := 6) (N := (some 64)) ?_; refine pureY (i := 7) (N := (some 65)) ?_; refine pureY (i := 8) (N := (some 66)) ?_; refine pureY (i := 9) (N := (some 67)) ?_; refine pureY (i := 10) (N := (some 68)) ?_; refine pureY (i := 14) (N := (some 72)) ?_; refine pureY (i := 15) (N := (some 73)) ?_; refine pureY (i := 16) (N := (some 74)) ?_; refine pureY (i := 17) (N := (some 75)) ?_; refine pureY (i := 18) (N := (some 76)) ?_; refine pureY (i := 20) (N := (some 78)) ?_; refine pureY (i := 21) (N := (some 79)) ?_; refine pureY (i := 22) (N := (some 80)) ?_; refine pureY (i := 23) (N := (some 81)) ?_; refine pureY (i := 24) (N := (some 82)) ?_; refine takeE (i := 5) (N := (some 63)) ?_; refine takeE (i := 11) (N := (some 69)) ?_; refine pureY (i := 12) (N := (some 70)) ?_; refine pureY (i := 13) (N := (some 71)) ?_; refine takeE (i := 19) (N := (some 77)) ?_; refine takeE (i := 25) (N := (some 83)) ?_; refine pureY (i := 26) (N := (some 84)) ?_; refine pureY (i := 27) (N := (some 85)) ?_; refine lastY (i := 28) (fun plK plH => ?_); rw [if_pos (by rfl)]; (first | gi_big_move | go_big_op | go_simp))
  ((try simp only [Act.put, List.getElem_toArray, List.getElem_cons_succ, List.getElem_cons_zero, List.setIfInBounds_toArray, List.set_cons_succ, List.set_cons_zero]); refine plH _ _ ?_; clear plH plK; refine pureY (i := 29) (N := (some 7)) ?_; refine done_ (by kernel_rfl) ?_)
  go_wp2
  have hf := blk_put (blk_put N1.out 0 (.int .i64 (mx 0 (u2 - u3))) rfl) 1 (.int .i64 (u4 - u1)) rfl
  have he7 := HE7.out
  simp only [Prod.mk.injEq] at he7
  obtain ⟨rfl, rfl, rfl⟩ := he7
  refine bodyPost_ret (results_arr2 rfl rfl isAggR sizeOfR (SegOk.mk' hf 0 2 (by simp))) rfl ⟨?_, ?_⟩
  ·rw [seg_drew, seg_whole (n := 2) hf rfl]
   rfl
  exact ((NB.out.setCell (p := ⟨w.heap.size + 1, 0, none⟩) (Nat.le_succ _) _).setCell (p := ⟨w.heap.size + 1, 1, none⟩) (Nat.le_succ _) _).drew
 have H0 := Lib.hid h0
 have hb : ((checkTank l0_0 a0_1) == 0) = false := by simpa using h0
 have hb' : ((checkTank l0_0 a0_1) != 0) = true := by simpa using h0
 obtain ⟨rfl, rfl, rfl⟩ : r1 = 0 ∧ r2 = 0 ∧ r3 = checkTank l0_0 a0_1 := by
  have := HE.out
  rw [if_pos h0] at this
  simp only [Prod.mk.injEq] at this
  exact ⟨this.1.symm, this.2.1.symm, this.2.2.symm⟩
 clear HE
 go_wp2
 exact bodyPost_ret (HZ.out _ _ rfl rfl) rfl ⟨rfl, HBZ.out⟩
end Go.Proofs.Ytpkajhmchcbbhaa.P
end
section
namespace Go.Proofs.Ytpkajhmchcbbhaa.P
open Go.RowKit Go.Proofs.YtpkajhmchcbbhaaW.PrintWords Go.Proofs.YtpkajhmchcbbhaaW.PrintLast Go.Proofs.YtpkajhmchcbbhaaW.PrintMore
def isR (lo hi a b : Int) : Bool := inB lo hi a && inB lo hi b && decide (a ≤ b)
theorem mul_400 {a b : Int} (h0 : -400 ≤ a) (h1 : a ≤ 400) (k0 : 0 ≤ b) (k1 : b ≤ 200) : -80000 ≤ a * b ∧ a * b ≤ 80000 := by
 constructor
 ·have h := Int.mul_le_mul_of_nonneg_right h0 k0
  have : -400 * 200 ≤ -400 * b := by omega
  omega
 have h := Int.mul_le_mul_of_nonneg_right h1 k0
 omega
theorem put4_below {w W : World} {b : Nat} {x0 x1 x2 x3 : Value} (hB : Below w.heap.size w W) (hb : w.heap.size ≤ b) : Below w.heap.size w ((((W.setCell ⟨b, 0, none⟩ x0).setCell ⟨b, 1, none⟩ x1).setCell ⟨b, 2, none⟩ x2).setCell ⟨b, 3, none⟩ x3) := (((hB.setCell (p := ⟨b, 0, none⟩) hb x0).setCell (p := ⟨b, 1, none⟩) hb x1).setCell (p := ⟨b, 2, none⟩) hb x2).setCell (p := ⟨b, 3, none⟩) hb x3
theorem isRange_eq (a b lo hi : Int) : chart_isRange.f a b lo hi = some (isR lo hi a b) := by
 unfold chart_isRange.f chart_within.f isR
 simp only [Option.bind_some, List.all_cons, List.all_nil, Bool.and_true]
 cases inB lo hi a <;> cases inB lo hi b <;> simp
def warmest (a1_1 a2_0 a2_1 : Int) : Int := if a1_1 < 0 then a1_1 * a2_0 else a1_1 * a2_1
def coldest (a1_0 a2_0 a2_1 : Int) : Int := if a1_0 < 0 then a1_0 * a2_1 else a1_0 * a2_0
def common5.f (a0 a1_0 a1_1 a2_0 a2_1 : Int) : Option (Int × Int × Int × Int × Int) :=
 some (if inB 0 100000 a0 = false then (0, 0, 0, 0, 3) else if isR (-400) 400 a1_0 a1_1 = false then (0, 0, 0, 0, 2) else if isR 0 200 a2_0 a2_1 = false then (0, 0, 0, 0, 2)
  else (leastN (1000000 * a0) (1000000 + warmest a1_1 a2_0 a2_1), leastD (1000000 * a0) (1000000 + warmest a1_1 a2_0 a2_1), leastN (1000000 * a0) (1000000 + coldest a1_0 a2_0 a2_1), leastD (1000000 * a0) (1000000 + coldest a1_0 a2_0 a2_1), 0))
set_option maxRecDepth 100000 in
set_option maxHeartbeats 40000000 in
theorem common5.calls (a0 : Int) (a1_0 : Int) (a1_1 : Int) (a2_0 : Int) (a2_1 : Int) (r1 : Int) (r2 : Int) (r3 : Int) (r4 : Int) (r5 : Int) (w : World) (h : common5.f a0 a1_0 a1_1 a2_0 a2_1 = some (r1, r2, r3, r4, r5)) :
  Calls Try.prog 36 #[.int .i64 a0, .agg #[.int .i64 a1_0, .int .i64 a1_1], .agg #[.int .i64 a2_0, .int .i64 a2_1]] w fun e w' => e = .returned (.tuple #[.agg #[.int .i64 r1, .int .i64 r2, .int .i64 r3, .int .i64 r4], .int .i64 r5]) ∧ Below w.heap.size w w' := by
 have HE := Aside0.mk (Option.some.inj h)
 clear h
 have hu4 := Try.underlying43
 have hu8 := Try.underlying39
 have hu3 := Try.underlying48
 go_enter Try.func36, Try.ntmps36
 go_wp2_with fail
 obtain ⟨V0, hV0⟩ : ∃ V, (((w.alloc (.cells #[.int .i64 a1_0, .int .i64 a1_1] 43)).alloc (.cells #[.int .i64 a2_0, .int .i64 a2_1] 43)).alloc (.cells #[.int .i64 0, .int .i64 0, .int .i64 0, .int .i64 0] 48)).alloc (.cells #[.int .i64 a0] 2) = V := ⟨_, rfl⟩
 have K0 : Aside0 (V0.heap[w.heap.size]? = some (.cells #[.int .i64 a1_0, .int .i64 a1_1] 43 (0, 0))) := ⟨by rw [← hV0]; exact blk_old (blk_old (blk_old (blk_new _ _)))⟩
 have K1 : Aside0 (V0.heap[w.heap.size + 1]? = some (.cells #[.int .i64 a2_0, .int .i64 a2_1] 43 (0, 0))) := ⟨by rw [← hV0]; exact blk_old (blk_old (blk_new' (by simp)))⟩
 have K2 : Aside0 (V0.heap[w.heap.size + 2]? = some (.cells #[.int .i64 0, .int .i64 0, .int .i64 0, .int .i64 0] 48 (0, 0))) := ⟨by rw [← hV0]; exact blk_old (blk_new' (by simp))⟩
 have K3 : Aside0 (V0.heap[w.heap.size + 3]? = some (.cells #[.int .i64 a0] 2 (0, 0))) := ⟨by rw [← hV0]; exact blk_new' (by simp)⟩
 have KB : Aside0 (Below w.heap.size w V0) := ⟨by rw [← hV0]; exact ((((Below.refl _ _).alloc (Nat.le_refl _) _).alloc (by simp) _).alloc (by simp; omega) _).alloc (by simp; omega) _⟩
 rw [hV0]
 clear hV0
 refine (chart_within.calls 0 100000 (some ⟨w.heap.size + 3, 0, none⟩) 1 [a0] (inB 0 100000 a0) V0 (C_arr (l := [a0]) K3.out (by simp)) (by simp) (by simp [chart_within.f])).mono ?_
 rintro e w1 ⟨rfl, hB1⟩
 have M0 := Aside0.mk (below_blk hB1 K0.out (blk_lt K0.out))
 have M1 := Aside0.mk (below_blk hB1 K1.out (blk_lt K1.out))
 have M2 := Aside0.mk (below_blk hB1 K2.out (blk_lt K2.out))
 have MB := Aside0.mk (below_then KB.out hB1)
 clear hB1 K0 K1 K2 K3 KB V0
 have HZ : ∀ (W : World), W.heap[w.heap.size + 2]? = some (.cells #[.int .i64 0, .int .i64 0, .int .i64 0, .int .i64 0] 48 (0, 0)) → True := fun _ _ => trivial
 clear HZ
 cases hin : inB 0 100000 a0 with
 | false =>
  have he := HE.out
  rw [if_pos hin] at he
  simp only [Prod.mk.injEq] at he
  obtain ⟨rfl, rfl, rfl, rfl, rfl⟩ := he
  clear HE hin
  have g0 : w1.cell? ⟨w.heap.size + 2, 0, none⟩ = some (.int .i64 0) := blk_cell M2.out 0
  have g1 : w1.cell? ⟨w.heap.size + 2, 1, none⟩ = some (.int .i64 0) := blk_cell M2.out 1
  have g2 : w1.cell? ⟨w.heap.size + 2, 2, none⟩ = some (.int .i64 0) := blk_cell M2.out 2
  have g3 : w1.cell? ⟨w.heap.size + 2, 3, none⟩ = some (.int .i64 0) := blk_cell M2.out 3
  have f0 := blk_frozen M2.out 0
  have f1 := blk_frozen M2.out 1
  have f2 := blk_frozen M2.out 2
  have f3 := blk_frozen M2.out 3
  have hlt := blk_lt M2.out
  go_wp2_with fail
  have hf := blk_put (blk_put (blk_put (blk_put M2.out 0 (.int .i64 0) rfl) 1 (.int .i64 0) rfl) 2 (.int .i64 0) rfl) 3 (.int .i64 0) rfl
  refine bodyPost_ret (results_arr2 rfl rfl isAggS sizeOfS (SegOk.mk' hf 0 4 (by simp))) rfl ⟨?_, ?_⟩
  ·rw [seg_whole (n := 4) hf rfl]; rfl
  exact put4_below MB.out (by omega)
 | true =>
  have HE2 := Aside0.mk (HE.out.symm.trans (if_neg (by rw [hin]; simp))).symm
  obtain ⟨q0, q1⟩ := (inB_iff 0 100000 a0).1 hin
  clear HE hin
  have x0 : w1.cell? ⟨w.heap.size, 0, none⟩ = some (.int .i64 a1_0) := blk_cell M0.out 0
  have x1 : w1.cell? ⟨w.heap.size, 1, none⟩ = some (.int .i64 a1_1) := blk_cell M0.out 1
  have hlt := blk_lt M2.out
  go_wp2_with fail
  refine (chart_isRange.calls a1_0 a1_1 (-400) 400 _ w1 (isRange_eq _ _ _ _)).mono ?_
  rintro e w2 ⟨rfl, hB2⟩
  have N0 := Aside0.mk (below_blk hB2 M0.out (blk_lt M0.out))
  have N1 := Aside0.mk (below_blk hB2 M1.out (blk_lt M1.out))
  have N2 := Aside0.mk (below_blk hB2 M2.out (blk_lt M2.out))
  have NB := Aside0.mk (below_then MB.out hB2)
  clear hB2 M0 M1 M2 MB x0 x1 hlt w1
  cases hin : isR (-400) 400 a1_0 a1_1 with
  | false =>
   have he := HE2.out
   rw [if_pos hin] at he
   simp only [Prod.mk.injEq] at he
   obtain ⟨rfl, rfl, rfl, rfl, rfl⟩ := he
   clear HE2 hin
   have g0 : w2.cell? ⟨w.heap.size + 2, 0, none⟩ = some (.int .i64 0) := blk_cell N2.out 0
   have g1 : w2.cell? ⟨w.heap.size + 2, 1, none⟩ = some (.int .i64 0) := blk_cell N2.out 1
   have g2 : w2.cell? ⟨w.heap.size + 2, 2, none⟩ = some (.int .i64 0) := blk_cell N2.out 2
   have g3 : w2.cell? ⟨w.heap.size + 2, 3, none⟩ = some (.int .i64 0) := blk_cell N2.out 3
   have f0 := blk_frozen N2.out 0
   have f1 := blk_frozen N2.out 1
   have f2 := blk_frozen N2.out 2
   have f3 := blk_frozen N2.out 3
   have hlt := blk_lt N2.out
   go_wp2_with fail
   have hf := blk_put (blk_put (blk_put (blk_put N2.out 0 (.int .i64 0) rfl) 1 (.int .i64 0) rfl) 2 (.int .i64 0) rfl) 3 (.int .i64 0) rfl
   refine bodyPost_ret (results_arr2 rfl rfl isAggS sizeOfS (SegOk.mk' hf 0 4 (by simp))) rfl ⟨?_, ?_⟩
   ·rw [seg_whole (n := 4) hf rfl]; rfl
   exact put4_below NB.out (by omega)
  | true =>
   have HE3 := Aside0.mk (HE2.out.symm.trans (if_neg (by rw [hin]; simp))).symm
   have hr1 : -400 ≤ a1_0 ∧ a1_0 ≤ a1_1 ∧ a1_1 ≤ 400 := by
    simp only [isR, Bool.and_eq_true, decide_eq_true_eq] at hin
    have h1 := (inB_iff _ _ _).1 hin.1.1
    have h2 := (inB_iff _ _ _).1 hin.1.2
    omega
   clear HE2 hin
   have y0 : w2.cell? ⟨w.heap.size + 1, 0, none⟩ = some (.int .i64 a2_0) := blk_cell N1.out 0
   have y1 : w2.cell? ⟨w.heap.size + 1, 1, none⟩ = some (.int .i64 a2_1) := blk_cell N1.out 1
   have hlt := blk_lt N2.out
   go_wp2_with fail
   refine (chart_isRange.calls a2_0 a2_1 0 200 _ w2 (isRange_eq _ _ _ _)).mono ?_
   rintro e w3 ⟨rfl, hB3⟩
   have P0 := Aside0.mk (below_blk hB3 N0.out (blk_lt N0.out))
   have P1 := Aside0.mk (below_blk hB3 N1.out (blk_lt N1.out))
   have P2 := Aside0.mk (below_blk hB3 N2.out (blk_lt N2.out))
   have PB := Aside0.mk (below_then NB.out hB3)
   clear hB3 N0 N1 N2 NB y0 y1 hlt w2
   cases hin : isR 0 200 a2_0 a2_1 with
   | false =>
    have he := HE3.out
    rw [if_pos hin] at he
    simp only [Prod.mk.injEq] at he
    obtain ⟨rfl, rfl, rfl, rfl, rfl⟩ := he
    clear HE3 hin
    have g0 : w3.cell? ⟨w.heap.size + 2, 0, none⟩ = some (.int .i64 0) := blk_cell P2.out 0
    have g1 : w3.cell? ⟨w.heap.size + 2, 1, none⟩ = some (.int .i64 0) := blk_cell P2.out 1
    have g2 : w3.cell? ⟨w.heap.size + 2, 2, none⟩ = some (.int .i64 0) := blk_cell P2.out 2
    have g3 : w3.cell? ⟨w.heap.size + 2, 3, none⟩ = some (.int .i64 0) := blk_cell P2.out 3
    have f0 := blk_frozen P2.out 0
    have f1 := blk_frozen P2.out 1
    have f2 := blk_frozen P2.out 2
    have f3 := blk_frozen P2.out 3
    have hlt := blk_lt P2.out
    go_wp2_with fail
    have hf := blk_put (blk_put (blk_put (blk_put P2.out 0 (.int .i64 0) rfl) 1 (.int .i64 0) rfl) 2 (.int .i64 0) rfl) 3 (.int .i64 0) rfl
    refine bodyPost_ret (results_arr2 rfl rfl isAggS sizeOfS (SegOk.mk' hf 0 4 (by simp))) rfl ⟨?_, ?_⟩
    ·rw [seg_whole (n := 4) hf rfl]; rfl
    exact put4_below PB.out (by omega)
   | true =>
    have HE4 := Aside0.mk (HE3.out.symm.trans (if_neg (by rw [hin]; simp))).symm
    have hr2 : 0 ≤ a2_0 ∧ a2_0 ≤ a2_1 ∧ a2_1 ≤ 200 := by
     simp only [isR, Bool.and_eq_true, decide_eq_true_eq] at hin
     have h1 := (inB_iff _ _ _).1 hin.1.1
     have h2 := (inB_iff _ _ _).1 hin.1.2
     omega
    clear HE3 hin
    have hlt := blk_lt P2.out
    have m11 := mul_400 hr1.1 (by omega : a1_0 ≤ 400) hr2.1 (by omega : a2_0 ≤ 200)
    have m12 := mul_400 hr1.1 (by omega : a1_0 ≤ 400) (by omega : 0 ≤ a2_1) hr2.2.2
    have m21 := mul_400 (by omega : -400 ≤ a1_1) hr1.2.2 hr2.1 (by omega : a2_0 ≤ 200)
    have m22 := mul_400 (by omega : -400 ≤ a1_1) hr1.2.2 (by omega : 0 ≤ a2_1) hr2.2.2
    have HWM := Lib.hid (show warmest a1_1 a2_0 a2_1 = if a1_1 < 0 then a1_1 * a2_0 else a1_1 * a2_1 from rfl)
    have HCM := Lib.hid (show coldest a1_0 a2_0 a2_1 = if a1_0 < 0 then a1_0 * a2_1 else a1_0 * a2_0 from rfl)
    have hwm : -80000 ≤ warmest a1_1 a2_0 a2_1 ∧ warmest a1_1 a2_0 a2_1 ≤ 80000 := by rw [HWM.out]; split <;> omega
    have hcm : -80000 ≤ coldest a1_0 a2_0 a2_1 ∧ coldest a1_0 a2_0 a2_1 ≤ 80000 := by rw [HCM.out]; split <;> omega
    have x0 : w3.drew.cell? ⟨w.heap.size, 0, none⟩ = some (.int .i64 a1_0) := blk_cell P0.out 0
    have x1 : w3.drew.cell? ⟨w.heap.size, 1, none⟩ = some (.int .i64 a1_1) := blk_cell P0.out 1
    have y0 : w3.drew.cell? ⟨w.heap.size + 1, 0, none⟩ = some (.int .i64 a2_0) := blk_cell P1.out 0
    have y1 : w3.drew.cell? ⟨w.heap.size + 1, 1, none⟩ = some (.int .i64 a2_1) := blk_cell P1.out 1
    go_wp2_with fail
    (refine start_ (n := 12) (S := fun w' => w' = _) (ds := []) (List.toArray (false :: false :: false :: false :: false :: false :: false :: false :: false :: false :: false :: false :: [])) (by kernel_rfl) rfl rfl rfl (fun plS => ?_); clear plS; refine pureY (i := 0) (N := (some 26)) ?_; refine pureY (i := 2) (N := (some 28)) ?_; refine pureY (i := 5) (N := (some 31)) ?_; refine pureY (i := 7) (N := (some 33)) ?_; refine takeE (i := 1) (N := (some 27)) ?_; refine takeE (i := 3) (N := (some 29)) ?_; refine pureY (i := 4) (N := (some 30)) ?_; refine pureY (i := 10) (N := (some 8)) ?_; refine takeE (i := 6) (N := (some 32)) ?_; refine takeE (i := 8) (N := (some 34)) ?_; refine pureY (i := 9) (N := (some 35)) ?_; refine pureY (i := 11) (N := (some 9)) ?_; refine done_ (by kernel_rfl) ?_)
    rcases Decidable.em (a1_1 < 0) with h1 | h1 <;> rcases Decidable.em (a1_0 < 0) with h2 | h2
    all_goals try (exfalso; omega)
    all_goals
     have HW : Hid (warmest a1_1 a2_0 a2_1 = _) := Lib.hid (HWM.out.trans (by first | rw [if_pos h1] | rw [if_neg h1]))
     have HC : Hid (coldest a1_0 a2_0 a2_1 = _) := Lib.hid (HCM.out.trans (by first | rw [if_pos h2] | rw [if_neg h2]))
     go_wp2_with fail
     refine (least_calls _ _ (by omega) (by omega) (by omega) _).mono ?_
     rintro e w4 ⟨rfl, hB4⟩
     go_wp2_with fail
     refine (least_calls _ _ (by omega) (by omega) (by omega) _).mono ?_
     rintro e w5 ⟨rfl, hB5⟩
     have hB6 : Below w3.heap.size w3 w5 := below_then (((Below.refl _ w3).drew).trans hB4) hB5
     have Q2 := Aside0.mk (below_blk hB6 P2.out (blk_lt P2.out))
     have QB := Aside0.mk (below_then PB.out hB6)
     have he := HE4.out
     rw [HW.out, HC.out] at he
     simp only [Prod.mk.injEq] at he
     obtain ⟨e1, e2, e3, e4, rfl⟩ := he
     rw [e1, e2, e3, e4]
     clear hB4 hB5 hB6 e1 e2 e3 e4 hlt x0 x1 y0 y1 HE4 HW HC HWM HCM
     have g0 : w5.cell? ⟨w.heap.size + 2, 0, none⟩ = some (.int .i64 0) := blk_cell Q2.out 0
     have g1 : w5.cell? ⟨w.heap.size + 2, 1, none⟩ = some (.int .i64 0) := blk_cell Q2.out 1
     have g2 : w5.cell? ⟨w.heap.size + 2, 2, none⟩ = some (.int .i64 0) := blk_cell Q2.out 2
     have g3 : w5.cell? ⟨w.heap.size + 2, 3, none⟩ = some (.int .i64 0) := blk_cell Q2.out 3
     have f0 := blk_frozen Q2.out 0
     have f1 := blk_frozen Q2.out 1
     have f2 := blk_frozen Q2.out 2
     have f3 := blk_frozen Q2.out 3
     have hlt := blk_lt Q2.out
     go_wp2_with fail
     have hf := blk_put (blk_put (blk_put (blk_put Q2.out 0 (.int .i64 r1) rfl) 1 (.int .i64 r2) rfl) 2 (.int .i64 r3) rfl) 3 (.int .i64 r4) rfl
     refine bodyPost_ret (results_arr2 rfl rfl isAggS sizeOfS (SegOk.mk' hf 0 4 (by simp))) rfl ⟨?_, ?_⟩
     ·rw [seg_whole (n := 4) hf rfl]; rfl
     exact put4_below QB.out (by omega)
end Go.Proofs.Ytpkajhmchcbbhaa.P
end
section
namespace Go.Proofs.Ytpkajhmchcbbhaa.P
open Go.RowKit Go.Proofs.YtpkajhmchcbbhaaW.PrintWords Go.Proofs.YtpkajhmchcbbhaaW.PrintLast Go.Proofs.YtpkajhmchcbbhaaW.PrintMore
def forecourtlaw01_probed.f : Option ((List (S70)) × Int) := (forecourtlaw01_Tank.f).bind fun t => some (t.1, 10)
theorem forecourtlaw01_probed.calls (r1 : List (S70)) (r2 : Int) (w : World) (h : forecourtlaw01_probed.f = some (r1, r2)) :
  Calls Try.prog 52 #[] w fun e w' => ∃ v0_ : Value, e = .returned (.agg #[v0_, .int .i64 r2]) ∧ Kd.R k70 70 w' w.heap.size (fun _ => True) v0_ r1 ∧ Below w.heap.size w w' := by
 unfold forecourtlaw01_probed.f at h
 obtain ⟨⟨t1, t2⟩, hT, h⟩ := Option.bind_eq_some_iff.mp h
 simp only [Option.some.injEq, Prod.mk.injEq] at h
 obtain ⟨rfl, rfl⟩ := h
 have HT := Aside0.mk hT
 clear hT
 have hu1 := Try.underlying24
 go_enter Try.func52, Try.ntmps52
 go_wp2_with fail
 refine (forecourtlaw01_Tank.calls t1 t2 _ HT.out).mono ?_
 rintro e w2 ⟨v, rfl, hR, hB⟩
 have hs2 : w.heap.size + 1 ≤ w2.heap.size := by have := hB.size; simp at this; omega
 have M0 := Aside0.mk (below_blk hB (blk_new w _) (by simp))
 have MB := Aside0.mk (below_then ((Below.refl _ w).alloc (Nat.le_refl _) _) hB)
 obtain ⟨A, c, rfl, hc, hC⟩ := Kd.R_reads hR
 have HR := Aside0.mk (Kd.R_bound hR)
 clear hR hC hB
 have g0 : w2.cell? ⟨w.heap.size, 0, none⟩ = some (.slice none 0 0) := blk_cell M0.out 0
 have g1 : w2.cell? ⟨w.heap.size, 1, none⟩ = some (.int .i64 0) := blk_cell M0.out 1
 have f0 := blk_frozen M0.out 0
 have f1 := blk_frozen M0.out 1
 have hlt : w.heap.size < w2.heap.size := by omega
 go_wp2_with fail
 have hf := blk_old (o := .cells #[.slice A t1.length c, .int .i64 10] 24) (blk_put (blk_put M0.out 0 (.slice A t1.length c) rfl) 1 (.int .i64 10) rfl)
 refine bodyPost_ret (results_arr1 rfl rfl (n := 2) (fun w => by kernel_rfl) (fun w => by kernel_rfl) (SegOk.mk' hf 0 2 (by simp))) rfl ⟨.slice A t1.length c, ?_, ?_, ?_⟩
 ·rw [seg_whole (n := 2) hf rfl]; rfl
 ·refine Kd.R_mono (Kd.R_lower (Kd.R_move HR.out (fun k hk => ?_)) (by simp)) (fun _ _ => trivial)
  obtain ⟨_, h1, h2, _⟩ := hk
  have h3 : w.heap.size + 1 ≤ k := by simpa using h1
  exact (Below.heap_alloc _ _ _ (by simpa using h2)).trans ((Below.heap_setCell _ ⟨w.heap.size, 1, none⟩ _ k (by show k ≠ w.heap.size; omega)).trans (Below.heap_setCell _ ⟨w.heap.size, 0, none⟩ _ k (by show k ≠ w.heap.size; omega)))
 exact ((MB.out.setCell (p := ⟨w.heap.size, 0, none⟩) (Nat.le_refl _) _).setCell (p := ⟨w.heap.size, 1, none⟩) (Nat.le_refl _) _).alloc (by simp; omega) _
end Go.Proofs.Ytpkajhmchcbbhaa.P
end
