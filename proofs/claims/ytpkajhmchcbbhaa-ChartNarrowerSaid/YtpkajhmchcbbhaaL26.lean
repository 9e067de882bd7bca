/- Part 26 of 44. -/
import Derived.Test.YtpkajhmchcbbhaaL24
import Derived.Test.YtpkajhmchcbbhaaL20
import Derived.Laws.EntriesVeiled
set_option linter.unusedSimpArgs false
set_option linter.unusedVariables false
section
namespace Go.Proofs.Ytpkajhmchcbbhaa.P
open Go.RowKit Go.Proofs.YtpkajhmchcbbhaaW.PrintWords Go.Proofs.YtpkajhmchcbbhaaW.PrintLast Go.Proofs.YtpkajhmchcbbhaaW.PrintMore
theorem halveF_in (good : Int → Bool) (lo hi : Int) (h : lo ≤ hi + 1) : lo ≤ halveF good lo hi ∧ halveF good lo hi ≤ hi + 1 := by
 have key : ∀ (n : Nat) (lo hi : Int), (hi + 1 - lo).toNat < n → lo ≤ hi + 1 → lo ≤ halveF good lo hi ∧ halveF good lo hi ≤ hi + 1 := by
  intro n
  induction n with
  | zero => intro lo hi hn; omega
  | succ n ih =>
   intro lo hi hn hl
   by_cases hc : lo ≤ hi
   ·by_cases hg : good (lo + (hi - lo) / 2) = true
    ·rw [halveF_yes good lo hi hc hg]
     have := ih lo (lo + (hi - lo) / 2 - 1) (by omega) (by omega)
     omega
    rw [halveF_no good lo hi hc (Bool.eq_false_iff.mpr hg)]
    have := ih (lo + (hi - lo) / 2 + 1) hi (by omega) (by omega)
    omega
   rw [halveF_end good lo hi hc]; omega
 exact key _ lo hi (Nat.lt_succ_self _) h
set_option maxRecDepth 100000 in
set_option maxHeartbeats 40000000 in
theorem chart_Dips.calls (A0_0 : Option Addr) (c0_0 : Nat) (l0_0 : List SRow) (a0_1 : Int) (a1 : Int) (r1 : Int) (r2 : Int) (r3 : Int) (w : World) (hr0_0 : Kd.C kRow w A0_0 l0_0.length l0_0) (hc0_0 : l0_0.length ≤ c0_0) (h : chart_Dips.f l0_0 a0_1 a1 = some (r1, r2, r3)) :
  Calls Try.prog 34 #[.agg #[.slice A0_0 l0_0.length c0_0, .int .i64 a0_1], .int .i64 a1] w fun e w' => e = .returned (.tuple #[.agg #[.int .i64 r1, .int .i64 r2], .int .i64 r3]) ∧ Below w.heap.size w w' := by
 have HE := Aside0.mk (Option.some.inj h)
 have HR := Aside0.mk hr0_0
 have HC := Aside0.mk hc0_0
 clear h hr0_0 hc0_0
 have hu1 := Try.underlying24
 have hu2 := Try.underlying70
 have hu4 := Try.underlying43
 go_enter Try.func34, Try.ntmps34
 go_wp2_with fail
 obtain ⟨V0, hV0⟩ : ∃ V, ((w.alloc (.cells #[.slice A0_0 l0_0.length c0_0, .int .i64 a0_1] 24)).alloc (.cells #[.int .i64 a1] 2)).alloc (.cells #[.int .i64 0, .int .i64 0] 43) = V := ⟨_, rfl⟩
 have K0 : Aside0 (V0.heap[w.heap.size]? = some (.cells #[.slice A0_0 l0_0.length c0_0, .int .i64 a0_1] 24 (0, 0))) := ⟨by rw [← hV0]; exact blk_old (blk_old (blk_new _ _))⟩
 have K1 : Aside0 (V0.heap[w.heap.size + 1]? = some (.cells #[.int .i64 a1] 2 (0, 0))) := ⟨by rw [← hV0]; exact blk_old (blk_new' (by simp))⟩
 have K2 : Aside0 (V0.heap[w.heap.size + 2]? = some (.cells #[.int .i64 0, .int .i64 0] 43 (0, 0))) := ⟨by rw [← hV0]; exact blk_new' (by simp)⟩
 have KB : Aside0 (Below w.heap.size w V0) := ⟨by rw [← hV0]; exact (((Below.refl _ _).alloc (Nat.le_refl _) _).alloc (by simp) _).alloc (by simp; omega) _⟩
 rw [hV0]
 clear hV0
 refine (chart_CheckTank.calls A0_0 c0_0 l0_0 a0_1 (checkTank l0_0 a0_1) _ (Kd.C_below HR.out KB.out) HC.out rfl).mono ?_
 rintro e w1 ⟨rfl, hB1⟩
 have M0 := Aside0.mk (below_blk hB1 K0.out (blk_lt K0.out))
 have M1 := Aside0.mk (below_blk hB1 K1.out (blk_lt K1.out))
 have M2 := Aside0.mk (below_blk hB1 K2.out (blk_lt K2.out))
 have MB := Aside0.mk (below_then KB.out hB1)
 clear hB1 K0 K1 K2 KB V0

 have hfail : ∀ (W : World) (x y : Int), W.heap[w.heap.size + 2]? = some (.cells #[.int .i64 x, .int .i64 y] 43 (0, 0)) → Below w.heap.size w W → ∀ (tmps : Array Value) (r : Int), tmps.getD 4 undef = .pointer (some ⟨w.heap.size + 2, 0, none⟩) → tmps.getD 5 undef = .int .i64 r → x = r1 → y = r2 → r = r3 →
   bodyPost Try.prog Try.f34 (fun e w' => e = .returned (.tuple #[.agg #[.int .i64 r1, .int .i64 r2], .int .i64 r3]) ∧ Below w.heap.size w w') .ret { tmps := tmps, defers := [] } W := by
  intro W x y hW hB tmps r h4 h5 e1 e2 e3
  subst e1 e2 e3
  refine bodyPost_ret (results_arr2 rfl h4 isAggR sizeOfR (SegOk.mk' hW 0 2 (by simp))) rfl ⟨?_, hB⟩
  rw [seg_whole (n := 2) hW rfl, h5]
 have HF := Aside0.mk hfail
 clear hfail
 have x0 : w1.cell? ⟨w.heap.size, 0, none⟩ = some (.slice A0_0 l0_0.length c0_0) := blk_cell M0.out 0
 have x1 : w1.cell? ⟨w.heap.size, 1, none⟩ = some (.int .i64 a0_1) := blk_cell M0.out 1
 have x2 : w1.cell? ⟨w.heap.size + 1, 0, none⟩ = some (.int .i64 a1) := blk_cell M1.out 0
 have y0 : w1.cell? ⟨w.heap.size + 2, 0, none⟩ = some (.int .i64 0) := blk_cell M2.out 0
 have y1 : w1.cell? ⟨w.heap.size + 2, 1, none⟩ = some (.int .i64 0) := blk_cell M2.out 1
 have z0 := blk_frozen M2.out 0
 have z1 := blk_frozen M2.out 1
 by_cases h0 : checkTank l0_0 a0_1 = 0
 ·have H0 := Lib.hid h0
  have HT := Aside0.mk (tankOk_of h0)
  have HE2 := Aside0.mk (HE.out.symm.trans (if_neg (by rw [h0]; simp)))
  rw [h0]
  clear h0 HE
  go_wp2_with fail
  have hBc := MB.out.alloc MB.out.size (.cells #[.int .i64 a1] 2)
  refine (chart_within.calls 0 100000 (some ⟨w1.heap.size, 0, none⟩) 1 [a1] (inB 0 100000 a1) (w1.alloc (.cells #[.int .i64 a1] 2)) (C_arr (l := [a1]) (blk_new _ _) (by simp)) (by simp) (by simp [chart_within.f])).mono ?_
  rintro e w2 ⟨rfl, hB2⟩
  have N0 := Aside0.mk (below_blk hB2 (blk_old M0.out) (by have := blk_lt M0.out; simp; omega))
  have N1 := Aside0.mk (below_blk hB2 (blk_old M1.out) (by have := blk_lt M1.out; simp; omega))
  have N2 := Aside0.mk (below_blk hB2 (blk_old M2.out) (by have := blk_lt M2.out; simp; omega))
  have NB := Aside0.mk (below_then hBc hB2)
  clear hBc hB2 M0 M1 M2 MB x0 x1 x2 y0 y1 z0 z1
  have x0 : w2.cell? ⟨w.heap.size, 0, none⟩ = some (.slice A0_0 l0_0.length c0_0) := blk_cell N0.out 0
  have x1 : w2.cell? ⟨w.heap.size, 1, none⟩ = some (.int .i64 a0_1) := blk_cell N0.out 1
  have y0 : w2.cell? ⟨w.heap.size + 2, 0, none⟩ = some (.int .i64 0) := blk_cell N2.out 0
  have y1 : w2.cell? ⟨w.heap.size + 2, 1, none⟩ = some (.int .i64 0) := blk_cell N2.out 1
  have z0 := blk_frozen N2.out 0
  have z1 := blk_frozen N2.out 1
  cases hin : inB 0 100000 a1 with
  | false =>
   obtain ⟨e1, e2, e3⟩ : r1 = 0 ∧ r2 = 0 ∧ r3 = 3 := by
    have := HE2.out
    rw [if_pos hin] at this
    simpa using this
   have HE3 := Lib.hid e1
   have HE4 := Lib.hid e2
   have HE5 := Lib.hid e3
   clear hin HE2 e1 e2 e3
   go_wp2
   exact HF.out _ 0 0 (put2 _ _ N2.out) (put2_below _ _ NB.out (by omega)) _ _ rfl rfl HE3.out.symm HE4.out.symm HE5.out.symm
  | true =>
   obtain ⟨q0, q1⟩ := (inB_iff 0 100000 a1).1 hin
   have HE3 := Aside0.mk (HE2.out.trans (if_neg (by rw [hin]; simp)))
   clear hin HE2
   go_wp2_with fail
   refine (open_calls A0_0 c0_0 l0_0 a0_1 none 0 [] w2 (Kd.C_below HR.out NB.out) HC.out (C_none _) (Nat.le_refl _)).mono ?_
   rintro e w3 ⟨hB3, hO⟩
   have P0 := Aside0.mk (below_blk hB3 N0.out (blk_lt N0.out))
   have P1 := Aside0.mk (below_blk hB3 N1.out (blk_lt N1.out))
   have P2 := Aside0.mk (below_blk hB3 N2.out (blk_lt N2.out))
   have PB := Aside0.mk (below_then NB.out hB3)
   clear hB3 N0 N1 N2 NB x0 x1 y0 y1 z0 z1
   have hoe : openE l0_0 a0_1 [] = if tightOk l0_0 then 0 else 21 := by
    unfold openE
    rw [if_neg (by rw [H0.out]; simp)]
    simp
   have HOE := Lib.hid hoe
   clear hoe
   rcases hO with ⟨hne, rfl⟩ | ⟨heq, g, rfl, hg0, hG⟩
   ·have ht : tightOk l0_0 = false := by
     rw [HOE.out] at hne
     cases hq : tightOk l0_0 <;> simp [hq] at hne ⊢
    have ho : openE l0_0 a0_1 [] = 21 := by rw [HOE.out, ht]; rfl
    obtain ⟨e1, e2, e3⟩ : r1 = 0 ∧ r2 = 0 ∧ r3 = 21 := by simpa [ht] using HE3.out
    have HE4 := Lib.hid e1
    have HE5 := Lib.hid e2
    have HE6 := Lib.hid e3
    rw [ho]
    clear ho ht hne HOE e1 e2 e3 HE3
    have hlt : w.heap.size + 2 < w3.heap.size := blk_lt P2.out
    have y0 : w3.cell? ⟨w.heap.size + 2, 0, none⟩ = some (.int .i64 0) := blk_cell P2.out 0
    have y1 : w3.cell? ⟨w.heap.size + 2, 1, none⟩ = some (.int .i64 0) := blk_cell P2.out 1
    have z0 := blk_frozen P2.out 0
    have z1 := blk_frozen P2.out 1
    go_wp2
    exact HF.out _ 0 0 (blk_old (put2 _ _ P2.out)) ((put2_below _ _ PB.out (by omega)).alloc (by have := PB.out.size; simp; omega) _) _ _ rfl rfl HE4.out.symm HE5.out.symm HE6.out.symm
   have ht : tightOk l0_0 = true := by
    rw [HOE.out] at heq
    cases hq : tightOk l0_0 <;> simp [hq] at heq ⊢
   have HE4 := Aside0.mk (HE3.out.trans (if_neg (by rw [ht]; simp)))
   clear heq ht HOE HE3
   obtain ⟨W4, hW4⟩ : ∃ W, w3.alloc (.cells #[.pointer (some ⟨g, 0, none⟩)] 90) = W := ⟨_, rfl⟩
   have Q0 : Aside0 (W4.heap[w.heap.size]? = some (.cells #[.slice A0_0 l0_0.length c0_0, .int .i64 a0_1] 24 (0, 0))) := ⟨by rw [← hW4]; exact blk_old P0.out⟩
   have Q1 : Aside0 (W4.heap[w.heap.size + 1]? = some (.cells #[.int .i64 a1] 2 (0, 0))) := ⟨by rw [← hW4]; exact blk_old P1.out⟩
   have Q2 : Aside0 (W4.heap[w.heap.size + 2]? = some (.cells #[.int .i64 0, .int .i64 0] 43 (0, 0))) := ⟨by rw [← hW4]; exact blk_old P2.out⟩
   have Q3 : Aside0 (W4.heap[w3.heap.size]? = some (.cells #[.pointer (some ⟨g, 0, none⟩)] 90 (0, 0))) := ⟨by rw [← hW4]; exact blk_new _ _⟩
   have QB : Aside0 (Below w.heap.size w W4) := ⟨by rw [← hW4]; exact PB.out.alloc PB.out.size _⟩
   have QG : Aside0 (Gauge W4 g A0_0 l0_0.length c0_0 a0_1 (LowAt l0_0 l0_0.length) (HighAt l0_0 l0_0.length)) := ⟨by rw [← hW4]; exact hG.alloc _⟩
   have hx0 : W4.cell? ⟨w.heap.size, 0, none⟩ = some (.slice A0_0 l0_0.length c0_0) := blk_cell Q0.out 0
   have n2 : 2 ≤ l0_0.length := HT.out.n2
   have n16 : l0_0.length ≤ 16 := HT.out.n16
   obtain ⟨ad, rfl, d0, _, _⟩ := row_cells HR.out 0 (by omega)
   obtain ⟨ad', had, e0, _, _⟩ := row_cells HR.out (l0_0.length - 1) (by omega)
   obtain rfl := Option.some.inj had
   clear had
   replace d0 := pw_cell_below QB.out d0
   replace e0 := pw_cell_below QB.out e0
   have i1 : (0 : Int) < l0_0.length := by omega
   have i2 : ((l0_0.length - 1 : Nat) : Int) = (l0_0.length : Int) - 1 := by omega
   have i3 : (l0_0.length : Int) - 1 < l0_0.length := by omega
   have i4 : (0 : Int) ≤ (l0_0.length : Int) - 1 := by omega
   have i5 : ((l0_0.length : Int) - 1).toNat = l0_0.length - 1 := by omega
   obtain ⟨a, ha⟩ : ∃ a, a = (l0_0.getD 0 zRow).f0 := ⟨_, rfl⟩
   obtain ⟨b, hb⟩ : ∃ b, b = (l0_0.getD (l0_0.length - 1) zRow).f0 := ⟨_, rfl⟩
   rw [← ha] at d0
   rw [← hb] at e0
   replace d0 : W4.cell? ad = some (.int .i64 a) := by rw [Nat.zero_mul, addr_add0] at d0; exact d0
   have HA := Lib.hid (show firstD l0_0 = a by rw [ha]; rfl)
   have HB := Lib.hid (show lastD l0_0 = b by rw [hb]; rfl)
   have hfl := HT.out.first_last
   rw [HA.out, HB.out] at hfl
   obtain ⟨f0, f1, f2⟩ := hfl
   obtain ⟨gb, hgb⟩ : ∃ gb, gb = w3.heap.size := ⟨_, rfl⟩
   have hgb2 : w.heap.size + 2 < gb := by rw [hgb]; exact blk_lt P2.out
   rw [← hgb] at Q3
   have HGB := Lib.hid hgb
   have HW4 := Lib.hid hW4
   clear ha hb hG hg0 P0 P1 P2 hW4 hgb
   go_wp2_with fail
   rw [HW4.out, ← HGB.out]
   clear HW4 HGB PB
   (refine start_ (n := 16) (S := fun w' => Below (World.heap _).size _ w') (ds := []) (List.toArray (false :: false :: false :: false :: false :: false :: false :: false :: false :: false :: false :: false :: false :: false :: false :: false :: [])) (by kernel_rfl) rfl rfl (belowDrew _) (fun plS => ?_); refine pureY (i := 0) (N := (some 35)) ?_; refine pureY (i := 5) (N := (some 40)) ?_; refine pureY (i := 7) (N := (some 42)) ?_; refine takeF (i := 1) (N := (some 36)) (hS := plS) (hy := by (intro w' hw'; replace hw' : Below (World.heap W4).size W4 w' := hw'; have q0 := pw_cell_below hw' hx0; have q1 := pw_cell_below hw' e0; have q2 := pw_cell_below hw' d0; exact yieldA)) (h := ?_); refine pureY (i := 2) (N := (some 37)) ?_; refine pureY (i := 3) (N := (some 38)) ?_; refine takeF (i := 4) (N := (some 39)) (hS := plS) (hy := by (intro w' hw'; replace hw' : Below (World.heap W4).size W4 w' := hw'; have q0 := pw_cell_below hw' hx0; have q1 := pw_cell_below hw' e0; have q2 := pw_cell_below hw' d0; exact yieldA)) (h := ?_); refine pureY (i := 14) (N := (some 8)) ?_; refine takeF (i := 6) (N := (some 41)) (hS := plS) (hy := by (intro w' hw'; replace hw' : Below (World.heap W4).size W4 w' := hw'; have q0 := pw_cell_below hw' hx0; have q1 := pw_cell_below hw' e0; have q2 := pw_cell_below hw' d0; exact yieldA)) (h := ?_); refine takeF (i := 8) (N := (some 43)) (hS := plS) (hy := by (intro w' hw'; replace hw' : Below (World.heap W4).size W4 w' := hw'; have q0 := pw_cell_below hw' hx0; have q1 := pw_cell_below hw' e0; have q2 := pw_cell_below hw' d0; exact yieldA)) (h := ?_); refine pureY (i := 9) (N := (some 44)) ?_; refine pureY (i := 10) (N := (some 45)) ?_; refine pureY (i := 11) (N := (some 46)) ?_; refine pureY (i := 12) (N := (some 47)) ?_; refine takeF (i := 13) (N := (some 48)) (hS := plS) (hy := by (intro w' hw'; replace hw' : Below (World.heap W4).size W4 w' := hw'; have q0 := pw_cell_below hw' hx0; have q1 := pw_cell_below hw' e0; have q2 := pw_cell_below hw' d0; exact yieldA)) (h := ?_); refine pureY (i := 15) (N := (some 9)) ?_; refine done_ (by kernel_rfl) ?_)
   clear d0 e0 hx0 i1 i2 i3 i4 i5
   go_wp2_with fail
   obtain ⟨W5, hW5⟩ : ∃ W, (W4.alloc (.cells #[.func (.func 71) #[] #[.pointer (some ⟨gb, 0, none⟩), .pointer (some ⟨w.heap.size, 0, none⟩), .pointer (some ⟨w.heap.size + 1, 0, none⟩)]] 119)).drew = W := ⟨_, rfl⟩
   have hb5 : Below W4.heap.size W4 W5 := by rw [← hW5]; exact ((Below.refl _ _).alloc (Nat.le_refl _) _).drew
   have R2 := Aside0.mk (below_blk hb5 Q2.out (blk_lt Q2.out))
   have RO : Aside0 (W5.heap[W4.heap.size]? = some (.cells #[.func (.func 71) #[] #[.pointer (some ⟨gb, 0, none⟩), .pointer (some ⟨w.heap.size, 0, none⟩), .pointer (some ⟨w.heap.size + 1, 0, none⟩)]] 119 (0, 0))) := ⟨by rw [← hW5]; exact blk_new W4 _⟩
   have RC : Aside0 (Caught W5 gb w.heap.size (w.heap.size + 1) g (some ad) c0_0 l0_0 a0_1 a1) := ⟨(Caught.mk Q3.out Q0.out Q1.out QG.out (Kd.C_below HR.out QB.out)).below hb5⟩
   have RB := Aside0.mk (below_then QB.out hb5)
   rw [hW5]
   clear hW5 hb5 Q0 Q1 Q2 Q3 QB QG
   have hp2 : PredIn W5 73 #[.pointer (some ⟨W4.heap.size, 0, none⟩), .pointer (some ⟨gb, 0, none⟩)] (fun d => decide (0 ≤ overF l0_0 (highs l0_0) a1 d)) a b := fun W n hn1 hn2 hW =>
    dips2_calls W4.heap.size gb w.heap.size (w.heap.size + 1) g (some ad) c0_0 l0_0 a0_1 a1 n W (RC.out.below hW) HT.out (below_blk hW RO.out (blk_lt RO.out)) q0 q1 (by omega) (by omega)
   refine (halve_calls a b (by omega) (by omega) _ _ _ W5 hp2 f1 (enters_ Try.func73 (by kernel_rfl) rfl)).mono ?_
   rintro e w6 ⟨rfl, hB6⟩
   have S2 := Aside0.mk (below_blk hB6 R2.out (blk_lt R2.out))
   have SO := Aside0.mk (below_blk hB6 RO.out (blk_lt RO.out))
   have SC := Aside0.mk (RC.out.below hB6)
   have SB := Aside0.mk (below_then RB.out hB6)
   have HF1 := Lib.hid (show dipsFrom l0_0 a1 = halveF (fun d => decide (0 ≤ overF l0_0 (highs l0_0) a1 d)) a b by unfold dipsFrom; rw [HA.out, HB.out])
   have HF2 := Lib.hid (show dipsTo l0_0 a1 = halveF (fun d => decide (0 < overF l0_0 (lows l0_0) a1 d)) a b - 1 by unfold dipsTo; rw [HA.out, HB.out])
   have hi1 := halveF_in (fun d => decide (0 ≤ overF l0_0 (highs l0_0) a1 d)) a b (by omega)
   have hi2 := halveF_in (fun d => decide (0 < overF l0_0 (lows l0_0) a1 d)) a b (by omega)
   obtain ⟨X, hX⟩ : ∃ X, X = halveF (fun d => decide (0 ≤ overF l0_0 (highs l0_0) a1 d)) a b := ⟨_, rfl⟩
   obtain ⟨Y, hY⟩ : ∃ Y, Y = halveF (fun d => decide (0 < overF l0_0 (lows l0_0) a1 d)) a b := ⟨_, rfl⟩
   have HY := Lib.hid hY
   rw [← hX] at HF1 hi1 ⊢
   rw [← hY] at HF2 hi2
   clear hp2 hB6 RC RB RO R2 hX hY
   obtain ⟨j1, j2⟩ := hi1
   obtain ⟨j3, j4⟩ := hi2
   go_wp2_with fail
   have hp3 : PredIn w6 74 #[.pointer (some ⟨W4.heap.size, 0, none⟩), .pointer (some ⟨gb, 0, none⟩)] (fun d => decide (0 < overF l0_0 (lows l0_0) a1 d)) a b := fun W n hn1 hn2 hW =>
    dips3_calls W4.heap.size gb w.heap.size (w.heap.size + 1) g (some ad) c0_0 l0_0 a0_1 a1 n W (SC.out.below hW) HT.out (below_blk hW SO.out (blk_lt SO.out)) q0 q1 (by omega) (by omega)
   refine (halve_calls a b (by omega) (by omega) _ _ _ w6 hp3 f1 (enters_ Try.func74 (by kernel_rfl) rfl)).mono ?_
   rintro e w7 ⟨rfl, hB7⟩
   rw [← HY.out]
   have T2 := Aside0.mk (below_blk hB7 S2.out (blk_lt S2.out))
   have TB := Aside0.mk (below_then SB.out hB7)
   have y0 : w7.cell? ⟨w.heap.size + 2, 0, none⟩ = some (.int .i64 0) := blk_cell T2.out 0
   have y1 : w7.cell? ⟨w.heap.size + 2, 1, none⟩ = some (.int .i64 0) := blk_cell T2.out 1
   have z0 := blk_frozen T2.out 0
   have z1 := blk_frozen T2.out 1
   clear hp3 hB7 SC SB SO S2 HY
   by_cases hXY : Y - 1 < X
   ·have HR3 : Hid (0 = r1 ∧ 0 = r2 ∧ 17 = r3) := Lib.hid (by
     have := HE4.out
     rw [HF1.out, HF2.out, if_pos hXY] at this
     simpa [eq_comm] using this)
    clear HE4
    go_wp2
    exact HF.out _ 0 0 (put2 _ _ T2.out) (put2_below _ _ TB.out (by omega)) _ _ rfl rfl HR3.out.1 HR3.out.2.1 HR3.out.2.2
   have HR3 : Hid (X = r1 ∧ Y - 1 = r2 ∧ 0 = r3) := Lib.hid (by
    have := HE4.out
    rw [HF1.out, HF2.out, if_neg hXY] at this
    simpa [eq_comm] using this)
   clear HE4
   go_wp2
   exact HF.out _ X (Y - 1) (put2 _ _ T2.out) (put2_below _ _ TB.out (by omega)) _ _ rfl rfl HR3.out.1 HR3.out.2.1 HR3.out.2.2
 have H0 := Lib.hid h0
 have hb : ((checkTank l0_0 a0_1) == 0) = false := by simpa using h0
 have hb' : ((checkTank l0_0 a0_1) != 0) = true := by simpa using h0
 have HE3 : Hid (r1 = 0 ∧ r2 = 0 ∧ r3 = checkTank l0_0 a0_1) := Lib.hid (by
  have := HE.out
  rw [if_pos h0] at this
  simp only [Prod.mk.injEq] at this
  exact ⟨this.1.symm, this.2.1.symm, this.2.2.symm⟩)
 clear HE
 go_wp2
 exact HF.out _ 0 0 (put2 _ _ M2.out) (put2_below _ _ MB.out (by omega)) _ _ rfl rfl HE3.out.1.symm HE3.out.2.1.symm HE3.out.2.2.symm
end Go.Proofs.Ytpkajhmchcbbhaa.P
end
