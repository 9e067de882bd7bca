/- Part 22 of 42. -/
import Derived.Test.YtpkajhmchcbbhaaA19
set_option linter.unusedSimpArgs false
set_option linter.unusedVariables false
section
namespace Go.Proofs.Ytpkajhmchcbbhaa.P
open Go.RowKit Go.Proofs.YtpkajhmchcbbhaaW.PrintWords Go.Proofs.YtpkajhmchcbbhaaW.PrintLast Go.Proofs.YtpkajhmchcbbhaaW.PrintMore
attribute [local go_sem] max2_mx min2_mn max_two min_two
set_option maxRecDepth 100000 in
set_option maxHeartbeats 4000000 in
theorem truly_calls (g : Nat) (A : Option Addr) (c : Nat) (l : List SRow) (p : Int) (lo hi : List Int) (dip : Int) (w : World) (hr : Kd.C kRow w A l.length l) (hD : DipOk l) (hd0 : -100000 ≤ dip) (hd1 : dip ≤ 100000) (hp0 : 0 ≤ p) (hp1 : p ≤ 50)
  (hg : Gauge w g A l.length c p lo hi) :
  Calls Try.prog 82 #[.pointer (some ⟨g, 0, none⟩), .int .i64 dip] w fun e w' => e = .returned (.agg #[.int .i64 (trueLo l p dip), .int .i64 (trueHi l p dip)]) ∧ Below w.heap.size w w' := by
 have HR := Aside0.mk hr
 have hc0 := hg.c0
 have hc1 := hg.c1
 have hgl := hg.lt
 have n2 := hD.n2
 have n16 := hD.n16
 clear hg hr hD
 have hu1 := Try.underlying24
 have hu2 := Try.underlying70
 have hu3 := Try.underlying99
 have hu4 := Try.underlying43
 obtain ⟨ad, rfl, d0, x1, x2⟩ := row_cells HR.out 0 (by omega)
 obtain ⟨ad', had, d1, x3, x4⟩ := row_cells HR.out (l.length - 1) (by omega)
 obtain rfl := Option.some.inj had
 clear had x1 x2 x3 x4
 have i0 : (0 : Int) < l.length := by omega
 have i2 : ((l.length : Int) - 1).toNat = l.length - 1 := by omega
 have i3 : (l.length : Int) - 1 < l.length := by omega
 have i4 : (0 : Int) ≤ (l.length : Int) - 1 := by omega
 have i5 : (1 : Int) ≤ (l.length : Int) := by omega
 obtain ⟨a, ha⟩ : ∃ a, a = (l.getD 0 zRow).f0 := ⟨_, rfl⟩
 obtain ⟨b, hb⟩ : ∃ b, b = (l.getD (l.length - 1) zRow).f0 := ⟨_, rfl⟩
 rw [← ha] at d0
 rw [← hb] at d1
 replace d0 : w.cell? ad = some (.int .i64 a) := by rw [Nat.zero_mul, addr_add0] at d0; exact d0
 have H1 := Lib.hid (show trueLo l p dip = mx a (dip - p) by rw [ha]; rfl)
 have H2 := Lib.hid (show trueHi l p dip = mn b (dip + p) by rw [hb]; rfl)
 clear ha hb
 go_enter Try.func82, Try.ntmps82
 go_wp2_with fail
 obtain ⟨W1, hW1⟩ : ∃ W1, w.alloc (.cells #[.int .i64 0, .int .i64 0] 43) = W1 := ⟨_, rfl⟩
 have hB1 : Below w.heap.size w W1 := by rw [← hW1]; exact (Below.refl _ _).alloc (Nat.le_refl _) _
 have HK : Aside0 (W1.heap[w.heap.size]? = some (.cells #[.int .i64 0, .int .i64 0] 43 (0, 0))) := ⟨by rw [← hW1]; exact blk_new _ _⟩
 rw [hW1]
 replace d0 := pw_cell_below hB1 d0
 replace d1 := pw_cell_below hB1 d1
 replace hc0 := pw_cell_below hB1 hc0
 replace hc1 := pw_cell_below hB1 hc1
 have hk0 := blk_cell HK.out 0
 have hk1 := blk_cell HK.out 1
 have hkf0 := blk_frozen HK.out 0
 have hkf1 := blk_frozen HK.out 1
 have HB1 := Aside0.mk hB1
 clear hW1 hB1
 (refine start_ (n := 41) (S := fun w' => w' = _) (ds := [40]) (List.toArray (false :: false :: false :: false :: false :: false :: false :: false :: false :: false :: false :: false :: false :: false :: false :: false :: false :: false :: false :: false :: false :: false :: false :: false :: false :: false :: false :: false :: false :: false :: false :: false :: false :: false :: false :: false :: false :: false :: false :: false :: false :: [])) (by kernel_rfl) rfl rfl rfl (fun plS => ?_); clear plS; refine pureY (i := 0) (N := (some 5)) ?_; refine pureY (i := 1) (N := (some 6)) ?_; refine pureY (i := 2) (N := (some 7)) ?_; refine pureY (i := 3) (N := (some 8)) ?_; refine pureY (i := 8) (N := (some 13)) ?_; refine pureY (i := 9) (N := (some 14)) ?_; refine pureY (i := 10) (N := (some 15)) ?_; refine pureY (i := 11) (N := (some 16)) ?_; refine pureY (i := 12) (N := (some 17)) ?_; refine pureY (i := 16) (N := (some 21)) ?_; refine pureY (i := 17) (N := (some 22)) ?_; refine pureY (i := 18) (N := (some 23)) ?_; refine pureY (i := 19) (N := (some 24)) ?_; refine pureY (i := 21) (N := (some 26)) ?_; refine pureY (i := 22) (N := (some 27)) ?_; refine pureY (i := 23) (N := (some 28)) ?_; refine pureY (i := 24) (N := (some 29)) ?_; refine pureY (i := 31) (N := (some 36)) ?_; refine pureY (i := 32) (N := (some 37)) ?_; refine pureY (i := 33) (N := (some 38)) ?_; refine pureY (i := 34) (N := (some 39)) ?_; refine pureY (i := 35) (N := (some 40)) ?_; refine takeE (i := 4) (N := (some 9)) ?_; refine pureY (i := 5) (N := (some 10)) ?_; refine pureY (i := 6) (N := (some 11)) ?_; refine takeE (i := 7) (N := (some 12)) ?_; refine takeE (i := 13) (N := (some 18)) ?_; refine pureY (i := 14) (N := (some 19)) ?_; refine pureY (i := 15) (N := (some 20)) ?_; refine takeE (i := 20) (N := (some 25)) ?_; refine takeE (i := 25) (N := (some 30)) ?_; refine pureY (i := 26) (N := (some 31)) ?_; refine pureY (i := 27) (N := (some 32)) ?_; refine pureY (i := 28) (N := (some 33)) ?_; refine pureY (i := 29) (N := (some 34)) ?_; refine takeE (i := 30) (N := (some 35)) ?_; refine takeE (i := 36) (N := (some 41)) ?_; refine pureY (i := 37) (N := (some 42)) ?_; refine pureY (i := 38) (N := (some 43)) ?_; refine pureY (i := 39) (N := (some 44)) ?_; refine lastY (i := 40) (fun plK plH => ?_); rw [if_pos (by rfl)]; (first | gi_big_move | go_big_op | go_simp))
 ((try simp only [Act.put, List.getElem_toArray, List.getElem_cons_succ, List.getElem_cons_zero, List.setIfInBounds_toArray, List.set_cons_succ, List.set_cons_zero]); refine plH _ _ ?_; clear plH plK; refine done_ (by kernel_rfl) ?_)
 go_wp2
 have hfin := blk_put (blk_put HK.out 0 (.int .i64 (mx a (dip - p))) rfl) 1 (.int .i64 (mn b (dip + p))) rfl
 refine bodyPost_ret (results_arr1 rfl rfl isAggR sizeOfR (SegOk.mk' hfin 0 2 (by simp))) rfl ⟨?_, ?_⟩
 ·rw [seg_drew, seg_whole (n := 2) hfin rfl, H1.out, H2.out]
  rfl
 exact ((HB1.out.setCell (p := ⟨w.heap.size, 0, none⟩) (Nat.le_refl _) _).setCell (p := ⟨w.heap.size, 1, none⟩) (Nat.le_refl _) _).drew
end Go.Proofs.Ytpkajhmchcbbhaa.P
end
