/- Part 36 of 38. -/
import Derived.Test.YtpkajhmchcbbhaaH14
import Derived.Test.YtpkajhmchcbbhaaH33
import Derived.Test.YtpkajhmchcbbhaaH31
import Derived.Test.YtpkajhmchcbbhaaH20
import Derived.Test.YtpkajhmchcbbhaaH27
import Derived.Test.YtpkajhmchcbbhaaH28
import Derived.Test.YtpkajhmchcbbhaaH9
import Derived.Test.YtpkajhmchcbbhaaH7
import Derived.Test.YtpkajhmchcbbhaaH8
import Derived.Test.YtpkajhmchcbbhaaH11
set_option linter.unusedSimpArgs false
set_option linter.unusedVariables false
section
namespace Go.Proofs.Ytpkajhmchcbbhaa.P
open Go Go.BigFrame Go.RowKit Go.Proofs.YtpkajhmchcbbhaaW.PrintWords Go.Proofs.YtpkajhmchcbbhaaW.PrintLast Go.Proofs.YtpkajhmchcbbhaaW.PrintMore
set_option maxRecDepth 100000 in
set_option maxHeartbeats 40000000 in
theorem eitherC_calls (A : Option Addr) (c : Nat) (l : List SRow) (p : Int) (A1 : Option Addr) (c1 : Nat) (l1 : List Int) (x0 x1 : Int) (k : Nat) (w w0 : World)
  (HR_0 : Aside0 (Kd.C kRow w0 A l.length l)) (HC : Hid (l.length ≤ c)) (HQ_0 : Aside0 (Kd.C (Kd.int .i64) w0 A1 l1.length l1)) (HC1 : Hid (l1.length ≤ c1)) (HB_0 : Aside0 (Below w.heap.size w w0))
  (h25 : Bool) (q : Int) (H1 : Hid (forecourtlaw01_great.f l p = some h25)) (H2 : Hid (h25 = false → forecourtref01_CheckTank.f k l p = some q)) (H3 : Hid (h25 = false → q = 0 → (l1.length : Int) > 40)) :
  Calls Try.prog 8 #[.agg #[.slice A l.length c, .int .i64 p], .slice A1 l1.length c1, .agg #[.int .u8 x0, .int .u8 x1]] w0 fun e w' => e = .returned (.bool true) ∧ Below w.heap.size w w' := by
 have hu1 := Try.underlying24
 have hu2 := Try.underlying70
 have hu3 := Try.underlying43
 have hu4 := Try.underlying28
 have hu5 := Try.underlying22
 have hu6 := Try.underlying62
 have HF_0 : Aside0 (Held [] w0) := ⟨⟨fun b cs t hm => by simp at hm⟩⟩
 go_enter Try.func8, Try.ntmps8
 go_wp2_with fail
 obtain ⟨w0a, hZ⟩ : ∃ Z, w0.alloc (.cells #[.slice A l.length c, .int .i64 p] 24) = Z := ⟨_, rfl⟩
 obtain ⟨tb, hbk⟩ : ∃ b, b = w0.heap.size := ⟨_, rfl⟩
 have HF_0a : Aside0 (Held [(tb, #[.slice A l.length c, .int .i64 p], 24)] w0a) := ⟨by rw [← hZ, hbk]; exact HF_0.out.new _ _⟩
 have HSZ := Lib.hid (show w0a.heap.size = tb + 1 by rw [← hZ, hbk]; simp)
 have HR_0a : Aside0 (Kd.C kRow w0a A l.length l) := ⟨by rw [← hZ]; exact Kd.C_below HR_0.out ((Below.refl _ _).alloc (Nat.le_refl _) _)⟩
 have HQ_0a : Aside0 (Kd.C (Kd.int .i64) w0a A1 l1.length l1) := ⟨by rw [← hZ]; exact Kd.C_below HQ_0.out ((Below.refl _ _).alloc (Nat.le_refl _) _)⟩
 have HB_0a : Aside0 (Below w.heap.size w w0a) := ⟨by rw [← hZ]; exact HB_0.out.alloc HB_0.out.size _⟩
 rw [hZ, ← hbk]
 clear hZ hbk HF_0 HB_0 HR_0 HQ_0 w0
 obtain ⟨w0aa, hZ⟩ : ∃ Z, w0a.alloc (.cells #[.int .u8 x0, .int .u8 x1] 62) = Z := ⟨_, rfl⟩
 obtain ⟨rb, hbk⟩ : ∃ b, b = tb + 1 := ⟨_, rfl⟩
 have HF_0aa : Aside0 (Held [(rb, #[.int .u8 x0, .int .u8 x1], 62), (tb, #[.slice A l.length c, .int .i64 p], 24)] w0aa) := ⟨by rw [← hZ, hbk, ← HSZ.out]; exact HF_0a.out.new _ _⟩
 have HR_0aa : Aside0 (Kd.C kRow w0aa A l.length l) := ⟨by rw [← hZ]; exact Kd.C_below HR_0a.out ((Below.refl _ _).alloc (Nat.le_refl _) _)⟩
 have HQ_0aa : Aside0 (Kd.C (Kd.int .i64) w0aa A1 l1.length l1) := ⟨by rw [← hZ]; exact Kd.C_below HQ_0a.out ((Below.refl _ _).alloc (Nat.le_refl _) _)⟩
 have HB_0aa : Aside0 (Below w.heap.size w w0aa) := ⟨by rw [← hZ]; exact HB_0a.out.alloc HB_0a.out.size _⟩
 rw [hZ, ← hbk]
 clear hZ hbk HSZ HF_0a HB_0a HR_0a HQ_0a w0a
 refine (forecourtlaw01_great.calls A c l p h25 w0aa HR_0aa.out HC.out H1.out).mono ?_
 rintro e w1 ⟨rfl, hB⟩
 have HF_1 := Aside0.mk (HF_0aa.out.below hB)
 have HB_1 := Aside0.mk (below_then HB_0aa.out hB)
 have HR_1 := Aside0.mk (Kd.C_below HR_0aa.out hB)
 have HQ_1 := Aside0.mk (Kd.C_below HQ_0aa.out hB)
 clear hB HF_0aa HB_0aa HR_0aa HQ_0aa w0aa
 cases h25 with
 | true =>
  go_wp2_with fail
  refine (forecourtlaw01_Works.calls true w1 ⟨rfl⟩ rfl).mono ?_
  rintro e wz ⟨rfl, hB⟩
  go_wp2_with fail
  go_ret
  exact ⟨rfl, below_then HB_1.out hB⟩
 | false =>
 have hH := HF_1.out.get tb #[.slice A l.length c, .int .i64 p] 24 (by simp)
 have hltb := blk_lt hH
 have ctb0 : w1.cell? ⟨tb, 0, none⟩ = some (.slice A l.length c) := (blk_cell hH 0).trans rfl
 have ctb1 : w1.cell? ⟨tb, 1, none⟩ = some (.int .i64 p) := (blk_cell hH 1).trans rfl
 clear hH
 go_wp2_with fail
 clear hltb ctb0 ctb1
 refine (forecourtref01_CheckTank.calls k A c l p q w1 HR_1.out HC.out (H2.out (by trivial))).mono ?_
 rintro e w2 ⟨rfl, hB⟩
 have HF_2 := Aside0.mk (HF_1.out.below hB)
 have HB_2 := Aside0.mk (below_then HB_1.out hB)
 have HR_2 := Aside0.mk (Kd.C_below HR_1.out hB)
 have HQ_2 := Aside0.mk (Kd.C_below HQ_1.out hB)
 clear hB HF_1 HB_1 HR_1 HQ_1 w1
 by_cases hq : q = 0
 rotate_left
 ·have hq2 : (q != 0) = true := by simpa using hq
  go_wp2_with fail
  refine (forecourtlaw01_Works.calls true w2 ⟨rfl⟩ rfl).mono ?_
  rintro e wz ⟨rfl, hB⟩
  go_wp2_with fail
  go_ret
  exact ⟨rfl, below_then HB_2.out hB⟩
 subst hq
 have h40 := H3.out (by trivial) (by trivial)
 have hd : decide ((l1.length : Int) > 40) = true := decide_eq_true h40
 go_wp2_with fail
 refine (forecourtlaw01_Works.calls true w2 ⟨rfl⟩ rfl).mono ?_
 rintro e wz ⟨rfl, hB⟩
 go_wp2_with fail
 go_ret
 exact ⟨rfl, below_then HB_2.out hB⟩
end Go.Proofs.Ytpkajhmchcbbhaa.P
end
