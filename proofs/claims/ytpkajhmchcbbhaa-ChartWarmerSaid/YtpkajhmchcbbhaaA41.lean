/- Part 41 of 42. -/
import Derived.Test.YtpkajhmchcbbhaaA0
import Derived.Test.YtpkajhmchcbbhaaA26
import Derived.Test.YtpkajhmchcbbhaaA40
import Derived.Test.YtpkajhmchcbbhaaA19
set_option linter.unusedSimpArgs false
set_option linter.unusedVariables false
section
namespace Go.Proofs.Ytpkajhmchcbbhaa.P
open Go.RowKit Go.Proofs.YtpkajhmchcbbhaaW.PrintWords Go.Proofs.YtpkajhmchcbbhaaW.PrintLast Go.Proofs.YtpkajhmchcbbhaaW.PrintMore
attribute [local go_sem high] eqA39 eqA43 eqA48
attribute [local go_sem] max2_mx min2_mn max_two min_two
set_option maxRecDepth 100000 in
set_option maxHeartbeats 80000000 in
theorem warm_calls (k : Nat) (a0 a1 b0 b1 c0 c1 d0 d1 d2 d3 e0 e1 n m W0 W1 S0 S1 X0 X1 Y0 Y1 p q z1 z2 z3 z4 z5 z6 z7 z8 z9 z10 z11 r1 r2 r4 r5 r6 u1 u2 u3 v1 v2 : Int) (w w0 : World) (HB_0 : Aside0 (Below w.heap.size w w0))
  (ha0 : 0 ≤ a0 ∧ a0 ≤ 4294967295) (ha1 : 0 ≤ a1 ∧ a1 ≤ 4294967295) (hb0 : 0 ≤ b0 ∧ b0 ≤ 65535) (hb1 : 0 ≤ b1 ∧ b1 ≤ 65535) (hc0 : 0 ≤ c0 ∧ c0 ≤ 65535) (hc1 : 0 ≤ c1 ∧ c1 ≤ 65535)
  (hd0 : 0 ≤ d0 ∧ d0 ≤ 255) (hd1 : 0 ≤ d1 ∧ d1 ≤ 255) (hd2 : 0 ≤ d2 ∧ d2 ≤ 255) (hd3 : 0 ≤ d3 ∧ d3 ≤ 255) (he0 : 0 ≤ e0 ∧ e0 ≤ 65535) (he1 : 0 ≤ e1 ∧ e1 ≤ 65535)
  (g1 : a0.tmod 100001 = n) (g2 : IntKind.i64.wrap (n + a1) = z1) (g3 : mn 100000 z1 = m)
  (g4 : b0.tmod 801 = r1) (g5 : IntKind.i64.wrap (r1 - 400) = W0) (g6 : b1.tmod 100 = r2) (g7 : IntKind.i64.wrap (W0 + r2) = z2) (g8 : mn 400 z2 = W1)
  (g9 : c0.tmod 201 = S0) (g10 : c1.tmod 50 = r4) (g11 : IntKind.i64.wrap (S0 + r4) = z3) (g12 : mn 200 z3 = S1)
  (g13 : IntKind.i64.wrap (W0 - d0) = z4) (g14 : mx (-400) z4 = X0) (g15 : IntKind.i64.wrap (W1 + d1) = z5) (g16 : mn 400 z5 = X1)
  (g17 : IntKind.i64.wrap (S0 - d2) = z6) (g18 : mx 0 z6 = Y0) (g19 : IntKind.i64.wrap (S1 + d3) = z7) (g20 : mn 200 z7 = Y1)
  (g21 : IntKind.i64.wrap (W1 - W0) = z8) (g22 : IntKind.i64.wrap (z8 + 1) = z9) (g23 : e0.tmod z9 = r5) (g24 : IntKind.i64.wrap (W0 + r5) = p) (k9 : ¬ z9 = 0)
  (g25 : IntKind.i64.wrap (S1 - S0) = z10) (g26 : IntKind.i64.wrap (z10 + 1) = z11) (g27 : e1.tmod z11 = r6) (g28 : IntKind.i64.wrap (S0 + r6) = q) (k11 : ¬ z11 = 0)
  (g29 : IntKind.i64.wrap (1000000 * n) = u1) (g30 : IntKind.i64.wrap (p * q) = u2) (g31 : IntKind.i64.wrap (1000000 + u2) = u3)
  (hr1 : 0 ≤ r1 ∧ r1 ≤ 801) (hr2 : 0 ≤ r2 ∧ r2 ≤ 100) (hr4 : 0 ≤ r4 ∧ r4 ≤ 50) (hr5 : 0 ≤ r5 ∧ r5 ≤ 1000) (hr6 : 0 ≤ r6 ∧ r6 ≤ 1000) (hn : 0 ≤ n ∧ n ≤ 100000) (hS0 : 0 ≤ S0 ∧ S0 ≤ 200)
  (HW : Aside0 (Warm n m W0 W1 S0 S1 X0 X1 Y0 Y1 p q)) (HV : Aside0 (forecourtref01_Fraction.f k u1 u3 = some (v1, v2))) (HL1 : Aside0 (forecourtref01_Less.f v1 v2 (wLo1 n W1 S0 S1) (wLo2 n W1 S0 S1) = some false)) (HL2 : Aside0 (forecourtref01_Less.f (wHi1 n W0 S0 S1) (wHi2 n W0 S0 S1) v1 v2 = some false)) :
  Calls Try.prog 13 #[.int .u32 a0, .int .u32 a1, .agg #[.int .u16 b0, .int .u16 b1], .agg #[.int .u16 c0, .int .u16 c1], .agg #[.int .u8 d0, .int .u8 d1, .int .u8 d2, .int .u8 d3], .agg #[.int .u16 e0, .int .u16 e1]] w0 fun e w' => e = .returned (.bool true) ∧ Below w.heap.size w w' := by
 have hu2 := Try.underlying39
 have hu3 := Try.underlying43
 have hu4 := Try.underlying48
 have hu5 := Try.underlying61
 have hu6 := Try.underlying87
 have HF_0 : Aside0 (Held [] w0) := ⟨⟨fun b cs t hm => by simp at hm⟩⟩
 go_enter Try.func13, Try.ntmps13
 go_wp2_with fail
 obtain ⟨w0a, hZ⟩ : ∃ Z, w0.alloc (.cells #[.int .u16 b0, .int .u16 b1] 61) = Z := ⟨_, rfl⟩
 obtain ⟨wab, hbk⟩ : ∃ b, b = w0.heap.size := ⟨_, rfl⟩
 have HF_0a : Aside0 (Held [(wab, #[.int .u16 b0, .int .u16 b1], 61)] w0a) := ⟨by rw [← hZ, hbk]; exact HF_0.out.new _ _⟩
 have HSZ := Lib.hid (show w0a.heap.size = wab + 1 by rw [← hZ, hbk]; simp)
 have HB_0a : Aside0 (Below w.heap.size w w0a) := ⟨by rw [← hZ]; exact HB_0.out.alloc HB_0.out.size _⟩
 rw [hZ, ← hbk]
 clear hZ hbk HF_0 HB_0  w0
 obtain ⟨w0aa, hZ⟩ : ∃ Z, w0a.alloc (.cells #[.int .u16 c0, .int .u16 c1] 61) = Z := ⟨_, rfl⟩
 obtain ⟨swb, hbk⟩ : ∃ b, b = wab + 1 := ⟨_, rfl⟩
 have HF_0aa : Aside0 (Held [(swb, #[.int .u16 c0, .int .u16 c1], 61), (wab, #[.int .u16 b0, .int .u16 b1], 61)] w0aa) := ⟨by rw [← hZ, hbk, ← HSZ.out]; exact HF_0a.out.new _ _⟩
 have HSZ2 := Lib.hid (show w0aa.heap.size = swb + 1 by rw [← hZ, hbk, ← HSZ.out]; simp)
 have HB_0aa : Aside0 (Below w.heap.size w w0aa) := ⟨by rw [← hZ]; exact HB_0a.out.alloc HB_0a.out.size _⟩
 rw [hZ, ← hbk]
 clear hZ hbk HSZ HF_0a HB_0a  w0a
 have HSZ := HSZ2
 clear HSZ2
 obtain ⟨w0aaa, hZ⟩ : ∃ Z, w0aa.alloc (.cells #[.int .u8 d0, .int .u8 d1, .int .u8 d2, .int .u8 d3] 87) = Z := ⟨_, rfl⟩
 obtain ⟨wdb, hbk⟩ : ∃ b, b = swb + 1 := ⟨_, rfl⟩
 have HF_0aaa : Aside0 (Held [(wdb, #[.int .u8 d0, .int .u8 d1, .int .u8 d2, .int .u8 d3], 87), (swb, #[.int .u16 c0, .int .u16 c1], 61), (wab, #[.int .u16 b0, .int .u16 b1], 61)] w0aaa) := ⟨by rw [← hZ, hbk, ← HSZ.out]; exact HF_0aa.out.new _ _⟩
 have HSZ2 := Lib.hid (show w0aaa.heap.size = wdb + 1 by rw [← hZ, hbk, ← HSZ.out]; simp)
 have HB_0aaa : Aside0 (Below w.heap.size w w0aaa) := ⟨by rw [← hZ]; exact HB_0aa.out.alloc HB_0aa.out.size _⟩
 rw [hZ, ← hbk]
 clear hZ hbk HSZ HF_0aa HB_0aa  w0aa
 have HSZ := HSZ2
 clear HSZ2
 obtain ⟨w0aaaa, hZ⟩ : ∃ Z, w0aaa.alloc (.cells #[.int .u16 e0, .int .u16 e1] 61) = Z := ⟨_, rfl⟩
 obtain ⟨atb, hbk⟩ : ∃ b, b = wdb + 1 := ⟨_, rfl⟩
 have HF_0aaaa : Aside0 (Held [(atb, #[.int .u16 e0, .int .u16 e1], 61), (wdb, #[.int .u8 d0, .int .u8 d1, .int .u8 d2, .int .u8 d3], 87), (swb, #[.int .u16 c0, .int .u16 c1], 61), (wab, #[.int .u16 b0, .int .u16 b1], 61)] w0aaaa) := ⟨by rw [← hZ, hbk, ← HSZ.out]; exact HF_0aaa.out.new _ _⟩
 have HB_0aaaa : Aside0 (Below w.heap.size w w0aaaa) := ⟨by rw [← hZ]; exact HB_0aaa.out.alloc HB_0aaa.out.size _⟩
 rw [hZ, ← hbk]
 clear hZ hbk HSZ HF_0aaa HB_0aaa  w0aaa
 have hlwab := blk_lt (HF_0aaaa.out.get wab #[.int .u16 b0, .int .u16 b1] 61 (by simp))
 have cwab0 : w0aaaa.cell? ⟨wab, 0, none⟩ = some (.int .u16 b0) := (blk_cell (HF_0aaaa.out.get wab #[.int .u16 b0, .int .u16 b1] 61 (by simp)) 0).trans rfl
 have cwab1 : w0aaaa.cell? ⟨wab, 1, none⟩ = some (.int .u16 b1) := (blk_cell (HF_0aaaa.out.get wab #[.int .u16 b0, .int .u16 b1] 61 (by simp)) 1).trans rfl
 go_wp2_with fail
 clear hlwab cwab0 cwab1
 refine (forecourtlaw01_rg.calls W0 0 W0 0 w0aaaa rfl).mono ?_
 rintro e w1 ⟨rfl, hB⟩
 have HF_1 := Aside0.mk (HF_0aaaa.out.below hB)
 have HB_1 := Aside0.mk (below_then HB_0aaaa.out hB)
 clear hB HF_0aaaa HB_0aaaa  w0aaaa
 have hlwab := blk_lt (HF_1.out.get wab #[.int .u16 b0, .int .u16 b1] 61 (by simp))
 have cwab0 : w1.cell? ⟨wab, 0, none⟩ = some (.int .u16 b0) := (blk_cell (HF_1.out.get wab #[.int .u16 b0, .int .u16 b1] 61 (by simp)) 0).trans rfl
 have cwab1 : w1.cell? ⟨wab, 1, none⟩ = some (.int .u16 b1) := (blk_cell (HF_1.out.get wab #[.int .u16 b0, .int .u16 b1] 61 (by simp)) 1).trans rfl
 have hlswb := blk_lt (HF_1.out.get swb #[.int .u16 c0, .int .u16 c1] 61 (by simp))
 have cswb0 : w1.cell? ⟨swb, 0, none⟩ = some (.int .u16 c0) := (blk_cell (HF_1.out.get swb #[.int .u16 c0, .int .u16 c1] 61 (by simp)) 0).trans rfl
 have cswb1 : w1.cell? ⟨swb, 1, none⟩ = some (.int .u16 c1) := (blk_cell (HF_1.out.get swb #[.int .u16 c0, .int .u16 c1] 61 (by simp)) 1).trans rfl
 go_wp2_with fail
 clear hlwab cwab0 cwab1 hlswb cswb0 cswb1
 obtain ⟨w1a, hZ⟩ : ∃ Z, w1.alloc (.cells #[.int .i64 W0, .int .i64 W1] 43) = Z := ⟨_, rfl⟩
 obtain ⟨wb, hbk⟩ : ∃ b, b = w1.heap.size := ⟨_, rfl⟩
 have HF_1a : Aside0 (Held [(wb, #[.int .i64 W0, .int .i64 W1], 43), (atb, #[.int .u16 e0, .int .u16 e1], 61), (wdb, #[.int .u8 d0, .int .u8 d1, .int .u8 d2, .int .u8 d3], 87), (swb, #[.int .u16 c0, .int .u16 c1], 61), (wab, #[.int .u16 b0, .int .u16 b1], 61)] w1a) := ⟨by rw [← hZ, hbk]; exact HF_1.out.new _ _⟩
 have HB_1a : Aside0 (Below w.heap.size w w1a) := ⟨by rw [← hZ]; exact HB_1.out.alloc HB_1.out.size _⟩
 rw [hZ, ← hbk]
 clear hZ hbk HF_1 HB_1  w1
 refine (forecourtlaw01_rg.calls S0 0 S0 0 w1a rfl).mono ?_
 rintro e w2 ⟨rfl, hB⟩
 have HF_2 := Aside0.mk (HF_1a.out.below hB)
 have HB_2 := Aside0.mk (below_then HB_1a.out hB)
 clear hB HF_1a HB_1a  w1a
 have hlswb := blk_lt (HF_2.out.get swb #[.int .u16 c0, .int .u16 c1] 61 (by simp))
 have cswb0 : w2.cell? ⟨swb, 0, none⟩ = some (.int .u16 c0) := (blk_cell (HF_2.out.get swb #[.int .u16 c0, .int .u16 c1] 61 (by simp)) 0).trans rfl
 have cswb1 : w2.cell? ⟨swb, 1, none⟩ = some (.int .u16 c1) := (blk_cell (HF_2.out.get swb #[.int .u16 c0, .int .u16 c1] 61 (by simp)) 1).trans rfl
 have hlwb := blk_lt (HF_2.out.get wb #[.int .i64 W0, .int .i64 W1] 43 (by simp))
 have cwb0 : w2.cell? ⟨wb, 0, none⟩ = some (.int .i64 W0) := (blk_cell (HF_2.out.get wb #[.int .i64 W0, .int .i64 W1] 43 (by simp)) 0).trans rfl
 have cwb1 : w2.cell? ⟨wb, 1, none⟩ = some (.int .i64 W1) := (blk_cell (HF_2.out.get wb #[.int .i64 W0, .int .i64 W1] 43 (by simp)) 1).trans rfl
 have hlwdb := blk_lt (HF_2.out.get wdb #[.int .u8 d0, .int .u8 d1, .int .u8 d2, .int .u8 d3] 87 (by simp))
 have cwdb0 : w2.cell? ⟨wdb, 0, none⟩ = some (.int .u8 d0) := (blk_cell (HF_2.out.get wdb #[.int .u8 d0, .int .u8 d1, .int .u8 d2, .int .u8 d3] 87 (by simp)) 0).trans rfl
 have cwdb1 : w2.cell? ⟨wdb, 1, none⟩ = some (.int .u8 d1) := (blk_cell (HF_2.out.get wdb #[.int .u8 d0, .int .u8 d1, .int .u8 d2, .int .u8 d3] 87 (by simp)) 1).trans rfl
 have cwdb2 : w2.cell? ⟨wdb, 2, none⟩ = some (.int .u8 d2) := (blk_cell (HF_2.out.get wdb #[.int .u8 d0, .int .u8 d1, .int .u8 d2, .int .u8 d3] 87 (by simp)) 2).trans rfl
 have cwdb3 : w2.cell? ⟨wdb, 3, none⟩ = some (.int .u8 d3) := (blk_cell (HF_2.out.get wdb #[.int .u8 d0, .int .u8 d1, .int .u8 d2, .int .u8 d3] 87 (by simp)) 3).trans rfl
 go_wp2_with fail
 clear hlswb cswb0 cswb1 hlwb cwb0 cwb1 hlwdb cwdb0 cwdb1 cwdb2 cwdb3
 obtain ⟨w2a, hZ⟩ : ∃ Z, w2.alloc (.cells #[.int .i64 S0, .int .i64 S1] 43) = Z := ⟨_, rfl⟩
 obtain ⟨sb, hbk⟩ : ∃ b, b = w2.heap.size := ⟨_, rfl⟩
 have HF_2a : Aside0 (Held [(sb, #[.int .i64 S0, .int .i64 S1], 43), (wb, #[.int .i64 W0, .int .i64 W1], 43), (atb, #[.int .u16 e0, .int .u16 e1], 61), (wdb, #[.int .u8 d0, .int .u8 d1, .int .u8 d2, .int .u8 d3], 87), (swb, #[.int .u16 c0, .int .u16 c1], 61), (wab, #[.int .u16 b0, .int .u16 b1], 61)] w2a) := ⟨by rw [← hZ, hbk]; exact HF_2.out.new _ _⟩
 have HB_2a : Aside0 (Below w.heap.size w w2a) := ⟨by rw [← hZ]; exact HB_2.out.alloc HB_2.out.size _⟩
 rw [hZ, ← hbk]
 clear hZ hbk HF_2 HB_2  w2
 refine (forecourtlaw01_rg.calls X0 X1 X0 X1 w2a rfl).mono ?_
 rintro e w3 ⟨rfl, hB⟩
 have HF_3 := Aside0.mk (HF_2a.out.below hB)
 have HB_3 := Aside0.mk (below_then HB_2a.out hB)
 clear hB HF_2a HB_2a  w2a
 have hlsb := blk_lt (HF_3.out.get sb #[.int .i64 S0, .int .i64 S1] 43 (by simp))
 have csb0 : w3.cell? ⟨sb, 0, none⟩ = some (.int .i64 S0) := (blk_cell (HF_3.out.get sb #[.int .i64 S0, .int .i64 S1] 43 (by simp)) 0).trans rfl
 have csb1 : w3.cell? ⟨sb, 1, none⟩ = some (.int .i64 S1) := (blk_cell (HF_3.out.get sb #[.int .i64 S0, .int .i64 S1] 43 (by simp)) 1).trans rfl
 have hlwdb := blk_lt (HF_3.out.get wdb #[.int .u8 d0, .int .u8 d1, .int .u8 d2, .int .u8 d3] 87 (by simp))
 have cwdb0 : w3.cell? ⟨wdb, 0, none⟩ = some (.int .u8 d0) := (blk_cell (HF_3.out.get wdb #[.int .u8 d0, .int .u8 d1, .int .u8 d2, .int .u8 d3] 87 (by simp)) 0).trans rfl
 have cwdb1 : w3.cell? ⟨wdb, 1, none⟩ = some (.int .u8 d1) := (blk_cell (HF_3.out.get wdb #[.int .u8 d0, .int .u8 d1, .int .u8 d2, .int .u8 d3] 87 (by simp)) 1).trans rfl
 have cwdb2 : w3.cell? ⟨wdb, 2, none⟩ = some (.int .u8 d2) := (blk_cell (HF_3.out.get wdb #[.int .u8 d0, .int .u8 d1, .int .u8 d2, .int .u8 d3] 87 (by simp)) 2).trans rfl
 have cwdb3 : w3.cell? ⟨wdb, 3, none⟩ = some (.int .u8 d3) := (blk_cell (HF_3.out.get wdb #[.int .u8 d0, .int .u8 d1, .int .u8 d2, .int .u8 d3] 87 (by simp)) 3).trans rfl
 go_wp2_with fail
 clear hlsb csb0 csb1 hlwdb cwdb0 cwdb1 cwdb2 cwdb3
 obtain ⟨w3a, hZ⟩ : ∃ Z, w3.alloc (.cells #[.int .i64 X0, .int .i64 X1] 43) = Z := ⟨_, rfl⟩
 obtain ⟨xb, hbk⟩ : ∃ b, b = w3.heap.size := ⟨_, rfl⟩
 have HF_3a : Aside0 (Held [(xb, #[.int .i64 X0, .int .i64 X1], 43), (sb, #[.int .i64 S0, .int .i64 S1], 43), (wb, #[.int .i64 W0, .int .i64 W1], 43), (atb, #[.int .u16 e0, .int .u16 e1], 61), (wdb, #[.int .u8 d0, .int .u8 d1, .int .u8 d2, .int .u8 d3], 87), (swb, #[.int .u16 c0, .int .u16 c1], 61), (wab, #[.int .u16 b0, .int .u16 b1], 61)] w3a) := ⟨by rw [← hZ, hbk]; exact HF_3.out.new _ _⟩
 have HB_3a : Aside0 (Below w.heap.size w w3a) := ⟨by rw [← hZ]; exact HB_3.out.alloc HB_3.out.size _⟩
 rw [hZ, ← hbk]
 clear hZ hbk HF_3 HB_3  w3
 refine (forecourtlaw01_rg.calls Y0 Y1 Y0 Y1 w3a rfl).mono ?_
 rintro e w4 ⟨rfl, hB⟩
 have HF_4 := Aside0.mk (HF_3a.out.below hB)
 have HB_4 := Aside0.mk (below_then HB_3a.out hB)
 clear hB HF_3a HB_3a  w3a
 have hlsb := blk_lt (HF_4.out.get sb #[.int .i64 S0, .int .i64 S1] 43 (by simp))
 have csb0 : w4.cell? ⟨sb, 0, none⟩ = some (.int .i64 S0) := (blk_cell (HF_4.out.get sb #[.int .i64 S0, .int .i64 S1] 43 (by simp)) 0).trans rfl
 have csb1 : w4.cell? ⟨sb, 1, none⟩ = some (.int .i64 S1) := (blk_cell (HF_4.out.get sb #[.int .i64 S0, .int .i64 S1] 43 (by simp)) 1).trans rfl
 have hlwb := blk_lt (HF_4.out.get wb #[.int .i64 W0, .int .i64 W1] 43 (by simp))
 have cwb0 : w4.cell? ⟨wb, 0, none⟩ = some (.int .i64 W0) := (blk_cell (HF_4.out.get wb #[.int .i64 W0, .int .i64 W1] 43 (by simp)) 0).trans rfl
 have cwb1 : w4.cell? ⟨wb, 1, none⟩ = some (.int .i64 W1) := (blk_cell (HF_4.out.get wb #[.int .i64 W0, .int .i64 W1] 43 (by simp)) 1).trans rfl
 go_wp2_with fail
 clear hlsb csb0 csb1 hlwb cwb0 cwb1 g1 g2 g3 g4 g5 g6 g7 g8 g9 g10 g11 g12 g13 g14 g15 g16 g17 g18 g19 g20 ha0 ha1 hb0 hb1 hc0 hc1 hd0 hd1 hd2 hd3 hr1 hr2 hr4
 replace g21 := Aside0.mk g21
 replace g22 := Aside0.mk g22
 replace g23 := Aside0.mk g23
 replace g24 := Aside0.mk g24
 replace k9 := Aside0.mk k9
 replace g25 := Aside0.mk g25
 replace g26 := Aside0.mk g26
 replace g27 := Aside0.mk g27
 replace g28 := Aside0.mk g28
 replace k11 := Aside0.mk k11
 replace g29 := Aside0.mk g29
 replace g30 := Aside0.mk g30
 replace g31 := Aside0.mk g31
 replace he0 := Aside0.mk he0
 replace he1 := Aside0.mk he1
 replace hr5 := Aside0.mk hr5
 replace hr6 := Aside0.mk hr6
 replace hS0 := Aside0.mk hS0
 obtain ⟨w4a, hZ⟩ : ∃ Z, w4.alloc (.cells #[.int .i64 Y0, .int .i64 Y1] 43) = Z := ⟨_, rfl⟩
 obtain ⟨yb, hbk⟩ : ∃ b, b = w4.heap.size := ⟨_, rfl⟩
 have HF_4a : Aside0 (Held [(yb, #[.int .i64 Y0, .int .i64 Y1], 43), (xb, #[.int .i64 X0, .int .i64 X1], 43), (sb, #[.int .i64 S0, .int .i64 S1], 43), (wb, #[.int .i64 W0, .int .i64 W1], 43), (atb, #[.int .u16 e0, .int .u16 e1], 61), (wdb, #[.int .u8 d0, .int .u8 d1, .int .u8 d2, .int .u8 d3], 87), (swb, #[.int .u16 c0, .int .u16 c1], 61), (wab, #[.int .u16 b0, .int .u16 b1], 61)] w4a) := ⟨by rw [← hZ, hbk]; exact HF_4.out.new _ _⟩
 have HB_4a : Aside0 (Below w.heap.size w w4a) := ⟨by rw [← hZ]; exact HB_4.out.alloc HB_4.out.size _⟩
 rw [hZ, ← hbk]
 clear hZ hbk HF_4 HB_4  w4
 refine (common5.calls n W0 W1 S0 S1 (wLo1 n W1 S0 S1) (wLo2 n W1 S0 S1) (wHi1 n W0 S0 S1) (wHi2 n W0 S0 S1) 0 w4a HW.out.c1).mono ?_
 rintro e w5 ⟨rfl, hB⟩
 have HF_5 := Aside0.mk (HF_4a.out.below hB)
 have HB_5 := Aside0.mk (below_then HB_4a.out hB)
 clear hB HF_4a HB_4a  w4a
 have hlxb := blk_lt (HF_5.out.get xb #[.int .i64 X0, .int .i64 X1] 43 (by simp))
 have cxb0 : w5.cell? ⟨xb, 0, none⟩ = some (.int .i64 X0) := (blk_cell (HF_5.out.get xb #[.int .i64 X0, .int .i64 X1] 43 (by simp)) 0).trans rfl
 have cxb1 : w5.cell? ⟨xb, 1, none⟩ = some (.int .i64 X1) := (blk_cell (HF_5.out.get xb #[.int .i64 X0, .int .i64 X1] 43 (by simp)) 1).trans rfl
 have hlyb := blk_lt (HF_5.out.get yb #[.int .i64 Y0, .int .i64 Y1] 43 (by simp))
 have cyb0 : w5.cell? ⟨yb, 0, none⟩ = some (.int .i64 Y0) := (blk_cell (HF_5.out.get yb #[.int .i64 Y0, .int .i64 Y1] 43 (by simp)) 0).trans rfl
 have cyb1 : w5.cell? ⟨yb, 1, none⟩ = some (.int .i64 Y1) := (blk_cell (HF_5.out.get yb #[.int .i64 Y0, .int .i64 Y1] 43 (by simp)) 1).trans rfl
 go_wp2_with fail
 clear hlxb cxb0 cxb1 hlyb cyb0 cyb1
 obtain ⟨w5a, hZ⟩ : ∃ Z, w5.alloc (.cells #[.int .i64 (wLo1 n W1 S0 S1), .int .i64 (wLo2 n W1 S0 S1), .int .i64 (wHi1 n W0 S0 S1), .int .i64 (wHi2 n W0 S0 S1)] 48) = Z := ⟨_, rfl⟩
 obtain ⟨ab, hbk⟩ : ∃ b, b = w5.heap.size := ⟨_, rfl⟩
 have HF_5a : Aside0 (Held [(ab, #[.int .i64 (wLo1 n W1 S0 S1), .int .i64 (wLo2 n W1 S0 S1), .int .i64 (wHi1 n W0 S0 S1), .int .i64 (wHi2 n W0 S0 S1)], 48), (yb, #[.int .i64 Y0, .int .i64 Y1], 43), (xb, #[.int .i64 X0, .int .i64 X1], 43), (sb, #[.int .i64 S0, .int .i64 S1], 43), (wb, #[.int .i64 W0, .int .i64 W1], 43), (atb, #[.int .u16 e0, .int .u16 e1], 61), (wdb, #[.int .u8 d0, .int .u8 d1, .int .u8 d2, .int .u8 d3], 87), (swb, #[.int .u16 c0, .int .u16 c1], 61), (wab, #[.int .u16 b0, .int .u16 b1], 61)] w5a) := ⟨by rw [← hZ, hbk]; exact HF_5.out.new _ _⟩
 have HB_5a : Aside0 (Below w.heap.size w w5a) := ⟨by rw [← hZ]; exact HB_5.out.alloc HB_5.out.size _⟩
 rw [hZ, ← hbk]
 clear hZ hbk HF_5 HB_5  w5
 refine (common5.calls n X0 X1 Y0 Y1 (wLo1 n X1 Y0 Y1) (wLo2 n X1 Y0 Y1) (wHi1 n X0 Y0 Y1) (wHi2 n X0 Y0 Y1) 0 w5a HW.out.c2).mono ?_
 rintro e w6 ⟨rfl, hB⟩
 have HF_6 := Aside0.mk (HF_5a.out.below hB)
 have HB_6 := Aside0.mk (below_then HB_5a.out hB)
 clear hB HF_5a HB_5a  w5a
 have hlwb := blk_lt (HF_6.out.get wb #[.int .i64 W0, .int .i64 W1] 43 (by simp))
 have cwb0 : w6.cell? ⟨wb, 0, none⟩ = some (.int .i64 W0) := (blk_cell (HF_6.out.get wb #[.int .i64 W0, .int .i64 W1] 43 (by simp)) 0).trans rfl
 have cwb1 : w6.cell? ⟨wb, 1, none⟩ = some (.int .i64 W1) := (blk_cell (HF_6.out.get wb #[.int .i64 W0, .int .i64 W1] 43 (by simp)) 1).trans rfl
 have hlsb := blk_lt (HF_6.out.get sb #[.int .i64 S0, .int .i64 S1] 43 (by simp))
 have csb0 : w6.cell? ⟨sb, 0, none⟩ = some (.int .i64 S0) := (blk_cell (HF_6.out.get sb #[.int .i64 S0, .int .i64 S1] 43 (by simp)) 0).trans rfl
 have csb1 : w6.cell? ⟨sb, 1, none⟩ = some (.int .i64 S1) := (blk_cell (HF_6.out.get sb #[.int .i64 S0, .int .i64 S1] 43 (by simp)) 1).trans rfl
 go_wp2_with fail
 clear hlwb cwb0 cwb1 hlsb csb0 csb1
 obtain ⟨w6a, hZ⟩ : ∃ Z, w6.alloc (.cells #[.int .i64 (wLo1 n X1 Y0 Y1), .int .i64 (wLo2 n X1 Y0 Y1), .int .i64 (wHi1 n X0 Y0 Y1), .int .i64 (wHi2 n X0 Y0 Y1)] 48) = Z := ⟨_, rfl⟩
 obtain ⟨bb, hbk⟩ : ∃ b, b = w6.heap.size := ⟨_, rfl⟩
 have HF_6a : Aside0 (Held [(bb, #[.int .i64 (wLo1 n X1 Y0 Y1), .int .i64 (wLo2 n X1 Y0 Y1), .int .i64 (wHi1 n X0 Y0 Y1), .int .i64 (wHi2 n X0 Y0 Y1)], 48), (ab, #[.int .i64 (wLo1 n W1 S0 S1), .int .i64 (wLo2 n W1 S0 S1), .int .i64 (wHi1 n W0 S0 S1), .int .i64 (wHi2 n W0 S0 S1)], 48), (yb, #[.int .i64 Y0, .int .i64 Y1], 43), (xb, #[.int .i64 X0, .int .i64 X1], 43), (sb, #[.int .i64 S0, .int .i64 S1], 43), (wb, #[.int .i64 W0, .int .i64 W1], 43), (atb, #[.int .u16 e0, .int .u16 e1], 61), (wdb, #[.int .u8 d0, .int .u8 d1, .int .u8 d2, .int .u8 d3], 87), (swb, #[.int .u16 c0, .int .u16 c1], 61), (wab, #[.int .u16 b0, .int .u16 b1], 61)] w6a) := ⟨by rw [← hZ, hbk]; exact HF_6.out.new _ _⟩
 have HB_6a : Aside0 (Below w.heap.size w w6a) := ⟨by rw [← hZ]; exact HB_6.out.alloc HB_6.out.size _⟩
 rw [hZ, ← hbk]
 clear hZ hbk HF_6 HB_6  w6
 refine (common5.calls m W0 W1 S0 S1 (wLo1 m W1 S0 S1) (wLo2 m W1 S0 S1) (wHi1 m W0 S0 S1) (wHi2 m W0 S0 S1) 0 w6a HW.out.c3).mono ?_
 rintro e w7 ⟨rfl, hB⟩
 have HF_7 := Aside0.mk (HF_6a.out.below hB)
 have HB_7 := Aside0.mk (below_then HB_6a.out hB)
 clear hB HF_6a HB_6a  w6a
 go_wp2_with fail
 obtain ⟨w7a, hZ⟩ : ∃ Z, w7.alloc (.cells #[.int .i64 (wLo1 m W1 S0 S1), .int .i64 (wLo2 m W1 S0 S1), .int .i64 (wHi1 m W0 S0 S1), .int .i64 (wHi2 m W0 S0 S1)] 48) = Z := ⟨_, rfl⟩
 obtain ⟨cb, hbk⟩ : ∃ b, b = w7.heap.size := ⟨_, rfl⟩
 have HF_7a : Aside0 (Held [(cb, #[.int .i64 (wLo1 m W1 S0 S1), .int .i64 (wLo2 m W1 S0 S1), .int .i64 (wHi1 m W0 S0 S1), .int .i64 (wHi2 m W0 S0 S1)], 48), (bb, #[.int .i64 (wLo1 n X1 Y0 Y1), .int .i64 (wLo2 n X1 Y0 Y1), .int .i64 (wHi1 n X0 Y0 Y1), .int .i64 (wHi2 n X0 Y0 Y1)], 48), (ab, #[.int .i64 (wLo1 n W1 S0 S1), .int .i64 (wLo2 n W1 S0 S1), .int .i64 (wHi1 n W0 S0 S1), .int .i64 (wHi2 n W0 S0 S1)], 48), (yb, #[.int .i64 Y0, .int .i64 Y1], 43), (xb, #[.int .i64 X0, .int .i64 X1], 43), (sb, #[.int .i64 S0, .int .i64 S1], 43), (wb, #[.int .i64 W0, .int .i64 W1], 43), (atb, #[.int .u16 e0, .int .u16 e1], 61), (wdb, #[.int .u8 d0, .int .u8 d1, .int .u8 d2, .int .u8 d3], 87), (swb, #[.int .u16 c0, .int .u16 c1], 61), (wab, #[.int .u16 b0, .int .u16 b1], 61)] w7a) := ⟨by rw [← hZ, hbk]; exact HF_7.out.new _ _⟩
 have HB_7a : Aside0 (Below w.heap.size w w7a) := ⟨by rw [← hZ]; exact HB_7.out.alloc HB_7.out.size _⟩
 rw [hZ, ← hbk]
 clear hZ hbk HF_7 HB_7  w7
 have hlwb := blk_lt (HF_7a.out.get wb #[.int .i64 W0, .int .i64 W1] 43 (by simp))
 have cwb0 : w7a.cell? ⟨wb, 0, none⟩ = some (.int .i64 W0) := (blk_cell (HF_7a.out.get wb #[.int .i64 W0, .int .i64 W1] 43 (by simp)) 0).trans rfl
 have cwb1 : w7a.cell? ⟨wb, 1, none⟩ = some (.int .i64 W1) := (blk_cell (HF_7a.out.get wb #[.int .i64 W0, .int .i64 W1] 43 (by simp)) 1).trans rfl
 (refine start_ (n := 10) (S := fun w' => Below (World.heap _).size _ w') (ds := [8]) (List.toArray (false :: false :: false :: false :: false :: false :: false :: false :: false :: false :: [])) (by kernel_rfl) rfl rfl (belowDrew _) (fun plS => ?_); refine pureY (i := 0) (N := (some 122)) ?_; refine takeF (i := 1) (N := (some 123)) (hS := plS) (hy := by (intro w' hw'; replace hw' : Below (World.heap w7a).size w7a w' := hw'; have q0 := pw_cell_below hw' cwb0; have q1 := pw_cell_below hw' cwb1; exact yieldA)) (h := ?_))
 obtain ⟨y0, hy0⟩ : ∃ Y, w7a.drew = Y := ⟨_, rfl⟩
 have hB0 : Below w7a.heap.size w7a y0 := by rw [← hy0]; exact (Below.refl _ w7a).drew
 rw [hy0]
 clear hy0 plS
 refine join_ (σ := Nat) 2 (List.toArray (true :: true :: true :: true :: true :: true :: true :: true :: false :: false :: [])) (fun s => [(124, .agg #[.int .i64 0, .int .i64 0]), (125, .tuple #[.agg #[.int .i64 n, .int .i64 1, .int .i64 n, .int .i64 1], .int .i64 0]), (121, .tuple #[.agg #[.int .i64 n, .int .i64 1, .int .i64 n, .int .i64 1], .int .i64 0]), (126, .agg #[.int .i64 n, .int .i64 1, .int .i64 n, .int .i64 1]), (127, .int .i64 0), (25, .pointer (some ⟨s, 0, none⟩))])
  (fun s W => Below w7a.heap.size w7a W ∧ W.heap[s]? = some (.cells #[.int .i64 0, .int .i64 0, .int .i64 0, .int .i64 0] 48 (0, 0)) ∧ w7a.heap.size ≤ s) ?_ ?_
 rotate_left
 ·intro hJ
  (refine two_ (i := 2) (j := 7) (List.toArray (true :: true :: true :: false :: false :: false :: false :: false :: false :: false :: [])) (List.toArray (true :: true :: false :: false :: false :: false :: false :: true :: false :: false :: [])) rfl rfl rfl rfl (by kernel_rfl) (by decide) (by decide) (fun plK plH => ?_) (fun plK plH => ?_))
  all_goals (try (rw [if_pos (by rfl)]; (first | gi_big_move | go_big_op | go_simp)))
  all_goals (first | (with_reducible refine (forecourtlaw01_rg.calls 0 0 0 0 y0 rfl).mono ?_; rintro e y1 ⟨rfl, hx1⟩) | (with_reducible refine (common5.calls n W0 W1 0 0 n 1 n 1 0 y0 HW.out.c4).mono ?_; rintro e y1 ⟨rfl, hx1⟩) | (obtain ⟨y1, hy⟩ : ∃ Y, World.alloc y0 (.cells #[.int .i64 0, .int .i64 0, .int .i64 0, .int .i64 0] 48) = Y := ⟨_, rfl⟩; obtain ⟨b1, hb⟩ : ∃ b, b = y0.heap.size := ⟨_, rfl⟩; have hx1 : Below (World.heap y0).size y0 y1 := (by rw [← hy]; exact below_own _ _); have hM1 : y1.heap[b1]? = some (.cells #[.int .i64 0, .int .i64 0, .int .i64 0, .int .i64 0] 48 (0, 0)) := (by rw [← hy, hb]; exact blk_new _ _); have hL1 : w7a.heap.size ≤ b1 := (by rw [hb]; exact hB0.size); rw [hy, ← hb]; clear hy hb))
  all_goals have hB1 : Below w7a.heap.size w7a y1 := (below_then hB0 hx1)
  all_goals (first | ((try simp only [Act.put, List.getElem_toArray, List.getElem_cons_succ, List.getElem_cons_zero, List.setIfInBounds_toArray, List.set_cons_succ, List.set_cons_zero]); refine plH _ _ hB1 (fun plS => ?_); clear plH plK; refine at_ #[true, true, true, false, false, false, false, false, false, false] rfl ?_; refine two_ (i := 3) (j := 7) (List.toArray (true :: true :: true :: true :: false :: false :: false :: false :: false :: false :: [])) (List.toArray (true :: true :: true :: false :: false :: false :: false :: true :: false :: false :: [])) rfl rfl rfl rfl (by kernel_rfl) (by decide) (by decide) (fun plK plH => ?_) (fun plK plH => ?_)) | ((try simp only [Act.put, List.getElem_toArray, List.getElem_cons_succ, List.getElem_cons_zero, List.setIfInBounds_toArray, List.set_cons_succ, List.set_cons_zero]); refine plH _ _ hB1 (fun plS => ?_); clear plH plK; refine at_ #[true, true, false, false, false, false, false, true, false, false] rfl ?_; refine oneY (i := 2) (fun plK plH => ?_); rw [if_pos (by rfl)]; (first | gi_big_move | go_big_op | go_simp)))
  all_goals (try (rw [if_pos (by rfl)]; (first | gi_big_move | go_big_op | go_simp)))
  all_goals (first | (with_reducible refine (forecourtlaw01_rg.calls 0 0 0 0 y1 rfl).mono ?_; rintro e y2 ⟨rfl, hx2⟩) | (with_reducible refine (common5.calls n W0 W1 0 0 n 1 n 1 0 y1 HW.out.c4).mono ?_; rintro e y2 ⟨rfl, hx2⟩) | (obtain ⟨y2, hy⟩ : ∃ Y, World.alloc y1 (.cells #[.int .i64 0, .int .i64 0, .int .i64 0, .int .i64 0] 48) = Y := ⟨_, rfl⟩; obtain ⟨b2, hb⟩ : ∃ b, b = y1.heap.size := ⟨_, rfl⟩; have hx2 : Below (World.heap y1).size y1 y2 := (by rw [← hy]; exact below_own _ _); have hM2 : y2.heap[b2]? = some (.cells #[.int .i64 0, .int .i64 0, .int .i64 0, .int .i64 0] 48 (0, 0)) := (by rw [← hy, hb]; exact blk_new _ _); have hL2 : w7a.heap.size ≤ b2 := (by rw [hb]; exact hB1.size); rw [hy, ← hb]; clear hy hb))
  all_goals have hB2 : Below w7a.heap.size w7a y2 := (below_then hB1 hx2)
  all_goals (try replace hM1 := blk_call hx2 hM1)
  all_goals (first | ((try simp only [Act.put, List.getElem_toArray, List.getElem_cons_succ, List.getElem_cons_zero, List.setIfInBounds_toArray, List.set_cons_succ, List.set_cons_zero]); refine plH _ _ hB2 (fun plS => ?_); clear plH plK; refine at_ #[true, true, true, true, false, false, false, false, false, false] rfl ?_; refine pureY (i := 4) (N := (some 121)) ?_; refine pureY (i := 5) (N := (some 126)) ?_; refine pureY (i := 6) (N := (some 127)) ?_; refine oneY (i := 7) (fun plK plH => ?_); rw [if_pos (by rfl)]; (first | gi_big_move | go_big_op | go_simp)) | ((try simp only [Act.put, List.getElem_toArray, List.getElem_cons_succ, List.getElem_cons_zero, List.setIfInBounds_toArray, List.set_cons_succ, List.set_cons_zero]); refine plH _ _ hB2 (fun plS => ?_); clear plH plK; refine at_ #[true, true, true, false, false, false, false, true, false, false] rfl ?_; refine oneY (i := 3) (fun plK plH => ?_); rw [if_pos (by rfl)]; (first | gi_big_move | go_big_op | go_simp)))
  all_goals (try (rw [if_pos (by rfl)]; (first | gi_big_move | go_big_op | go_simp)))
  all_goals (first | (with_reducible refine (forecourtlaw01_rg.calls 0 0 0 0 y2 rfl).mono ?_; rintro e y3 ⟨rfl, hx3⟩) | (with_reducible refine (common5.calls n W0 W1 0 0 n 1 n 1 0 y2 HW.out.c4).mono ?_; rintro e y3 ⟨rfl, hx3⟩) | (obtain ⟨y3, hy⟩ : ∃ Y, World.alloc y2 (.cells #[.int .i64 0, .int .i64 0, .int .i64 0, .int .i64 0] 48) = Y := ⟨_, rfl⟩; obtain ⟨b3, hb⟩ : ∃ b, b = y2.heap.size := ⟨_, rfl⟩; have hx3 : Below (World.heap y2).size y2 y3 := (by rw [← hy]; exact below_own _ _); have hM3 : y3.heap[b3]? = some (.cells #[.int .i64 0, .int .i64 0, .int .i64 0, .int .i64 0] 48 (0, 0)) := (by rw [← hy, hb]; exact blk_new _ _); have hL3 : w7a.heap.size ≤ b3 := (by rw [hb]; exact hB2.size); rw [hy, ← hb]; clear hy hb))
  all_goals have hB3 : Below w7a.heap.size w7a y3 := (below_then hB2 hx3)
  all_goals (try replace hM1 := blk_call hx3 hM1)
  all_goals (try replace hM2 := blk_call hx3 hM2)
  all_goals (first | ((try simp only [Act.put, List.getElem_toArray, List.getElem_cons_succ, List.getElem_cons_zero, List.setIfInBounds_toArray, List.set_cons_succ, List.set_cons_zero]); refine plH _ _ hB3 (fun plS => ?_); clear plH plK; refine at_ #[true, true, true, true, false, false, false, true, false, false] rfl ?_; refine pureY (i := 4) (N := (some 121)) ?_; refine pureY (i := 5) (N := (some 126)) ?_; refine pureY (i := 6) (N := (some 127)) ?_) | ((try simp only [Act.put, List.getElem_toArray, List.getElem_cons_succ, List.getElem_cons_zero, List.setIfInBounds_toArray, List.set_cons_succ, List.set_cons_zero]); refine plH _ _ hB3 (fun plS => ?_); clear plH plK))
  all_goals (clear plS; (try simp only [Act.put, List.getElem_toArray, List.getElem_cons_succ, List.getElem_cons_zero, List.setIfInBounds_toArray, List.set_cons_succ, List.set_cons_zero]); first | exact hJ b1 y3 ⟨hB3, hM1, hL1⟩ | exact hJ b2 y3 ⟨hB3, hM2, hL2⟩ | exact hJ b3 y3 ⟨hB3, hM3, hL3⟩)
 rintro db W ⟨hBW, hG, hL⟩
 refine norm_ (a' := ?_) qa24 ?_
 have x0 := blk_cell hG 0
 have xf0 := blk_frozen hG 0
 have x1 := blk_cell hG 1
 have xf1 := blk_frozen hG 1
 have x2 := blk_cell hG 2
 have xf2 := blk_frozen hG 2
 have x3 := blk_cell hG 3
 have xf3 := blk_frozen hG 3
 have hlt1 := blk_lt hG
 (refine lastY (i := 8) (fun plK plH => ?_); rw [if_pos (by rfl)]; (first | gi_big_move | go_big_op | go_simp))
 obtain ⟨w8, hW2⟩ : ∃ Z, ((((W.setCell ⟨db, 0, none⟩ (.int .i64 n)).setCell ⟨db, 1, none⟩ (.int .i64 1)).setCell ⟨db, 2, none⟩ (.int .i64 n)).setCell ⟨db, 3, none⟩ (.int .i64 1)) = Z := ⟨_, rfl⟩
 have hB : Below w7a.heap.size w7a w8 := by rw [← hW2]; exact ((((hBW).setCell (p := ⟨db, 0, none⟩) hL _).setCell (p := ⟨db, 1, none⟩) hL _).setCell (p := ⟨db, 2, none⟩) hL _).setCell (p := ⟨db, 3, none⟩) hL _
 have hA1 : w8.heap[db]? = some (.cells #[.int .i64 n, .int .i64 1, .int .i64 n, .int .i64 1] 48 (0, 0)) := by rw [← hW2]; exact (blk_set (blk_set (blk_set (blk_set hG 0 _) 1 _) 2 _) 3 _)
 rw [hW2]
 clear hW2 x0 xf0 x1 xf1 x2 xf2 x3 xf3 hlt1 hG hBW
 ((try simp only [Act.put, List.getElem_toArray, List.getElem_cons_succ, List.getElem_cons_zero, List.setIfInBounds_toArray, List.set_cons_succ, List.set_cons_zero]); refine plH _ _ ?_; clear plH plK; refine pureY (i := 9) (N := (some 26)) ?_; refine done_ (by kernel_rfl) ?_)
 have HF_8 : Aside0 (Held [(db, #[.int .i64 n, .int .i64 1, .int .i64 n, .int .i64 1], 48), (cb, #[.int .i64 (wLo1 m W1 S0 S1), .int .i64 (wLo2 m W1 S0 S1), .int .i64 (wHi1 m W0 S0 S1), .int .i64 (wHi2 m W0 S0 S1)], 48), (bb, #[.int .i64 (wLo1 n X1 Y0 Y1), .int .i64 (wLo2 n X1 Y0 Y1), .int .i64 (wHi1 n X0 Y0 Y1), .int .i64 (wHi2 n X0 Y0 Y1)], 48), (ab, #[.int .i64 (wLo1 n W1 S0 S1), .int .i64 (wLo2 n W1 S0 S1), .int .i64 (wHi1 n W0 S0 S1), .int .i64 (wHi2 n W0 S0 S1)], 48), (yb, #[.int .i64 Y0, .int .i64 Y1], 43), (xb, #[.int .i64 X0, .int .i64 X1], 43), (sb, #[.int .i64 S0, .int .i64 S1], 43), (wb, #[.int .i64 W0, .int .i64 W1], 43), (atb, #[.int .u16 e0, .int .u16 e1], 61), (wdb, #[.int .u8 d0, .int .u8 d1, .int .u8 d2, .int .u8 d3], 87), (swb, #[.int .u16 c0, .int .u16 c1], 61), (wab, #[.int .u16 b0, .int .u16 b1], 61)] w8) := ⟨Held.cons hA1 (HF_7a.out.below hB)⟩
 have HB_8 := Aside0.mk (below_then HB_7a.out hB)
 clear hB hA1 hL hB0 hlwb cwb0 cwb1 HF_7a HB_7a  w7a
 have hlsb := blk_lt (HF_8.out.get sb #[.int .i64 S0, .int .i64 S1] 43 (by simp))
 have csb0 : w8.cell? ⟨sb, 0, none⟩ = some (.int .i64 S0) := (blk_cell (HF_8.out.get sb #[.int .i64 S0, .int .i64 S1] 43 (by simp)) 0).trans rfl
 have csb1 : w8.cell? ⟨sb, 1, none⟩ = some (.int .i64 S1) := (blk_cell (HF_8.out.get sb #[.int .i64 S0, .int .i64 S1] 43 (by simp)) 1).trans rfl
 go_wp2_with fail
 (refine start_ (n := 10) (S := fun w' => Below (World.heap _).size _ w') (ds := [8]) (List.toArray (false :: false :: false :: false :: false :: false :: false :: false :: false :: false :: [])) (by kernel_rfl) rfl rfl (belowDrew _) (fun plS => ?_); refine pureY (i := 0) (N := (some 129)) ?_; refine takeF (i := 2) (N := (some 131)) (hS := plS) (hy := by (intro w' hw'; replace hw' : Below (World.heap w8).size w8 w' := hw'; have q0 := pw_cell_below hw' csb0; have q1 := pw_cell_below hw' csb1; exact yieldA)) (h := ?_))
 obtain ⟨y0, hy0⟩ : ∃ Y, w8.drew = Y := ⟨_, rfl⟩
 have hB0 : Below w8.heap.size w8 y0 := by rw [← hy0]; exact (Below.refl _ w8).drew
 rw [hy0]
 clear hy0 plS
 refine join_ (σ := Nat) 2 (List.toArray (true :: true :: true :: true :: true :: true :: true :: true :: false :: false :: [])) (fun s => [(130, .agg #[.int .i64 0, .int .i64 0]), (132, .tuple #[.agg #[.int .i64 n, .int .i64 1, .int .i64 n, .int .i64 1], .int .i64 0]), (128, .tuple #[.agg #[.int .i64 n, .int .i64 1, .int .i64 n, .int .i64 1], .int .i64 0]), (133, .agg #[.int .i64 n, .int .i64 1, .int .i64 n, .int .i64 1]), (134, .int .i64 0), (27, .pointer (some ⟨s, 0, none⟩))])
  (fun s W => Below w8.heap.size w8 W ∧ W.heap[s]? = some (.cells #[.int .i64 0, .int .i64 0, .int .i64 0, .int .i64 0] 48 (0, 0)) ∧ w8.heap.size ≤ s) ?_ ?_
 rotate_left
 ·intro hJ
  (refine two_ (i := 1) (j := 7) (List.toArray (true :: true :: true :: false :: false :: false :: false :: false :: false :: false :: [])) (List.toArray (true :: false :: true :: false :: false :: false :: false :: true :: false :: false :: [])) rfl rfl rfl rfl (by kernel_rfl) (by decide) (by decide) (fun plK plH => ?_) (fun plK plH => ?_))
  all_goals (try (rw [if_pos (by rfl)]; (first | gi_big_move | go_big_op | go_simp)))
  all_goals (first | (with_reducible refine (forecourtlaw01_rg.calls 0 0 0 0 y0 rfl).mono ?_; rintro e y1 ⟨rfl, hx1⟩) | (with_reducible refine (common5.calls n 0 0 S0 S1 n 1 n 1 0 y0 HW.out.c5).mono ?_; rintro e y1 ⟨rfl, hx1⟩) | (obtain ⟨y1, hy⟩ : ∃ Y, World.alloc y0 (.cells #[.int .i64 0, .int .i64 0, .int .i64 0, .int .i64 0] 48) = Y := ⟨_, rfl⟩; obtain ⟨b1, hb⟩ : ∃ b, b = y0.heap.size := ⟨_, rfl⟩; have hx1 : Below (World.heap y0).size y0 y1 := (by rw [← hy]; exact below_own _ _); have hM1 : y1.heap[b1]? = some (.cells #[.int .i64 0, .int .i64 0, .int .i64 0, .int .i64 0] 48 (0, 0)) := (by rw [← hy, hb]; exact blk_new _ _); have hL1 : w8.heap.size ≤ b1 := (by rw [hb]; exact hB0.size); rw [hy, ← hb]; clear hy hb))
  all_goals have hB1 : Below w8.heap.size w8 y1 := (below_then hB0 hx1)
  all_goals (first | ((try simp only [Act.put, List.getElem_toArray, List.getElem_cons_succ, List.getElem_cons_zero, List.setIfInBounds_toArray, List.set_cons_succ, List.set_cons_zero]); refine plH _ _ hB1 (fun plS => ?_); clear plH plK; refine at_ #[true, true, true, false, false, false, false, false, false, false] rfl ?_; refine two_ (i := 3) (j := 7) (List.toArray (true :: true :: true :: true :: false :: false :: false :: false :: false :: false :: [])) (List.toArray (true :: true :: true :: false :: false :: false :: false :: true :: false :: false :: [])) rfl rfl rfl rfl (by kernel_rfl) (by decide) (by decide) (fun plK plH => ?_) (fun plK plH => ?_)) | ((try simp only [Act.put, List.getElem_toArray, List.getElem_cons_succ, List.getElem_cons_zero, List.setIfInBounds_toArray, List.set_cons_succ, List.set_cons_zero]); refine plH _ _ hB1 (fun plS => ?_); clear plH plK; refine at_ #[true, false, true, false, false, false, false, true, false, false] rfl ?_; refine oneY (i := 1) (fun plK plH => ?_); rw [if_pos (by rfl)]; (first | gi_big_move | go_big_op | go_simp)))
  all_goals (try (rw [if_pos (by rfl)]; (first | gi_big_move | go_big_op | go_simp)))
  all_goals (first | (with_reducible refine (forecourtlaw01_rg.calls 0 0 0 0 y1 rfl).mono ?_; rintro e y2 ⟨rfl, hx2⟩) | (with_reducible refine (common5.calls n 0 0 S0 S1 n 1 n 1 0 y1 HW.out.c5).mono ?_; rintro e y2 ⟨rfl, hx2⟩) | (obtain ⟨y2, hy⟩ : ∃ Y, World.alloc y1 (.cells #[.int .i64 0, .int .i64 0, .int .i64 0, .int .i64 0] 48) = Y := ⟨_, rfl⟩; obtain ⟨b2, hb⟩ : ∃ b, b = y1.heap.size := ⟨_, rfl⟩; have hx2 : Below (World.heap y1).size y1 y2 := (by rw [← hy]; exact below_own _ _); have hM2 : y2.heap[b2]? = some (.cells #[.int .i64 0, .int .i64 0, .int .i64 0, .int .i64 0] 48 (0, 0)) := (by rw [← hy, hb]; exact blk_new _ _); have hL2 : w8.heap.size ≤ b2 := (by rw [hb]; exact hB1.size); rw [hy, ← hb]; clear hy hb))
  all_goals have hB2 : Below w8.heap.size w8 y2 := (below_then hB1 hx2)
  all_goals (try replace hM1 := blk_call hx2 hM1)
  all_goals (first | ((try simp only [Act.put, List.getElem_toArray, List.getElem_cons_succ, List.getElem_cons_zero, List.setIfInBounds_toArray, List.set_cons_succ, List.set_cons_zero]); refine plH _ _ hB2 (fun plS => ?_); clear plH plK; refine at_ #[true, true, true, true, false, false, false, false, false, false] rfl ?_; refine pureY (i := 4) (N := (some 128)) ?_; refine pureY (i := 5) (N := (some 133)) ?_; refine pureY (i := 6) (N := (some 134)) ?_; refine oneY (i := 7) (fun plK plH => ?_); rw [if_pos (by rfl)]; (first | gi_big_move | go_big_op | go_simp)) | ((try simp only [Act.put, List.getElem_toArray, List.getElem_cons_succ, List.getElem_cons_zero, List.setIfInBounds_toArray, List.set_cons_succ, List.set_cons_zero]); refine plH _ _ hB2 (fun plS => ?_); clear plH plK; refine at_ #[true, true, true, false, false, false, false, true, false, false] rfl ?_; refine oneY (i := 3) (fun plK plH => ?_); rw [if_pos (by rfl)]; (first | gi_big_move | go_big_op | go_simp)))
  all_goals (try (rw [if_pos (by rfl)]; (first | gi_big_move | go_big_op | go_simp)))
  all_goals (first | (with_reducible refine (forecourtlaw01_rg.calls 0 0 0 0 y2 rfl).mono ?_; rintro e y3 ⟨rfl, hx3⟩) | (with_reducible refine (common5.calls n 0 0 S0 S1 n 1 n 1 0 y2 HW.out.c5).mono ?_; rintro e y3 ⟨rfl, hx3⟩) | (obtain ⟨y3, hy⟩ : ∃ Y, World.alloc y2 (.cells #[.int .i64 0, .int .i64 0, .int .i64 0, .int .i64 0] 48) = Y := ⟨_, rfl⟩; obtain ⟨b3, hb⟩ : ∃ b, b = y2.heap.size := ⟨_, rfl⟩; have hx3 : Below (World.heap y2).size y2 y3 := (by rw [← hy]; exact below_own _ _); have hM3 : y3.heap[b3]? = some (.cells #[.int .i64 0, .int .i64 0, .int .i64 0, .int .i64 0] 48 (0, 0)) := (by rw [← hy, hb]; exact blk_new _ _); have hL3 : w8.heap.size ≤ b3 := (by rw [hb]; exact hB2.size); rw [hy, ← hb]; clear hy hb))
  all_goals have hB3 : Below w8.heap.size w8 y3 := (below_then hB2 hx3)
  all_goals (try replace hM1 := blk_call hx3 hM1)
  all_goals (try replace hM2 := blk_call hx3 hM2)
  all_goals (first | ((try simp only [Act.put, List.getElem_toArray, List.getElem_cons_succ, List.getElem_cons_zero, List.setIfInBounds_toArray, List.set_cons_succ, List.set_cons_zero]); refine plH _ _ hB3 (fun plS => ?_); clear plH plK; refine at_ #[true, true, true, true, false, false, false, true, false, false] rfl ?_; refine pureY (i := 4) (N := (some 128)) ?_; refine pureY (i := 5) (N := (some 133)) ?_; refine pureY (i := 6) (N := (some 134)) ?_) | ((try simp only [Act.put, List.getElem_toArray, List.getElem_cons_succ, List.getElem_cons_zero, List.setIfInBounds_toArray, List.set_cons_succ, List.set_cons_zero]); refine plH _ _ hB3 (fun plS => ?_); clear plH plK))
  all_goals (clear plS; (try simp only [Act.put, List.getElem_toArray, List.getElem_cons_succ, List.getElem_cons_zero, List.setIfInBounds_toArray, List.set_cons_succ, List.set_cons_zero]); first | exact hJ b1 y3 ⟨hB3, hM1, hL1⟩ | exact hJ b2 y3 ⟨hB3, hM2, hL2⟩ | exact hJ b3 y3 ⟨hB3, hM3, hL3⟩)
 rintro fb W ⟨hBW, hG, hL⟩
 refine norm_ (a' := ?_) qa24 ?_
 have x0 := blk_cell hG 0
 have xf0 := blk_frozen hG 0
 have x1 := blk_cell hG 1
 have xf1 := blk_frozen hG 1
 have x2 := blk_cell hG 2
 have xf2 := blk_frozen hG 2
 have x3 := blk_cell hG 3
 have xf3 := blk_frozen hG 3
 have hlt1 := blk_lt hG
 (refine lastY (i := 8) (fun plK plH => ?_); rw [if_pos (by rfl)]; (first | gi_big_move | go_big_op | go_simp))
 obtain ⟨w9, hW2⟩ : ∃ Z, ((((W.setCell ⟨fb, 0, none⟩ (.int .i64 n)).setCell ⟨fb, 1, none⟩ (.int .i64 1)).setCell ⟨fb, 2, none⟩ (.int .i64 n)).setCell ⟨fb, 3, none⟩ (.int .i64 1)) = Z := ⟨_, rfl⟩
 have hB : Below w8.heap.size w8 w9 := by rw [← hW2]; exact ((((hBW).setCell (p := ⟨fb, 0, none⟩) hL _).setCell (p := ⟨fb, 1, none⟩) hL _).setCell (p := ⟨fb, 2, none⟩) hL _).setCell (p := ⟨fb, 3, none⟩) hL _
 have hA1 : w9.heap[fb]? = some (.cells #[.int .i64 n, .int .i64 1, .int .i64 n, .int .i64 1] 48 (0, 0)) := by rw [← hW2]; exact (blk_set (blk_set (blk_set (blk_set hG 0 _) 1 _) 2 _) 3 _)
 rw [hW2]
 clear hW2 x0 xf0 x1 xf1 x2 xf2 x3 xf3 hlt1 hG hBW
 ((try simp only [Act.put, List.getElem_toArray, List.getElem_cons_succ, List.getElem_cons_zero, List.setIfInBounds_toArray, List.set_cons_succ, List.set_cons_zero]); refine plH _ _ ?_; clear plH plK; refine pureY (i := 9) (N := (some 28)) ?_; refine done_ (by kernel_rfl) ?_)
 have HF_9 : Aside0 (Held [(fb, #[.int .i64 n, .int .i64 1, .int .i64 n, .int .i64 1], 48), (db, #[.int .i64 n, .int .i64 1, .int .i64 n, .int .i64 1], 48), (cb, #[.int .i64 (wLo1 m W1 S0 S1), .int .i64 (wLo2 m W1 S0 S1), .int .i64 (wHi1 m W0 S0 S1), .int .i64 (wHi2 m W0 S0 S1)], 48), (bb, #[.int .i64 (wLo1 n X1 Y0 Y1), .int .i64 (wLo2 n X1 Y0 Y1), .int .i64 (wHi1 n X0 Y0 Y1), .int .i64 (wHi2 n X0 Y0 Y1)], 48), (ab, #[.int .i64 (wLo1 n W1 S0 S1), .int .i64 (wLo2 n W1 S0 S1), .int .i64 (wHi1 n W0 S0 S1), .int .i64 (wHi2 n W0 S0 S1)], 48), (yb, #[.int .i64 Y0, .int .i64 Y1], 43), (xb, #[.int .i64 X0, .int .i64 X1], 43), (sb, #[.int .i64 S0, .int .i64 S1], 43), (wb, #[.int .i64 W0, .int .i64 W1], 43), (atb, #[.int .u16 e0, .int .u16 e1], 61), (wdb, #[.int .u8 d0, .int .u8 d1, .int .u8 d2, .int .u8 d3], 87), (swb, #[.int .u16 c0, .int .u16 c1], 61), (wab, #[.int .u16 b0, .int .u16 b1], 61)] w9) := ⟨Held.cons hA1 (HF_8.out.below hB)⟩
 have HB_9 := Aside0.mk (below_then HB_8.out hB)
 clear hB hA1 hL hB0 hlsb csb0 csb1 HF_8 HB_8  w8
 go_wp2_with fail
 refine (forecourtlaw01_of.calls n 1 n 1 w9 rfl).mono ?_
 rintro e w10 ⟨rfl, hB⟩
 have HF_10 := Aside0.mk (HF_9.out.below hB)
 have HB_10 := Aside0.mk (below_then HB_9.out hB)
 clear hB HF_9 HB_9  w9
 go_wp2_with fail
 refine (forecourtlaw01_of.calls n 1 n 1 w10 rfl).mono ?_
 rintro e w11 ⟨rfl, hB⟩
 have HF_11 := Aside0.mk (HF_10.out.below hB)
 have HB_11 := Aside0.mk (below_then HB_10.out hB)
 clear hB HF_10 HB_10  w10
 have hlab := blk_lt (HF_11.out.get ab #[.int .i64 (wLo1 n W1 S0 S1), .int .i64 (wLo2 n W1 S0 S1), .int .i64 (wHi1 n W0 S0 S1), .int .i64 (wHi2 n W0 S0 S1)] 48 (by simp))
 have cab0 : w11.cell? ⟨ab, 0, none⟩ = some (.int .i64 (wLo1 n W1 S0 S1)) := (blk_cell (HF_11.out.get ab #[.int .i64 (wLo1 n W1 S0 S1), .int .i64 (wLo2 n W1 S0 S1), .int .i64 (wHi1 n W0 S0 S1), .int .i64 (wHi2 n W0 S0 S1)] 48 (by simp)) 0).trans rfl
 have cab1 : w11.cell? ⟨ab, 1, none⟩ = some (.int .i64 (wLo2 n W1 S0 S1)) := (blk_cell (HF_11.out.get ab #[.int .i64 (wLo1 n W1 S0 S1), .int .i64 (wLo2 n W1 S0 S1), .int .i64 (wHi1 n W0 S0 S1), .int .i64 (wHi2 n W0 S0 S1)] 48 (by simp)) 1).trans rfl
 have cab2 : w11.cell? ⟨ab, 2, none⟩ = some (.int .i64 (wHi1 n W0 S0 S1)) := (blk_cell (HF_11.out.get ab #[.int .i64 (wLo1 n W1 S0 S1), .int .i64 (wLo2 n W1 S0 S1), .int .i64 (wHi1 n W0 S0 S1), .int .i64 (wHi2 n W0 S0 S1)] 48 (by simp)) 2).trans rfl
 have cab3 : w11.cell? ⟨ab, 3, none⟩ = some (.int .i64 (wHi2 n W0 S0 S1)) := (blk_cell (HF_11.out.get ab #[.int .i64 (wLo1 n W1 S0 S1), .int .i64 (wLo2 n W1 S0 S1), .int .i64 (wHi1 n W0 S0 S1), .int .i64 (wHi2 n W0 S0 S1)] 48 (by simp)) 3).trans rfl
 have hlbb := blk_lt (HF_11.out.get bb #[.int .i64 (wLo1 n X1 Y0 Y1), .int .i64 (wLo2 n X1 Y0 Y1), .int .i64 (wHi1 n X0 Y0 Y1), .int .i64 (wHi2 n X0 Y0 Y1)] 48 (by simp))
 have cbb0 : w11.cell? ⟨bb, 0, none⟩ = some (.int .i64 (wLo1 n X1 Y0 Y1)) := (blk_cell (HF_11.out.get bb #[.int .i64 (wLo1 n X1 Y0 Y1), .int .i64 (wLo2 n X1 Y0 Y1), .int .i64 (wHi1 n X0 Y0 Y1), .int .i64 (wHi2 n X0 Y0 Y1)] 48 (by simp)) 0).trans rfl
 have cbb1 : w11.cell? ⟨bb, 1, none⟩ = some (.int .i64 (wLo2 n X1 Y0 Y1)) := (blk_cell (HF_11.out.get bb #[.int .i64 (wLo1 n X1 Y0 Y1), .int .i64 (wLo2 n X1 Y0 Y1), .int .i64 (wHi1 n X0 Y0 Y1), .int .i64 (wHi2 n X0 Y0 Y1)] 48 (by simp)) 1).trans rfl
 have cbb2 : w11.cell? ⟨bb, 2, none⟩ = some (.int .i64 (wHi1 n X0 Y0 Y1)) := (blk_cell (HF_11.out.get bb #[.int .i64 (wLo1 n X1 Y0 Y1), .int .i64 (wLo2 n X1 Y0 Y1), .int .i64 (wHi1 n X0 Y0 Y1), .int .i64 (wHi2 n X0 Y0 Y1)] 48 (by simp)) 2).trans rfl
 have cbb3 : w11.cell? ⟨bb, 3, none⟩ = some (.int .i64 (wHi2 n X0 Y0 Y1)) := (blk_cell (HF_11.out.get bb #[.int .i64 (wLo1 n X1 Y0 Y1), .int .i64 (wLo2 n X1 Y0 Y1), .int .i64 (wHi1 n X0 Y0 Y1), .int .i64 (wHi2 n X0 Y0 Y1)] 48 (by simp)) 3).trans rfl
 have hlcb := blk_lt (HF_11.out.get cb #[.int .i64 (wLo1 m W1 S0 S1), .int .i64 (wLo2 m W1 S0 S1), .int .i64 (wHi1 m W0 S0 S1), .int .i64 (wHi2 m W0 S0 S1)] 48 (by simp))
 have ccb0 : w11.cell? ⟨cb, 0, none⟩ = some (.int .i64 (wLo1 m W1 S0 S1)) := (blk_cell (HF_11.out.get cb #[.int .i64 (wLo1 m W1 S0 S1), .int .i64 (wLo2 m W1 S0 S1), .int .i64 (wHi1 m W0 S0 S1), .int .i64 (wHi2 m W0 S0 S1)] 48 (by simp)) 0).trans rfl
 have ccb1 : w11.cell? ⟨cb, 1, none⟩ = some (.int .i64 (wLo2 m W1 S0 S1)) := (blk_cell (HF_11.out.get cb #[.int .i64 (wLo1 m W1 S0 S1), .int .i64 (wLo2 m W1 S0 S1), .int .i64 (wHi1 m W0 S0 S1), .int .i64 (wHi2 m W0 S0 S1)] 48 (by simp)) 1).trans rfl
 have ccb2 : w11.cell? ⟨cb, 2, none⟩ = some (.int .i64 (wHi1 m W0 S0 S1)) := (blk_cell (HF_11.out.get cb #[.int .i64 (wLo1 m W1 S0 S1), .int .i64 (wLo2 m W1 S0 S1), .int .i64 (wHi1 m W0 S0 S1), .int .i64 (wHi2 m W0 S0 S1)] 48 (by simp)) 2).trans rfl
 have ccb3 : w11.cell? ⟨cb, 3, none⟩ = some (.int .i64 (wHi2 m W0 S0 S1)) := (blk_cell (HF_11.out.get cb #[.int .i64 (wLo1 m W1 S0 S1), .int .i64 (wLo2 m W1 S0 S1), .int .i64 (wHi1 m W0 S0 S1), .int .i64 (wHi2 m W0 S0 S1)] 48 (by simp)) 3).trans rfl
 have hldb := blk_lt (HF_11.out.get db #[.int .i64 n, .int .i64 1, .int .i64 n, .int .i64 1] 48 (by simp))
 have cdb0 : w11.cell? ⟨db, 0, none⟩ = some (.int .i64 n) := (blk_cell (HF_11.out.get db #[.int .i64 n, .int .i64 1, .int .i64 n, .int .i64 1] 48 (by simp)) 0).trans rfl
 have cdb1 : w11.cell? ⟨db, 1, none⟩ = some (.int .i64 1) := (blk_cell (HF_11.out.get db #[.int .i64 n, .int .i64 1, .int .i64 n, .int .i64 1] 48 (by simp)) 1).trans rfl
 have cdb2 : w11.cell? ⟨db, 2, none⟩ = some (.int .i64 n) := (blk_cell (HF_11.out.get db #[.int .i64 n, .int .i64 1, .int .i64 n, .int .i64 1] 48 (by simp)) 2).trans rfl
 have cdb3 : w11.cell? ⟨db, 3, none⟩ = some (.int .i64 1) := (blk_cell (HF_11.out.get db #[.int .i64 n, .int .i64 1, .int .i64 n, .int .i64 1] 48 (by simp)) 3).trans rfl
 have hlfb := blk_lt (HF_11.out.get fb #[.int .i64 n, .int .i64 1, .int .i64 n, .int .i64 1] 48 (by simp))
 have cfb0 : w11.cell? ⟨fb, 0, none⟩ = some (.int .i64 n) := (blk_cell (HF_11.out.get fb #[.int .i64 n, .int .i64 1, .int .i64 n, .int .i64 1] 48 (by simp)) 0).trans rfl
 have cfb1 : w11.cell? ⟨fb, 1, none⟩ = some (.int .i64 1) := (blk_cell (HF_11.out.get fb #[.int .i64 n, .int .i64 1, .int .i64 n, .int .i64 1] 48 (by simp)) 1).trans rfl
 have cfb2 : w11.cell? ⟨fb, 2, none⟩ = some (.int .i64 n) := (blk_cell (HF_11.out.get fb #[.int .i64 n, .int .i64 1, .int .i64 n, .int .i64 1] 48 (by simp)) 2).trans rfl
 have cfb3 : w11.cell? ⟨fb, 3, none⟩ = some (.int .i64 1) := (blk_cell (HF_11.out.get fb #[.int .i64 n, .int .i64 1, .int .i64 n, .int .i64 1] 48 (by simp)) 3).trans rfl
 go_wp2_with fail
 clear hlab cab0 cab1 cab2 cab3 hlbb cbb0 cbb1 cbb2 cbb3 hlcb ccb0 ccb1 ccb2 ccb3 hldb cdb0 cdb1 cdb2 cdb3 hlfb cfb0 cfb1 cfb2 cfb3
 obtain ⟨w11a, hZ⟩ : ∃ Z, w11.alloc (.cells #[.int .i64 n, .int .i64 1, .int .i64 n, .int .i64 1] 48) = Z := ⟨_, rfl⟩
 obtain ⟨zb, hbk⟩ : ∃ b, b = w11.heap.size := ⟨_, rfl⟩
 have HF_11a : Aside0 (Held [(zb, #[.int .i64 n, .int .i64 1, .int .i64 n, .int .i64 1], 48), (fb, #[.int .i64 n, .int .i64 1, .int .i64 n, .int .i64 1], 48), (db, #[.int .i64 n, .int .i64 1, .int .i64 n, .int .i64 1], 48), (cb, #[.int .i64 (wLo1 m W1 S0 S1), .int .i64 (wLo2 m W1 S0 S1), .int .i64 (wHi1 m W0 S0 S1), .int .i64 (wHi2 m W0 S0 S1)], 48), (bb, #[.int .i64 (wLo1 n X1 Y0 Y1), .int .i64 (wLo2 n X1 Y0 Y1), .int .i64 (wHi1 n X0 Y0 Y1), .int .i64 (wHi2 n X0 Y0 Y1)], 48), (ab, #[.int .i64 (wLo1 n W1 S0 S1), .int .i64 (wLo2 n W1 S0 S1), .int .i64 (wHi1 n W0 S0 S1), .int .i64 (wHi2 n W0 S0 S1)], 48), (yb, #[.int .i64 Y0, .int .i64 Y1], 43), (xb, #[.int .i64 X0, .int .i64 X1], 43), (sb, #[.int .i64 S0, .int .i64 S1], 43), (wb, #[.int .i64 W0, .int .i64 W1], 43), (atb, #[.int .u16 e0, .int .u16 e1], 61), (wdb, #[.int .u8 d0, .int .u8 d1, .int .u8 d2, .int .u8 d3], 87), (swb, #[.int .u16 c0, .int .u16 c1], 61), (wab, #[.int .u16 b0, .int .u16 b1], 61)] w11a) := ⟨by rw [← hZ, hbk]; exact HF_11.out.new _ _⟩
 have HB_11a : Aside0 (Below w.heap.size w w11a) := ⟨by rw [← hZ]; exact HB_11.out.alloc HB_11.out.size _⟩
 rw [hZ, ← hbk]
 clear hZ hbk HF_11 HB_11  w11
 refine (inside_calls (wLo1 n W1 S0 S1) (wLo2 n W1 S0 S1) (wHi1 n W0 S0 S1) (wHi2 n W0 S0 S1) (wLo1 n X1 Y0 Y1) (wLo2 n X1 Y0 Y1) (wHi1 n X0 Y0 Y1) (wHi2 n X0 Y0 Y1) w11a HW.out.in1 HW.out.in2 HW.out.in3).mono ?_
 rintro e w12 ⟨rfl, hB⟩
 have HF_12 := Aside0.mk (HF_11a.out.below hB)
 have HB_12 := Aside0.mk (below_then HB_11a.out hB)
 clear hB HF_11a HB_11a  w11a
 have hlab := blk_lt (HF_12.out.get ab #[.int .i64 (wLo1 n W1 S0 S1), .int .i64 (wLo2 n W1 S0 S1), .int .i64 (wHi1 n W0 S0 S1), .int .i64 (wHi2 n W0 S0 S1)] 48 (by simp))
 have cab0 : w12.cell? ⟨ab, 0, none⟩ = some (.int .i64 (wLo1 n W1 S0 S1)) := (blk_cell (HF_12.out.get ab #[.int .i64 (wLo1 n W1 S0 S1), .int .i64 (wLo2 n W1 S0 S1), .int .i64 (wHi1 n W0 S0 S1), .int .i64 (wHi2 n W0 S0 S1)] 48 (by simp)) 0).trans rfl
 have cab1 : w12.cell? ⟨ab, 1, none⟩ = some (.int .i64 (wLo2 n W1 S0 S1)) := (blk_cell (HF_12.out.get ab #[.int .i64 (wLo1 n W1 S0 S1), .int .i64 (wLo2 n W1 S0 S1), .int .i64 (wHi1 n W0 S0 S1), .int .i64 (wHi2 n W0 S0 S1)] 48 (by simp)) 1).trans rfl
 have cab2 : w12.cell? ⟨ab, 2, none⟩ = some (.int .i64 (wHi1 n W0 S0 S1)) := (blk_cell (HF_12.out.get ab #[.int .i64 (wLo1 n W1 S0 S1), .int .i64 (wLo2 n W1 S0 S1), .int .i64 (wHi1 n W0 S0 S1), .int .i64 (wHi2 n W0 S0 S1)] 48 (by simp)) 2).trans rfl
 have cab3 : w12.cell? ⟨ab, 3, none⟩ = some (.int .i64 (wHi2 n W0 S0 S1)) := (blk_cell (HF_12.out.get ab #[.int .i64 (wLo1 n W1 S0 S1), .int .i64 (wLo2 n W1 S0 S1), .int .i64 (wHi1 n W0 S0 S1), .int .i64 (wHi2 n W0 S0 S1)] 48 (by simp)) 3).trans rfl
 have hlcb := blk_lt (HF_12.out.get cb #[.int .i64 (wLo1 m W1 S0 S1), .int .i64 (wLo2 m W1 S0 S1), .int .i64 (wHi1 m W0 S0 S1), .int .i64 (wHi2 m W0 S0 S1)] 48 (by simp))
 have ccb0 : w12.cell? ⟨cb, 0, none⟩ = some (.int .i64 (wLo1 m W1 S0 S1)) := (blk_cell (HF_12.out.get cb #[.int .i64 (wLo1 m W1 S0 S1), .int .i64 (wLo2 m W1 S0 S1), .int .i64 (wHi1 m W0 S0 S1), .int .i64 (wHi2 m W0 S0 S1)] 48 (by simp)) 0).trans rfl
 have ccb1 : w12.cell? ⟨cb, 1, none⟩ = some (.int .i64 (wLo2 m W1 S0 S1)) := (blk_cell (HF_12.out.get cb #[.int .i64 (wLo1 m W1 S0 S1), .int .i64 (wLo2 m W1 S0 S1), .int .i64 (wHi1 m W0 S0 S1), .int .i64 (wHi2 m W0 S0 S1)] 48 (by simp)) 1).trans rfl
 have ccb2 : w12.cell? ⟨cb, 2, none⟩ = some (.int .i64 (wHi1 m W0 S0 S1)) := (blk_cell (HF_12.out.get cb #[.int .i64 (wLo1 m W1 S0 S1), .int .i64 (wLo2 m W1 S0 S1), .int .i64 (wHi1 m W0 S0 S1), .int .i64 (wHi2 m W0 S0 S1)] 48 (by simp)) 2).trans rfl
 have ccb3 : w12.cell? ⟨cb, 3, none⟩ = some (.int .i64 (wHi2 m W0 S0 S1)) := (blk_cell (HF_12.out.get cb #[.int .i64 (wLo1 m W1 S0 S1), .int .i64 (wLo2 m W1 S0 S1), .int .i64 (wHi1 m W0 S0 S1), .int .i64 (wHi2 m W0 S0 S1)] 48 (by simp)) 3).trans rfl
 go_wp2_with fail
 clear hlab cab0 cab1 cab2 cab3 hlcb ccb0 ccb1 ccb2 ccb3
 refine (forecourtref01_Less.calls (wLo1 m W1 S0 S1) (wLo2 m W1 S0 S1) (wLo1 n W1 S0 S1) (wLo2 n W1 S0 S1) false w12 HW.out.more_lo).mono ?_
 rintro e w13 ⟨rfl, hB⟩
 have HF_13 := Aside0.mk (HF_12.out.below hB)
 have HB_13 := Aside0.mk (below_then HB_12.out hB)
 clear hB HF_12 HB_12  w12
 have hlab := blk_lt (HF_13.out.get ab #[.int .i64 (wLo1 n W1 S0 S1), .int .i64 (wLo2 n W1 S0 S1), .int .i64 (wHi1 n W0 S0 S1), .int .i64 (wHi2 n W0 S0 S1)] 48 (by simp))
 have cab0 : w13.cell? ⟨ab, 0, none⟩ = some (.int .i64 (wLo1 n W1 S0 S1)) := (blk_cell (HF_13.out.get ab #[.int .i64 (wLo1 n W1 S0 S1), .int .i64 (wLo2 n W1 S0 S1), .int .i64 (wHi1 n W0 S0 S1), .int .i64 (wHi2 n W0 S0 S1)] 48 (by simp)) 0).trans rfl
 have cab1 : w13.cell? ⟨ab, 1, none⟩ = some (.int .i64 (wLo2 n W1 S0 S1)) := (blk_cell (HF_13.out.get ab #[.int .i64 (wLo1 n W1 S0 S1), .int .i64 (wLo2 n W1 S0 S1), .int .i64 (wHi1 n W0 S0 S1), .int .i64 (wHi2 n W0 S0 S1)] 48 (by simp)) 1).trans rfl
 have cab2 : w13.cell? ⟨ab, 2, none⟩ = some (.int .i64 (wHi1 n W0 S0 S1)) := (blk_cell (HF_13.out.get ab #[.int .i64 (wLo1 n W1 S0 S1), .int .i64 (wLo2 n W1 S0 S1), .int .i64 (wHi1 n W0 S0 S1), .int .i64 (wHi2 n W0 S0 S1)] 48 (by simp)) 2).trans rfl
 have cab3 : w13.cell? ⟨ab, 3, none⟩ = some (.int .i64 (wHi2 n W0 S0 S1)) := (blk_cell (HF_13.out.get ab #[.int .i64 (wLo1 n W1 S0 S1), .int .i64 (wLo2 n W1 S0 S1), .int .i64 (wHi1 n W0 S0 S1), .int .i64 (wHi2 n W0 S0 S1)] 48 (by simp)) 3).trans rfl
 have hlcb := blk_lt (HF_13.out.get cb #[.int .i64 (wLo1 m W1 S0 S1), .int .i64 (wLo2 m W1 S0 S1), .int .i64 (wHi1 m W0 S0 S1), .int .i64 (wHi2 m W0 S0 S1)] 48 (by simp))
 have ccb0 : w13.cell? ⟨cb, 0, none⟩ = some (.int .i64 (wLo1 m W1 S0 S1)) := (blk_cell (HF_13.out.get cb #[.int .i64 (wLo1 m W1 S0 S1), .int .i64 (wLo2 m W1 S0 S1), .int .i64 (wHi1 m W0 S0 S1), .int .i64 (wHi2 m W0 S0 S1)] 48 (by simp)) 0).trans rfl
 have ccb1 : w13.cell? ⟨cb, 1, none⟩ = some (.int .i64 (wLo2 m W1 S0 S1)) := (blk_cell (HF_13.out.get cb #[.int .i64 (wLo1 m W1 S0 S1), .int .i64 (wLo2 m W1 S0 S1), .int .i64 (wHi1 m W0 S0 S1), .int .i64 (wHi2 m W0 S0 S1)] 48 (by simp)) 1).trans rfl
 have ccb2 : w13.cell? ⟨cb, 2, none⟩ = some (.int .i64 (wHi1 m W0 S0 S1)) := (blk_cell (HF_13.out.get cb #[.int .i64 (wLo1 m W1 S0 S1), .int .i64 (wLo2 m W1 S0 S1), .int .i64 (wHi1 m W0 S0 S1), .int .i64 (wHi2 m W0 S0 S1)] 48 (by simp)) 2).trans rfl
 have ccb3 : w13.cell? ⟨cb, 3, none⟩ = some (.int .i64 (wHi2 m W0 S0 S1)) := (blk_cell (HF_13.out.get cb #[.int .i64 (wLo1 m W1 S0 S1), .int .i64 (wLo2 m W1 S0 S1), .int .i64 (wHi1 m W0 S0 S1), .int .i64 (wHi2 m W0 S0 S1)] 48 (by simp)) 3).trans rfl
 go_wp2_with fail
 clear hlab cab0 cab1 cab2 cab3 hlcb ccb0 ccb1 ccb2 ccb3
 refine (forecourtref01_Less.calls (wHi1 m W0 S0 S1) (wHi2 m W0 S0 S1) (wHi1 n W0 S0 S1) (wHi2 n W0 S0 S1) false w13 HW.out.more_hi).mono ?_
 rintro e w14 ⟨rfl, hB⟩
 have HF_14 := Aside0.mk (HF_13.out.below hB)
 have HB_14 := Aside0.mk (below_then HB_13.out hB)
 clear hB HF_13 HB_13  w13
 have hlwb := blk_lt (HF_14.out.get wb #[.int .i64 W0, .int .i64 W1] 43 (by simp))
 have cwb0 : w14.cell? ⟨wb, 0, none⟩ = some (.int .i64 W0) := (blk_cell (HF_14.out.get wb #[.int .i64 W0, .int .i64 W1] 43 (by simp)) 0).trans rfl
 have cwb1 : w14.cell? ⟨wb, 1, none⟩ = some (.int .i64 W1) := (blk_cell (HF_14.out.get wb #[.int .i64 W0, .int .i64 W1] 43 (by simp)) 1).trans rfl
 have hlsb := blk_lt (HF_14.out.get sb #[.int .i64 S0, .int .i64 S1] 43 (by simp))
 have csb0 : w14.cell? ⟨sb, 0, none⟩ = some (.int .i64 S0) := (blk_cell (HF_14.out.get sb #[.int .i64 S0, .int .i64 S1] 43 (by simp)) 0).trans rfl
 have csb1 : w14.cell? ⟨sb, 1, none⟩ = some (.int .i64 S1) := (blk_cell (HF_14.out.get sb #[.int .i64 S0, .int .i64 S1] 43 (by simp)) 1).trans rfl
 have hlatb := blk_lt (HF_14.out.get atb #[.int .u16 e0, .int .u16 e1] 61 (by simp))
 have catb0 : w14.cell? ⟨atb, 0, none⟩ = some (.int .u16 e0) := (blk_cell (HF_14.out.get atb #[.int .u16 e0, .int .u16 e1] 61 (by simp)) 0).trans rfl
 have catb1 : w14.cell? ⟨atb, 1, none⟩ = some (.int .u16 e1) := (blk_cell (HF_14.out.get atb #[.int .u16 e0, .int .u16 e1] 61 (by simp)) 1).trans rfl
 go_wp2_with fail
 replace g21 := g21.out
 replace g22 := g22.out
 replace g23 := g23.out
 replace g24 := g24.out
 replace k9 := k9.out
 replace g25 := g25.out
 replace g26 := g26.out
 replace g27 := g27.out
 replace g28 := g28.out
 replace k11 := k11.out
 replace g29 := g29.out
 replace g30 := g30.out
 replace g31 := g31.out
 replace he0 := he0.out
 replace he1 := he1.out
 replace hr5 := hr5.out
 replace hr6 := hr6.out
 replace hS0 := hS0.out
 (refine start_ (n := 28) (S := fun w' => Below (World.heap _).size _ w') (ds := []) (List.toArray (false :: false :: false :: false :: false :: false :: false :: false :: false :: false :: false :: false :: false :: false :: false :: false :: false :: false :: false :: false :: false :: false :: false :: false :: false :: false :: false :: false :: [])) (by kernel_rfl) rfl rfl (belowDrew _) (fun plS => ?_); refine pureY (i := 0) (N := (some 188)) ?_; refine pureY (i := 2) (N := (some 190)) ?_; refine pureY (i := 5) (N := (some 193)) ?_; refine pureY (i := 7) (N := (some 195)) ?_; refine pureY (i := 13) (N := (some 201)) ?_; refine pureY (i := 15) (N := (some 203)) ?_; refine pureY (i := 18) (N := (some 206)) ?_; refine pureY (i := 20) (N := (some 208)) ?_; refine takeF (i := 1) (N := (some 189)) (hS := plS) (hy := by (intro w' hw'; replace hw' : Below (World.heap w14).size w14 w' := hw'; have q0 := pw_cell_below hw' cwb0; have q1 := pw_cell_below hw' cwb1; have q2 := pw_cell_below hw' csb0; have q3 := pw_cell_below hw' csb1; have q4 := pw_cell_below hw' catb0; have q5 := pw_cell_below hw' catb1; exact yieldA)) (h := ?_); refine takeF (i := 3) (N := (some 191)) (hS := plS) (hy := by (intro w' hw'; replace hw' : Below (World.heap w14).size w14 w' := hw'; have q0 := pw_cell_below hw' cwb0; have q1 := pw_cell_below hw' cwb1; have q2 := pw_cell_below hw' csb0; have q3 := pw_cell_below hw' csb1; have q4 := pw_cell_below hw' catb0; have q5 := pw_cell_below hw' catb1; exact yieldA)) (h := ?_); refine pureY (i := 4) (N := (some 192)) ?_; refine takeF (i := 6) (N := (some 194)) (hS := plS) (hy := by (intro w' hw'; replace hw' : Below (World.heap w14).size w14 w' := hw'; have q0 := pw_cell_below hw' cwb0; have q1 := pw_cell_below hw' cwb1; have q2 := pw_cell_below hw' csb0; have q3 := pw_cell_below hw' csb1; have q4 := pw_cell_below hw' catb0; have q5 := pw_cell_below hw' catb1; exact yieldA)) (h := ?_); refine takeF (i := 8) (N := (some 196)) (hS := plS) (hy := by (intro w' hw'; replace hw' : Below (World.heap w14).size w14 w' := hw'; have q0 := pw_cell_below hw' cwb0; have q1 := pw_cell_below hw' cwb1; have q2 := pw_cell_below hw' csb0; have q3 := pw_cell_below hw' csb1; have q4 := pw_cell_below hw' catb0; have q5 := pw_cell_below hw' catb1; exact yieldA)) (h := ?_); refine pureY (i := 9) (N := (some 197)) ?_; refine pureY (i := 10) (N := (some 198)) ?_; refine pureY (i := 11) (N := (some 199)) ?_; refine pureY (i := 12) (N := (some 200)) ?_; refine pureY (i := 26) (N := (some 30)) ?_; refine takeF (i := 14) (N := (some 202)) (hS := plS) (hy := by (intro w' hw'; replace hw' : Below (World.heap w14).size w14 w' := hw'; have q0 := pw_cell_below hw' cwb0; have q1 := pw_cell_below hw' cwb1; have q2 := pw_cell_below hw' csb0; have q3 := pw_cell_below hw' csb1; have q4 := pw_cell_below hw' catb0; have q5 := pw_cell_below hw' catb1; exact yieldA)) (h := ?_); refine takeF (i := 16) (N := (some 204)) (hS := plS) (hy := by (intro w' hw'; replace hw' : Below (World.heap w14).size w14 w' := hw'; have q0 := pw_cell_below hw' cwb0; have q1 := pw_cell_below hw' cwb1; have q2 := pw_cell_below hw' csb0; have q3 := pw_cell_below hw' csb1; have q4 := pw_cell_below hw' catb0; have q5 := pw_cell_below hw' catb1; exact yieldA)) (h := ?_); refine pureY (i := 17) (N := (some 205)) ?_; refine takeF (i := 19) (N := (some 207)) (hS := plS) (hy := by (intro w' hw'; replace hw' : Below (World.heap w14).size w14 w' := hw'; have q0 := pw_cell_below hw' cwb0; have q1 := pw_cell_below hw' cwb1; have q2 := pw_cell_below hw' csb0; have q3 := pw_cell_below hw' csb1; have q4 := pw_cell_below hw' catb0; have q5 := pw_cell_below hw' catb1; exact yieldA)) (h := ?_); refine takeF (i := 21) (N := (some 209)) (hS := plS) (hy := by (intro w' hw'; replace hw' : Below (World.heap w14).size w14 w' := hw'; have q0 := pw_cell_below hw' cwb0; have q1 := pw_cell_below hw' cwb1; have q2 := pw_cell_below hw' csb0; have q3 := pw_cell_below hw' csb1; have q4 := pw_cell_below hw' catb0; have q5 := pw_cell_below hw' catb1; exact yieldA)) (h := ?_); refine pureY (i := 22) (N := (some 210)) ?_; refine pureY (i := 23) (N := (some 211)) ?_; refine pureY (i := 24) (N := (some 212)) ?_; refine pureY (i := 25) (N := (some 213)) ?_; refine pureY (i := 27) (N := (some 31)) ?_; refine done_ (by kernel_rfl) ?_)
 clear plS hlwb cwb0 cwb1 hlsb csb0 csb1 hlatb catb0 catb1
 obtain ⟨w15, hZ⟩ : ∃ Z, w14.drew = Z := ⟨_, rfl⟩
 have hB : Below w14.heap.size w14 w15 := by rw [← hZ]; exact (Below.refl _ _).drew
 rw [hZ]
 have HF_15 := Aside0.mk (HF_14.out.below hB)
 have HB_15 := Aside0.mk (below_then HB_14.out hB)
 clear hZ hB HF_14 HB_14  w14
 go_wp2_with fail
 refine (forecourtref01_Fraction.calls k u1 u3 v1 v2 w15 HV.out).mono ?_
 rintro e w16 ⟨rfl, hB⟩
 have HF_16 := Aside0.mk (HF_15.out.below hB)
 have HB_16 := Aside0.mk (below_then HB_15.out hB)
 clear hB HF_15 HB_15  w15
 have hlab := blk_lt (HF_16.out.get ab #[.int .i64 (wLo1 n W1 S0 S1), .int .i64 (wLo2 n W1 S0 S1), .int .i64 (wHi1 n W0 S0 S1), .int .i64 (wHi2 n W0 S0 S1)] 48 (by simp))
 have cab0 : w16.cell? ⟨ab, 0, none⟩ = some (.int .i64 (wLo1 n W1 S0 S1)) := (blk_cell (HF_16.out.get ab #[.int .i64 (wLo1 n W1 S0 S1), .int .i64 (wLo2 n W1 S0 S1), .int .i64 (wHi1 n W0 S0 S1), .int .i64 (wHi2 n W0 S0 S1)] 48 (by simp)) 0).trans rfl
 have cab1 : w16.cell? ⟨ab, 1, none⟩ = some (.int .i64 (wLo2 n W1 S0 S1)) := (blk_cell (HF_16.out.get ab #[.int .i64 (wLo1 n W1 S0 S1), .int .i64 (wLo2 n W1 S0 S1), .int .i64 (wHi1 n W0 S0 S1), .int .i64 (wHi2 n W0 S0 S1)] 48 (by simp)) 1).trans rfl
 have cab2 : w16.cell? ⟨ab, 2, none⟩ = some (.int .i64 (wHi1 n W0 S0 S1)) := (blk_cell (HF_16.out.get ab #[.int .i64 (wLo1 n W1 S0 S1), .int .i64 (wLo2 n W1 S0 S1), .int .i64 (wHi1 n W0 S0 S1), .int .i64 (wHi2 n W0 S0 S1)] 48 (by simp)) 2).trans rfl
 have cab3 : w16.cell? ⟨ab, 3, none⟩ = some (.int .i64 (wHi2 n W0 S0 S1)) := (blk_cell (HF_16.out.get ab #[.int .i64 (wLo1 n W1 S0 S1), .int .i64 (wLo2 n W1 S0 S1), .int .i64 (wHi1 n W0 S0 S1), .int .i64 (wHi2 n W0 S0 S1)] 48 (by simp)) 3).trans rfl
 go_wp2_with fail
 clear hlab cab0 cab1 cab2 cab3
 obtain ⟨w16a, hZ⟩ : ∃ Z, w16.alloc (.cells #[.int .i64 v1, .int .i64 v2] 39) = Z := ⟨_, rfl⟩
 obtain ⟨vb, hbk⟩ : ∃ b, b = w16.heap.size := ⟨_, rfl⟩
 have HF_16a : Aside0 (Held [(vb, #[.int .i64 v1, .int .i64 v2], 39), (zb, #[.int .i64 n, .int .i64 1, .int .i64 n, .int .i64 1], 48), (fb, #[.int .i64 n, .int .i64 1, .int .i64 n, .int .i64 1], 48), (db, #[.int .i64 n, .int .i64 1, .int .i64 n, .int .i64 1], 48), (cb, #[.int .i64 (wLo1 m W1 S0 S1), .int .i64 (wLo2 m W1 S0 S1), .int .i64 (wHi1 m W0 S0 S1), .int .i64 (wHi2 m W0 S0 S1)], 48), (bb, #[.int .i64 (wLo1 n X1 Y0 Y1), .int .i64 (wLo2 n X1 Y0 Y1), .int .i64 (wHi1 n X0 Y0 Y1), .int .i64 (wHi2 n X0 Y0 Y1)], 48), (ab, #[.int .i64 (wLo1 n W1 S0 S1), .int .i64 (wLo2 n W1 S0 S1), .int .i64 (wHi1 n W0 S0 S1), .int .i64 (wHi2 n W0 S0 S1)], 48), (yb, #[.int .i64 Y0, .int .i64 Y1], 43), (xb, #[.int .i64 X0, .int .i64 X1], 43), (sb, #[.int .i64 S0, .int .i64 S1], 43), (wb, #[.int .i64 W0, .int .i64 W1], 43), (atb, #[.int .u16 e0, .int .u16 e1], 61), (wdb, #[.int .u8 d0, .int .u8 d1, .int .u8 d2, .int .u8 d3], 87), (swb, #[.int .u16 c0, .int .u16 c1], 61), (wab, #[.int .u16 b0, .int .u16 b1], 61)] w16a) := ⟨by rw [← hZ, hbk]; exact HF_16.out.new _ _⟩
 have HB_16a : Aside0 (Below w.heap.size w w16a) := ⟨by rw [← hZ]; exact HB_16.out.alloc HB_16.out.size _⟩
 rw [hZ, ← hbk]
 clear hZ hbk HF_16 HB_16  w16
 refine (forecourtref01_Less.calls v1 v2 (wLo1 n W1 S0 S1) (wLo2 n W1 S0 S1) false w16a HL1.out).mono ?_
 rintro e w17 ⟨rfl, hB⟩
 have HF_17 := Aside0.mk (HF_16a.out.below hB)
 have HB_17 := Aside0.mk (below_then HB_16a.out hB)
 clear hB HF_16a HB_16a  w16a
 have hlvb := blk_lt (HF_17.out.get vb #[.int .i64 v1, .int .i64 v2] 39 (by simp))
 have cvb0 : w17.cell? ⟨vb, 0, none⟩ = some (.int .i64 v1) := (blk_cell (HF_17.out.get vb #[.int .i64 v1, .int .i64 v2] 39 (by simp)) 0).trans rfl
 have cvb1 : w17.cell? ⟨vb, 1, none⟩ = some (.int .i64 v2) := (blk_cell (HF_17.out.get vb #[.int .i64 v1, .int .i64 v2] 39 (by simp)) 1).trans rfl
 have hlab := blk_lt (HF_17.out.get ab #[.int .i64 (wLo1 n W1 S0 S1), .int .i64 (wLo2 n W1 S0 S1), .int .i64 (wHi1 n W0 S0 S1), .int .i64 (wHi2 n W0 S0 S1)] 48 (by simp))
 have cab0 : w17.cell? ⟨ab, 0, none⟩ = some (.int .i64 (wLo1 n W1 S0 S1)) := (blk_cell (HF_17.out.get ab #[.int .i64 (wLo1 n W1 S0 S1), .int .i64 (wLo2 n W1 S0 S1), .int .i64 (wHi1 n W0 S0 S1), .int .i64 (wHi2 n W0 S0 S1)] 48 (by simp)) 0).trans rfl
 have cab1 : w17.cell? ⟨ab, 1, none⟩ = some (.int .i64 (wLo2 n W1 S0 S1)) := (blk_cell (HF_17.out.get ab #[.int .i64 (wLo1 n W1 S0 S1), .int .i64 (wLo2 n W1 S0 S1), .int .i64 (wHi1 n W0 S0 S1), .int .i64 (wHi2 n W0 S0 S1)] 48 (by simp)) 1).trans rfl
 have cab2 : w17.cell? ⟨ab, 2, none⟩ = some (.int .i64 (wHi1 n W0 S0 S1)) := (blk_cell (HF_17.out.get ab #[.int .i64 (wLo1 n W1 S0 S1), .int .i64 (wLo2 n W1 S0 S1), .int .i64 (wHi1 n W0 S0 S1), .int .i64 (wHi2 n W0 S0 S1)] 48 (by simp)) 2).trans rfl
 have cab3 : w17.cell? ⟨ab, 3, none⟩ = some (.int .i64 (wHi2 n W0 S0 S1)) := (blk_cell (HF_17.out.get ab #[.int .i64 (wLo1 n W1 S0 S1), .int .i64 (wLo2 n W1 S0 S1), .int .i64 (wHi1 n W0 S0 S1), .int .i64 (wHi2 n W0 S0 S1)] 48 (by simp)) 3).trans rfl
 go_wp2_with fail
 clear hlvb cvb0 cvb1 hlab cab0 cab1 cab2 cab3
 refine (forecourtref01_Less.calls (wHi1 n W0 S0 S1) (wHi2 n W0 S0 S1) v1 v2 false w17 HL2.out).mono ?_
 rintro e w18 ⟨rfl, hB⟩
 have HF_18 := Aside0.mk (HF_17.out.below hB)
 have HB_18 := Aside0.mk (below_then HB_17.out hB)
 clear hB HF_17 HB_17  w17
 go_wp2_with fail
 refine (forecourtlaw01_Works.calls true w18 ⟨rfl⟩ rfl).mono ?_
 rintro e wz ⟨rfl, hB⟩
 go_wp2_with fail
 go_ret
 exact ⟨rfl, below_then HB_18.out hB⟩
theorem tmodI {x t : Int} (hx : 0 ≤ x) (ht : 0 < t) : ∃ r, x.tmod t = r ∧ 0 ≤ r ∧ r < t := by
 have e := Int.tmod_eq_emod_of_nonneg (b := t) hx
 exact ⟨_, rfl, by rw [e]; exact Int.emod_nonneg x (by omega), by rw [e]; exact Int.emod_lt_of_pos x ht⟩
theorem wrapI {x y : Int} (h : -9223372036854775808 ≤ x ∧ x ≤ 9223372036854775807) (e : x = y) : IntKind.i64.wrap x = y := by rw [i64_w, wrap_id h, e]
set_option maxHeartbeats 2000000 in
theorem chartWarmer_walk (a0 a1 b0 b1 c0 c1 d0 d1 d2 d3 e0 e1 : Int) (w : World) (ha0 : (Lit.int .u32 a0).wf = true) (ha1 : (Lit.int .u32 a1).wf = true) (hb0 : (Lit.int .u16 b0).wf = true) (hb1 : (Lit.int .u16 b1).wf = true) (hc0 : (Lit.int .u16 c0).wf = true) (hc1 : (Lit.int .u16 c1).wf = true)
  (hd0 : (Lit.int .u8 d0).wf = true) (hd1 : (Lit.int .u8 d1).wf = true) (hd2 : (Lit.int .u8 d2).wf = true) (hd3 : (Lit.int .u8 d3).wf = true) (he0 : (Lit.int .u16 e0).wf = true) (he1 : (Lit.int .u16 e1).wf = true) :
  Calls Try.prog 13 #[.int .u32 a0, .int .u32 a1, .agg #[.int .u16 b0, .int .u16 b1], .agg #[.int .u16 c0, .int .u16 c1], .agg #[.int .u8 d0, .int .u8 d1, .int .u8 d2, .int .u8 d3], .agg #[.int .u16 e0, .int .u16 e1]] w fun e w' => e = .returned (.bool true) ∧ Below w.heap.size w w' := by
 replace ha0 := u32_of ha0
 replace ha1 := u32_of ha1
 replace hb0 := u16_of hb0
 replace hb1 := u16_of hb1
 replace hc0 := u16_of hc0
 replace hc1 := u16_of hc1
 replace hd0 := u8_of hd0
 replace hd1 := u8_of hd1
 replace hd2 := u8_of hd2
 replace hd3 := u8_of hd3
 replace he0 := u16_of he0
 replace he1 := u16_of he1
 obtain ⟨n, g1, n0, n1⟩ := tmodI ha0.1 (show (0 : Int) < 100001 by decide)
 obtain ⟨r1, g4, s0, s1⟩ := tmodI hb0.1 (show (0 : Int) < 801 by decide)
 obtain ⟨r2, g6, s2, s3⟩ := tmodI hb1.1 (show (0 : Int) < 100 by decide)
 obtain ⟨S0, g9, s4, s5⟩ := tmodI hc0.1 (show (0 : Int) < 201 by decide)
 obtain ⟨r4, g10, s6, s7⟩ := tmodI hc1.1 (show (0 : Int) < 50 by decide)
 have mnI : ∀ a b : Int, mn a b ≤ a ∧ mn a b ≤ b ∧ (mn a b = a ∨ mn a b = b) := fun a b => by unfold mn; split <;> omega
 have mxI : ∀ a b : Int, a ≤ mx a b ∧ b ≤ mx a b ∧ (mx a b = a ∨ mx a b = b) := fun a b => by unfold mx; split <;> omega
 obtain ⟨m, g3⟩ : ∃ m, mn 100000 (n + a1) = m := ⟨_, rfl⟩
 have t1 := mnI 100000 (n + a1)
 rw [g3] at t1
 obtain ⟨W0, eW0⟩ : ∃ x, x = r1 - 400 := ⟨_, rfl⟩
 obtain ⟨W1, g8⟩ : ∃ m, mn 400 (W0 + r2) = m := ⟨_, rfl⟩
 have t2 := mnI 400 (W0 + r2)
 rw [g8] at t2
 obtain ⟨S1, g12⟩ : ∃ m, mn 200 (S0 + r4) = m := ⟨_, rfl⟩
 have t3 := mnI 200 (S0 + r4)
 rw [g12] at t3
 obtain ⟨X0, g14⟩ : ∃ m, mx (-400) (W0 - d0) = m := ⟨_, rfl⟩
 have t4 := mxI (-400) (W0 - d0)
 rw [g14] at t4
 obtain ⟨X1, g16⟩ : ∃ m, mn 400 (W1 + d1) = m := ⟨_, rfl⟩
 have t5 := mnI 400 (W1 + d1)
 rw [g16] at t5
 obtain ⟨Y0, g18⟩ : ∃ m, mx 0 (S0 - d2) = m := ⟨_, rfl⟩
 have t6 := mxI 0 (S0 - d2)
 rw [g18] at t6
 obtain ⟨Y1, g20⟩ : ∃ m, mn 200 (S1 + d3) = m := ⟨_, rfl⟩
 have t7 := mnI 200 (S1 + d3)
 rw [g20] at t7
 obtain ⟨r5, g23, s8, s9⟩ := tmodI he0.1 (show 0 < W1 - W0 + 1 by omega)
 obtain ⟨r6, g27, s10, s11⟩ := tmodI he1.1 (show 0 < S1 - S0 + 1 by omega)
 have HW : Warm n m W0 W1 S0 S1 X0 X1 Y0 Y1 (W0 + r5) (S0 + r6) := by constructor <;> omega
 obtain ⟨K, hv⟩ := HW.v
 have hp := prod_in (w := W0 + r5) (s := S0 + r6) (by omega) (by omega)
 exact warm_calls K a0 a1 b0 b1 c0 c1 d0 d1 d2 d3 e0 e1 n m W0 W1 S0 S1 X0 X1 Y0 Y1 (W0 + r5) (S0 + r6) _ _ _ _ _ _ _ _ _ _ _ r1 r2 r4 r5 r6 _ _ _ _ _ w w ⟨Below.refl _ _⟩ ha0 ha1 hb0 hb1 hc0 hc1 hd0 hd1 hd2 hd3 he0 he1
  g1 (wrapI (by omega) rfl) g3 g4 (wrapI (by omega) (by omega)) g6 (wrapI (by omega) rfl) g8 g9 g10 (wrapI (by omega) rfl) g12 (wrapI (by omega) rfl) g14 (wrapI (by omega) rfl) g16 (wrapI (by omega) rfl) g18 (wrapI (by omega) rfl) g20
  (wrapI (by omega) rfl) (wrapI (by omega) rfl) g23 (wrapI (by omega) rfl) (by omega) (wrapI (by omega) rfl) (wrapI (by omega) rfl) g27 (wrapI (by omega) rfl) (by omega) (wrapI (by omega) rfl) (wrapI (by omega) rfl) (wrapI (by omega) rfl)
  (by omega) (by omega) (by omega) (by omega) (by omega) (by omega) (by omega) ⟨HW⟩ ⟨hv K (Nat.le_refl _)⟩ ⟨HW.in_lo⟩ ⟨HW.in_hi⟩
end Go.Proofs.Ytpkajhmchcbbhaa.P
end
