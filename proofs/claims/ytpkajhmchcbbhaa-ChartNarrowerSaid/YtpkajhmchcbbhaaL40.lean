/- Part 40 of 44. -/
import Derived.Test.YtpkajhmchcbbhaaL21
import Derived.Test.YtpkajhmchcbbhaaL39
set_option linter.unusedSimpArgs false
set_option linter.unusedVariables false
section
namespace Go.Proofs.Ytpkajhmchcbbhaa.P
open Go.RowKit Go.Proofs.YtpkajhmchcbbhaaW.PrintWords Go.Proofs.YtpkajhmchcbbhaaW.PrintLast Go.Proofs.YtpkajhmchcbbhaaW.PrintMore
set_option maxRecDepth 100000 in
set_option maxHeartbeats 80000000 in
theorem inside_calls (a0 a1 a2 a3 b0 b1 b2 b3 : Int) (w : World) (h1 : forecourtref01_Less.f a0 a1 b0 b1 = some false) (h2 : forecourtref01_Less.f b2 b3 a2 a3 = some false) (h3 : forecourtref01_Less.f a2 a3 a0 a1 = some false) :
  Calls Try.prog 45 #[.agg #[.int .i64 a0, .int .i64 a1, .int .i64 a2, .int .i64 a3], .agg #[.int .i64 b0, .int .i64 b1, .int .i64 b2, .int .i64 b3]] w fun e w' => e = .returned (.bool true) ∧ Below w.heap.size w w' := by
 have hu1 := Try.underlying48
 have hu2 := Try.underlying39
 have H1 := Aside0.mk h1
 have H2 := Aside0.mk h2
 have H3 := Aside0.mk h3
 clear h1 h2 h3
 have HF_0 : Aside0 (Held [] w) := ⟨⟨fun b cs t hm => by simp at hm⟩⟩
 have HB_0 : Aside0 (Below w.heap.size w w) := ⟨Below.refl _ _⟩
 go_enter Try.func45, Try.ntmps45
 go_wp2_with fail
 obtain ⟨w0a, hZ⟩ : ∃ Z, w.alloc (.cells #[.int .i64 a0, .int .i64 a1, .int .i64 a2, .int .i64 a3] 48) = Z := ⟨_, rfl⟩
 obtain ⟨ab, hbk⟩ : ∃ b, b = w.heap.size := ⟨_, rfl⟩
 have HF_0a : Aside0 (Held [(ab, #[.int .i64 a0, .int .i64 a1, .int .i64 a2, .int .i64 a3], 48)] w0a) := ⟨by rw [← hZ, hbk]; exact HF_0.out.new _ _⟩
 have HSZ := Lib.hid (show w0a.heap.size = ab + 1 by rw [← hZ, hbk]; simp)
 have HB_0a : Aside0 (Below w.heap.size w w0a) := ⟨by rw [← hZ]; exact HB_0.out.alloc HB_0.out.size _⟩
 rw [hZ, ← hbk]
 clear hZ hbk HF_0 HB_0
 obtain ⟨w0aa, hZ⟩ : ∃ Z, w0a.alloc (.cells #[.int .i64 b0, .int .i64 b1, .int .i64 b2, .int .i64 b3] 48) = Z := ⟨_, rfl⟩
 obtain ⟨bb, hbk⟩ : ∃ b, b = ab + 1 := ⟨_, rfl⟩
 have HF_0aa : Aside0 (Held [(bb, #[.int .i64 b0, .int .i64 b1, .int .i64 b2, .int .i64 b3], 48), (ab, #[.int .i64 a0, .int .i64 a1, .int .i64 a2, .int .i64 a3], 48)] w0aa) := ⟨by rw [← hZ, hbk, ← HSZ.out]; exact HF_0a.out.new _ _⟩
 have HB_0aa : Aside0 (Below w.heap.size w w0aa) := ⟨by rw [← hZ]; exact HB_0a.out.alloc HB_0a.out.size _⟩
 rw [hZ, ← hbk]
 clear hZ hbk HSZ HF_0a HB_0a  w0a
 refine (forecourtref01_Less.calls a0 a1 b0 b1 false w0aa H1.out).mono ?_
 rintro e w1 ⟨rfl, hB⟩
 have HF_1 := Aside0.mk (HF_0aa.out.below hB)
 have HB_1 := Aside0.mk (below_then HB_0aa.out hB)
 clear hB HF_0aa HB_0aa  w0aa
 have hH := HF_1.out.get ab #[.int .i64 a0, .int .i64 a1, .int .i64 a2, .int .i64 a3] 48 (by simp)
 have hlab := blk_lt hH
 have cab0 : w1.cell? ⟨ab, 0, none⟩ = some (.int .i64 a0) := (blk_cell hH 0).trans rfl
 have cab1 : w1.cell? ⟨ab, 1, none⟩ = some (.int .i64 a1) := (blk_cell hH 1).trans rfl
 have cab2 : w1.cell? ⟨ab, 2, none⟩ = some (.int .i64 a2) := (blk_cell hH 2).trans rfl
 have cab3 : w1.cell? ⟨ab, 3, none⟩ = some (.int .i64 a3) := (blk_cell hH 3).trans rfl
 clear hH
 have hH := HF_1.out.get bb #[.int .i64 b0, .int .i64 b1, .int .i64 b2, .int .i64 b3] 48 (by simp)
 have hlbb := blk_lt hH
 have cbb0 : w1.cell? ⟨bb, 0, none⟩ = some (.int .i64 b0) := (blk_cell hH 0).trans rfl
 have cbb1 : w1.cell? ⟨bb, 1, none⟩ = some (.int .i64 b1) := (blk_cell hH 1).trans rfl
 have cbb2 : w1.cell? ⟨bb, 2, none⟩ = some (.int .i64 b2) := (blk_cell hH 2).trans rfl
 have cbb3 : w1.cell? ⟨bb, 3, none⟩ = some (.int .i64 b3) := (blk_cell hH 3).trans rfl
 clear hH
 go_wp2_with fail
 clear hlab cab0 cab1 cab2 cab3 hlbb cbb0 cbb1 cbb2 cbb3
 refine (forecourtref01_Less.calls b2 b3 a2 a3 false w1 H2.out).mono ?_
 rintro e w2 ⟨rfl, hB⟩
 have HF_2 := Aside0.mk (HF_1.out.below hB)
 have HB_2 := Aside0.mk (below_then HB_1.out hB)
 clear hB HF_1 HB_1  w1
 have hH := HF_2.out.get ab #[.int .i64 a0, .int .i64 a1, .int .i64 a2, .int .i64 a3] 48 (by simp)
 have hlab := blk_lt hH
 have cab0 : w2.cell? ⟨ab, 0, none⟩ = some (.int .i64 a0) := (blk_cell hH 0).trans rfl
 have cab1 : w2.cell? ⟨ab, 1, none⟩ = some (.int .i64 a1) := (blk_cell hH 1).trans rfl
 have cab2 : w2.cell? ⟨ab, 2, none⟩ = some (.int .i64 a2) := (blk_cell hH 2).trans rfl
 have cab3 : w2.cell? ⟨ab, 3, none⟩ = some (.int .i64 a3) := (blk_cell hH 3).trans rfl
 clear hH
 have hH := HF_2.out.get bb #[.int .i64 b0, .int .i64 b1, .int .i64 b2, .int .i64 b3] 48 (by simp)
 have hlbb := blk_lt hH
 have cbb0 : w2.cell? ⟨bb, 0, none⟩ = some (.int .i64 b0) := (blk_cell hH 0).trans rfl
 have cbb1 : w2.cell? ⟨bb, 1, none⟩ = some (.int .i64 b1) := (blk_cell hH 1).trans rfl
 have cbb2 : w2.cell? ⟨bb, 2, none⟩ = some (.int .i64 b2) := (blk_cell hH 2).trans rfl
 have cbb3 : w2.cell? ⟨bb, 3, none⟩ = some (.int .i64 b3) := (blk_cell hH 3).trans rfl
 clear hH
 go_wp2_with fail
 clear hlab cab0 cab1 cab2 cab3 hlbb cbb0 cbb1 cbb2 cbb3
 refine (forecourtref01_Less.calls a2 a3 a0 a1 false w2 H3.out).mono ?_
 rintro e w3 ⟨rfl, hB⟩
 have HF_3 := Aside0.mk (HF_2.out.below hB)
 have HB_3 := Aside0.mk (below_then HB_2.out hB)
 clear hB HF_2 HB_2  w2
 go_wp2_with fail
 go_ret
 exact ⟨rfl, HB_3.out⟩
end Go.Proofs.Ytpkajhmchcbbhaa.P
end
