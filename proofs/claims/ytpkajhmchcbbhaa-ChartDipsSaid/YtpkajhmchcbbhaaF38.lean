/- Part 38 of 39. -/
import Derived.Test.YtpkajhmchcbbhaaF22
import Derived.Test.YtpkajhmchcbbhaaF37
import Derived.Test.YtpkajhmchcbbhaaF25
import Derived.Test.YtpkajhmchcbbhaaF15
import Derived.Test.YtpkajhmchcbbhaaF21
import Derived.Test.YtpkajhmchcbbhaaF10
import Derived.Test.YtpkajhmchcbbhaaF11
import Derived.Test.YtpkajhmchcbbhaaF8
import Derived.Test.YtpkajhmchcbbhaaF12
set_option linter.unusedSimpArgs false
set_option linter.unusedVariables false
section
namespace Go.Proofs.Ytpkajhmchcbbhaa.P
open Go.RowKit Go.Proofs.YtpkajhmchcbbhaaW.PrintWords Go.Proofs.YtpkajhmchcbbhaaW.PrintLast Go.Proofs.YtpkajhmchcbbhaaW.PrintMore
attribute [local go_sem high] eqA43 eqA48
set_option maxRecDepth 100000 in
set_option maxHeartbeats 8000000 in
theorem dips_calls (A : Option Addr) (c : Nat) (l : List SRow) (p : Int) (v s0 s1 t0 t1 : Int) (k : Nat) (b0 : Bool) (d1 d2 d3 n1 n2 n3 n4 n5 : Int) (w w0 : World)
  (HR_0 : Aside0 (Kd.C kRow w0 A l.length l)) (HC : Hid (l.length ≤ c)) (HB_0 : Aside0 (Below w.heap.size w w0)) (H1 : Hid (forecourtlaw01_great.f l p = some b0)) (H2 : Hid (b0 = false → chart_Dips.f l p v = some (d1, d2, d3))) (H3 : Hid (b0 = false → forecourtref01_Dips.f l p v = some (d1, d2, d3)))
  (H4 : Hid (chart_Common.f k v s0 s1 t0 t1 = some (n1, n2, n3, n4, n5))) (H5 : Hid (forecourtref01_Common.f k v s0 s1 t0 t1 = some (n1, n2, n3, n4, n5))) :
  Calls Try.prog 6 #[.agg #[.slice A l.length c, .int .i64 p], .int .i64 v, .agg #[.int .i64 s0, .int .i64 s1], .agg #[.int .i64 t0, .int .i64 t1]] w0 fun e w' => e = .returned (.bool true) ∧ Below w.heap.size w w' := by
 have hu1 := Try.underlying24
 have hu3 := Try.underlying43
 have hu4 := Try.underlying48
 have HF_0 : Aside0 (Held [] w0) := ⟨⟨fun b cs t hm => by simp at hm⟩⟩
 go_enter Try.func6, Try.ntmps6
 go_wp2_with fail
 obtain ⟨w0a, hZ⟩ : ∃ Z, w0.alloc (.cells #[.slice A l.length c, .int .i64 p] 24) = Z := ⟨_, rfl⟩
 obtain ⟨tb, hbk⟩ : ∃ b, b = w0.heap.size := ⟨_, rfl⟩
 have HF_0a : Aside0 (Held [(tb, #[.slice A l.length c, .int .i64 p], 24)] w0a) := ⟨by rw [← hZ, hbk]; exact HF_0.out.new _ _⟩
 have HSZ := Lib.hid (show w0a.heap.size = tb + 1 by rw [← hZ, hbk]; simp)
 have HR_0a : Aside0 (Kd.C kRow w0a A l.length l) := ⟨by rw [← hZ]; exact Kd.C_below HR_0.out ((Below.refl _ _).alloc (Nat.le_refl _) _)⟩
 have HB_0a : Aside0 (Below w.heap.size w w0a) := ⟨by rw [← hZ]; exact HB_0.out.alloc HB_0.out.size _⟩
 rw [hZ, ← hbk]
 clear hZ hbk HF_0 HB_0 HR_0 w0
 obtain ⟨w0aa, hZ⟩ : ∃ Z, w0a.alloc (.cells #[.int .i64 s0, .int .i64 s1] 43) = Z := ⟨_, rfl⟩
 obtain ⟨sb, hbk⟩ : ∃ b, b = tb + 1 := ⟨_, rfl⟩
 have HF_0aa : Aside0 (Held [(sb, #[.int .i64 s0, .int .i64 s1], 43), (tb, #[.slice A l.length c, .int .i64 p], 24)] w0aa) := ⟨by rw [← hZ, hbk, ← HSZ.out]; exact HF_0a.out.new _ _⟩
 have HSZ2 := Lib.hid (show w0aa.heap.size = sb + 1 by rw [← hZ, hbk, ← HSZ.out]; simp)
 have HR_0aa : Aside0 (Kd.C kRow w0aa A l.length l) := ⟨by rw [← hZ]; exact Kd.C_below HR_0a.out ((Below.refl _ _).alloc (Nat.le_refl _) _)⟩
 have HB_0aa : Aside0 (Below w.heap.size w w0aa) := ⟨by rw [← hZ]; exact HB_0a.out.alloc HB_0a.out.size _⟩
 rw [hZ, ← hbk]
 clear hZ hbk HSZ HF_0a HB_0a HR_0a w0a
 have HSZ := HSZ2
 clear HSZ2
 obtain ⟨w0aaa, hZ⟩ : ∃ Z, w0aa.alloc (.cells #[.int .i64 t0, .int .i64 t1] 43) = Z := ⟨_, rfl⟩
 obtain ⟨ub, hbk⟩ : ∃ b, b = sb + 1 := ⟨_, rfl⟩
 have HF_0aaa : Aside0 (Held [(ub, #[.int .i64 t0, .int .i64 t1], 43), (sb, #[.int .i64 s0, .int .i64 s1], 43), (tb, #[.slice A l.length c, .int .i64 p], 24)] w0aaa) := ⟨by rw [← hZ, hbk, ← HSZ.out]; exact HF_0aa.out.new _ _⟩
 have HR_0aaa : Aside0 (Kd.C kRow w0aaa A l.length l) := ⟨by rw [← hZ]; exact Kd.C_below HR_0aa.out ((Below.refl _ _).alloc (Nat.le_refl _) _)⟩
 have HB_0aaa : Aside0 (Below w.heap.size w w0aaa) := ⟨by rw [← hZ]; exact HB_0aa.out.alloc HB_0aa.out.size _⟩
 rw [hZ, ← hbk]
 clear hZ hbk HSZ HF_0aa HB_0aa HR_0aa w0aa
 refine (forecourtlaw01_great.calls A c l p b0 w0aaa HR_0aaa.out HC.out H1.out).mono ?_
 rintro e w1 ⟨rfl, hB⟩
 have HF_1 := Aside0.mk (HF_0aaa.out.below hB)
 have HB_1 := Aside0.mk (below_then HB_0aaa.out hB)
 have HR_1 := Aside0.mk (Kd.C_below HR_0aaa.out hB)
 clear hB HF_0aaa HB_0aaa HR_0aaa w0aaa
 cases b0 with
 | true =>
  go_wp2_with fail
  refine (forecourtlaw01_Works.calls true w1 ⟨rfl⟩ rfl).mono ?_
  rintro e wz ⟨rfl, hB⟩
  go_wp2_with fail
  go_ret
  exact ⟨rfl, below_then HB_1.out hB⟩
 | false =>
 have hH := HF_1.out.get tb #[.slice A l.length c, .int .i64 p] 24 (by simp)
 have hltb := blk_lt hH
 have ctb0 : w1.cell? ⟨tb, 0, none⟩ = some (.slice A l.length c) := (blk_cell hH 0).trans rfl
 have ctb1 : w1.cell? ⟨tb, 1, none⟩ = some (.int .i64 p) := (blk_cell hH 1).trans rfl
 clear hH
 go_wp2_with fail
 clear hltb ctb0 ctb1
 refine (chart_Dips.calls A c l p v d1 d2 d3 w1 HR_1.out HC.out (H2.out (by trivial))).mono ?_
 rintro e w2 ⟨rfl, hB⟩
 have HF_2 := Aside0.mk (HF_1.out.below hB)
 have HB_2 := Aside0.mk (below_then HB_1.out hB)
 have HR_2 := Aside0.mk (Kd.C_below HR_1.out hB)
 clear hB HF_1 HB_1 HR_1 w1
 have hH := HF_2.out.get tb #[.slice A l.length c, .int .i64 p] 24 (by simp)
 have hltb := blk_lt hH
 have ctb0 : w2.cell? ⟨tb, 0, none⟩ = some (.slice A l.length c) := (blk_cell hH 0).trans rfl
 have ctb1 : w2.cell? ⟨tb, 1, none⟩ = some (.int .i64 p) := (blk_cell hH 1).trans rfl
 clear hH
 go_wp2_with fail
 clear hltb ctb0 ctb1
 obtain ⟨w2a, hZ⟩ : ∃ Z, w2.alloc (.cells #[.int .i64 d1, .int .i64 d2] 43) = Z := ⟨_, rfl⟩
 obtain ⟨db, hbk⟩ : ∃ b, b = w2.heap.size := ⟨_, rfl⟩
 have HF_2a : Aside0 (Held [(db, #[.int .i64 d1, .int .i64 d2], 43), (ub, #[.int .i64 t0, .int .i64 t1], 43), (sb, #[.int .i64 s0, .int .i64 s1], 43), (tb, #[.slice A l.length c, .int .i64 p], 24)] w2a) := ⟨by rw [← hZ, hbk]; exact HF_2.out.new _ _⟩
 have HR_2a : Aside0 (Kd.C kRow w2a A l.length l) := ⟨by rw [← hZ]; exact Kd.C_below HR_2.out ((Below.refl _ _).alloc (Nat.le_refl _) _)⟩
 have HB_2a : Aside0 (Below w.heap.size w w2a) := ⟨by rw [← hZ]; exact HB_2.out.alloc HB_2.out.size _⟩
 rw [hZ, ← hbk]
 clear hZ hbk HF_2 HB_2 HR_2 w2
 refine (forecourtref01_Dips.calls A c l p v d1 d2 d3 w2a HR_2a.out HC.out (H3.out (by trivial))).mono ?_
 rintro e w3 ⟨rfl, hB⟩
 have HF_3 := Aside0.mk (HF_2a.out.below hB)
 have HB_3 := Aside0.mk (below_then HB_2a.out hB)
 have HR_3 := Aside0.mk (Kd.C_below HR_2a.out hB)
 clear hB HF_2a HB_2a HR_2a w2a
 have hH := HF_3.out.get sb #[.int .i64 s0, .int .i64 s1] 43 (by simp)
 have hlsb := blk_lt hH
 have csb0 : w3.cell? ⟨sb, 0, none⟩ = some (.int .i64 s0) := (blk_cell hH 0).trans rfl
 have csb1 : w3.cell? ⟨sb, 1, none⟩ = some (.int .i64 s1) := (blk_cell hH 1).trans rfl
 clear hH
 have hH := HF_3.out.get ub #[.int .i64 t0, .int .i64 t1] 43 (by simp)
 have hlub := blk_lt hH
 have cub0 : w3.cell? ⟨ub, 0, none⟩ = some (.int .i64 t0) := (blk_cell hH 0).trans rfl
 have cub1 : w3.cell? ⟨ub, 1, none⟩ = some (.int .i64 t1) := (blk_cell hH 1).trans rfl
 clear hH
 go_wp2_with fail
 clear hlsb csb0 csb1 hlub cub0 cub1
 obtain ⟨w3a, hZ⟩ : ∃ Z, w3.alloc (.cells #[.int .i64 d1, .int .i64 d2] 43) = Z := ⟨_, rfl⟩
 obtain ⟨eb, hbk⟩ : ∃ b, b = w3.heap.size := ⟨_, rfl⟩
 have HF_3a : Aside0 (Held [(eb, #[.int .i64 d1, .int .i64 d2], 43), (db, #[.int .i64 d1, .int .i64 d2], 43), (ub, #[.int .i64 t0, .int .i64 t1], 43), (sb, #[.int .i64 s0, .int .i64 s1], 43), (tb, #[.slice A l.length c, .int .i64 p], 24)] w3a) := ⟨by rw [← hZ, hbk]; exact HF_3.out.new _ _⟩
 have HR_3a : Aside0 (Kd.C kRow w3a A l.length l) := ⟨by rw [← hZ]; exact Kd.C_below HR_3.out ((Below.refl _ _).alloc (Nat.le_refl _) _)⟩
 have HB_3a : Aside0 (Below w.heap.size w w3a) := ⟨by rw [← hZ]; exact HB_3.out.alloc HB_3.out.size _⟩
 rw [hZ, ← hbk]
 clear hZ hbk HF_3 HB_3 HR_3 w3
 refine (chart_Common.calls k v s0 s1 t0 t1 n1 n2 n3 n4 n5 w3a H4.out).mono ?_
 rintro e w4 ⟨rfl, hB⟩
 have HF_4 := Aside0.mk (HF_3a.out.below hB)
 have HB_4 := Aside0.mk (below_then HB_3a.out hB)
 have HR_4 := Aside0.mk (Kd.C_below HR_3a.out hB)
 clear hB HF_3a HB_3a HR_3a w3a
 have hH := HF_4.out.get sb #[.int .i64 s0, .int .i64 s1] 43 (by simp)
 have hlsb := blk_lt hH
 have csb0 : w4.cell? ⟨sb, 0, none⟩ = some (.int .i64 s0) := (blk_cell hH 0).trans rfl
 have csb1 : w4.cell? ⟨sb, 1, none⟩ = some (.int .i64 s1) := (blk_cell hH 1).trans rfl
 clear hH
 have hH := HF_4.out.get ub #[.int .i64 t0, .int .i64 t1] 43 (by simp)
 have hlub := blk_lt hH
 have cub0 : w4.cell? ⟨ub, 0, none⟩ = some (.int .i64 t0) := (blk_cell hH 0).trans rfl
 have cub1 : w4.cell? ⟨ub, 1, none⟩ = some (.int .i64 t1) := (blk_cell hH 1).trans rfl
 clear hH
 go_wp2_with fail
 clear hlsb csb0 csb1 hlub cub0 cub1
 obtain ⟨w4a, hZ⟩ : ∃ Z, w4.alloc (.cells #[.int .i64 n1, .int .i64 n2, .int .i64 n3, .int .i64 n4] 48) = Z := ⟨_, rfl⟩
 obtain ⟨nb, hbk⟩ : ∃ b, b = w4.heap.size := ⟨_, rfl⟩
 have HF_4a : Aside0 (Held [(nb, #[.int .i64 n1, .int .i64 n2, .int .i64 n3, .int .i64 n4], 48), (eb, #[.int .i64 d1, .int .i64 d2], 43), (db, #[.int .i64 d1, .int .i64 d2], 43), (ub, #[.int .i64 t0, .int .i64 t1], 43), (sb, #[.int .i64 s0, .int .i64 s1], 43), (tb, #[.slice A l.length c, .int .i64 p], 24)] w4a) := ⟨by rw [← hZ, hbk]; exact HF_4.out.new _ _⟩
 have HR_4a : Aside0 (Kd.C kRow w4a A l.length l) := ⟨by rw [← hZ]; exact Kd.C_below HR_4.out ((Below.refl _ _).alloc (Nat.le_refl _) _)⟩
 have HB_4a : Aside0 (Below w.heap.size w w4a) := ⟨by rw [← hZ]; exact HB_4.out.alloc HB_4.out.size _⟩
 rw [hZ, ← hbk]
 clear hZ hbk HF_4 HB_4 HR_4 w4
 refine (forecourtref01_Common.calls k v s0 s1 t0 t1 n1 n2 n3 n4 n5 w4a H5.out).mono ?_
 rintro e w5 ⟨rfl, hB⟩
 have HF_5 := Aside0.mk (HF_4a.out.below hB)
 have HB_5 := Aside0.mk (below_then HB_4a.out hB)
 have HR_5 := Aside0.mk (Kd.C_below HR_4a.out hB)
 clear hB HF_4a HB_4a HR_4a w4a
 have hH := HF_5.out.get db #[.int .i64 d1, .int .i64 d2] 43 (by simp)
 have hldb := blk_lt hH
 have cdb0 : w5.cell? ⟨db, 0, none⟩ = some (.int .i64 d1) := (blk_cell hH 0).trans rfl
 have cdb1 : w5.cell? ⟨db, 1, none⟩ = some (.int .i64 d2) := (blk_cell hH 1).trans rfl
 clear hH
 have hH := HF_5.out.get eb #[.int .i64 d1, .int .i64 d2] 43 (by simp)
 have hleb := blk_lt hH
 have ceb0 : w5.cell? ⟨eb, 0, none⟩ = some (.int .i64 d1) := (blk_cell hH 0).trans rfl
 have ceb1 : w5.cell? ⟨eb, 1, none⟩ = some (.int .i64 d2) := (blk_cell hH 1).trans rfl
 clear hH
 have hH := HF_5.out.get nb #[.int .i64 n1, .int .i64 n2, .int .i64 n3, .int .i64 n4] 48 (by simp)
 have hlnb := blk_lt hH
 have cnb0 : w5.cell? ⟨nb, 0, none⟩ = some (.int .i64 n1) := (blk_cell hH 0).trans rfl
 have cnb1 : w5.cell? ⟨nb, 1, none⟩ = some (.int .i64 n2) := (blk_cell hH 1).trans rfl
 have cnb2 : w5.cell? ⟨nb, 2, none⟩ = some (.int .i64 n3) := (blk_cell hH 2).trans rfl
 have cnb3 : w5.cell? ⟨nb, 3, none⟩ = some (.int .i64 n4) := (blk_cell hH 3).trans rfl
 clear hH
 go_wp2_with fail
 clear hldb cdb0 cdb1 hleb ceb0 ceb1 hlnb cnb0 cnb1 cnb2 cnb3
 obtain ⟨w5a, hZ⟩ : ∃ Z, w5.alloc (.cells #[.int .i64 n1, .int .i64 n2, .int .i64 n3, .int .i64 n4] 48) = Z := ⟨_, rfl⟩
 obtain ⟨mb, hbk⟩ : ∃ b, b = w5.heap.size := ⟨_, rfl⟩
 have HF_5a : Aside0 (Held [(mb, #[.int .i64 n1, .int .i64 n2, .int .i64 n3, .int .i64 n4], 48), (nb, #[.int .i64 n1, .int .i64 n2, .int .i64 n3, .int .i64 n4], 48), (eb, #[.int .i64 d1, .int .i64 d2], 43), (db, #[.int .i64 d1, .int .i64 d2], 43), (ub, #[.int .i64 t0, .int .i64 t1], 43), (sb, #[.int .i64 s0, .int .i64 s1], 43), (tb, #[.slice A l.length c, .int .i64 p], 24)] w5a) := ⟨by rw [← hZ, hbk]; exact HF_5.out.new _ _⟩
 have HR_5a : Aside0 (Kd.C kRow w5a A l.length l) := ⟨by rw [← hZ]; exact Kd.C_below HR_5.out ((Below.refl _ _).alloc (Nat.le_refl _) _)⟩
 have HB_5a : Aside0 (Below w.heap.size w w5a) := ⟨by rw [← hZ]; exact HB_5.out.alloc HB_5.out.size _⟩
 rw [hZ, ← hbk]
 clear hZ hbk HF_5 HB_5 HR_5 w5
 refine (forecourtlaw01_Works.calls true w5a ⟨rfl⟩ rfl).mono ?_
 rintro e wz ⟨rfl, hB⟩
 go_wp2_with fail
 go_ret
 exact ⟨rfl, below_then HB_5a.out hB⟩
theorem chartDips_walk (A : Option Addr) (c : Nat) (l : List SRow) (p v w0 w1 s0 s1 : Int) (w : World) (hC : Kd.C kRow w A l.length l) (hc : l.length ≤ c) (_hr : ∀ r, r ∈ l → Row64 r) (_hp : I64 p) (_hv : I64 v) (_h1 : I64 w0) (_h2 : I64 w1) (_h3 : I64 s0) (_h4 : I64 s1) :
  Calls Try.prog 6 #[.agg #[.slice A l.length c, .int .i64 p], .int .i64 v, .agg #[.int .i64 w0, .int .i64 w1], .agg #[.int .i64 s0, .int .i64 s1]] w fun e w' => e = .returned (.bool true) ∧ Below w.heap.size w w' := by
 obtain ⟨d, hd⟩ : ∃ d, chart_Dips.f l p v = some d := ⟨_, rfl⟩
 obtain ⟨r, h1, h2⟩ := refCommon_ev v w0 w1 s0 s1
 obtain ⟨k, hk⟩ := h2.rounds
 refine dips_calls A c l p v w0 w1 s0 s1 k (decide ((l.length : Int) > 25)) d.1 d.2.1 d.2.2 r.1 r.2.1 r.2.2.1 r.2.2.2.1 r.2.2.2.2 w w ⟨hC⟩ (Lib.hid hc) ⟨Below.refl _ _⟩ (Lib.hid rfl) (Lib.hid (fun _ => hd)) (Lib.hid (fun h => ?_)) (Lib.hid h1) (Lib.hid hk)
 unfold forecourtref01_Dips.f
 have h25 : ¬ (l.length : Int) > 25 := of_decide_eq_false h
 rw [if_pos (by omega), hd]
end Go.Proofs.Ytpkajhmchcbbhaa.P
end
