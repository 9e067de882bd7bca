/- Part 43 of 44. -/
import Derived.Test.YtpkajhmchcbbhaaL41
import Derived.Test.YtpkajhmchcbbhaaL17
import Derived.Test.YtpkajhmchcbbhaaL34
import Derived.Test.YtpkajhmchcbbhaaL40
import Derived.Test.YtpkajhmchcbbhaaL8
import Derived.Test.YtpkajhmchcbbhaaL12
import Derived.Test.YtpkajhmchcbbhaaL10
import Derived.Test.YtpkajhmchcbbhaaL42
import Derived.Test.YtpkajhmchcbbhaaL15
set_option linter.unusedSimpArgs false
set_option linter.unusedVariables false
section
namespace Go.Proofs.Ytpkajhmchcbbhaa.P
open Go Go.BigFrame Go.RowKit Go.Proofs.YtpkajhmchcbbhaaW.PrintWords Go.Proofs.YtpkajhmchcbbhaaW.PrintLast Go.Proofs.YtpkajhmchcbbhaaW.PrintMore
attribute [local go_sem high] eqA43 eqA48
set_option maxRecDepth 100000 in
set_option maxHeartbeats 80000000 in
theorem narC_calls (A : Option Addr) (c : Nat) (l : List SRow) (p : Int) (row u0 u1 q x0 x1 x2 : Int) (k : Nat) (w w0 : World)
  (HR_0 : Aside0 (Kd.C k70 w0 A l.length l)) (HC : Hid (l.length ≤ c)) (HB_0 : Aside0 (Below w.heap.size w w0))
  (HF : Hid (forecourtlaw01_fine.f k l p = some false)) :
  Calls Try.prog 9 #[.agg #[.slice A l.length c, .int .i64 p], .int .u8 row, .agg #[.int .u32 u0, .int .u32 u1], .int .u8 q, .agg #[.int .u16 x0, .int .u16 x1], .int .u16 x2] w0 fun e w' => e = .returned (.bool true) ∧ Below w.heap.size w w' := by
 have hu1 := Try.underlying24
 have hu2 := Try.underlying70
 have hu3 := Try.underlying43
 have hu4 := Try.underlying48
 have hu5 := Try.underlying61
 have hu6 := Try.underlying22
 have hu7 := Try.underlying28
 have hu8 := Try.underlying74
 have hu9 := Try.underlying76
 have HF_0 : Aside0 (Held [] w0) := ⟨⟨fun b cs t hm => by simp at hm⟩⟩
 go_enter Try.func9, Try.ntmps9
 go_wp2_with fail
 obtain ⟨w0a, hZ⟩ : ∃ Z, w0.alloc (.cells #[.slice A l.length c, .int .i64 p] 24) = Z := ⟨_, rfl⟩
 obtain ⟨tb, hbk⟩ : ∃ b, b = w0.heap.size := ⟨_, rfl⟩
 have HF_0a : Aside0 (Held [(tb, #[.slice A l.length c, .int .i64 p], 24)] w0a) := ⟨by rw [← hZ, hbk]; exact HF_0.out.new _ _⟩
 have HSZ := Lib.hid (show w0a.heap.size = tb + 1 by rw [← hZ, hbk]; simp)
 have HR_0a : Aside0 (Kd.C k70 w0a A l.length l) := ⟨by rw [← hZ]; exact Kd.C_below HR_0.out ((Below.refl _ _).alloc (Nat.le_refl _) _)⟩
 have HB_0a : Aside0 (Below w.heap.size w w0a) := ⟨by rw [← hZ]; exact HB_0.out.alloc HB_0.out.size _⟩
 rw [hZ, ← hbk]
 clear hZ hbk HF_0 HB_0 HR_0 w0
 obtain ⟨w0aa, hZ⟩ : ∃ Z, w0a.alloc (.cells #[.int .u32 u0, .int .u32 u1] 74) = Z := ⟨_, rfl⟩
 obtain ⟨lb, hbk⟩ : ∃ b, b = tb + 1 := ⟨_, rfl⟩
 have HF_0aa : Aside0 (Held [(lb, #[.int .u32 u0, .int .u32 u1], 74), (tb, #[.slice A l.length c, .int .i64 p], 24)] w0aa) := ⟨by rw [← hZ, hbk, ← HSZ.out]; exact HF_0a.out.new _ _⟩
 have HSZ2 := Lib.hid (show w0aa.heap.size = lb + 1 by rw [← hZ, hbk, ← HSZ.out]; simp)
 have HR_0aa : Aside0 (Kd.C k70 w0aa A l.length l) := ⟨by rw [← hZ]; exact Kd.C_below HR_0a.out ((Below.refl _ _).alloc (Nat.le_refl _) _)⟩
 have HB_0aa : Aside0 (Below w.heap.size w w0aa) := ⟨by rw [← hZ]; exact HB_0a.out.alloc HB_0a.out.size _⟩
 rw [hZ, ← hbk]
 clear hZ hbk HSZ HF_0a HB_0a HR_0a w0a
 have HSZ := HSZ2
 clear HSZ2
 obtain ⟨w0aaa, hZ⟩ : ∃ Z, w0aa.alloc (.cells #[.int .u16 x0, .int .u16 x1] 61) = Z := ⟨_, rfl⟩
 obtain ⟨db, hbk⟩ : ∃ b, b = lb + 1 := ⟨_, rfl⟩
 have HF_0aaa : Aside0 (Held [(db, #[.int .u16 x0, .int .u16 x1], 61), (lb, #[.int .u32 u0, .int .u32 u1], 74), (tb, #[.slice A l.length c, .int .i64 p], 24)] w0aaa) := ⟨by rw [← hZ, hbk, ← HSZ.out]; exact HF_0aa.out.new _ _⟩
 have HR_0aaa : Aside0 (Kd.C k70 w0aaa A l.length l) := ⟨by rw [← hZ]; exact Kd.C_below HR_0aa.out ((Below.refl _ _).alloc (Nat.le_refl _) _)⟩
 have HB_0aaa : Aside0 (Below w.heap.size w w0aaa) := ⟨by rw [← hZ]; exact HB_0aa.out.alloc HB_0aa.out.size _⟩
 rw [hZ, ← hbk]
 clear hZ hbk HSZ HF_0aa HB_0aa HR_0aa w0aa
 refine (forecourtlaw01_fine.calls k A c l p false w0aaa HR_0aaa.out HC.out HF.out).mono ?_
 rintro e w1 ⟨rfl, hB⟩
 have HF_1 := Aside0.mk (HF_0aaa.out.below hB)
 have HB_1 := Aside0.mk (below_then HB_0aaa.out hB)
 have HR_1 := Aside0.mk (Kd.C_below HR_0aaa.out hB)
 clear hB HF_0aaa HB_0aaa HR_0aaa w0aaa
 go_wp2_with fail
 refine (forecourtlaw01_Works.calls true w1 ⟨rfl⟩ rfl).mono ?_
 rintro e wz ⟨rfl, hB⟩
 go_wp2_with fail
 go_ret
 exact ⟨rfl, below_then HB_1.out hB⟩
end Go.Proofs.Ytpkajhmchcbbhaa.P
end
section
namespace Go.Proofs.Ytpkajhmchcbbhaa.P
open Go.RowKit Go.Proofs.YtpkajhmchcbbhaaW.PrintWords Go.Proofs.YtpkajhmchcbbhaaW.PrintLast Go.Proofs.YtpkajhmchcbbhaaW.PrintMore
theorem chartNarrower_walk (A : Option Addr) (c : Nat) (l : List SRow) (p row u0 u1 q x0 x1 x2 : Int) (w : World) (hC : Kd.C kRow w A l.length l) (hc : l.length ≤ c) (_hr : ∀ r, r ∈ l → Row64 r) (_hp : I64 p)
  (g1 : (Lit.int .u8 row).wf = true) (g2 : (Lit.int .u32 u0).wf = true) (g3 : (Lit.int .u32 u1).wf = true) (g4 : (Lit.int .u8 q).wf = true) (g5 : (Lit.int .u16 x0).wf = true) (g6 : (Lit.int .u16 x1).wf = true) (g7 : (Lit.int .u16 x2).wf = true) :
  Calls Try.prog 9 #[.agg #[.slice A l.length c, .int .i64 p], .int .u8 row, .agg #[.int .u32 u0, .int .u32 u1], .int .u8 q, .agg #[.int .u16 x0, .int .u16 x1], .int .u16 x2] w fun e w' => e = .returned (.bool true) ∧ Below w.heap.size w w' := by
 have h1 := u8_of g1
 have h2 := u32_of g2
 have h3 := u32_of g3
 have h4 := u8_of g4
 have h5 := u16_of g5
 have h6 := u16_of g6
 have h7 := u16_of g7
 obtain ⟨b, ⟨K1, hK1⟩, hb⟩ := fine_ev l p
 have HB : Aside0 (Below w.heap.size w w) := ⟨Below.refl _ _⟩
 cases b with
 | false => exact narC_calls A c l p row u0 u1 q x0 x1 x2 K1 w w ⟨hC⟩ (Lib.hid hc) HB (Lib.hid (hK1 K1 (Nat.le_refl _)))
 | true =>
  have hF := hb rfl
  have hn2 := hF.tank.n2
  obtain ⟨kk, hk, ek⟩ := tmod_nat h1.1 (show 0 < l.length by omega)
  have ht := hF.tank.lit kk hk
  have hp0 := hF.tank.p0
  have hp1 := hF.tank.p1
  have e1 : IntKind.i64.wrap (loR l kk + u0) = loR l kk + u0 := by rw [i64_w]; exact wrap_id (by omega)
  have e2 : IntKind.i64.wrap (hiR l kk - u1) = hiR l kk - u1 := by rw [i64_w]; exact wrap_id (by omega)
  have e3 : IntKind.i64.wrap (p - q) = p - q := by rw [i64_w]; exact wrap_id (by omega)
  have a1 : loR l kk ≤ mn (hiR l kk) (loR l kk + u0) ∧ mn (hiR l kk) (loR l kk + u0) ≤ hiR l kk := by unfold mn; split <;> omega
  have a2 : mx (mn (hiR l kk) (loR l kk + u0)) (hiR l kk - u1) ≤ hiR l kk := by
   generalize mn (hiR l kk) (loR l kk + u0) = y at *
   unfold mx; split <;> omega
  have a3 : mx 0 (p - q) ≤ p := by unfold mx; split <;> omega
  obtain ⟨K2, wa, le, dz, n1, n2, n3, n4, e, ex, m1, m2, m3, m4, ey, o1, o2, o3, o4, a, bz, hM⟩ := nar_facts hF x0 x1 x2 h5 h6 h7 kk hk (mn (hiR l kk) (loR l kk + u0)) (mx (mn (hiR l kk) (loR l kk + u0)) (hiR l kk - u1)) (mx 0 (p - q)) a1.1 a2 a3
  exact narA_calls A c l p row u0 u1 q x0 x1 x2 (K1 + K2) kk _ _ _ _ _ _ wa le dz n1 n2 n3 n4 e ex m1 m2 m3 m4 ey o1 o2 o3 o4 a bz w w ⟨hC⟩ (Lib.hid hc) HB (Lib.hid (hK1 _ (by omega))) (Lib.hid ⟨h1.1, h1.2, h2.1, h2.2, h3.1, h3.2, h4.1, h4.2⟩)
   (Lib.hid ⟨hk, ek⟩) (Lib.hid ⟨e1, rfl, e2, rfl⟩) (Lib.hid ⟨e3, rfl⟩) ⟨hM _ (by omega)⟩
end Go.Proofs.Ytpkajhmchcbbhaa.P
end
