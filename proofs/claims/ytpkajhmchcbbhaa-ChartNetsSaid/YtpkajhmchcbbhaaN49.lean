/- Part 49 of 50. -/
import Derived.Test.YtpkajhmchcbbhaaN44
import Derived.Test.YtpkajhmchcbbhaaN48
import Derived.Test.YtpkajhmchcbbhaaN19
set_option linter.unusedSimpArgs false
set_option linter.unusedVariables false
section
namespace Go.Proofs.Ytpkajhmchcbbhaa.P
open Go.RowKit Go.Proofs.YtpkajhmchcbbhaaW.PrintWords Go.Proofs.YtpkajhmchcbbhaaW.PrintLast Go.Proofs.YtpkajhmchcbbhaaW.PrintMore
attribute [local go_sem high] eqA39 eqA43 eqA48 eqA51
set_option maxRecDepth 100000 in
set_option maxHeartbeats 8000000 in
theorem nets_calls (A : Option Addr) (c : Nat) (l : List SRow) (p : Int) (water level : Int) (high : Bool) (k : Nat) (n1 n2 n3 n4 e0 : Int) (x : List Int) (d0 d1 : Int) (w w0 : World)
  (HR_0 : Aside0 (Kd.C k70 w0 A l.length l)) (HC : Hid (l.length ≤ c)) (HB_0 : Aside0 (Below w.heap.size w w0))
  (HE : Hid (l.length ≤ 25 → NetsFacts l p water level high k n1 n2 n3 n4 e0 x d0 d1)) :
  Calls Try.prog 5 #[.agg #[.slice A l.length c, .int .i64 p], .int .i64 water, .int .i64 level, .bool high] w0 fun e w' => e = .returned (.bool true) ∧ Below w.heap.size w w' := by
 have hu1 := Try.underlying24
 have hu2 := Try.underlying39
 have hu3 := Try.underlying43
 have hu4 := Try.underlying48
 have hu5 := Try.underlying51
 have HF_0 : Aside0 (Held [] w0) := ⟨⟨fun b cs t hm => by simp at hm⟩⟩
 go_enter Try.func5, Try.ntmps5
 go_wp2_with fail
 obtain ⟨w0a, hZ⟩ : ∃ Z, w0.alloc (.cells #[.slice A l.length c, .int .i64 p] 24) = Z := ⟨_, rfl⟩
 obtain ⟨tb, hbk⟩ : ∃ b, b = w0.heap.size := ⟨_, rfl⟩
 have HF_0a : Aside0 (Held [(tb, #[.slice A l.length c, .int .i64 p], 24)] w0a) := ⟨by rw [← hZ, hbk]; exact HF_0.out.new _ _⟩
 have HR_0a : Aside0 (Kd.C k70 w0a A l.length l) := ⟨by rw [← hZ]; exact Kd.C_below HR_0.out ((Below.refl _ _).alloc (Nat.le_refl _) _)⟩
 have HB_0a : Aside0 (Below w.heap.size w w0a) := ⟨by rw [← hZ]; exact HB_0.out.alloc HB_0.out.size _⟩
 rw [hZ, ← hbk]
 clear hZ hbk HF_0 HB_0 HR_0 w0
 refine (forecourtlaw01_great.calls A c l p (decide ((l.length : Int) > 25)) w0a HR_0a.out HC.out rfl).mono ?_
 rintro e w1 ⟨rfl, hB⟩
 have HF_1 := Aside0.mk (HF_0a.out.below hB)
 have HB_1 := Aside0.mk (below_then HB_0a.out hB)
 have HR_1 := Aside0.mk (Kd.C_below HR_0a.out hB)
 clear hB HF_0a HB_0a HR_0a w0a
 by_cases h25 : (l.length : Int) > 25
 ·rw [decide_eq_true h25]
  go_wp2_with fail
  refine (forecourtlaw01_Works.calls true w1 ⟨rfl⟩ rfl).mono ?_
  rintro e w2 ⟨rfl, hB⟩
  go_wp2_with fail
  go_ret
  exact ⟨rfl, below_then HB_1.out hB⟩
 rw [decide_eq_false h25]
 have HE1 := Aside0.mk (HE.out (by omega))
 clear HE
 have hltb := blk_lt (HF_1.out.get tb #[.slice A l.length c, .int .i64 p] 24 (by simp))
 have ctb0 : w1.cell? ⟨tb, 0, none⟩ = some (.slice A l.length c) := (blk_cell (HF_1.out.get tb #[.slice A l.length c, .int .i64 p] 24 (by simp)) 0).trans rfl
 have ctb1 : w1.cell? ⟨tb, 1, none⟩ = some (.int .i64 p) := (blk_cell (HF_1.out.get tb #[.slice A l.length c, .int .i64 p] 24 (by simp)) 1).trans rfl
 go_wp2_with fail
 clear hltb ctb0 ctb1 h25
 refine (chart_Net.calls A c l p water level n1 n2 n3 n4 e0 w1 HR_1.out HC.out HE1.out.net).mono ?_
 rintro e w2 ⟨rfl, hB⟩
 have HF_2 := Aside0.mk (HF_1.out.below hB)
 have HB_2 := Aside0.mk (below_then HB_1.out hB)
 have HR_2 := Aside0.mk (Kd.C_below HR_1.out hB)
 clear hB HF_1 HB_1 HR_1 w1
 have hltb := blk_lt (HF_2.out.get tb #[.slice A l.length c, .int .i64 p] 24 (by simp))
 have ctb0 : w2.cell? ⟨tb, 0, none⟩ = some (.slice A l.length c) := (blk_cell (HF_2.out.get tb #[.slice A l.length c, .int .i64 p] 24 (by simp)) 0).trans rfl
 have ctb1 : w2.cell? ⟨tb, 1, none⟩ = some (.int .i64 p) := (blk_cell (HF_2.out.get tb #[.slice A l.length c, .int .i64 p] 24 (by simp)) 1).trans rfl
 go_wp2_with fail
 clear hltb ctb0 ctb1
 obtain ⟨w2a, hZ⟩ : ∃ Z, w2.alloc (.cells #[.int .i64 n1, .int .i64 n2, .int .i64 n3, .int .i64 n4] 48) = Z := ⟨_, rfl⟩
 obtain ⟨nb, hbk⟩ : ∃ b, b = w2.heap.size := ⟨_, rfl⟩
 have HF_2a : Aside0 (Held [(nb, #[.int .i64 n1, .int .i64 n2, .int .i64 n3, .int .i64 n4], 48), (tb, #[.slice A l.length c, .int .i64 p], 24)] w2a) := ⟨by rw [← hZ, hbk]; exact HF_2.out.new _ _⟩
 have HR_2a : Aside0 (Kd.C k70 w2a A l.length l) := ⟨by rw [← hZ]; exact Kd.C_below HR_2.out ((Below.refl _ _).alloc (Nat.le_refl _) _)⟩
 have HB_2a : Aside0 (Below w.heap.size w w2a) := ⟨by rw [← hZ]; exact HB_2.out.alloc HB_2.out.size _⟩
 rw [hZ, ← hbk]
 clear hZ hbk HF_2 HB_2 HR_2 w2
 refine (forecourtref01_Net.calls k A c l p water level n1 n2 n3 n4 e0 w2a HR_2a.out HC.out HE1.out.ref).mono ?_
 rintro e w3 ⟨rfl, hB⟩
 have HF_3 := Aside0.mk (HF_2a.out.below hB)
 have HB_3 := Aside0.mk (below_then HB_2a.out hB)
 have HR_3 := Aside0.mk (Kd.C_below HR_2a.out hB)
 clear hB HF_2a HB_2a HR_2a w2a
 have hltb := blk_lt (HF_3.out.get tb #[.slice A l.length c, .int .i64 p] 24 (by simp))
 have ctb0 : w3.cell? ⟨tb, 0, none⟩ = some (.slice A l.length c) := (blk_cell (HF_3.out.get tb #[.slice A l.length c, .int .i64 p] 24 (by simp)) 0).trans rfl
 have ctb1 : w3.cell? ⟨tb, 1, none⟩ = some (.int .i64 p) := (blk_cell (HF_3.out.get tb #[.slice A l.length c, .int .i64 p] 24 (by simp)) 1).trans rfl
 go_wp2_with fail
 clear hltb ctb0 ctb1
 obtain ⟨w3a, hZ⟩ : ∃ Z, w3.alloc (.cells #[.int .i64 n1, .int .i64 n2, .int .i64 n3, .int .i64 n4] 48) = Z := ⟨_, rfl⟩
 obtain ⟨ub, hbk⟩ : ∃ b, b = w3.heap.size := ⟨_, rfl⟩
 have HF_3a : Aside0 (Held [(ub, #[.int .i64 n1, .int .i64 n2, .int .i64 n3, .int .i64 n4], 48), (nb, #[.int .i64 n1, .int .i64 n2, .int .i64 n3, .int .i64 n4], 48), (tb, #[.slice A l.length c, .int .i64 p], 24)] w3a) := ⟨by rw [← hZ, hbk]; exact HF_3.out.new _ _⟩
 have HR_3a : Aside0 (Kd.C k70 w3a A l.length l) := ⟨by rw [← hZ]; exact Kd.C_below HR_3.out ((Below.refl _ _).alloc (Nat.le_refl _) _)⟩
 have HB_3a : Aside0 (Below w.heap.size w w3a) := ⟨by rw [← hZ]; exact HB_3.out.alloc HB_3.out.size _⟩
 rw [hZ, ← hbk]
 clear hZ hbk HF_3 HB_3 HR_3 w3
 refine (chart_End.calls A c l p water level high x d0 d1 e0 w3a HR_3a.out HC.out HE1.out.fin).mono ?_
 rintro e w4 ⟨v, rfl, Hn, hB⟩
 obtain ⟨An, cn, rfl, Hnl, Hnr⟩ := Kd.R_reads Hn
 have Hn_L := Lib.hid Hnl
 have Hn_4 := Aside0.mk Hnr
 clear Hn Hnl Hnr
 have HF_4 := Aside0.mk (HF_3a.out.below hB)
 have HB_4 := Aside0.mk (below_then HB_3a.out hB)
 have HR_4 := Aside0.mk (Kd.C_below HR_3a.out hB)
 clear hB HF_3a HB_3a HR_3a w3a
 have hltb := blk_lt (HF_4.out.get tb #[.slice A l.length c, .int .i64 p] 24 (by simp))
 have ctb0 : w4.cell? ⟨tb, 0, none⟩ = some (.slice A l.length c) := (blk_cell (HF_4.out.get tb #[.slice A l.length c, .int .i64 p] 24 (by simp)) 0).trans rfl
 have ctb1 : w4.cell? ⟨tb, 1, none⟩ = some (.int .i64 p) := (blk_cell (HF_4.out.get tb #[.slice A l.length c, .int .i64 p] 24 (by simp)) 1).trans rfl
 have hlnb := blk_lt (HF_4.out.get nb #[.int .i64 n1, .int .i64 n2, .int .i64 n3, .int .i64 n4] 48 (by simp))
 have cnb0 : w4.cell? ⟨nb, 0, none⟩ = some (.int .i64 n1) := (blk_cell (HF_4.out.get nb #[.int .i64 n1, .int .i64 n2, .int .i64 n3, .int .i64 n4] 48 (by simp)) 0).trans rfl
 have cnb1 : w4.cell? ⟨nb, 1, none⟩ = some (.int .i64 n2) := (blk_cell (HF_4.out.get nb #[.int .i64 n1, .int .i64 n2, .int .i64 n3, .int .i64 n4] 48 (by simp)) 1).trans rfl
 have cnb2 : w4.cell? ⟨nb, 2, none⟩ = some (.int .i64 n3) := (blk_cell (HF_4.out.get nb #[.int .i64 n1, .int .i64 n2, .int .i64 n3, .int .i64 n4] 48 (by simp)) 2).trans rfl
 have cnb3 : w4.cell? ⟨nb, 3, none⟩ = some (.int .i64 n4) := (blk_cell (HF_4.out.get nb #[.int .i64 n1, .int .i64 n2, .int .i64 n3, .int .i64 n4] 48 (by simp)) 3).trans rfl
 have hlub := blk_lt (HF_4.out.get ub #[.int .i64 n1, .int .i64 n2, .int .i64 n3, .int .i64 n4] 48 (by simp))
 have cub0 : w4.cell? ⟨ub, 0, none⟩ = some (.int .i64 n1) := (blk_cell (HF_4.out.get ub #[.int .i64 n1, .int .i64 n2, .int .i64 n3, .int .i64 n4] 48 (by simp)) 0).trans rfl
 have cub1 : w4.cell? ⟨ub, 1, none⟩ = some (.int .i64 n2) := (blk_cell (HF_4.out.get ub #[.int .i64 n1, .int .i64 n2, .int .i64 n3, .int .i64 n4] 48 (by simp)) 1).trans rfl
 have cub2 : w4.cell? ⟨ub, 2, none⟩ = some (.int .i64 n3) := (blk_cell (HF_4.out.get ub #[.int .i64 n1, .int .i64 n2, .int .i64 n3, .int .i64 n4] 48 (by simp)) 2).trans rfl
 have cub3 : w4.cell? ⟨ub, 3, none⟩ = some (.int .i64 n4) := (blk_cell (HF_4.out.get ub #[.int .i64 n1, .int .i64 n2, .int .i64 n3, .int .i64 n4] 48 (by simp)) 3).trans rfl
 have hq1 : (n1 == n1 && n2 == n2 && (n3 == n3 && n4 == n4)) = true := by simp
 have hq2 : (e0 == e0) = true := by simp
 by_cases h0 : e0 = 0
 ·subst h0
  have HRE := Aside0.mk (HE1.out.ok rfl)
  clear HE1 hq2
  cases high with
  | false =>
   rw [if_neg (by simp), if_neg (by simp)] at HRE
   go_wp2_with fail
   obtain ⟨w5, hZ⟩ : ∃ Z, (w4.alloc (Obj.cells #[Value.int IntKind.i64 d0, Value.int IntKind.i64 d1] 51)).alloc (Obj.cells #[Value.int IntKind.i64 n1, Value.int IntKind.i64 n2] 39) = Z := ⟨_, rfl⟩
   have hB5 : Below w4.heap.size w4 w5 := by rw [← hZ]; exact ((Below.refl _ w4).alloc (Nat.le_refl _) _).alloc (by simp) _
   rw [hZ]
   clear hZ
   refine (forecourtlaw01_reached.calls k A c l p water level An cn x d0 d1 n1 n2 true w5 (Kd.C_below HR_4.out hB5) HC.out (Kd.C_below Hn_4.out hB5) Hn_L.out ⟨rfl⟩ HRE.out).mono ?_
   rintro e w6 ⟨rfl, hB⟩
   have hB6 := below_then hB5 hB
   clear hB hB5
   go_wp2_with fail
   refine (forecourtlaw01_Works.calls true w6 ⟨rfl⟩ rfl).mono ?_
   rintro e w7 ⟨rfl, hB⟩
   go_wp2_with fail
   go_ret
   exact ⟨rfl, below_then HB_4.out (below_then hB6 hB)⟩
  | true =>
   rw [if_pos rfl, if_pos rfl] at HRE
   go_wp2_with fail
   obtain ⟨w5, hZ⟩ : ∃ Z, (w4.alloc (Obj.cells #[Value.int IntKind.i64 d0, Value.int IntKind.i64 d1] 51)).alloc (Obj.cells #[Value.int IntKind.i64 n3, Value.int IntKind.i64 n4] 39) = Z := ⟨_, rfl⟩
   have hB5 : Below w4.heap.size w4 w5 := by rw [← hZ]; exact ((Below.refl _ w4).alloc (Nat.le_refl _) _).alloc (by simp) _
   rw [hZ]
   clear hZ
   refine (forecourtlaw01_reached.calls k A c l p water level An cn x d0 d1 n3 n4 true w5 (Kd.C_below HR_4.out hB5) HC.out (Kd.C_below Hn_4.out hB5) Hn_L.out ⟨rfl⟩ HRE.out).mono ?_
   rintro e w6 ⟨rfl, hB⟩
   have hB6 := below_then hB5 hB
   clear hB hB5
   go_wp2_with fail
   refine (forecourtlaw01_Works.calls true w6 ⟨rfl⟩ rfl).mono ?_
   rintro e w7 ⟨rfl, hB⟩
   go_wp2_with fail
   go_ret
   exact ⟨rfl, below_then HB_4.out (below_then hB6 hB)⟩
 obtain ⟨rfl, rfl, rfl⟩ := HE1.out.no h0
 clear HE1
 have hb0 : (e0 == 0) = false := by simpa using h0
 have hb1 : (e0 != 0) = true := by simpa using h0
 go_wp2_with fail
 refine (forecourtlaw01_Works.calls true _ ⟨rfl⟩ rfl).mono ?_
 rintro e w5 ⟨rfl, hB⟩
 go_wp2_with fail
 go_ret
 exact ⟨rfl, below_then (HB_4.out.alloc HB_4.out.size _) hB⟩
theorem chartNets_walk (A : Option Addr) (c : Nat) (l : List SRow) (p : Int) (water level : Int) (high : Bool) (w : World) (hC : Kd.C kRow w A l.length l) (hc : l.length ≤ c) (_hr : ∀ r, r ∈ l → Row64 r) (_hp : I64 p) (_h1 : I64 water) (_h2 : I64 level) :
  Calls Try.prog 5 #[.agg #[.slice A l.length c, .int .i64 p], .int .i64 water, .int .i64 level, .bool high] w fun e w' => e = .returned (.bool true) ∧ Below w.heap.size w w' := by
 by_cases hn : l.length ≤ 1000
 ·obtain ⟨k, n1, n2, n3, n4, e, x, d0, d1, h⟩ := nets_facts l p water level high hn
  exact nets_calls A c l p water level high k n1 n2 n3 n4 e x d0 d1 w w ⟨hC⟩ (Lib.hid hc) ⟨Below.refl _ _⟩ (Lib.hid fun _ => h)
 exact nets_calls A c l p water level high 0 0 0 0 0 0 [] 0 0 w w ⟨hC⟩ (Lib.hid hc) ⟨Below.refl _ _⟩ (Lib.hid fun h => absurd h (by omega))
end Go.Proofs.Ytpkajhmchcbbhaa.P
end
