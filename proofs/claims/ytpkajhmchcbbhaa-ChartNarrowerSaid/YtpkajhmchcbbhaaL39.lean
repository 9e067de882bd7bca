/- Part 39 of 44. -/
import Derived.Test.YtpkajhmchcbbhaaL36
import Derived.Test.YtpkajhmchcbbhaaL23
import Derived.Test.YtpkajhmchcbbhaaL21
import Derived.Test.YtpkajhmchcbbhaaL37
import Derived.Test.YtpkajhmchcbbhaaL26
import Derived.Test.YtpkajhmchcbbhaaL22
import Derived.Test.YtpkajhmchcbbhaaL12
import Derived.Test.YtpkajhmchcbbhaaL9
import Derived.Test.YtpkajhmchcbbhaaL19
import Derived.Test.YtpkajhmchcbbhaaL11
import Derived.Test.YtpkajhmchcbbhaaL17
import Derived.Test.YtpkajhmchcbbhaaL8
set_option linter.unusedSimpArgs false
set_option linter.unusedVariables false
section
namespace Go.Proofs.Ytpkajhmchcbbhaa.P
open Go.RowKit Go.Proofs.YtpkajhmchcbbhaaW.PrintWords Go.Proofs.YtpkajhmchcbbhaaW.PrintLast Go.Proofs.YtpkajhmchcbbhaaW.PrintMore
def gcdN : Nat → Int → Int → Int
 | 0, a, _ => a
 | n + 1, a, b => if b = 0 then a else gcdN n b (a.tmod b)
theorem gcdT_fuel : ∀ (n : Nat) (a b : Int), b.natAbs < n → gcdT a b = gcdN n a b := by
 intro n
 induction n with
 | zero => intro a b h; omega
 | succ n ih =>
  intro a b h
  by_cases hb : b = 0
  ·subst hb; rw [gcdT_zero]; rfl
  rw [gcdT_step a b hb, gcdN, if_neg hb]
  refine ih _ _ ?_
  have h1 := Int.natAbs_tmod a b
  have h2 : a.natAbs % b.natAbs < b.natAbs := Nat.mod_lt _ (by omega)
  omega
theorem leastN_fuel (num den : Int) : leastN num den = num.tdiv (gcdN (den.natAbs + 1) num den) := by unfold leastN; rw [gcdT_fuel _ _ _ (Nat.lt_succ_self _)]
theorem leastD_fuel (num den : Int) : leastD num den = den.tdiv (gcdN (den.natAbs + 1) num den) := by unfold leastD; rw [gcdT_fuel _ _ _ (Nat.lt_succ_self _)]
def halveN : Nat → (Int → Bool) → Int → Int → Int
 | 0, _, lo, _ => lo
 | n + 1, good, lo, hi => if lo ≤ hi then if good (lo + (hi - lo) / 2) then halveN n good lo (lo + (hi - lo) / 2 - 1) else halveN n good (lo + (hi - lo) / 2 + 1) hi else lo
theorem halve_fuel (good : Int → Bool) : ∀ (n : Nat) (lo hi : Int), (hi + 1 - lo).toNat < n → halveF good lo hi = halveN n good lo hi := by
 intro n
 induction n with
 | zero => intro lo hi h; omega
 | succ n ih =>
  intro lo hi h
  rw [halveF, halveN]
  by_cases hlh : lo ≤ hi
  ·rw [dif_pos hlh, if_pos hlh]
   split
   ·exact ih _ _ (by omega)
   exact ih _ _ (by omega)
  rw [dif_neg hlh, if_neg hlh]
theorem halveF_fuel (good : Int → Bool) (lo hi : Int) : halveF good lo hi = halveN ((hi + 1 - lo).toNat + 1) good lo hi := halve_fuel good _ lo hi (Nat.lt_succ_self _)
def exT : List SRow := [⟨0, ⟨0, 0⟩⟩, ⟨100, ⟨380, 420⟩⟩, ⟨200, ⟨400, 900⟩⟩, ⟨400, ⟨1900, 2100⟩⟩]
def exD : List SRow := [⟨0, ⟨0, 0⟩⟩, ⟨100, ⟨950, 1000⟩⟩, ⟨200, ⟨400, 900⟩⟩, ⟨400, ⟨1900, 2100⟩⟩]
def exR : List SRange := [⟨0, 0⟩, ⟨380, 420⟩, ⟨400, 900⟩, ⟨1900, 2100⟩]
def exX : List Int := [0, 400, 400, 1900]
theorem ex_tank : forecourtlaw01_Tank.f = some (exT, 0) := by kernel_rfl
theorem ex_dented : forecourtlaw01_dented.f = some (exD, 0) := by kernel_rfl
theorem ex_probed : forecourtlaw01_probed.f = some (exT, 10) := by kernel_rfl
theorem ex_tight : chart_Tight.f exT 0 = some (exR, 0) := by kernel_rfl
theorem ex_tightD : chart_Tight.f exD 0 = some ([], 21) := by kernel_rfl
theorem ex_clash : chart_Clash.f exD 0 = some (1, 2, 0) := by kernel_rfl
theorem ex_below : chart_Below.f exT 0 [0, 400, 800, 2000] 150 = some (600, 1, 0) := by
 unfold chart_Below.f; simp only [leastN_fuel, leastD_fuel]; kernel_rfl
theorem ex_metered : chart_Metered.f exT 0 1 3 = some (1480, 1720, 0) := by kernel_rfl
theorem ex_net : chart_Net.f exT 0 50 300 = some (950, 1, 1310, 1, 0) := by
 unfold chart_Net.f; simp only [leastN_fuel, leastD_fuel]; kernel_rfl
theorem ex_netP : chart_Net.f exT 10 100 100 = some (0, 1, 90, 1, 0) := by
 unfold chart_Net.f; simp only [leastN_fuel, leastD_fuel]; kernel_rfl
theorem ex_dips : chart_Dips.f exT 0 500 = some (117, 213, 0) := by
 unfold chart_Dips.f dipsFrom dipsTo; simp only [halveF_fuel]; kernel_rfl
theorem ex_dipsN : chart_Dips.f exT 0 2200 = some (0, 0, 17) := by
 unfold chart_Dips.f dipsFrom dipsTo; simp only [halveF_fuel]; kernel_rfl
theorem ex_common : common5.f 1000 10 10 0 100 = some (1000000, 1001, 1000, 1, 0) := by
 unfold common5.f; simp only [leastN_fuel, leastD_fuel]; kernel_rfl
theorem ex_end : chart_End.f exT 0 50 300 false = some (exX, 50, 300, 0) := by kernel_rfl
theorem ex_ranges : forecourtlaw01_ranges.f 10 exR [⟨0, 0⟩, ⟨380, 420⟩, ⟨400, 900⟩, ⟨1900, 2100⟩] = some true := by kernel_rfl
theorem ex_reached : forecourtlaw01_reached.f 30 exT 0 50 300 exX 50 300 950 1 = some true := by kernel_rfl
theorem C_exR {w : World} {g : Nat} (h : w.heap[g]? = some (.cells #[.int .i64 0, .int .i64 0, .int .i64 380, .int .i64 420, .int .i64 400, .int .i64 900, .int .i64 1900, .int .i64 2100] 43 (0, 0))) : Kd.C k43 w (some ⟨g, 0, none⟩) exR.length exR := by
 have hadd : ∀ n, (⟨g, 0, none⟩ : Addr).add n = ⟨g, n, none⟩ := fun n => by unfold Addr.add; split <;> simp_all
 refine ⟨rfl, by decide, fun _ => ⟨_, rfl, fun j x hj => ?_⟩⟩
 have hj4 : j < 4 := (List.getElem?_eq_some_iff.1 hj).1
 refine ⟨[.int .i64 x.f0, .int .i64 x.f1], rfl, k43_mk w x, fun i u hu => ?_⟩
 have hi2 : i < 2 := (List.getElem?_eq_some_iff.1 hu).1
 rw [hadd, blk_cell h]
 rcases (by omega : j = 0 ∨ j = 1 ∨ j = 2 ∨ j = 3) with rfl | rfl | rfl | rfl <;> rcases (by omega : i = 0 ∨ i = 1) with rfl | rfl <;> cases hj <;> cases hu <;> rfl
end Go.Proofs.Ytpkajhmchcbbhaa.P
end
section
namespace Go.Proofs.Ytpkajhmchcbbhaa.P
open Go.RowKit Go.Proofs.YtpkajhmchcbbhaaW.PrintWords Go.Proofs.YtpkajhmchcbbhaaW.PrintLast Go.Proofs.YtpkajhmchcbbhaaW.PrintMore
attribute [local go_sem high] eqA39 eqA43 eqA48
structure Held (F : List (Nat × Array Value × Nat)) (X : World) : Prop where
 get : ∀ b cs t, (b, cs, t) ∈ F → X.heap[b]? = some (.cells cs t (0, 0))
theorem Held.below {F : List (Nat × Array Value × Nat)} {X Y : World} (h : Held F X) (hb : Below X.heap.size X Y) : Held F Y := ⟨fun b cs t hm => below_blk hb (h.get b cs t hm) (blk_lt (h.get b cs t hm))⟩
theorem Held.new {F : List (Nat × Array Value × Nat)} {X : World} (h : Held F X) (cs : Array Value) (t : Nat) : Held ((X.heap.size, cs, t) :: F) (X.alloc (.cells cs t)) := ⟨fun b cs' t' hm => by
 rcases List.mem_cons.1 hm with hm | hm
 ·simp only [Prod.mk.injEq] at hm
  obtain ⟨rfl, rfl, rfl⟩ := hm
  exact blk_new _ _
 exact blk_old (h.get b cs' t' hm)⟩
set_option maxRecDepth 100000 in
set_option maxHeartbeats 80000000 in
theorem works_calls (w : World) : Calls Try.prog 16 #[] w fun e w' => e = .returned (.bool true) ∧ Below w.heap.size w w' := by
 have hu1 := Try.underlying24
 have hu2 := Try.underlying39
 have hu3 := Try.underlying43
 have hu4 := Try.underlying48
 have hu5 := Try.underlying51
 go_enter Try.func16, Try.ntmps16
 go_wp2_with fail
 refine (forecourtlaw01_Tank.calls exT 0 w ex_tank).mono ?_
 rintro e w1 ⟨v, rfl, hR1, hB1⟩
 obtain ⟨A, c, rfl, hc, hC1⟩ := Kd.R_reads hR1
 have HC := Lib.hid hc
 have HR_1 := Aside0.mk hC1
 have HB_1 := Aside0.mk hB1
 have HF_1 : Aside0 (Held [] w1) := ⟨⟨fun b cs t hm => by simp at hm⟩⟩
 clear hc hR1 hC1 hB1
 go_wp2_with fail
 obtain ⟨w1a, hZ⟩ : ∃ Z, w1.alloc (.cells #[.slice A exT.length c, .int .i64 0] 24) = Z := ⟨_, rfl⟩
 obtain ⟨tb, hbk⟩ : ∃ b, b = w1.heap.size := ⟨_, rfl⟩
 have HF_1a : Aside0 (Held [(tb, #[.slice A exT.length c, .int .i64 0], 24)] w1a) := ⟨by rw [← hZ, hbk]; exact HF_1.out.new _ _⟩
 have HR_1a : Aside0 (Kd.C k70 w1a A exT.length exT) := ⟨by rw [← hZ]; exact Kd.C_below HR_1.out ((Below.refl _ _).alloc (Nat.le_refl _) _)⟩
 have HB_1a : Aside0 (Below w.heap.size w w1a) := ⟨by rw [← hZ]; exact HB_1.out.alloc HB_1.out.size _⟩
 rw [hZ, ← hbk]
 clear hZ hbk HF_1 HB_1 HR_1 w1
 refine (chart_Tight.calls A c exT 0 exR 0 w1a HR_1a.out HC.out ex_tight).mono ?_
 rintro e w2 ⟨v, rfl, Ha, hB⟩
 obtain ⟨Aa, ca, rfl, Hal, Har⟩ := Kd.R_reads Ha
 have Ha_L := Lib.hid Hal
 have Ha_2 := Aside0.mk Har
 clear Ha Hal Har
 have HF_2 := Aside0.mk (HF_1a.out.below hB)
 have HB_2 := Aside0.mk (below_then HB_1a.out hB)
 have HR_2 := Aside0.mk (Kd.C_below HR_1a.out hB)
 clear hB HF_1a HB_1a HR_1a w1a
 go_wp2_with fail
 refine (forecourtlaw01_dented.calls exD 0 w2 ex_dented).mono ?_
 rintro e w3 ⟨v, rfl, Hd, hB⟩
 obtain ⟨Ad, cd, rfl, Hdl, Hdr⟩ := Kd.R_reads Hd
 have Hd_L := Lib.hid Hdl
 have Hd_3 := Aside0.mk Hdr
 clear Hd Hdl Hdr
 have HF_3 := Aside0.mk (HF_2.out.below hB)
 have HB_3 := Aside0.mk (below_then HB_2.out hB)
 have HR_3 := Aside0.mk (Kd.C_below HR_2.out hB)
 have Ha_3 := Aside0.mk (Kd.C_below Ha_2.out hB)
 clear hB HF_2 HB_2 HR_2 Ha_2 w2
 go_wp2_with fail
 refine (chart_Tight.calls Ad cd exD 0 [] 21 w3 Hd_3.out Hd_L.out ex_tightD).mono ?_
 rintro e w4 ⟨v, rfl, Hx, hB⟩
 clear Hx
 have HF_4 := Aside0.mk (HF_3.out.below hB)
 have HB_4 := Aside0.mk (below_then HB_3.out hB)
 have HR_4 := Aside0.mk (Kd.C_below HR_3.out hB)
 have Ha_4 := Aside0.mk (Kd.C_below Ha_3.out hB)
 have Hd_4 := Aside0.mk (Kd.C_below Hd_3.out hB)
 clear hB HF_3 HB_3 HR_3 Ha_3 Hd_3 w3
 go_wp2_with fail
 refine (forecourtlaw01_dented.calls exD 0 w4 ex_dented).mono ?_
 rintro e w5 ⟨v, rfl, He, hB⟩
 obtain ⟨Ae, ce, rfl, Hel, Her⟩ := Kd.R_reads He
 have He_L := Lib.hid Hel
 have He_5 := Aside0.mk Her
 clear He Hel Her
 have HF_5 := Aside0.mk (HF_4.out.below hB)
 have HB_5 := Aside0.mk (below_then HB_4.out hB)
 have HR_5 := Aside0.mk (Kd.C_below HR_4.out hB)
 have Ha_5 := Aside0.mk (Kd.C_below Ha_4.out hB)
 have Hd_5 := Aside0.mk (Kd.C_below Hd_4.out hB)
 clear hB HF_4 HB_4 HR_4 Ha_4 Hd_4 w4
 go_wp2_with fail
 refine (chart_Clash.calls Ae ce exD 0 1 2 0 w5 He_5.out He_L.out ex_clash).mono ?_
 rintro e w6 ⟨rfl, hB⟩
 have HF_6 := Aside0.mk (HF_5.out.below hB)
 have HB_6 := Aside0.mk (below_then HB_5.out hB)
 have HR_6 := Aside0.mk (Kd.C_below HR_5.out hB)
 have Ha_6 := Aside0.mk (Kd.C_below Ha_5.out hB)
 have Hd_6 := Aside0.mk (Kd.C_below Hd_5.out hB)
 have He_6 := Aside0.mk (Kd.C_below He_5.out hB)
 clear hB HF_5 HB_5 HR_5 Ha_5 Hd_5 He_5 w5
 have hltb := blk_lt (HF_6.out.get tb #[.slice A exT.length c, .int .i64 0] 24 (by simp))
 have ctb0 : w6.cell? ⟨tb, 0, none⟩ = some (.slice A exT.length c) := (blk_cell (HF_6.out.get tb #[.slice A exT.length c, .int .i64 0] 24 (by simp)) 0).trans rfl
 have ctb1 : w6.cell? ⟨tb, 1, none⟩ = some (.int .i64 0) := (blk_cell (HF_6.out.get tb #[.slice A exT.length c, .int .i64 0] 24 (by simp)) 1).trans rfl
 go_wp2_with fail
 clear hltb ctb0 ctb1
 obtain ⟨w6a, hZ⟩ : ∃ Z, w6.alloc (.cells #[.int .i64 0, .int .i64 400, .int .i64 800, .int .i64 2000] 2) = Z := ⟨_, rfl⟩
 obtain ⟨qb, hbk⟩ : ∃ b, b = w6.heap.size := ⟨_, rfl⟩
 have HF_6a : Aside0 (Held [(qb, #[.int .i64 0, .int .i64 400, .int .i64 800, .int .i64 2000], 2), (tb, #[.slice A exT.length c, .int .i64 0], 24)] w6a) := ⟨by rw [← hZ, hbk]; exact HF_6.out.new _ _⟩
 have HR_6a : Aside0 (Kd.C k70 w6a A exT.length exT) := ⟨by rw [← hZ]; exact Kd.C_below HR_6.out ((Below.refl _ _).alloc (Nat.le_refl _) _)⟩
 have Ha_6a : Aside0 (Kd.C k43 w6a Aa exR.length exR) := ⟨by rw [← hZ]; exact Kd.C_below Ha_6.out ((Below.refl _ _).alloc (Nat.le_refl _) _)⟩
 have Hd_6a : Aside0 (Kd.C k70 w6a Ad exD.length exD) := ⟨by rw [← hZ]; exact Kd.C_below Hd_6.out ((Below.refl _ _).alloc (Nat.le_refl _) _)⟩
 have He_6a : Aside0 (Kd.C k70 w6a Ae exD.length exD) := ⟨by rw [← hZ]; exact Kd.C_below He_6.out ((Below.refl _ _).alloc (Nat.le_refl _) _)⟩
 have HB_6a : Aside0 (Below w.heap.size w w6a) := ⟨by rw [← hZ]; exact HB_6.out.alloc HB_6.out.size _⟩
 rw [hZ, ← hbk]
 clear hZ hbk HF_6 HB_6 HR_6 Ha_6 Hd_6 He_6 w6
 refine (chart_Below.calls A c exT 0 (some ⟨qb, 0, none⟩) 4 [0, 400, 800, 2000] 150 600 1 0 w6a HR_6a.out HC.out (C_arr (l := [0, 400, 800, 2000]) (HF_6a.out.get qb #[.int .i64 0, .int .i64 400, .int .i64 800, .int .i64 2000] 2 (by simp)) (by simp)) (by simp) ex_below).mono ?_
 rintro e w7 ⟨rfl, hB⟩
 have HF_7 := Aside0.mk (HF_6a.out.below hB)
 have HB_7 := Aside0.mk (below_then HB_6a.out hB)
 have HR_7 := Aside0.mk (Kd.C_below HR_6a.out hB)
 have Ha_7 := Aside0.mk (Kd.C_below Ha_6a.out hB)
 have Hd_7 := Aside0.mk (Kd.C_below Hd_6a.out hB)
 have He_7 := Aside0.mk (Kd.C_below He_6a.out hB)
 clear hB HF_6a HB_6a HR_6a Ha_6a Hd_6a He_6a w6a
 replace HF_7 : Aside0 (Held [(tb, #[.slice A exT.length c, .int .i64 0], 24)] w7) := ⟨⟨fun b cs t hm => HF_7.out.get b cs t (List.mem_cons_of_mem _ hm)⟩⟩
 have hltb := blk_lt (HF_7.out.get tb #[.slice A exT.length c, .int .i64 0] 24 (by simp))
 have ctb0 : w7.cell? ⟨tb, 0, none⟩ = some (.slice A exT.length c) := (blk_cell (HF_7.out.get tb #[.slice A exT.length c, .int .i64 0] 24 (by simp)) 0).trans rfl
 have ctb1 : w7.cell? ⟨tb, 1, none⟩ = some (.int .i64 0) := (blk_cell (HF_7.out.get tb #[.slice A exT.length c, .int .i64 0] 24 (by simp)) 1).trans rfl
 go_wp2_with fail
 clear hltb ctb0 ctb1
 obtain ⟨w7a, hZ⟩ : ∃ Z, w7.alloc (.cells #[.int .i64 600, .int .i64 1] 39) = Z := ⟨_, rfl⟩
 obtain ⟨vb, hbk⟩ : ∃ b, b = w7.heap.size := ⟨_, rfl⟩
 have HF_7a : Aside0 (Held [(vb, #[.int .i64 600, .int .i64 1], 39), (tb, #[.slice A exT.length c, .int .i64 0], 24)] w7a) := ⟨by rw [← hZ, hbk]; exact HF_7.out.new _ _⟩
 have HR_7a : Aside0 (Kd.C k70 w7a A exT.length exT) := ⟨by rw [← hZ]; exact Kd.C_below HR_7.out ((Below.refl _ _).alloc (Nat.le_refl _) _)⟩
 have Ha_7a : Aside0 (Kd.C k43 w7a Aa exR.length exR) := ⟨by rw [← hZ]; exact Kd.C_below Ha_7.out ((Below.refl _ _).alloc (Nat.le_refl _) _)⟩
 have Hd_7a : Aside0 (Kd.C k70 w7a Ad exD.length exD) := ⟨by rw [← hZ]; exact Kd.C_below Hd_7.out ((Below.refl _ _).alloc (Nat.le_refl _) _)⟩
 have He_7a : Aside0 (Kd.C k70 w7a Ae exD.length exD) := ⟨by rw [← hZ]; exact Kd.C_below He_7.out ((Below.refl _ _).alloc (Nat.le_refl _) _)⟩
 have HB_7a : Aside0 (Below w.heap.size w w7a) := ⟨by rw [← hZ]; exact HB_7.out.alloc HB_7.out.size _⟩
 rw [hZ, ← hbk]
 clear hZ hbk HF_7 HB_7 HR_7 Ha_7 Hd_7 He_7 w7
 refine (chart_Metered.calls A c exT 0 1 3 1480 1720 0 w7a HR_7a.out HC.out ex_metered).mono ?_
 rintro e w8 ⟨rfl, hB⟩
 have HF_8 := Aside0.mk (HF_7a.out.below hB)
 have HB_8 := Aside0.mk (below_then HB_7a.out hB)
 have HR_8 := Aside0.mk (Kd.C_below HR_7a.out hB)
 have Ha_8 := Aside0.mk (Kd.C_below Ha_7a.out hB)
 have Hd_8 := Aside0.mk (Kd.C_below Hd_7a.out hB)
 have He_8 := Aside0.mk (Kd.C_below He_7a.out hB)
 clear hB HF_7a HB_7a HR_7a Ha_7a Hd_7a He_7a w7a
 have hltb := blk_lt (HF_8.out.get tb #[.slice A exT.length c, .int .i64 0] 24 (by simp))
 have ctb0 : w8.cell? ⟨tb, 0, none⟩ = some (.slice A exT.length c) := (blk_cell (HF_8.out.get tb #[.slice A exT.length c, .int .i64 0] 24 (by simp)) 0).trans rfl
 have ctb1 : w8.cell? ⟨tb, 1, none⟩ = some (.int .i64 0) := (blk_cell (HF_8.out.get tb #[.slice A exT.length c, .int .i64 0] 24 (by simp)) 1).trans rfl
 go_wp2_with fail
 clear hltb ctb0 ctb1
 obtain ⟨w8a, hZ⟩ : ∃ Z, w8.alloc (.cells #[.int .i64 1480, .int .i64 1720] 43) = Z := ⟨_, rfl⟩
 obtain ⟨mb, hbk⟩ : ∃ b, b = w8.heap.size := ⟨_, rfl⟩
 have HF_8a : Aside0 (Held [(mb, #[.int .i64 1480, .int .i64 1720], 43), (vb, #[.int .i64 600, .int .i64 1], 39), (tb, #[.slice A exT.length c, .int .i64 0], 24)] w8a) := ⟨by rw [← hZ, hbk]; exact HF_8.out.new _ _⟩
 have HR_8a : Aside0 (Kd.C k70 w8a A exT.length exT) := ⟨by rw [← hZ]; exact Kd.C_below HR_8.out ((Below.refl _ _).alloc (Nat.le_refl _) _)⟩
 have Ha_8a : Aside0 (Kd.C k43 w8a Aa exR.length exR) := ⟨by rw [← hZ]; exact Kd.C_below Ha_8.out ((Below.refl _ _).alloc (Nat.le_refl _) _)⟩
 have Hd_8a : Aside0 (Kd.C k70 w8a Ad exD.length exD) := ⟨by rw [← hZ]; exact Kd.C_below Hd_8.out ((Below.refl _ _).alloc (Nat.le_refl _) _)⟩
 have He_8a : Aside0 (Kd.C k70 w8a Ae exD.length exD) := ⟨by rw [← hZ]; exact Kd.C_below He_8.out ((Below.refl _ _).alloc (Nat.le_refl _) _)⟩
 have HB_8a : Aside0 (Below w.heap.size w w8a) := ⟨by rw [← hZ]; exact HB_8.out.alloc HB_8.out.size _⟩
 rw [hZ, ← hbk]
 clear hZ hbk HF_8 HB_8 HR_8 Ha_8 Hd_8 He_8 w8
 refine (chart_Net.calls A c exT 0 50 300 950 1 1310 1 0 w8a HR_8a.out HC.out ex_net).mono ?_
 rintro e w9 ⟨rfl, hB⟩
 have HF_9 := Aside0.mk (HF_8a.out.below hB)
 have HB_9 := Aside0.mk (below_then HB_8a.out hB)
 have HR_9 := Aside0.mk (Kd.C_below HR_8a.out hB)
 have Ha_9 := Aside0.mk (Kd.C_below Ha_8a.out hB)
 have Hd_9 := Aside0.mk (Kd.C_below Hd_8a.out hB)
 have He_9 := Aside0.mk (Kd.C_below He_8a.out hB)
 clear hB HF_8a HB_8a HR_8a Ha_8a Hd_8a He_8a w8a
 have hltb := blk_lt (HF_9.out.get tb #[.slice A exT.length c, .int .i64 0] 24 (by simp))
 have ctb0 : w9.cell? ⟨tb, 0, none⟩ = some (.slice A exT.length c) := (blk_cell (HF_9.out.get tb #[.slice A exT.length c, .int .i64 0] 24 (by simp)) 0).trans rfl
 have ctb1 : w9.cell? ⟨tb, 1, none⟩ = some (.int .i64 0) := (blk_cell (HF_9.out.get tb #[.slice A exT.length c, .int .i64 0] 24 (by simp)) 1).trans rfl
 go_wp2_with fail
 clear hltb ctb0 ctb1
 obtain ⟨w9a, hZ⟩ : ∃ Z, w9.alloc (.cells #[.int .i64 950, .int .i64 1, .int .i64 1310, .int .i64 1] 48) = Z := ⟨_, rfl⟩
 obtain ⟨nb, hbk⟩ : ∃ b, b = w9.heap.size := ⟨_, rfl⟩
 have HF_9a : Aside0 (Held [(nb, #[.int .i64 950, .int .i64 1, .int .i64 1310, .int .i64 1], 48), (mb, #[.int .i64 1480, .int .i64 1720], 43), (vb, #[.int .i64 600, .int .i64 1], 39), (tb, #[.slice A exT.length c, .int .i64 0], 24)] w9a) := ⟨by rw [← hZ, hbk]; exact HF_9.out.new _ _⟩
 have HR_9a : Aside0 (Kd.C k70 w9a A exT.length exT) := ⟨by rw [← hZ]; exact Kd.C_below HR_9.out ((Below.refl _ _).alloc (Nat.le_refl _) _)⟩
 have Ha_9a : Aside0 (Kd.C k43 w9a Aa exR.length exR) := ⟨by rw [← hZ]; exact Kd.C_below Ha_9.out ((Below.refl _ _).alloc (Nat.le_refl _) _)⟩
 have Hd_9a : Aside0 (Kd.C k70 w9a Ad exD.length exD) := ⟨by rw [← hZ]; exact Kd.C_below Hd_9.out ((Below.refl _ _).alloc (Nat.le_refl _) _)⟩
 have He_9a : Aside0 (Kd.C k70 w9a Ae exD.length exD) := ⟨by rw [← hZ]; exact Kd.C_below He_9.out ((Below.refl _ _).alloc (Nat.le_refl _) _)⟩
 have HB_9a : Aside0 (Below w.heap.size w w9a) := ⟨by rw [← hZ]; exact HB_9.out.alloc HB_9.out.size _⟩
 rw [hZ, ← hbk]
 clear hZ hbk HF_9 HB_9 HR_9 Ha_9 Hd_9 He_9 w9
 refine (forecourtlaw01_probed.calls exT 10 w9a ex_probed).mono ?_
 rintro e w10 ⟨v, rfl, Hp, hB⟩
 obtain ⟨Ap, cp, rfl, Hpl, Hpr⟩ := Kd.R_reads Hp
 have Hp_L := Lib.hid Hpl
 have Hp_10 := Aside0.mk Hpr
 clear Hp Hpl Hpr
 have HF_10 := Aside0.mk (HF_9a.out.below hB)
 have HB_10 := Aside0.mk (below_then HB_9a.out hB)
 have HR_10 := Aside0.mk (Kd.C_below HR_9a.out hB)
 have Ha_10 := Aside0.mk (Kd.C_below Ha_9a.out hB)
 have Hd_10 := Aside0.mk (Kd.C_below Hd_9a.out hB)
 have He_10 := Aside0.mk (Kd.C_below He_9a.out hB)
 clear hB HF_9a HB_9a HR_9a Ha_9a Hd_9a He_9a w9a
 go_wp2_with fail
 refine (chart_Net.calls Ap cp exT 10 100 100 0 1 90 1 0 w10 Hp_10.out Hp_L.out ex_netP).mono ?_
 rintro e w11 ⟨rfl, hB⟩
 have HF_11 := Aside0.mk (HF_10.out.below hB)
 have HB_11 := Aside0.mk (below_then HB_10.out hB)
 have HR_11 := Aside0.mk (Kd.C_below HR_10.out hB)
 have Ha_11 := Aside0.mk (Kd.C_below Ha_10.out hB)
 have Hd_11 := Aside0.mk (Kd.C_below Hd_10.out hB)
 have He_11 := Aside0.mk (Kd.C_below He_10.out hB)
 have Hp_11 := Aside0.mk (Kd.C_below Hp_10.out hB)
 clear hB HF_10 HB_10 HR_10 Ha_10 Hd_10 He_10 Hp_10 w10
 have hltb := blk_lt (HF_11.out.get tb #[.slice A exT.length c, .int .i64 0] 24 (by simp))
 have ctb0 : w11.cell? ⟨tb, 0, none⟩ = some (.slice A exT.length c) := (blk_cell (HF_11.out.get tb #[.slice A exT.length c, .int .i64 0] 24 (by simp)) 0).trans rfl
 have ctb1 : w11.cell? ⟨tb, 1, none⟩ = some (.int .i64 0) := (blk_cell (HF_11.out.get tb #[.slice A exT.length c, .int .i64 0] 24 (by simp)) 1).trans rfl
 go_wp2_with fail
 clear hltb ctb0 ctb1
 obtain ⟨w11a, hZ⟩ : ∃ Z, w11.alloc (.cells #[.int .i64 0, .int .i64 1, .int .i64 90, .int .i64 1] 48) = Z := ⟨_, rfl⟩
 obtain ⟨ub, hbk⟩ : ∃ b, b = w11.heap.size := ⟨_, rfl⟩
 have HF_11a : Aside0 (Held [(ub, #[.int .i64 0, .int .i64 1, .int .i64 90, .int .i64 1], 48), (nb, #[.int .i64 950, .int .i64 1, .int .i64 1310, .int .i64 1], 48), (mb, #[.int .i64 1480, .int .i64 1720], 43), (vb, #[.int .i64 600, .int .i64 1], 39), (tb, #[.slice A exT.length c, .int .i64 0], 24)] w11a) := ⟨by rw [← hZ, hbk]; exact HF_11.out.new _ _⟩
 have HR_11a : Aside0 (Kd.C k70 w11a A exT.length exT) := ⟨by rw [← hZ]; exact Kd.C_below HR_11.out ((Below.refl _ _).alloc (Nat.le_refl _) _)⟩
 have Ha_11a : Aside0 (Kd.C k43 w11a Aa exR.length exR) := ⟨by rw [← hZ]; exact Kd.C_below Ha_11.out ((Below.refl _ _).alloc (Nat.le_refl _) _)⟩
 have Hd_11a : Aside0 (Kd.C k70 w11a Ad exD.length exD) := ⟨by rw [← hZ]; exact Kd.C_below Hd_11.out ((Below.refl _ _).alloc (Nat.le_refl _) _)⟩
 have He_11a : Aside0 (Kd.C k70 w11a Ae exD.length exD) := ⟨by rw [← hZ]; exact Kd.C_below He_11.out ((Below.refl _ _).alloc (Nat.le_refl _) _)⟩
 have Hp_11a : Aside0 (Kd.C k70 w11a Ap exT.length exT) := ⟨by rw [← hZ]; exact Kd.C_below Hp_11.out ((Below.refl _ _).alloc (Nat.le_refl _) _)⟩
 have HB_11a : Aside0 (Below w.heap.size w w11a) := ⟨by rw [← hZ]; exact HB_11.out.alloc HB_11.out.size _⟩
 rw [hZ, ← hbk]
 clear hZ hbk HF_11 HB_11 HR_11 Ha_11 Hd_11 He_11 Hp_11 w11
 refine (chart_Dips.calls A c exT 0 500 117 213 0 w11a HR_11a.out HC.out ex_dips).mono ?_
 rintro e w12 ⟨rfl, hB⟩
 have HF_12 := Aside0.mk (HF_11a.out.below hB)
 have HB_12 := Aside0.mk (below_then HB_11a.out hB)
 have HR_12 := Aside0.mk (Kd.C_below HR_11a.out hB)
 have Ha_12 := Aside0.mk (Kd.C_below Ha_11a.out hB)
 have Hd_12 := Aside0.mk (Kd.C_below Hd_11a.out hB)
 have He_12 := Aside0.mk (Kd.C_below He_11a.out hB)
 have Hp_12 := Aside0.mk (Kd.C_below Hp_11a.out hB)
 clear hB HF_11a HB_11a HR_11a Ha_11a Hd_11a He_11a Hp_11a w11a
 have hltb := blk_lt (HF_12.out.get tb #[.slice A exT.length c, .int .i64 0] 24 (by simp))
 have ctb0 : w12.cell? ⟨tb, 0, none⟩ = some (.slice A exT.length c) := (blk_cell (HF_12.out.get tb #[.slice A exT.length c, .int .i64 0] 24 (by simp)) 0).trans rfl
 have ctb1 : w12.cell? ⟨tb, 1, none⟩ = some (.int .i64 0) := (blk_cell (HF_12.out.get tb #[.slice A exT.length c, .int .i64 0] 24 (by simp)) 1).trans rfl
 go_wp2_with fail
 clear hltb ctb0 ctb1
 obtain ⟨w12a, hZ⟩ : ∃ Z, w12.alloc (.cells #[.int .i64 117, .int .i64 213] 43) = Z := ⟨_, rfl⟩
 obtain ⟨db, hbk⟩ : ∃ b, b = w12.heap.size := ⟨_, rfl⟩
 have HF_12a : Aside0 (Held [(db, #[.int .i64 117, .int .i64 213], 43), (ub, #[.int .i64 0, .int .i64 1, .int .i64 90, .int .i64 1], 48), (nb, #[.int .i64 950, .int .i64 1, .int .i64 1310, .int .i64 1], 48), (mb, #[.int .i64 1480, .int .i64 1720], 43), (vb, #[.int .i64 600, .int .i64 1], 39), (tb, #[.slice A exT.length c, .int .i64 0], 24)] w12a) := ⟨by rw [← hZ, hbk]; exact HF_12.out.new _ _⟩
 have HR_12a : Aside0 (Kd.C k70 w12a A exT.length exT) := ⟨by rw [← hZ]; exact Kd.C_below HR_12.out ((Below.refl _ _).alloc (Nat.le_refl _) _)⟩
 have Ha_12a : Aside0 (Kd.C k43 w12a Aa exR.length exR) := ⟨by rw [← hZ]; exact Kd.C_below Ha_12.out ((Below.refl _ _).alloc (Nat.le_refl _) _)⟩
 have Hd_12a : Aside0 (Kd.C k70 w12a Ad exD.length exD) := ⟨by rw [← hZ]; exact Kd.C_below Hd_12.out ((Below.refl _ _).alloc (Nat.le_refl _) _)⟩
 have He_12a : Aside0 (Kd.C k70 w12a Ae exD.length exD) := ⟨by rw [← hZ]; exact Kd.C_below He_12.out ((Below.refl _ _).alloc (Nat.le_refl _) _)⟩
 have Hp_12a : Aside0 (Kd.C k70 w12a Ap exT.length exT) := ⟨by rw [← hZ]; exact Kd.C_below Hp_12.out ((Below.refl _ _).alloc (Nat.le_refl _) _)⟩
 have HB_12a : Aside0 (Below w.heap.size w w12a) := ⟨by rw [← hZ]; exact HB_12.out.alloc HB_12.out.size _⟩
 rw [hZ, ← hbk]
 clear hZ hbk HF_12 HB_12 HR_12 Ha_12 Hd_12 He_12 Hp_12 w12
 refine (chart_Dips.calls A c exT 0 2200 0 0 17 w12a HR_12a.out HC.out ex_dipsN).mono ?_
 rintro e w13 ⟨rfl, hB⟩
 have HF_13 := Aside0.mk (HF_12a.out.below hB)
 have HB_13 := Aside0.mk (below_then HB_12a.out hB)
 have HR_13 := Aside0.mk (Kd.C_below HR_12a.out hB)
 have Ha_13 := Aside0.mk (Kd.C_below Ha_12a.out hB)
 have Hd_13 := Aside0.mk (Kd.C_below Hd_12a.out hB)
 have He_13 := Aside0.mk (Kd.C_below He_12a.out hB)
 have Hp_13 := Aside0.mk (Kd.C_below Hp_12a.out hB)
 clear hB HF_12a HB_12a HR_12a Ha_12a Hd_12a He_12a Hp_12a w12a
 have hltb := blk_lt (HF_13.out.get tb #[.slice A exT.length c, .int .i64 0] 24 (by simp))
 have ctb0 : w13.cell? ⟨tb, 0, none⟩ = some (.slice A exT.length c) := (blk_cell (HF_13.out.get tb #[.slice A exT.length c, .int .i64 0] 24 (by simp)) 0).trans rfl
 have ctb1 : w13.cell? ⟨tb, 1, none⟩ = some (.int .i64 0) := (blk_cell (HF_13.out.get tb #[.slice A exT.length c, .int .i64 0] 24 (by simp)) 1).trans rfl
 go_wp2_with fail
 clear hltb ctb0 ctb1
 obtain ⟨w13a, hZ⟩ : ∃ Z, w13.alloc (.cells #[.int .i64 0, .int .i64 0] 43) = Z := ⟨_, rfl⟩
 obtain ⟨eb, hbk⟩ : ∃ b, b = w13.heap.size := ⟨_, rfl⟩
 have HF_13a : Aside0 (Held [(eb, #[.int .i64 0, .int .i64 0], 43), (db, #[.int .i64 117, .int .i64 213], 43), (ub, #[.int .i64 0, .int .i64 1, .int .i64 90, .int .i64 1], 48), (nb, #[.int .i64 950, .int .i64 1, .int .i64 1310, .int .i64 1], 48), (mb, #[.int .i64 1480, .int .i64 1720], 43), (vb, #[.int .i64 600, .int .i64 1], 39), (tb, #[.slice A exT.length c, .int .i64 0], 24)] w13a) := ⟨by rw [← hZ, hbk]; exact HF_13.out.new _ _⟩
 have HR_13a : Aside0 (Kd.C k70 w13a A exT.length exT) := ⟨by rw [← hZ]; exact Kd.C_below HR_13.out ((Below.refl _ _).alloc (Nat.le_refl _) _)⟩
 have Ha_13a : Aside0 (Kd.C k43 w13a Aa exR.length exR) := ⟨by rw [← hZ]; exact Kd.C_below Ha_13.out ((Below.refl _ _).alloc (Nat.le_refl _) _)⟩
 have Hd_13a : Aside0 (Kd.C k70 w13a Ad exD.length exD) := ⟨by rw [← hZ]; exact Kd.C_below Hd_13.out ((Below.refl _ _).alloc (Nat.le_refl _) _)⟩
 have He_13a : Aside0 (Kd.C k70 w13a Ae exD.length exD) := ⟨by rw [← hZ]; exact Kd.C_below He_13.out ((Below.refl _ _).alloc (Nat.le_refl _) _)⟩
 have Hp_13a : Aside0 (Kd.C k70 w13a Ap exT.length exT) := ⟨by rw [← hZ]; exact Kd.C_below Hp_13.out ((Below.refl _ _).alloc (Nat.le_refl _) _)⟩
 have HB_13a : Aside0 (Below w.heap.size w w13a) := ⟨by rw [← hZ]; exact HB_13.out.alloc HB_13.out.size _⟩
 rw [hZ, ← hbk]
 clear hZ hbk HF_13 HB_13 HR_13 Ha_13 Hd_13 He_13 Hp_13 w13
 refine (forecourtlaw01_rg.calls 10 10 10 10 w13a (by kernel_rfl)).mono ?_
 rintro e w14 ⟨rfl, hB⟩
 have HF_14 := Aside0.mk (HF_13a.out.below hB)
 have HB_14 := Aside0.mk (below_then HB_13a.out hB)
 have HR_14 := Aside0.mk (Kd.C_below HR_13a.out hB)
 have Ha_14 := Aside0.mk (Kd.C_below Ha_13a.out hB)
 have Hd_14 := Aside0.mk (Kd.C_below Hd_13a.out hB)
 have He_14 := Aside0.mk (Kd.C_below He_13a.out hB)
 have Hp_14 := Aside0.mk (Kd.C_below Hp_13a.out hB)
 clear hB HF_13a HB_13a HR_13a Ha_13a Hd_13a He_13a Hp_13a w13a
 go_wp2_with fail
 refine (forecourtlaw01_rg.calls 0 100 0 100 w14 (by kernel_rfl)).mono ?_
 rintro e w15 ⟨rfl, hB⟩
 have HF_15 := Aside0.mk (HF_14.out.below hB)
 have HB_15 := Aside0.mk (below_then HB_14.out hB)
 have HR_15 := Aside0.mk (Kd.C_below HR_14.out hB)
 have Ha_15 := Aside0.mk (Kd.C_below Ha_14.out hB)
 have Hd_15 := Aside0.mk (Kd.C_below Hd_14.out hB)
 have He_15 := Aside0.mk (Kd.C_below He_14.out hB)
 have Hp_15 := Aside0.mk (Kd.C_below Hp_14.out hB)
 clear hB HF_14 HB_14 HR_14 Ha_14 Hd_14 He_14 Hp_14 w14
 go_wp2_with fail
 refine (common5.calls 1000 10 10 0 100 1000000 1001 1000 1 0 w15 ex_common).mono ?_
 rintro e w16 ⟨rfl, hB⟩
 have HF_16 := Aside0.mk (HF_15.out.below hB)
 have HB_16 := Aside0.mk (below_then HB_15.out hB)
 have HR_16 := Aside0.mk (Kd.C_below HR_15.out hB)
 have Ha_16 := Aside0.mk (Kd.C_below Ha_15.out hB)
 have Hd_16 := Aside0.mk (Kd.C_below Hd_15.out hB)
 have He_16 := Aside0.mk (Kd.C_below He_15.out hB)
 have Hp_16 := Aside0.mk (Kd.C_below Hp_15.out hB)
 clear hB HF_15 HB_15 HR_15 Ha_15 Hd_15 He_15 Hp_15 w15
 have hltb := blk_lt (HF_16.out.get tb #[.slice A exT.length c, .int .i64 0] 24 (by simp))
 have ctb0 : w16.cell? ⟨tb, 0, none⟩ = some (.slice A exT.length c) := (blk_cell (HF_16.out.get tb #[.slice A exT.length c, .int .i64 0] 24 (by simp)) 0).trans rfl
 have ctb1 : w16.cell? ⟨tb, 1, none⟩ = some (.int .i64 0) := (blk_cell (HF_16.out.get tb #[.slice A exT.length c, .int .i64 0] 24 (by simp)) 1).trans rfl
 go_wp2_with fail
 clear hltb ctb0 ctb1
 obtain ⟨w16a, hZ⟩ : ∃ Z, w16.alloc (.cells #[.int .i64 1000000, .int .i64 1001, .int .i64 1000, .int .i64 1] 48) = Z := ⟨_, rfl⟩
 obtain ⟨ob, hbk⟩ : ∃ b, b = w16.heap.size := ⟨_, rfl⟩
 have HF_16a : Aside0 (Held [(ob, #[.int .i64 1000000, .int .i64 1001, .int .i64 1000, .int .i64 1], 48), (eb, #[.int .i64 0, .int .i64 0], 43), (db, #[.int .i64 117, .int .i64 213], 43), (ub, #[.int .i64 0, .int .i64 1, .int .i64 90, .int .i64 1], 48), (nb, #[.int .i64 950, .int .i64 1, .int .i64 1310, .int .i64 1], 48), (mb, #[.int .i64 1480, .int .i64 1720], 43), (vb, #[.int .i64 600, .int .i64 1], 39), (tb, #[.slice A exT.length c, .int .i64 0], 24)] w16a) := ⟨by rw [← hZ, hbk]; exact HF_16.out.new _ _⟩
 have HR_16a : Aside0 (Kd.C k70 w16a A exT.length exT) := ⟨by rw [← hZ]; exact Kd.C_below HR_16.out ((Below.refl _ _).alloc (Nat.le_refl _) _)⟩
 have Ha_16a : Aside0 (Kd.C k43 w16a Aa exR.length exR) := ⟨by rw [← hZ]; exact Kd.C_below Ha_16.out ((Below.refl _ _).alloc (Nat.le_refl _) _)⟩
 have Hd_16a : Aside0 (Kd.C k70 w16a Ad exD.length exD) := ⟨by rw [← hZ]; exact Kd.C_below Hd_16.out ((Below.refl _ _).alloc (Nat.le_refl _) _)⟩
 have He_16a : Aside0 (Kd.C k70 w16a Ae exD.length exD) := ⟨by rw [← hZ]; exact Kd.C_below He_16.out ((Below.refl _ _).alloc (Nat.le_refl _) _)⟩
 have Hp_16a : Aside0 (Kd.C k70 w16a Ap exT.length exT) := ⟨by rw [← hZ]; exact Kd.C_below Hp_16.out ((Below.refl _ _).alloc (Nat.le_refl _) _)⟩
 have HB_16a : Aside0 (Below w.heap.size w w16a) := ⟨by rw [← hZ]; exact HB_16.out.alloc HB_16.out.size _⟩
 rw [hZ, ← hbk]
 clear hZ hbk HF_16 HB_16 HR_16 Ha_16 Hd_16 He_16 Hp_16 w16
 refine (chart_End.calls A c exT 0 50 300 false exX 50 300 0 w16a HR_16a.out HC.out ex_end).mono ?_
 rintro e w17 ⟨v, rfl, Hn, hB⟩
 obtain ⟨An, cn, rfl, Hnl, Hnr⟩ := Kd.R_reads Hn
 have Hn_L := Lib.hid Hnl
 have Hn_17 := Aside0.mk Hnr
 clear Hn Hnl Hnr
 have HF_17 := Aside0.mk (HF_16a.out.below hB)
 have HB_17 := Aside0.mk (below_then HB_16a.out hB)
 have HR_17 := Aside0.mk (Kd.C_below HR_16a.out hB)
 have Ha_17 := Aside0.mk (Kd.C_below Ha_16a.out hB)
 have Hd_17 := Aside0.mk (Kd.C_below Hd_16a.out hB)
 have He_17 := Aside0.mk (Kd.C_below He_16a.out hB)
 have Hp_17 := Aside0.mk (Kd.C_below Hp_16a.out hB)
 clear hB HF_16a HB_16a HR_16a Ha_16a Hd_16a He_16a Hp_16a w16a
 have hltb := blk_lt (HF_17.out.get tb #[.slice A exT.length c, .int .i64 0] 24 (by simp))
 have ctb0 : w17.cell? ⟨tb, 0, none⟩ = some (.slice A exT.length c) := (blk_cell (HF_17.out.get tb #[.slice A exT.length c, .int .i64 0] 24 (by simp)) 0).trans rfl
 have ctb1 : w17.cell? ⟨tb, 1, none⟩ = some (.int .i64 0) := (blk_cell (HF_17.out.get tb #[.slice A exT.length c, .int .i64 0] 24 (by simp)) 1).trans rfl
 go_wp2_with fail
 clear hltb ctb0 ctb1
 obtain ⟨w17a, hZ⟩ : ∃ Z, w17.alloc (.cells #[.int .i64 50, .int .i64 300] 51) = Z := ⟨_, rfl⟩
 obtain ⟨xb, hbk⟩ : ∃ b, b = w17.heap.size := ⟨_, rfl⟩
 have HF_17a : Aside0 (Held [(xb, #[.int .i64 50, .int .i64 300], 51), (ob, #[.int .i64 1000000, .int .i64 1001, .int .i64 1000, .int .i64 1], 48), (eb, #[.int .i64 0, .int .i64 0], 43), (db, #[.int .i64 117, .int .i64 213], 43), (ub, #[.int .i64 0, .int .i64 1, .int .i64 90, .int .i64 1], 48), (nb, #[.int .i64 950, .int .i64 1, .int .i64 1310, .int .i64 1], 48), (mb, #[.int .i64 1480, .int .i64 1720], 43), (vb, #[.int .i64 600, .int .i64 1], 39), (tb, #[.slice A exT.length c, .int .i64 0], 24)] w17a) := ⟨by rw [← hZ, hbk]; exact HF_17.out.new _ _⟩
 have HR_17a : Aside0 (Kd.C k70 w17a A exT.length exT) := ⟨by rw [← hZ]; exact Kd.C_below HR_17.out ((Below.refl _ _).alloc (Nat.le_refl _) _)⟩
 have Ha_17a : Aside0 (Kd.C k43 w17a Aa exR.length exR) := ⟨by rw [← hZ]; exact Kd.C_below Ha_17.out ((Below.refl _ _).alloc (Nat.le_refl _) _)⟩
 have Hd_17a : Aside0 (Kd.C k70 w17a Ad exD.length exD) := ⟨by rw [← hZ]; exact Kd.C_below Hd_17.out ((Below.refl _ _).alloc (Nat.le_refl _) _)⟩
 have He_17a : Aside0 (Kd.C k70 w17a Ae exD.length exD) := ⟨by rw [← hZ]; exact Kd.C_below He_17.out ((Below.refl _ _).alloc (Nat.le_refl _) _)⟩
 have Hp_17a : Aside0 (Kd.C k70 w17a Ap exT.length exT) := ⟨by rw [← hZ]; exact Kd.C_below Hp_17.out ((Below.refl _ _).alloc (Nat.le_refl _) _)⟩
 have Hn_17a : Aside0 (Kd.C (Kd.int .i64) w17a An exX.length exX) := ⟨by rw [← hZ]; exact Kd.C_below Hn_17.out ((Below.refl _ _).alloc (Nat.le_refl _) _)⟩
 have HB_17a : Aside0 (Below w.heap.size w w17a) := ⟨by rw [← hZ]; exact HB_17.out.alloc HB_17.out.size _⟩
 rw [hZ, ← hbk]
 clear hZ hbk HF_17 HB_17 HR_17 Ha_17 Hd_17 He_17 Hp_17 Hn_17 w17
 have hltb := blk_lt (HF_17a.out.get tb #[.slice A exT.length c, .int .i64 0] 24 (by simp))
 have ctb0 : w17a.cell? ⟨tb, 0, none⟩ = some (.slice A exT.length c) := (blk_cell (HF_17a.out.get tb #[.slice A exT.length c, .int .i64 0] 24 (by simp)) 0).trans rfl
 have ctb1 : w17a.cell? ⟨tb, 1, none⟩ = some (.int .i64 0) := (blk_cell (HF_17a.out.get tb #[.slice A exT.length c, .int .i64 0] 24 (by simp)) 1).trans rfl
 have hlvb := blk_lt (HF_17a.out.get vb #[.int .i64 600, .int .i64 1] 39 (by simp))
 have cvb0 : w17a.cell? ⟨vb, 0, none⟩ = some (.int .i64 600) := (blk_cell (HF_17a.out.get vb #[.int .i64 600, .int .i64 1] 39 (by simp)) 0).trans rfl
 have cvb1 : w17a.cell? ⟨vb, 1, none⟩ = some (.int .i64 1) := (blk_cell (HF_17a.out.get vb #[.int .i64 600, .int .i64 1] 39 (by simp)) 1).trans rfl
 have hlmb := blk_lt (HF_17a.out.get mb #[.int .i64 1480, .int .i64 1720] 43 (by simp))
 have cmb0 : w17a.cell? ⟨mb, 0, none⟩ = some (.int .i64 1480) := (blk_cell (HF_17a.out.get mb #[.int .i64 1480, .int .i64 1720] 43 (by simp)) 0).trans rfl
 have cmb1 : w17a.cell? ⟨mb, 1, none⟩ = some (.int .i64 1720) := (blk_cell (HF_17a.out.get mb #[.int .i64 1480, .int .i64 1720] 43 (by simp)) 1).trans rfl
 have hlnb := blk_lt (HF_17a.out.get nb #[.int .i64 950, .int .i64 1, .int .i64 1310, .int .i64 1] 48 (by simp))
 have cnb0 : w17a.cell? ⟨nb, 0, none⟩ = some (.int .i64 950) := (blk_cell (HF_17a.out.get nb #[.int .i64 950, .int .i64 1, .int .i64 1310, .int .i64 1] 48 (by simp)) 0).trans rfl
 have cnb1 : w17a.cell? ⟨nb, 1, none⟩ = some (.int .i64 1) := (blk_cell (HF_17a.out.get nb #[.int .i64 950, .int .i64 1, .int .i64 1310, .int .i64 1] 48 (by simp)) 1).trans rfl
 have cnb2 : w17a.cell? ⟨nb, 2, none⟩ = some (.int .i64 1310) := (blk_cell (HF_17a.out.get nb #[.int .i64 950, .int .i64 1, .int .i64 1310, .int .i64 1] 48 (by simp)) 2).trans rfl
 have cnb3 : w17a.cell? ⟨nb, 3, none⟩ = some (.int .i64 1) := (blk_cell (HF_17a.out.get nb #[.int .i64 950, .int .i64 1, .int .i64 1310, .int .i64 1] 48 (by simp)) 3).trans rfl
 have hlub := blk_lt (HF_17a.out.get ub #[.int .i64 0, .int .i64 1, .int .i64 90, .int .i64 1] 48 (by simp))
 have cub0 : w17a.cell? ⟨ub, 0, none⟩ = some (.int .i64 0) := (blk_cell (HF_17a.out.get ub #[.int .i64 0, .int .i64 1, .int .i64 90, .int .i64 1] 48 (by simp)) 0).trans rfl
 have cub1 : w17a.cell? ⟨ub, 1, none⟩ = some (.int .i64 1) := (blk_cell (HF_17a.out.get ub #[.int .i64 0, .int .i64 1, .int .i64 90, .int .i64 1] 48 (by simp)) 1).trans rfl
 have cub2 : w17a.cell? ⟨ub, 2, none⟩ = some (.int .i64 90) := (blk_cell (HF_17a.out.get ub #[.int .i64 0, .int .i64 1, .int .i64 90, .int .i64 1] 48 (by simp)) 2).trans rfl
 have cub3 : w17a.cell? ⟨ub, 3, none⟩ = some (.int .i64 1) := (blk_cell (HF_17a.out.get ub #[.int .i64 0, .int .i64 1, .int .i64 90, .int .i64 1] 48 (by simp)) 3).trans rfl
 have hldb := blk_lt (HF_17a.out.get db #[.int .i64 117, .int .i64 213] 43 (by simp))
 have cdb0 : w17a.cell? ⟨db, 0, none⟩ = some (.int .i64 117) := (blk_cell (HF_17a.out.get db #[.int .i64 117, .int .i64 213] 43 (by simp)) 0).trans rfl
 have cdb1 : w17a.cell? ⟨db, 1, none⟩ = some (.int .i64 213) := (blk_cell (HF_17a.out.get db #[.int .i64 117, .int .i64 213] 43 (by simp)) 1).trans rfl
 have hlob := blk_lt (HF_17a.out.get ob #[.int .i64 1000000, .int .i64 1001, .int .i64 1000, .int .i64 1] 48 (by simp))
 have cob0 : w17a.cell? ⟨ob, 0, none⟩ = some (.int .i64 1000000) := (blk_cell (HF_17a.out.get ob #[.int .i64 1000000, .int .i64 1001, .int .i64 1000, .int .i64 1] 48 (by simp)) 0).trans rfl
 have cob1 : w17a.cell? ⟨ob, 1, none⟩ = some (.int .i64 1001) := (blk_cell (HF_17a.out.get ob #[.int .i64 1000000, .int .i64 1001, .int .i64 1000, .int .i64 1] 48 (by simp)) 1).trans rfl
 have cob2 : w17a.cell? ⟨ob, 2, none⟩ = some (.int .i64 1000) := (blk_cell (HF_17a.out.get ob #[.int .i64 1000000, .int .i64 1001, .int .i64 1000, .int .i64 1] 48 (by simp)) 2).trans rfl
 have cob3 : w17a.cell? ⟨ob, 3, none⟩ = some (.int .i64 1) := (blk_cell (HF_17a.out.get ob #[.int .i64 1000000, .int .i64 1001, .int .i64 1000, .int .i64 1] 48 (by simp)) 3).trans rfl
 have hlxb := blk_lt (HF_17a.out.get xb #[.int .i64 50, .int .i64 300] 51 (by simp))
 have cxb0 : w17a.cell? ⟨xb, 0, none⟩ = some (.int .i64 50) := (blk_cell (HF_17a.out.get xb #[.int .i64 50, .int .i64 300] 51 (by simp)) 0).trans rfl
 have cxb1 : w17a.cell? ⟨xb, 1, none⟩ = some (.int .i64 300) := (blk_cell (HF_17a.out.get xb #[.int .i64 50, .int .i64 300] 51 (by simp)) 1).trans rfl
 (refine start_ (n := 59) (S := fun w' => Below (World.heap _).size _ w') (ds := []) (List.toArray (false :: false :: false :: false :: false :: false :: false :: false :: false :: false :: false :: false :: false :: false :: false :: false :: false :: false :: false :: false :: false :: false :: false :: false :: false :: false :: false :: false :: false :: false :: false :: false :: false :: false :: false :: false :: false :: false :: false :: false :: false :: false :: false :: false :: false :: false :: false :: false :: false :: false :: false :: false :: false :: false :: false :: false :: false :: false :: false :: [])) (by kernel_rfl) rfl rfl (belowDrew _) (fun plS => ?_); refine pureY (i := 0) (N := (some 128)) ?_; refine oneY (i := 1) (fun plK plH => ?_); rw [if_pos (by rfl)]; (first | gi_big_move | go_big_op | go_simp))
 refine (forecourtlaw01_rg.calls 0 0 0 0 _ (by kernel_rfl)).mono ?_
 rintro e y1 ⟨rfl, hb1⟩
 have hB1 : Below w17a.heap.size w17a y1 := ((Below.refl _ w17a).drew).trans hb1
 clear hb1
 ((try simp only [Act.put, List.getElem_toArray, List.getElem_cons_succ, List.getElem_cons_zero, List.setIfInBounds_toArray, List.set_cons_succ, List.set_cons_zero]); refine plH _ _ hB1 (fun plS => ?_); clear plH plK; refine oneY (i := 2) (fun plK plH => ?_); rw [if_pos (by rfl)]; (first | gi_big_move | go_big_op | go_simp))
 refine (forecourtlaw01_rg.calls 380 420 380 420 _ (by kernel_rfl)).mono ?_
 rintro e y2 ⟨rfl, hb2⟩
 have hB2 : Below w17a.heap.size w17a y2 := below_then hB1 hb2
 clear hb2
 ((try simp only [Act.put, List.getElem_toArray, List.getElem_cons_succ, List.getElem_cons_zero, List.setIfInBounds_toArray, List.set_cons_succ, List.set_cons_zero]); refine plH _ _ hB2 (fun plS => ?_); clear plH plK; refine oneY (i := 3) (fun plK plH => ?_); rw [if_pos (by rfl)]; (first | gi_big_move | go_big_op | go_simp))
 refine (forecourtlaw01_rg.calls 400 900 400 900 _ (by kernel_rfl)).mono ?_
 rintro e y3 ⟨rfl, hb3⟩
 have hB3 : Below w17a.heap.size w17a y3 := below_then hB2 hb3
 clear hb3
 ((try simp only [Act.put, List.getElem_toArray, List.getElem_cons_succ, List.getElem_cons_zero, List.setIfInBounds_toArray, List.set_cons_succ, List.set_cons_zero]); refine plH _ _ hB3 (fun plS => ?_); clear plH plK; refine oneY (i := 4) (fun plK plH => ?_); rw [if_pos (by rfl)]; (first | gi_big_move | go_big_op | go_simp))
 refine (forecourtlaw01_rg.calls 1900 2100 1900 2100 _ (by kernel_rfl)).mono ?_
 rintro e y4 ⟨rfl, hb4⟩
 have hB4 : Below w17a.heap.size w17a y4 := below_then hB3 hb4
 clear hb4
 ((try simp only [Act.put, List.getElem_toArray, List.getElem_cons_succ, List.getElem_cons_zero, List.setIfInBounds_toArray, List.set_cons_succ, List.set_cons_zero]); refine plH _ _ hB4 (fun plS => ?_); clear plH plK; refine oneY (i := 5) (fun plK plH => ?_); rw [if_pos (by rfl)]; (first | gi_big_move | go_big_op | go_simp))
 obtain ⟨y5, hy5⟩ : ∃ Y, y4.alloc (.cells #[.int .i64 0, .int .i64 0, .int .i64 380, .int .i64 420, .int .i64 400, .int .i64 900, .int .i64 1900, .int .i64 2100] 43) = Y := ⟨_, rfl⟩
 obtain ⟨rb, hrb⟩ : ∃ b, b = y4.heap.size := ⟨_, rfl⟩
 have hnew : y5.heap[rb]? = some (.cells #[.int .i64 0, .int .i64 0, .int .i64 380, .int .i64 420, .int .i64 400, .int .i64 900, .int .i64 1900, .int .i64 2100] 43 (0, 0)) := by rw [← hy5, hrb]; exact blk_new _ _
 have hB5 : Below w17a.heap.size w17a y5 := by rw [← hy5]; exact hB4.alloc hB4.size _
 rw [hy5, ← hrb]
 clear hy5 hrb
 ((try simp only [Act.put, List.getElem_toArray, List.getElem_cons_succ, List.getElem_cons_zero, List.setIfInBounds_toArray, List.set_cons_succ, List.set_cons_zero]); refine plH _ _ hB5 (fun plS => ?_); clear plH plK; refine oneY (i := 6) (fun plK plH => ?_); rw [if_pos (by rfl)]; (first | gi_big_move | go_big_op | go_simp))
 refine (forecourtlaw01_ranges.calls 10 Aa ca exR (some ⟨rb, 0, none⟩) 4 exR true y5 (Kd.C_below Ha_17a.out hB5) Ha_L.out (C_exR hnew) (by decide) ex_ranges).mono ?_
 rintro e y6 ⟨rfl, hd6⟩
 have hB6 : Below w17a.heap.size w17a y6 := below_then hB5 hd6.below
 clear hd6 hnew
 ((try simp only [Act.put, List.getElem_toArray, List.getElem_cons_succ, List.getElem_cons_zero, List.setIfInBounds_toArray, List.set_cons_succ, List.set_cons_zero]); refine plH _ _ hB6 (fun plS => ?_); clear plH plK; refine pureY (i := 7) (N := (some 135)) ?_; refine pureY (i := 8) (N := (some 136)) ?_; refine pureY (i := 9) (N := (some 137)) ?_; refine pureY (i := 10) (N := (some 138)) ?_; refine pureY (i := 11) (N := (some 139)) ?_; refine pureY (i := 12) (N := (some 140)) ?_; refine pureY (i := 13) (N := (some 141)) ?_; refine pureY (i := 14) (N := (some 142)) ?_; refine pureY (i := 15) (N := (some 143)) ?_; refine takeF (i := 16) (N := (some 144)) (hS := plS) (hy := by (intro w' hw'; replace hw' : Below (World.heap w17a).size w17a w' := hw'; have q0 := pw_cell_below hw' ctb0; have q1 := pw_cell_below hw' ctb1; have q2 := pw_cell_below hw' cvb0; have q3 := pw_cell_below hw' cvb1; have q4 := pw_cell_below hw' cmb0; have q5 := pw_cell_below hw' cmb1; have q6 := pw_cell_below hw' cnb0; have q7 := pw_cell_below hw' cnb1; have q8 := pw_cell_below hw' cnb2; have q9 := pw_cell_below hw' cnb3; have q10 := pw_cell_below hw' cub0; have q11 := pw_cell_below hw' cub1; have q12 := pw_cell_below hw' cub2; have q13 := pw_cell_below hw' cub3; have q14 := pw_cell_below hw' cdb0; have q15 := pw_cell_below hw' cdb1; have q16 := pw_cell_below hw' cob0; have q17 := pw_cell_below hw' cob1; have q18 := pw_cell_below hw' cob2; have q19 := pw_cell_below hw' cob3; have q20 := pw_cell_below hw' cxb0; have q21 := pw_cell_below hw' cxb1; exact yieldA)) (h := ?_); refine oneY (i := 17) (fun plK plH => ?_); rw [if_pos (by rfl)]; (first | gi_big_move | go_big_op | go_simp))
 refine (forecourtlaw01_of.calls 600 1 600 1 _ (by kernel_rfl)).mono ?_
 rintro e y7 ⟨rfl, hb⟩
 have hB7 : Below w17a.heap.size w17a y7 := below_then hB6 hb
 clear hb
 ((try simp only [Act.put, List.getElem_toArray, List.getElem_cons_succ, List.getElem_cons_zero, List.setIfInBounds_toArray, List.set_cons_succ, List.set_cons_zero]); refine plH _ _ hB7 (fun plS => ?_); clear plH plK; refine pureY (i := 18) (N := (some 146)) ?_; refine pureY (i := 19) (N := (some 147)) ?_; refine pureY (i := 20) (N := (some 148)) ?_; refine takeF (i := 21) (N := (some 149)) (hS := plS) (hy := by (intro w' hw'; replace hw' : Below (World.heap w17a).size w17a w' := hw'; have q0 := pw_cell_below hw' ctb0; have q1 := pw_cell_below hw' ctb1; have q2 := pw_cell_below hw' cvb0; have q3 := pw_cell_below hw' cvb1; have q4 := pw_cell_below hw' cmb0; have q5 := pw_cell_below hw' cmb1; have q6 := pw_cell_below hw' cnb0; have q7 := pw_cell_below hw' cnb1; have q8 := pw_cell_below hw' cnb2; have q9 := pw_cell_below hw' cnb3; have q10 := pw_cell_below hw' cub0; have q11 := pw_cell_below hw' cub1; have q12 := pw_cell_below hw' cub2; have q13 := pw_cell_below hw' cub3; have q14 := pw_cell_below hw' cdb0; have q15 := pw_cell_below hw' cdb1; have q16 := pw_cell_below hw' cob0; have q17 := pw_cell_below hw' cob1; have q18 := pw_cell_below hw' cob2; have q19 := pw_cell_below hw' cob3; have q20 := pw_cell_below hw' cxb0; have q21 := pw_cell_below hw' cxb1; exact yieldA)) (h := ?_); refine oneY (i := 22) (fun plK plH => ?_); rw [if_pos (by rfl)]; (first | gi_big_move | go_big_op | go_simp))
 refine (forecourtlaw01_rg.calls 1480 1720 1480 1720 _ (by kernel_rfl)).mono ?_
 rintro e y8 ⟨rfl, hb⟩
 have hB8 : Below w17a.heap.size w17a y8 := below_then hB7 hb
 clear hb
 ((try simp only [Act.put, List.getElem_toArray, List.getElem_cons_succ, List.getElem_cons_zero, List.setIfInBounds_toArray, List.set_cons_succ, List.set_cons_zero]); refine plH _ _ hB8 (fun plS => ?_); clear plH plK; refine pureY (i := 23) (N := (some 151)) ?_; refine pureY (i := 24) (N := (some 152)) ?_; refine pureY (i := 25) (N := (some 153)) ?_; refine takeF (i := 26) (N := (some 154)) (hS := plS) (hy := by (intro w' hw'; replace hw' : Below (World.heap w17a).size w17a w' := hw'; have q0 := pw_cell_below hw' ctb0; have q1 := pw_cell_below hw' ctb1; have q2 := pw_cell_below hw' cvb0; have q3 := pw_cell_below hw' cvb1; have q4 := pw_cell_below hw' cmb0; have q5 := pw_cell_below hw' cmb1; have q6 := pw_cell_below hw' cnb0; have q7 := pw_cell_below hw' cnb1; have q8 := pw_cell_below hw' cnb2; have q9 := pw_cell_below hw' cnb3; have q10 := pw_cell_below hw' cub0; have q11 := pw_cell_below hw' cub1; have q12 := pw_cell_below hw' cub2; have q13 := pw_cell_below hw' cub3; have q14 := pw_cell_below hw' cdb0; have q15 := pw_cell_below hw' cdb1; have q16 := pw_cell_below hw' cob0; have q17 := pw_cell_below hw' cob1; have q18 := pw_cell_below hw' cob2; have q19 := pw_cell_below hw' cob3; have q20 := pw_cell_below hw' cxb0; have q21 := pw_cell_below hw' cxb1; exact yieldA)) (h := ?_); refine oneY (i := 27) (fun plK plH => ?_); rw [if_pos (by rfl)]; (first | gi_big_move | go_big_op | go_simp))
 refine (forecourtlaw01_of.calls 950 1 950 1 _ (by kernel_rfl)).mono ?_
 rintro e y9 ⟨rfl, hb⟩
 have hB9 : Below w17a.heap.size w17a y9 := below_then hB8 hb
 clear hb
 ((try simp only [Act.put, List.getElem_toArray, List.getElem_cons_succ, List.getElem_cons_zero, List.setIfInBounds_toArray, List.set_cons_succ, List.set_cons_zero]); refine plH _ _ hB9 (fun plS => ?_); clear plH plK; refine oneY (i := 28) (fun plK plH => ?_); rw [if_pos (by rfl)]; (first | gi_big_move | go_big_op | go_simp))
 refine (forecourtlaw01_of.calls 1310 1 1310 1 _ (by kernel_rfl)).mono ?_
 rintro e y10 ⟨rfl, hb⟩
 have hB10 : Below w17a.heap.size w17a y10 := below_then hB9 hb
 clear hb
 ((try simp only [Act.put, List.getElem_toArray, List.getElem_cons_succ, List.getElem_cons_zero, List.setIfInBounds_toArray, List.set_cons_succ, List.set_cons_zero]); refine plH _ _ hB10 (fun plS => ?_); clear plH plK; refine pureY (i := 29) (N := (some 157)) ?_; refine pureY (i := 30) (N := (some 158)) ?_; refine pureY (i := 31) (N := (some 159)) ?_; refine pureY (i := 32) (N := (some 160)) ?_; refine takeF (i := 33) (N := (some 161)) (hS := plS) (hy := by (intro w' hw'; replace hw' : Below (World.heap w17a).size w17a w' := hw'; have q0 := pw_cell_below hw' ctb0; have q1 := pw_cell_below hw' ctb1; have q2 := pw_cell_below hw' cvb0; have q3 := pw_cell_below hw' cvb1; have q4 := pw_cell_below hw' cmb0; have q5 := pw_cell_below hw' cmb1; have q6 := pw_cell_below hw' cnb0; have q7 := pw_cell_below hw' cnb1; have q8 := pw_cell_below hw' cnb2; have q9 := pw_cell_below hw' cnb3; have q10 := pw_cell_below hw' cub0; have q11 := pw_cell_below hw' cub1; have q12 := pw_cell_below hw' cub2; have q13 := pw_cell_below hw' cub3; have q14 := pw_cell_below hw' cdb0; have q15 := pw_cell_below hw' cdb1; have q16 := pw_cell_below hw' cob0; have q17 := pw_cell_below hw' cob1; have q18 := pw_cell_below hw' cob2; have q19 := pw_cell_below hw' cob3; have q20 := pw_cell_below hw' cxb0; have q21 := pw_cell_below hw' cxb1; exact yieldA)) (h := ?_); refine oneY (i := 34) (fun plK plH => ?_); rw [if_pos (by rfl)]; (first | gi_big_move | go_big_op | go_simp))
 refine (forecourtlaw01_of.calls 0 1 0 1 _ (by kernel_rfl)).mono ?_
 rintro e y11 ⟨rfl, hb⟩
 have hB11 : Below w17a.heap.size w17a y11 := below_then hB10 hb
 clear hb
 ((try simp only [Act.put, List.getElem_toArray, List.getElem_cons_succ, List.getElem_cons_zero, List.setIfInBounds_toArray, List.set_cons_succ, List.set_cons_zero]); refine plH _ _ hB11 (fun plS => ?_); clear plH plK; refine oneY (i := 35) (fun plK plH => ?_); rw [if_pos (by rfl)]; (first | gi_big_move | go_big_op | go_simp))
 refine (forecourtlaw01_of.calls 90 1 90 1 _ (by kernel_rfl)).mono ?_
 rintro e y12 ⟨rfl, hb⟩
 have hB12 : Below w17a.heap.size w17a y12 := below_then hB11 hb
 clear hb
 ((try simp only [Act.put, List.getElem_toArray, List.getElem_cons_succ, List.getElem_cons_zero, List.setIfInBounds_toArray, List.set_cons_succ, List.set_cons_zero]); refine plH _ _ hB12 (fun plS => ?_); clear plH plK; refine pureY (i := 36) (N := (some 164)) ?_; refine pureY (i := 37) (N := (some 165)) ?_; refine pureY (i := 38) (N := (some 166)) ?_; refine pureY (i := 39) (N := (some 167)) ?_; refine takeF (i := 40) (N := (some 168)) (hS := plS) (hy := by (intro w' hw'; replace hw' : Below (World.heap w17a).size w17a w' := hw'; have q0 := pw_cell_below hw' ctb0; have q1 := pw_cell_below hw' ctb1; have q2 := pw_cell_below hw' cvb0; have q3 := pw_cell_below hw' cvb1; have q4 := pw_cell_below hw' cmb0; have q5 := pw_cell_below hw' cmb1; have q6 := pw_cell_below hw' cnb0; have q7 := pw_cell_below hw' cnb1; have q8 := pw_cell_below hw' cnb2; have q9 := pw_cell_below hw' cnb3; have q10 := pw_cell_below hw' cub0; have q11 := pw_cell_below hw' cub1; have q12 := pw_cell_below hw' cub2; have q13 := pw_cell_below hw' cub3; have q14 := pw_cell_below hw' cdb0; have q15 := pw_cell_below hw' cdb1; have q16 := pw_cell_below hw' cob0; have q17 := pw_cell_below hw' cob1; have q18 := pw_cell_below hw' cob2; have q19 := pw_cell_below hw' cob3; have q20 := pw_cell_below hw' cxb0; have q21 := pw_cell_below hw' cxb1; exact yieldA)) (h := ?_); refine oneY (i := 41) (fun plK plH => ?_); rw [if_pos (by rfl)]; (first | gi_big_move | go_big_op | go_simp))
 refine (forecourtlaw01_rg.calls 117 213 117 213 _ (by kernel_rfl)).mono ?_
 rintro e y13 ⟨rfl, hb⟩
 have hB13 : Below w17a.heap.size w17a y13 := below_then hB12 hb
 clear hb
 ((try simp only [Act.put, List.getElem_toArray, List.getElem_cons_succ, List.getElem_cons_zero, List.setIfInBounds_toArray, List.set_cons_succ, List.set_cons_zero]); refine plH _ _ hB13 (fun plS => ?_); clear plH plK; refine pureY (i := 42) (N := (some 170)) ?_; refine pureY (i := 43) (N := (some 171)) ?_; refine pureY (i := 44) (N := (some 172)) ?_; refine takeF (i := 45) (N := (some 173)) (hS := plS) (hy := by (intro w' hw'; replace hw' : Below (World.heap w17a).size w17a w' := hw'; have q0 := pw_cell_below hw' ctb0; have q1 := pw_cell_below hw' ctb1; have q2 := pw_cell_below hw' cvb0; have q3 := pw_cell_below hw' cvb1; have q4 := pw_cell_below hw' cmb0; have q5 := pw_cell_below hw' cmb1; have q6 := pw_cell_below hw' cnb0; have q7 := pw_cell_below hw' cnb1; have q8 := pw_cell_below hw' cnb2; have q9 := pw_cell_below hw' cnb3; have q10 := pw_cell_below hw' cub0; have q11 := pw_cell_below hw' cub1; have q12 := pw_cell_below hw' cub2; have q13 := pw_cell_below hw' cub3; have q14 := pw_cell_below hw' cdb0; have q15 := pw_cell_below hw' cdb1; have q16 := pw_cell_below hw' cob0; have q17 := pw_cell_below hw' cob1; have q18 := pw_cell_below hw' cob2; have q19 := pw_cell_below hw' cob3; have q20 := pw_cell_below hw' cxb0; have q21 := pw_cell_below hw' cxb1; exact yieldA)) (h := ?_); refine oneY (i := 46) (fun plK plH => ?_); rw [if_pos (by rfl)]; (first | gi_big_move | go_big_op | go_simp))
 refine (forecourtlaw01_of.calls 1000000 1001 1000000 1001 _ (by kernel_rfl)).mono ?_
 rintro e y14 ⟨rfl, hb⟩
 have hB14 : Below w17a.heap.size w17a y14 := below_then hB13 hb
 clear hb
 ((try simp only [Act.put, List.getElem_toArray, List.getElem_cons_succ, List.getElem_cons_zero, List.setIfInBounds_toArray, List.set_cons_succ, List.set_cons_zero]); refine plH _ _ hB14 (fun plS => ?_); clear plH plK; refine oneY (i := 47) (fun plK plH => ?_); rw [if_pos (by rfl)]; (first | gi_big_move | go_big_op | go_simp))
 refine (forecourtlaw01_of.calls 1000 1 1000 1 _ (by kernel_rfl)).mono ?_
 rintro e y15 ⟨rfl, hb⟩
 have hB15 : Below w17a.heap.size w17a y15 := below_then hB14 hb
 clear hb
 ((try simp only [Act.put, List.getElem_toArray, List.getElem_cons_succ, List.getElem_cons_zero, List.setIfInBounds_toArray, List.set_cons_succ, List.set_cons_zero]); refine plH _ _ hB15 (fun plS => ?_); clear plH plK; refine pureY (i := 48) (N := (some 176)) ?_; refine pureY (i := 49) (N := (some 177)) ?_; refine pureY (i := 50) (N := (some 178)) ?_; refine pureY (i := 51) (N := (some 179)) ?_; refine pureY (i := 53) (N := (some 181)) ?_; refine takeF (i := 52) (N := (some 180)) (hS := plS) (hy := by (intro w' hw'; replace hw' : Below (World.heap w17a).size w17a w' := hw'; have q0 := pw_cell_below hw' ctb0; have q1 := pw_cell_below hw' ctb1; have q2 := pw_cell_below hw' cvb0; have q3 := pw_cell_below hw' cvb1; have q4 := pw_cell_below hw' cmb0; have q5 := pw_cell_below hw' cmb1; have q6 := pw_cell_below hw' cnb0; have q7 := pw_cell_below hw' cnb1; have q8 := pw_cell_below hw' cnb2; have q9 := pw_cell_below hw' cnb3; have q10 := pw_cell_below hw' cub0; have q11 := pw_cell_below hw' cub1; have q12 := pw_cell_below hw' cub2; have q13 := pw_cell_below hw' cub3; have q14 := pw_cell_below hw' cdb0; have q15 := pw_cell_below hw' cdb1; have q16 := pw_cell_below hw' cob0; have q17 := pw_cell_below hw' cob1; have q18 := pw_cell_below hw' cob2; have q19 := pw_cell_below hw' cob3; have q20 := pw_cell_below hw' cxb0; have q21 := pw_cell_below hw' cxb1; exact yieldA)) (h := ?_); refine takeF (i := 54) (N := (some 182)) (hS := plS) (hy := by (intro w' hw'; replace hw' : Below (World.heap w17a).size w17a w' := hw'; have q0 := pw_cell_below hw' ctb0; have q1 := pw_cell_below hw' ctb1; have q2 := pw_cell_below hw' cvb0; have q3 := pw_cell_below hw' cvb1; have q4 := pw_cell_below hw' cmb0; have q5 := pw_cell_below hw' cmb1; have q6 := pw_cell_below hw' cnb0; have q7 := pw_cell_below hw' cnb1; have q8 := pw_cell_below hw' cnb2; have q9 := pw_cell_below hw' cnb3; have q10 := pw_cell_below hw' cub0; have q11 := pw_cell_below hw' cub1; have q12 := pw_cell_below hw' cub2; have q13 := pw_cell_below hw' cub3; have q14 := pw_cell_below hw' cdb0; have q15 := pw_cell_below hw' cdb1; have q16 := pw_cell_below hw' cob0; have q17 := pw_cell_below hw' cob1; have q18 := pw_cell_below hw' cob2; have q19 := pw_cell_below hw' cob3; have q20 := pw_cell_below hw' cxb0; have q21 := pw_cell_below hw' cxb1; exact yieldA)) (h := ?_); refine oneY (i := 55) (fun plK plH => ?_); rw [if_pos (by rfl)]; (first | gi_big_move | go_big_op | go_simp))
 refine (forecourtlaw01_of.calls 950 1 950 1 _ (by kernel_rfl)).mono ?_
 rintro e y16 ⟨rfl, hb⟩
 have hB16 : Below w17a.heap.size w17a y16 := below_then hB15 hb
 clear hb
 ((try simp only [Act.put, List.getElem_toArray, List.getElem_cons_succ, List.getElem_cons_zero, List.setIfInBounds_toArray, List.set_cons_succ, List.set_cons_zero]); refine plH _ _ hB16 (fun plS => ?_); clear plH plK; refine oneY (i := 56) (fun plK plH => ?_); rw [if_pos (by rfl)]; (first | gi_big_move | go_big_op | go_simp))
 refine (forecourtlaw01_reached.calls 30 A c exT 0 50 300 An cn exX 50 300 950 1 true y16 (Kd.C_below HR_17a.out hB16) HC.out (Kd.C_below Hn_17a.out hB16) Hn_L.out ⟨rfl⟩ ex_reached).mono ?_
 rintro e y17 ⟨rfl, hb⟩
 have hB17 : Below w17a.heap.size w17a y17 := below_then hB16 hb
 ((try simp only [Act.put, List.getElem_toArray, List.getElem_cons_succ, List.getElem_cons_zero, List.setIfInBounds_toArray, List.set_cons_succ, List.set_cons_zero]); refine plH _ _ hB17 (fun plS => ?_); clear plH plK; refine pureY (i := 57) (N := (some 185)) ?_; refine pureY (i := 58) (N := (some 0)) ?_; refine done_ (by kernel_rfl) ?_)
 clear plS
 go_wp2_with fail
 go_ret
 exact ⟨rfl, below_then HB_17a.out hB17⟩
def forecourtlaw01_Works.f : Option Bool := some true
theorem forecourtlaw01_Works.calls (r : Bool) (w : World) (HRT : Aside0 (r = true)) (_h : forecourtlaw01_Works.f = some r) : Calls Try.prog 16 #[] w fun e w' => e = .returned (.bool r) ∧ Below w.heap.size w w' := by
 obtain rfl := HRT.out
 exact works_calls w
end Go.Proofs.Ytpkajhmchcbbhaa.P
end
section
namespace Go.Proofs.Ytpkajhmchcbbhaa.P
open Go.RowKit Go.Proofs.YtpkajhmchcbbhaaW.PrintWords Go.Proofs.YtpkajhmchcbbhaaW.PrintLast Go.Proofs.YtpkajhmchcbbhaaW.PrintMore
theorem Held.cons {F : List (Nat × Array Value × Nat)} {X : World} {b t : Nat} {cs : Array Value} (h1 : X.heap[b]? = some (.cells cs t (0, 0))) (h : Held F X) : Held ((b, cs, t) :: F) X := ⟨fun b' cs' t' hm => by
 rcases List.mem_cons.1 hm with hm | hm
 ·simp only [Prod.mk.injEq] at hm
  obtain ⟨rfl, rfl, rfl⟩ := hm
  exact h1
 exact h.get b' cs' t' hm⟩
theorem u8_of {x : Int} (h : (Lit.int .u8 x).wf = true) : 0 ≤ x ∧ x ≤ 255 := by
 unfold Lit.wf at h
 rw [Bool.and_eq_true, decide_eq_true_eq, decide_eq_true_eq] at h
 exact h
theorem u32_of {x : Int} (h : (Lit.int .u32 x).wf = true) : 0 ≤ x ∧ x ≤ 4294967295 := by
 unfold Lit.wf at h
 rw [Bool.and_eq_true, decide_eq_true_eq, decide_eq_true_eq] at h
 exact h
theorem u16_of {x : Int} (h : (Lit.int .u16 x).wf = true) : 0 ≤ x ∧ x ≤ 65535 := by
 unfold Lit.wf at h
 rw [Bool.and_eq_true, decide_eq_true_eq, decide_eq_true_eq] at h
 exact h
theorem tmod_nat {x : Int} {n : Nat} (hx : 0 ≤ x) (hn : 0 < n) : ∃ i : Nat, i < n ∧ Int.tmod x n = i := by
 have e := Int.tmod_eq_emod_of_nonneg (b := (n : Int)) hx
 have h0 := Int.emod_nonneg x (show (n : Int) ≠ 0 by omega)
 have h1 := Int.emod_lt_of_pos x (show (0 : Int) < n by omega)
 exact ⟨(x % n).toNat, by omega, by omega⟩
end Go.Proofs.Ytpkajhmchcbbhaa.P
end
