/- Part 44 of 51. -/
import Derived.Test.YtpkajhmchcbbhaaD42
import Derived.Test.YtpkajhmchcbbhaaD30
import Derived.Test.YtpkajhmchcbbhaaD28
import Derived.Test.YtpkajhmchcbbhaaD43
import Derived.Test.YtpkajhmchcbbhaaD33
import Derived.Test.YtpkajhmchcbbhaaD29
import Derived.Test.YtpkajhmchcbbhaaD18
import Derived.Test.YtpkajhmchcbbhaaD12
import Derived.Test.YtpkajhmchcbbhaaD26
import Derived.Test.YtpkajhmchcbbhaaD17
set_option linter.unusedSimpArgs false
set_option linter.unusedVariables false
section
namespace Go.Proofs.Ytpkajhmchcbbhaa.P
open Go.RowKit Go.Proofs.YtpkajhmchcbbhaaW.PrintWords Go.Proofs.YtpkajhmchcbbhaaW.PrintLast Go.Proofs.YtpkajhmchcbbhaaW.PrintMore
def gcdN : Nat → Int → Int → Int
 | 0, a, _ => a
 | n + 1, a, b => if b = 0 then a else gcdN n b (a.tmod b)
theorem gcdT_fuel : ∀ (n : Nat) (a b : Int), b.natAbs < n → gcdT a b = gcdN n a b := by
 intro n
 induction n with
 | zero => intro a b h; omega
 | succ n ih =>
  intro a b h
  by_cases hb : b = 0
  ·subst hb; rw [gcdT_zero]; rfl
  rw [gcdT_step a b hb, gcdN, if_neg hb]
  refine ih _ _ ?_
  have h1 := Int.natAbs_tmod a b
  have h2 : a.natAbs % b.natAbs < b.natAbs := Nat.mod_lt _ (by omega)
  omega
theorem leastN_fuel (num den : Int) : leastN num den = num.tdiv (gcdN (den.natAbs + 1) num den) := by unfold leastN; rw [gcdT_fuel _ _ _ (Nat.lt_succ_self _)]
theorem leastD_fuel (num den : Int) : leastD num den = den.tdiv (gcdN (den.natAbs + 1) num den) := by unfold leastD; rw [gcdT_fuel _ _ _ (Nat.lt_succ_self _)]
def halveN : Nat → (Int → Bool) → Int → Int → Int
 | 0, _, lo, _ => lo
 | n + 1, good, lo, hi => if lo ≤ hi then if good (lo + (hi - lo) / 2) then halveN n good lo (lo + (hi - lo) / 2 - 1) else halveN n good (lo + (hi - lo) / 2 + 1) hi else lo
theorem halve_fuel (good : Int → Bool) : ∀ (n : Nat) (lo hi : Int), (hi + 1 - lo).toNat < n → halveF good lo hi = halveN n good lo hi := by
 intro n
 induction n with
 | zero => intro lo hi h; omega
 | succ n ih =>
  intro lo hi h
  rw [halveF, halveN]
  by_cases hlh : lo ≤ hi
  ·rw [dif_pos hlh, if_pos hlh]
   split
   ·exact ih _ _ (by omega)
   exact ih _ _ (by omega)
  rw [dif_neg hlh, if_neg hlh]
theorem halveF_fuel (good : Int → Bool) (lo hi : Int) : halveF good lo hi = halveN ((hi + 1 - lo).toNat + 1) good lo hi := halve_fuel good _ lo hi (Nat.lt_succ_self _)
def exT : List SRow := [⟨0, ⟨0, 0⟩⟩, ⟨100, ⟨380, 420⟩⟩, ⟨200, ⟨400, 900⟩⟩, ⟨400, ⟨1900, 2100⟩⟩]
def exD : List SRow := [⟨0, ⟨0, 0⟩⟩, ⟨100, ⟨950, 1000⟩⟩, ⟨200, ⟨400, 900⟩⟩, ⟨400, ⟨1900, 2100⟩⟩]
def exR : List SRange := [⟨0, 0⟩, ⟨380, 420⟩, ⟨400, 900⟩, ⟨1900, 2100⟩]
def exX : List Int := [0, 400, 400, 1900]
theorem ex_tank : forecourtlaw01_Tank.f = some (exT, 0) := by kernel_rfl
theorem ex_dented : forecourtlaw01_dented.f = some (exD, 0) := by kernel_rfl
theorem ex_probed : forecourtlaw01_probed.f = some (exT, 10) := by kernel_rfl
theorem ex_tight : chart_Tight.f exT 0 = some (exR, 0) := by kernel_rfl
theorem ex_tightD : chart_Tight.f exD 0 = some ([], 21) := by kernel_rfl
theorem ex_clash : chart_Clash.f exD 0 = some (1, 2, 0) := by kernel_rfl
theorem ex_below : chart_Below.f exT 0 [0, 400, 800, 2000] 150 = some (600, 1, 0) := by
 unfold chart_Below.f; simp only [leastN_fuel, leastD_fuel]; kernel_rfl
theorem ex_metered : chart_Metered.f exT 0 1 3 = some (1480, 1720, 0) := by kernel_rfl
theorem ex_net : chart_Net.f exT 0 50 300 = some (950, 1, 1310, 1, 0) := by
 unfold chart_Net.f; simp only [leastN_fuel, leastD_fuel]; kernel_rfl
theorem ex_netP : chart_Net.f exT 10 100 100 = some (0, 1, 90, 1, 0) := by
 unfold chart_Net.f; simp only [leastN_fuel, leastD_fuel]; kernel_rfl
theorem ex_dips : chart_Dips.f exT 0 500 = some (117, 213, 0) := by
 unfold chart_Dips.f dipsFrom dipsTo; simp only [halveF_fuel]; kernel_rfl
theorem ex_dipsN : chart_Dips.f exT 0 2200 = some (0, 0, 17) := by
 unfold chart_Dips.f dipsFrom dipsTo; simp only [halveF_fuel]; kernel_rfl
theorem ex_common : common5.f 1000 10 10 0 100 = some (1000000, 1001, 1000, 1, 0) := by
 unfold common5.f; simp only [leastN_fuel, leastD_fuel]; kernel_rfl
theorem ex_end : chart_End.f exT 0 50 300 false = some (exX, 50, 300, 0) := by kernel_rfl
theorem ex_ranges : forecourtlaw01_ranges.f 10 exR [⟨0, 0⟩, ⟨380, 420⟩, ⟨400, 900⟩, ⟨1900, 2100⟩] = some true := by kernel_rfl
theorem ex_reached : forecourtlaw01_reached.f 30 exT 0 50 300 exX 50 300 950 1 = some true := by kernel_rfl
theorem C_exR {w : World} {g : Nat} (h : w.heap[g]? = some (.cells #[.int .i64 0, .int .i64 0, .int .i64 380, .int .i64 420, .int .i64 400, .int .i64 900, .int .i64 1900, .int .i64 2100] 43 (0, 0))) : Kd.C k43 w (some ⟨g, 0, none⟩) exR.length exR := by
 have hadd : ∀ n, (⟨g, 0, none⟩ : Addr).add n = ⟨g, n, none⟩ := fun n => by unfold Addr.add; split <;> simp_all
 refine ⟨rfl, by decide, fun _ => ⟨_, rfl, fun j x hj => ?_⟩⟩
 have hj4 : j < 4 := (List.getElem?_eq_some_iff.1 hj).1
 refine ⟨[.int .i64 x.f0, .int .i64 x.f1], rfl, k43_mk w x, fun i u hu => ?_⟩
 have hi2 : i < 2 := (List.getElem?_eq_some_iff.1 hu).1
 rw [hadd, blk_cell h]
 rcases (by omega : j = 0 ∨ j = 1 ∨ j = 2 ∨ j = 3) with rfl | rfl | rfl | rfl <;> rcases (by omega : i = 0 ∨ i = 1) with rfl | rfl <;> cases hj <;> cases hu <;> rfl
end Go.Proofs.Ytpkajhmchcbbhaa.P
end
