/- Part 32 of 44. -/
import Derived.Test.YtpkajhmchcbbhaaL31
import Derived.Test.YtpkajhmchcbbhaaL26
set_option linter.unusedSimpArgs false
set_option linter.unusedVariables false
section
namespace Go.Proofs.Ytpkajhmchcbbhaa.P
open Go.RowKit Go.Proofs.YtpkajhmchcbbhaaW.PrintWords Go.Proofs.YtpkajhmchcbbhaaW.PrintLast Go.Proofs.YtpkajhmchcbbhaaW.PrintMore
def wv (l : List SRow) (d : Int) (c : Nat → Int) : Int := sumN l.length fun i => (wts l d).getD i 0 * c i
theorem wv_mono {l : List SRow} {p : Int} (hT : TankOk l p) {d0 d1 : Int} (h0 : firstD l ≤ d0) (h01 : d0 ≤ d1) (h1 : d1 ≤ lastD l) {c : Nat → Int} (hc : Up l.length c) : wv l d0 c * wden l d1 ≤ wv l d1 c * wden l d0 := by
 have h16 := hT.n16
 obtain ⟨s, hS, _⟩ := bw_signs hT h0 h01 h1
 have h := wsum_nonneg hS hc
 unfold wsum at h
 rw [sumN_congr (g := fun x => wden l d0 * ((wts l d1).getD x 0 * c x) + (-wden l d1) * ((wts l d0).getD x 0 * c x)) (fun x hx => by
  unfold bwF
  rw [bw_at l _ _ x (by omega)]
  exact ring_a _ _ _ _ _), sumN_add, sumN_mul, sumN_mul, Int.neg_mul] at h
 unfold wv
 rw [Int.mul_comm _ (wden l d1), Int.mul_comm _ (wden l d0)]
 omega
theorem wv_le {l : List SRow} {p : Int} (hT : TankOk l p) {d : Int} (h0 : firstD l ≤ d) (h1 : d ≤ lastD l) {c e : Nat → Int} (h : ∀ i, i < l.length → c i ≤ e i) : wv l d c ≤ wv l d e := by
 have h16 := hT.n16
 obtain ⟨a1, a2⟩ := pos_in hT d h0 h1
 refine sumN_le fun i hi => Int.mul_le_mul_of_nonneg_left (h i hi) ?_
 rw [wts_get hT.dipOk d i (by omega)]
 (repeat' split) <;> omega
section
variable {l : List SRow} {p : Int}
theorem Chart.getIn {c : List Int} (h : Chart l c) (hT : TankOk l p) (i : Nat) (hi : i < l.length) : 0 ≤ c.getD i 0 ∧ c.getD i 0 ≤ 100000 := by
 have hl := h.len
 refine h.mem hT _ ?_
 rw [List.getD_eq_getElem?_getD, List.getElem?_eq_getElem (by omega)]
 exact List.getElem_mem _
end
end Go.Proofs.Ytpkajhmchcbbhaa.P
end
