/- Part 16 of 42. -/
import Derived.Test.YtpkajhmchcbbhaaA6
import Derived.Deep.Slices
import Derived.Lib.SmallJoins
import Derived.ProofKit
import Derived.OpenShut
set_option linter.unusedSimpArgs false
set_option linter.unusedVariables false
section
namespace Go.Proofs.Ytpkajhmchcbbhaa.P
open Go.RowKit Go.Proofs.YtpkajhmchcbbhaaW.PrintWords Go.Proofs.YtpkajhmchcbbhaaW.PrintLast Go.Proofs.YtpkajhmchcbbhaaW.PrintMore Go.ChangeShapes Go.WideShapes Go.ChangeAt
set_option maxRecDepth 100000
section
variable {H : Type} {enc : TypeId × Value → H} {P : Program} {w : World} {base : Nat} {spare : Nat → Bool} {held : Bool} {t e : TypeId} {k : IntKind} {r : Reach} {b0 : Nat} {v : Value} {d : DataW H} {p : List MemPlace}
theorem okWide_arrG {n : Nat} (ht : P.underlying t = some (.array n e)) (h : Value.okWide P w r b0 t v) : ∃ cs, v = .agg cs ∧ cs.size = P.cellsOf t := by
 simp only [Value.okWide, ht] at h
 obtain ⟨cs, h1, h2, _⟩ := h
 exact ⟨cs, h1, h2⟩
theorem open_arrG {n : Nat} (ht : P.underlying t = some (.array n e)) (he : P.underlying e = some (.int k)) (c1 : P.cellsOf e = 1) (cn : P.cellsOf t = n) (hv : Value.okWide P w r b0 t v) (h : DataW.Trod enc P w base spare held t v d p) :
  ∃ xs : List Int, v = .agg ((xs.map (Value.int k)).toArray) ∧ xs.length = n ∧ ∀ x, x ∈ xs → (Lit.int k x).wf = true := by
 obtain ⟨cs, rfl, hsz⟩ := okWide_arrG ht hv
 obtain ⟨fuel, hf⟩ := h
 obtain ⟨ys, m, _, _, hl, hyl, hx⟩ := DataW.trod_array ht hf
 rw [cn] at hl hsz
 have hcl : (Value.agg cs).cells.toList = cs.toList := rfl
 rw [hcl] at hx
 have each : ∀ i, i < n → ∃ x : Int, cs.toList[i]? = some (.int k x) ∧ (Lit.int k x).wf = true := by
  intro i hi
  have h1 := hx i hi
  rw [c1, Nat.mul_one, List.getElem?_eq_getElem (by omega)] at h1
  obtain ⟨x, e1, _, hw⟩ := DataW.trod_int he h1
  refine ⟨x, ?_, hw⟩
  have h2 : ((cs.toList.drop i).take 1)[0]? = some (Value.int k x) := by rw [e1]; rfl
  rw [List.getElem?_take, if_pos (by omega), List.getElem?_drop, Nat.add_zero] at h2
  exact h2
 obtain ⟨f, hf2⟩ := Deep.choose_lt each
 refine ⟨(List.range n).map f, ?_, by simp, fun x hx2 => ?_⟩
 ·have : cs.toList = ((List.range n).map f).map (Value.int k) := by
   apply List.ext_getElem?
   intro i
   by_cases hi : i < n
   ·rw [(hf2 i hi).1, List.getElem?_map, List.getElem?_map, List.getElem?_range hi]; rfl
   rw [List.getElem?_eq_none (by rw [Array.length_toList]; omega), List.getElem?_eq_none (by simp; omega)]
  rw [← this, Array.toArray_toList]
 obtain ⟨j, hj, rfl⟩ := List.mem_map.1 hx2
 exact (hf2 j (List.mem_range.1 hj)).2
theorem open_arr2 (ht : P.underlying t = some (.array 2 e)) (he : P.underlying e = some (.int k)) (c1 : P.cellsOf e = 1) (cn : P.cellsOf t = 2) (hv : Value.okWide P w r b0 t v) (h : DataW.Trod enc P w base spare held t v d p) :
  ∃ x y, v = .agg #[.int k x, .int k y] ∧ (Lit.int k x).wf = true ∧ (Lit.int k y).wf = true := by
 obtain ⟨xs, rfl, hl, hw⟩ := open_arrG ht he c1 cn hv h
 match xs, hl with
 | [x, y], _ => exact ⟨x, y, rfl, hw x (by simp), hw y (by simp)⟩
theorem open_arr4 (ht : P.underlying t = some (.array 4 e)) (he : P.underlying e = some (.int k)) (c1 : P.cellsOf e = 1) (cn : P.cellsOf t = 4) (hv : Value.okWide P w r b0 t v) (h : DataW.Trod enc P w base spare held t v d p) :
  ∃ x y z u, v = .agg #[.int k x, .int k y, .int k z, .int k u] ∧ (Lit.int k x).wf = true ∧ (Lit.int k y).wf = true ∧ (Lit.int k z).wf = true ∧ (Lit.int k u).wf = true := by
 obtain ⟨xs, rfl, hl, hw⟩ := open_arrG ht he c1 cn hv h
 match xs, hl with
 | [x, y, z, u], _ => exact ⟨x, y, z, u, rfl, hw x (by simp), hw y (by simp), hw z (by simp), hw u (by simp)⟩
end
end Go.Proofs.Ytpkajhmchcbbhaa.P
end
