/- Part 15 of 44. -/
import Derived.Test.YtpkajhmchcbbhaaL5
import Derived.Deep.Slices
import Derived.Lib.SmallJoins
import Derived.ProofKit
import Derived.OpenShut
set_option linter.unusedSimpArgs false
set_option linter.unusedVariables false
section
namespace Go.Proofs.Ytpkajhmchcbbhaa.P
open Go.RowKit Go.Proofs.YtpkajhmchcbbhaaW.PrintWords Go.Proofs.YtpkajhmchcbbhaaW.PrintLast Go.Proofs.YtpkajhmchcbbhaaW.PrintMore Go.ChangeShapes Go.WideShapes Go.ChangeAt
set_option maxRecDepth 100000
def I64 (n : Int) : Prop := -9223372036854775808 ≤ n ∧ n ≤ 9223372036854775807
theorem I64.of {n : Int} (h : (Lit.int .i64 n).wf = true) : I64 n := by
 simp only [Lit.wf, IntKind.min, IntKind.max, IntKind.signed, IntKind.bits, Bool.and_eq_true, decide_eq_true_eq, if_true] at h
 unfold I64
 omega
def Row64 (r : SRow) : Prop := I64 r.f0 ∧ I64 r.f1.f0 ∧ I64 r.f1.f1
section
variable {H : Type} {enc : TypeId × Value → H} {w : World} {base : Nat} {spare : Nat → Bool} {held : Bool} {fuel : Nat} {cs : List Value} {x : DataW H × List MemPlace}
theorem open_range (h : DataW.trod enc Try.prog w base spare held fuel 43 cs = some x) : ∃ a b, cs = [.int .i64 a, .int .i64 b] ∧ I64 a ∧ I64 b := by
 obtain ⟨xs, n, _, _, hlen, hxl, hf⟩ := DataW.trod_struct Try.underlying43 h
 have hc : Try.prog.cellsOf 43 = 2 := by kernel_rfl
 have h1 : Try.prog.cellsOf 2 = 1 := by kernel_rfl
 rw [hc] at hlen
 match cs, hlen, xs, hxl with
 | [v0, v1], _, [y0, y1], _ =>
  have g0 : DataW.trod enc Try.prog w base spare held n 2 (List.take (Try.prog.cellsOf 2) [v0, v1]) = some y0 := hf 0 _ rfl
  have g1 : DataW.trod enc Try.prog w base spare held n 2 (List.take (Try.prog.cellsOf 2) [v1]) = some y1 := hf 1 _ rfl
  rw [h1] at g0 g1
  obtain ⟨a, ha, _, hwa⟩ := DataW.trod_int Try.underlying2 (show DataW.trod enc Try.prog w base spare held n 2 [v0] = some y0 from g0)
  obtain ⟨b, hb, _, hwb⟩ := DataW.trod_int Try.underlying2 (show DataW.trod enc Try.prog w base spare held n 2 [v1] = some y1 from g1)
  cases ha
  cases hb
  exact ⟨a, b, rfl, .of hwa, .of hwb⟩
theorem open_row1 (h : DataW.trod enc Try.prog w base spare held fuel 70 cs = some x) : ∃ r : SRow, cs = [.int .i64 r.f0, .int .i64 r.f1.f0, .int .i64 r.f1.f1] ∧ Row64 r := by
 obtain ⟨xs, n, _, _, hlen, hxl, hf⟩ := DataW.trod_struct Try.underlying70 h
 have hc : Try.prog.cellsOf 70 = 3 := by kernel_rfl
 have h1 : Try.prog.cellsOf 2 = 1 := by kernel_rfl
 have h2 : Try.prog.cellsOf 43 = 2 := by kernel_rfl
 rw [hc] at hlen
 match cs, hlen, xs, hxl with
 | [v0, v1, v2], _, [y0, y1], _ =>
  have g0 : DataW.trod enc Try.prog w base spare held n 2 (List.take (Try.prog.cellsOf 2) [v0, v1, v2]) = some y0 := hf 0 _ rfl
  have g1 : DataW.trod enc Try.prog w base spare held n 43 (List.take (Try.prog.cellsOf 43) [v1, v2]) = some y1 := hf 1 _ rfl
  rw [h1] at g0
  rw [h2] at g1
  obtain ⟨a, ha, _, hwa⟩ := DataW.trod_int Try.underlying2 (show DataW.trod enc Try.prog w base spare held n 2 [v0] = some y0 from g0)
  obtain ⟨b, c, hbc, hwb, hwc⟩ := open_range (show DataW.trod enc Try.prog w base spare held n 43 [v1, v2] = some y1 from g1)
  cases ha
  cases hbc
  exact ⟨⟨a, ⟨b, c⟩⟩, rfl, .of hwa, hwb, hwc⟩
theorem open_rows (h : DataW.trod enc Try.prog w base spare held fuel 22 cs = some x) :
  ∃ (A : Option Addr) (c : Nat) (l : List SRow), cs = [.slice A l.length c] ∧ Kd.C kRow w A l.length l ∧ l.length ≤ c ∧ ∀ r, r ∈ l → Row64 r := by
 rcases Deep.open_slice Try.underlying22 h with ⟨rfl, _⟩ | ⟨a, len, cap, m, n, D, Pl, rfl, _, hl, hm, hmm, _, hx⟩
 ·exact ⟨none, 0, [], rfl, ⟨rfl, by decide, fun h => absurd h (Nat.lt_irrefl _)⟩, Nat.le_refl _, fun r hr => by cases hr⟩
 have hlm : len ≤ m := by rw [hmm]; split <;> omega
 have hcz : Try.prog.cellsOf 70 = 3 := by kernel_rfl
 have each : ∀ i, i < len → ∃ r : SRow, (w.cell? (a.add (i * 3)) = some (.int .i64 r.f0) ∧ w.cell? (a.add (i * 3 + 1)) = some (.int .i64 r.f1.f0) ∧ w.cell? (a.add (i * 3 + 2)) = some (.int .i64 r.f1.f1)) ∧ Row64 r := by
  intro i hi
  obtain ⟨cs', h1, h2⟩ := hx i (by omega)
  rw [hcz] at h1
  obtain ⟨_, hlen, hcell⟩ := World.cells?_some h1
  obtain ⟨r, rfl, hr⟩ := open_row1 h2
  refine ⟨r, ⟨?_, ?_, ?_⟩, hr⟩
  ·have := hcell 0 (by omega)
   rw [Deep.add_add] at this
   simpa using this
  ·have := hcell 1 (by omega)
   rw [Deep.add_add] at this
   simpa using this
  have := hcell 2 (by omega)
  rw [Deep.add_add] at this
  simpa using this
 haveI : Inhabited SRow := ⟨zRow⟩
 obtain ⟨f, hf⟩ := Deep.choose_lt each
 have hlen : ((List.range len).map f).length = len := by simp
 refine ⟨some a, cap, (List.range len).map f, by rw [hlen], ?_, by rw [hlen]; exact hl, ?_⟩
 ·rw [hlen]
  refine ⟨hlen, by unfold maxLen at hm; omega, fun _ => ⟨a, rfl, fun j p hj => ?_⟩⟩
  have hj2 : j < len := by
   have := (List.getElem?_eq_some_iff.1 hj).1
   omega
  have hp : f j = p := by
   rw [List.getElem?_map, List.getElem?_range hj2] at hj
   exact Option.some.inj hj
  subst hp
  obtain ⟨⟨c0, c1, c2⟩, _⟩ := hf j hj2
  refine ⟨_, rfl, k70_mk w (f j), fun i u hu => ?_⟩
  have hi3 : i < 3 := (List.getElem?_eq_some_iff.1 hu).1
  rcases (by omega : i = 0 ∨ i = 1 ∨ i = 2) with rfl | rfl | rfl <;> cases hu
  ·exact c0
  ·exact c1
  exact c2
 intro r hr
 obtain ⟨j, hj, rfl⟩ := List.mem_map.1 hr
 exact (hf j (List.mem_range.1 hj)).2
theorem open_tank {r : Reach} {b0 : Nat} {v : Value} {d : DataW H} {p : List MemPlace} (hv : Value.okWide Try.prog w r b0 24 v) (h : DataW.Trod enc Try.prog w base spare held 24 v d p) :
  ∃ (A : Option Addr) (c : Nat) (l : List SRow) (q : Int), v = .agg #[.slice A l.length c, .int .i64 q] ∧ Kd.C kRow w A l.length l ∧ l.length ≤ c ∧ (∀ r, r ∈ l → Row64 r) ∧ I64 q := by
 obtain ⟨v0, v1, y0, y1, n, rfl, _, _, h0, h1⟩ := Joins.open_agg2 Try.underlying24 (by kernel_rfl) (by kernel_rfl) hv h
 obtain ⟨A, c, l, e0, hC, hc, hr⟩ := open_rows h0
 obtain ⟨q, e1, _, hq⟩ := DataW.trod_int Try.underlying2 h1
 cases e0
 cases e1
 exact ⟨A, c, l, q, rfl, hC, hc, hr, .of hq⟩
end
end Go.Proofs.Ytpkajhmchcbbhaa.P
end
section
namespace Go.Proofs.Ytpkajhmchcbbhaa.P
open Go.RowKit Go.Proofs.YtpkajhmchcbbhaaW.PrintWords Go.Proofs.YtpkajhmchcbbhaaW.PrintLast Go.Proofs.YtpkajhmchcbbhaaW.PrintMore Go.ChangeShapes Go.WideShapes Go.ChangeAt
set_option maxRecDepth 100000
section
variable {H : Type} {enc : TypeId × Value → H} {P : Program} {w : World} {base : Nat} {spare : Nat → Bool} {held : Bool} {t e : TypeId} {k : IntKind} {r : Reach} {b0 : Nat} {v : Value} {d : DataW H} {p : List MemPlace}
theorem okWide_arrG {n : Nat} (ht : P.underlying t = some (.array n e)) (h : Value.okWide P w r b0 t v) : ∃ cs, v = .agg cs ∧ cs.size = P.cellsOf t := by
 simp only [Value.okWide, ht] at h
 obtain ⟨cs, h1, h2, _⟩ := h
 exact ⟨cs, h1, h2⟩
theorem open_arrG {n : Nat} (ht : P.underlying t = some (.array n e)) (he : P.underlying e = some (.int k)) (c1 : P.cellsOf e = 1) (cn : P.cellsOf t = n) (hv : Value.okWide P w r b0 t v) (h : DataW.Trod enc P w base spare held t v d p) :
  ∃ xs : List Int, v = .agg ((xs.map (Value.int k)).toArray) ∧ xs.length = n ∧ ∀ x, x ∈ xs → (Lit.int k x).wf = true := by
 obtain ⟨cs, rfl, hsz⟩ := okWide_arrG ht hv
 obtain ⟨fuel, hf⟩ := h
 obtain ⟨ys, m, _, _, hl, hyl, hx⟩ := DataW.trod_array ht hf
 rw [cn] at hl hsz
 have hcl : (Value.agg cs).cells.toList = cs.toList := rfl
 rw [hcl] at hx
 have each : ∀ i, i < n → ∃ x : Int, cs.toList[i]? = some (.int k x) ∧ (Lit.int k x).wf = true := by
  intro i hi
  have h1 := hx i hi
  rw [c1, Nat.mul_one, List.getElem?_eq_getElem (by omega)] at h1
  obtain ⟨x, e1, _, hw⟩ := DataW.trod_int he h1
  refine ⟨x, ?_, hw⟩
  have h2 : ((cs.toList.drop i).take 1)[0]? = some (Value.int k x) := by rw [e1]; rfl
  rw [List.getElem?_take, if_pos (by omega), List.getElem?_drop, Nat.add_zero] at h2
  exact h2
 obtain ⟨f, hf2⟩ := Deep.choose_lt each
 refine ⟨(List.range n).map f, ?_, by simp, fun x hx2 => ?_⟩
 ·have : cs.toList = ((List.range n).map f).map (Value.int k) := by
   apply List.ext_getElem?
   intro i
   by_cases hi : i < n
   ·rw [(hf2 i hi).1, List.getElem?_map, List.getElem?_map, List.getElem?_range hi]; rfl
   rw [List.getElem?_eq_none (by rw [Array.length_toList]; omega), List.getElem?_eq_none (by simp; omega)]
  rw [← this, Array.toArray_toList]
 obtain ⟨j, hj, rfl⟩ := List.mem_map.1 hx2
 exact (hf2 j (List.mem_range.1 hj)).2
theorem open_arr2 (ht : P.underlying t = some (.array 2 e)) (he : P.underlying e = some (.int k)) (c1 : P.cellsOf e = 1) (cn : P.cellsOf t = 2) (hv : Value.okWide P w r b0 t v) (h : DataW.Trod enc P w base spare held t v d p) :
  ∃ x y, v = .agg #[.int k x, .int k y] ∧ (Lit.int k x).wf = true ∧ (Lit.int k y).wf = true := by
 obtain ⟨xs, rfl, hl, hw⟩ := open_arrG ht he c1 cn hv h
 match xs, hl with
 | [x, y], _ => exact ⟨x, y, rfl, hw x (by simp), hw y (by simp)⟩
end
end Go.Proofs.Ytpkajhmchcbbhaa.P
end
