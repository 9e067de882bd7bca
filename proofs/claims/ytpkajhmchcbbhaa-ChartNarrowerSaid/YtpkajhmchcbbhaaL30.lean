/- Part 30 of 44. -/
import Derived.Test.YtpkajhmchcbbhaaL17
import Derived.Test.YtpkajhmchcbbhaaL18
import Derived.Test.YtpkajhmchcbbhaaL25
import Derived.Test.YtpkajhmchcbbhaaL28
set_option linter.unusedSimpArgs false
set_option linter.unusedVariables false
section
namespace Go.Proofs.Ytpkajhmchcbbhaa.P
open Go.RowKit Go.Proofs.YtpkajhmchcbbhaaW.PrintWords Go.Proofs.YtpkajhmchcbbhaaW.PrintLast Go.Proofs.YtpkajhmchcbbhaaW.PrintMore
theorem pad16_lows {l : List SRow} (h16 : l.length ≤ 16) : pad16 (lows l) = LowAt l l.length := by
 apply List.ext_getElem
 ·simp [pad16, lows, LowAt, padRow]; omega
 intro i h1 h2
 have hi : i < 16 := by simpa [LowAt, padRow] using h2
 by_cases h : i < l.length
 ·simp [pad16, lows, LowAt, padRow, List.getElem_append, h]
 simp [pad16, lows, LowAt, padRow, List.getElem_append, h]
theorem pad16_highs {l : List SRow} (h16 : l.length ≤ 16) : pad16 (highs l) = HighAt l l.length := by
 apply List.ext_getElem
 ·simp [pad16, highs, HighAt, padRow]; omega
 intro i h1 h2
 have hi : i < 16 := by simpa [HighAt, padRow] using h2
 by_cases h : i < l.length
 ·simp [pad16, highs, HighAt, padRow, List.getElem_append, h]
 simp [pad16, highs, HighAt, padRow, List.getElem_append, h]
theorem mostC_eq {l : List SRow} (h16 : l.length ≤ 16) (d0 d1 : Int) : mostC l d0 d1 = mostL (LowAt l l.length) (HighAt l l.length) (bwts l d0 d1) := by
 unfold mostC mostL firstPos
 rw [pad16_lows h16, pad16_highs h16]
theorem nearC_eq {l : List SRow} (h16 : l.length ≤ 16) (n : Int) : nearC l n = nearL (LowAt l l.length) (HighAt l l.length) l.length n := by
 apply List.ext_getElem
 ·simp [nearC, pad16, nearL, padRow]; omega
 intro i h1 h2
 have hi : i < 16 := by simpa [nearL, padRow] using h2
 by_cases h : i < l.length
 ·have e1 := LowAt_get l i h h16
  have e2 := HighAt_get l i h h16
  simp only [nearC, pad16, nearL, padRow, List.getElem_map, List.getElem_range, if_pos h, e1, e2]
  rw [List.getElem_append_left (by simpa using h)]
  simp
 simp only [nearC, pad16, nearL, padRow, List.getElem_map, List.getElem_range, if_neg h]
 rw [List.getElem_append_right (by simpa using h)]
 simp
theorem nearC_length {l : List SRow} (h16 : l.length ≤ 16) (n : Int) : (nearC l n).length = 16 := by rw [nearC_eq h16]; exact padRow_length _ _
theorem nearC_in {l : List SRow} {p : Int} (h : TankOk l p) (n : Int) (hn : 0 ≤ n ∧ n ≤ 100000) : ∀ x, x ∈ nearC l n → 0 ≤ x ∧ x ≤ 100000 := by
 intro x hx
 unfold nearC pad16 at hx
 rcases List.mem_append.1 hx with hx | hx
 ·simp only [List.mem_map, List.mem_range] at hx
  obtain ⟨i, hi, rfl⟩ := hx
  have h1 := h.lowN_in i hi
  have h2 := h.highN_in i hi
  unfold mx mn
  split <;> split <;> omega
 have := List.eq_of_mem_replicate hx
 omega
theorem mem_ins (n x : Int) (l : List Int) : x ∈ ins n l ↔ x = n ∨ x ∈ l := by
 induction l with
 | nil => simp [ins]
 | cons y l ih =>
  unfold ins
  split
  ·simp
  split
  ·rename_i h; subst h; simp
  simp only [List.mem_cons, ih]; constructor <;> (intro h; rcases h with h | h | h <;> simp [h])
theorem ins_rising (n : Int) (l : List Int) (h : l.Pairwise (· < ·)) : (ins n l).Pairwise (· < ·) := by
 induction l with
 | nil => simp [ins]
 | cons y l ih =>
  unfold ins
  have h1 := List.pairwise_cons.1 h
  split
  ·rename_i hlt
   refine List.pairwise_cons.2 ⟨fun z hz => ?_, h⟩
   rcases List.mem_cons.1 hz with rfl | hz
   ·exact hlt
   have := h1.1 z hz; omega
  split
  ·exact h
  refine List.pairwise_cons.2 ⟨fun z hz => ?_, ih h1.2⟩
  rcases (mem_ins n z l).1 hz with rfl | hz
  ·omega
  exact h1.1 z hz
theorem cands_rising (l : List SRow) (i : Nat) : (cands l i).Pairwise (· < ·) := by
 induction i with
 | zero => simp [cands]
 | succ i ih => exact ins_rising _ _ (ins_rising _ _ ih)
theorem ins_length (n : Int) (l : List Int) : (ins n l).length ≤ l.length + 1 := by
 induction l with
 | nil => simp [ins]
 | cons y l ih =>
  unfold ins
  split
  ·simp
  split
  ·simp
  simpa using ih
theorem cands_length (l : List SRow) (i : Nat) : (cands l i).length ≤ 2 * i := by
 induction i with
 | zero => simp [cands]
 | succ i ih =>
  have h1 := ins_length (highN l i) (ins (lowN l i) (cands l i))
  have h2 := ins_length (lowN l i) (cands l i)
  simp only [cands]
  omega
theorem mem_cands (l : List SRow) (i : Nat) (x : Int) : x ∈ cands l i ↔ ∃ j, j < i ∧ (x = lowN l j ∨ x = highN l j) := by
 induction i with
 | zero => simp [cands]
 | succ i ih =>
  simp only [cands, mem_ins, ih]
  constructor
  ·rintro (h | h | ⟨j, hj, h⟩)
   ·exact ⟨i, by omega, .inr h⟩
   ·exact ⟨i, by omega, .inl h⟩
   exact ⟨j, by omega, h⟩
  rintro ⟨j, hj, h⟩
  rcases Nat.lt_succ_iff_lt_or_eq.mp hj with h1 | rfl
  ·exact .inr (.inr ⟨j, h1, h⟩)
  rcases h with h | h
  ·exact .inr (.inl h)
  exact .inl h
theorem cands_in {l : List SRow} {p : Int} (h : TankOk l p) : ∀ x, x ∈ cands l l.length → 0 ≤ x ∧ x ≤ 100000 := by
 intro x hx
 obtain ⟨j, hj, h1⟩ := (mem_cands l _ x).1 hx
 have a := h.lowN_in j hj
 have b := h.highN_in j hj
 rcases h1 with rfl | rfl
 ·exact ⟨a.1, a.2.1⟩
 exact b
theorem rising_nodup {l : List Int} (h : l.Pairwise (· < ·)) : l.Nodup := h.imp (fun h => by omega)
theorem filter_head {x : Int} {r : List Int} (h : (x :: r).Pairwise (· < ·)) : (x :: r).filter (fun y => y != x) = r := by
 have h1 := List.pairwise_cons.1 h
 simp only [List.filter_cons, bne_self_eq_false, Bool.false_eq_true, if_false]
 rw [List.filter_eq_self]
 intro y hy
 have := h1.1 y hy
 simp; omega
end Go.Proofs.Ytpkajhmchcbbhaa.P
end
