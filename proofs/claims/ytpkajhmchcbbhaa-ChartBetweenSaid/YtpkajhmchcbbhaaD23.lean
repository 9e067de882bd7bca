/- Part 23 of 51. -/
import Derived.Test.YtpkajhmchcbbhaaD22
set_option linter.unusedSimpArgs false
set_option linter.unusedVariables false
section
namespace Go.Proofs.Ytpkajhmchcbbhaa.P
open Go.RowKit Go.Proofs.YtpkajhmchcbbhaaW.PrintWords Go.Proofs.YtpkajhmchcbbhaaW.PrintLast Go.Proofs.YtpkajhmchcbbhaaW.PrintMore
theorem padRow_congr {f g : Nat → Int} {n : Nat} (h : ∀ i, i < n → f i = g i) : padRow f n = padRow g n := by
 unfold padRow
 apply List.map_congr_left
 intro i _
 by_cases hi : i < n
 ·simp [hi, h i hi]
 simp [hi]
theorem padRow_put (f : Nat → Int) (n k : Nat) (v : Int) (hk : k < n) (_hn : n ≤ 16) : (padRow f n).set k v = padRow (fun i => if i = k then v else f i) n := by
 apply List.ext_getElem
 ·simp [padRow]
 intro i h1 h2
 simp only [List.getElem_set, padRow, List.getElem_map, List.getElem_range]
 by_cases e : k = i
 ·subst e; simp [hk]
 rw [if_neg e]
 by_cases hi : i < n
 ·rw [if_pos hi, if_pos hi, if_neg (fun h => e h.symm)]
 rw [if_neg hi, if_neg hi]
theorem padRow_in (f : Nat → Int) (n i : Nat) (hi : i < n) (h16 : n ≤ 16) : (padRow f n).getD i 0 = f i := by rw [padRow_get _ _ _ (by omega), if_pos hi]
def stepL (lo : List Int) (i : Nat) : List Int := if 0 < i then lo.set i (mx (lo.getD i 0) (lo.getD (i - 1) 0)) else lo
def stepH (n : Nat) (hi : List Int) (i : Nat) : List Int := if i + 1 < n then hi.set i (mn (hi.getD i 0) (hi.getD (i + 1) 0)) else hi
def foldL {N : Nat} (pre : List (Fin N)) (lo : List Int) : List Int := pre.foldl (fun a x => stepL a x.val) lo
def foldH {N : Nat} (pre : List (Fin N)) (hi : List Int) : List Int := pre.foldl (fun a x => stepH N a x.val) hi
theorem foldL_snoc {N : Nat} (pre : List (Fin N)) (x : Fin N) (lo : List Int) : foldL (pre ++ [x]) lo = stepL (foldL pre lo) x.val := by simp [foldL]
theorem foldH_snoc {N : Nat} (pre : List (Fin N)) (x : Fin N) (hi : List Int) : foldH (pre ++ [x]) hi = stepH N (foldH pre hi) x.val := by simp [foldH]
def LowAt (l : List SRow) (k : Nat) : List Int := padRow (fun i => if i < k then lowN l i else loR l i) l.length
def HighAt (l : List SRow) (k : Nat) : List Int := padRow (fun i => if l.length ≤ i + k then highN l i else hiR l i) l.length
theorem LowAt_zero (l : List SRow) : LowAt l 0 = padRow (loR l) l.length := padRow_congr fun i _ => by simp
theorem HighAt_zero (l : List SRow) : HighAt l 0 = padRow (hiR l) l.length := padRow_congr fun i hi => by rw [if_neg (by omega)]
theorem lowN_succ (l : List SRow) (i : Nat) : lowN l (i + 1) = mx (loR l (i + 1)) (lowN l i) := rfl
theorem highN_last (l : List SRow) : highN l (l.length - 1) = hiR l (l.length - 1) := by simp [highN, highR]
theorem highN_succ (l : List SRow) (i : Nat) (hi : i + 1 < l.length) : highN l i = mn (hiR l i) (highN l (i + 1)) := by
 unfold highN
 obtain ⟨j, hj⟩ : ∃ j, l.length - 1 - i = j + 1 := ⟨l.length - 1 - i - 1, by omega⟩
 rw [hj, show l.length - 1 - (i + 1) = j from by omega]
 simp only [highR]
 rw [show l.length - 1 - (j + 1) = i from by omega]
theorem mx_right {a b : Int} : b ≤ mx a b := by unfold mx; split <;> omega
theorem mx_eq {a b : Int} (h : b ≤ a) : mx a b = a := by unfold mx; split <;> omega
theorem mn_right {a b : Int} : mn a b ≤ b := by unfold mn; split <;> omega
theorem mn_eq {a b : Int} (h : a ≤ b) : mn a b = a := by unfold mn; split <;> omega
theorem stepL_at (l : List SRow) (k : Nat) (hk : k < l.length) (h16 : l.length ≤ 16) : stepL (LowAt l k) k = LowAt l (k + 1) := by
 unfold stepL
 cases k with
 | zero =>
  simp only [Nat.lt_irrefl, if_false]
  refine padRow_congr fun i hi => ?_
  by_cases h : i = 0
  ·subst h; simp [lowN]
  rw [if_neg (by omega), if_neg (by omega)]
 | succ k =>
  rw [if_pos (by omega)]
  simp only [LowAt, Nat.add_sub_cancel]
  rw [padRow_in _ _ _ hk h16, padRow_in _ _ k (by omega) h16, padRow_put _ _ _ _ hk h16]
  simp only [Nat.lt_irrefl, if_false, Nat.lt_succ_self, if_true]
  refine padRow_congr fun i hi => ?_
  by_cases h : i = k + 1
  ·subst h; rw [if_pos rfl, if_pos (by omega), lowN_succ]
  rw [if_neg h]
  by_cases h2 : i < k + 1
  ·rw [if_pos h2, if_pos (by omega)]
  rw [if_neg h2, if_neg (by omega)]
theorem stepL_end (l : List SRow) (k : Nat) (hk : k < l.length) (h16 : l.length ≤ 16) : stepL (LowAt l l.length) k = LowAt l l.length := by
 unfold stepL
 cases k with
 | zero => simp
 | succ k =>
  rw [if_pos (by omega)]
  simp only [LowAt, Nat.add_sub_cancel]
  rw [padRow_in _ _ _ hk h16, padRow_in _ _ k (by omega) h16, padRow_put _ _ _ _ hk h16]
  have hk' : k < l.length := by omega
  simp only [hk, hk', if_true]
  refine padRow_congr fun i hi => ?_
  by_cases h : i = k + 1
  ·subst h; rw [if_pos rfl, if_pos hk, mx_eq (by rw [lowN_succ]; exact mx_right)]
  rw [if_neg h]
theorem stepH_at (l : List SRow) (k : Nat) (hk : k < l.length) (h16 : l.length ≤ 16) : stepH l.length (HighAt l k) (l.length - 1 - k) = HighAt l (k + 1) := by
 unfold stepH
 cases k with
 | zero =>
  rw [if_neg (by omega)]
  refine padRow_congr fun i hi => ?_
  rw [if_neg (by omega)]
  by_cases h : i = l.length - 1
  ·rw [if_pos (by omega), h, highN_last]
  rw [if_neg (by omega)]
 | succ k =>
  rw [if_pos (by omega)]
  simp only [HighAt]
  rw [padRow_in _ _ _ (by omega) h16, padRow_in _ _ (l.length - 1 - (k + 1) + 1) (by omega) h16, padRow_put _ _ _ _ (by omega) h16]
  have e1 : ¬ l.length ≤ l.length - 1 - (k + 1) + (k + 1) := by omega
  have e2 : l.length ≤ l.length - 1 - (k + 1) + 1 + (k + 1) := by omega
  simp only [e1, e2, if_false, if_true]
  refine padRow_congr fun i hi => ?_
  by_cases h : i = l.length - 1 - (k + 1)
  ·rw [if_pos h, if_pos (by omega), highN_succ l i (by omega), h]
  rw [if_neg h]
  by_cases h2 : l.length ≤ i + (k + 1)
  ·rw [if_pos h2, if_pos (by omega)]
  rw [if_neg h2, if_neg (by omega)]
theorem stepH_end (l : List SRow) (k : Nat) (hk : k < l.length) (h16 : l.length ≤ 16) : stepH l.length (HighAt l l.length) k = HighAt l l.length := by
 unfold stepH
 by_cases h1 : k + 1 < l.length
 ·rw [if_pos h1]
  simp only [HighAt]
  rw [padRow_in _ _ _ hk h16, padRow_in _ _ (k + 1) h1 h16, padRow_put _ _ _ _ hk h16]
  have e1 : l.length ≤ k + l.length := by omega
  have e2 : l.length ≤ k + 1 + l.length := by omega
  simp only [e1, e2, if_true]
  refine padRow_congr fun i hi => ?_
  by_cases h : i = k
  ·subst h; rw [if_pos rfl, if_pos (by omega), mn_eq (by rw [highN_succ l i h1]; exact mn_right)]
  rw [if_neg h]
 rw [if_neg h1]
theorem take_succ_row (N : Nat) (back : Bool) (k : Nat) (hk : k < N) : ∃ x : Fin N, x.val = (if back then N - 1 - k else k) ∧ (rowAll N back).take (k + 1) = (rowAll N back).take k ++ [x] := by
 obtain ⟨x, hx, ht⟩ := rowAll_succ N back k hk
 refine ⟨x, ?_, ht⟩
 unfold rowIx at hx
 cases back <;> simp at hx ⊢ <;> omega
theorem foldL_all (l : List SRow) (h16 : l.length ≤ 16) : foldL (rowAll l.length false) (LowAt l 0) = LowAt l l.length := by
 have key : ∀ k, k ≤ l.length → foldL ((rowAll l.length false).take k) (LowAt l 0) = LowAt l k := by
  intro k
  induction k with
  | zero => intro _; rfl
  | succ k ih =>
   intro hk
   obtain ⟨x, hx, ht⟩ := take_succ_row l.length false k hk
   rw [ht, foldL_snoc, ih (by omega), hx]
   exact stepL_at l k hk h16
 have := key _ (Nat.le_refl _)
 rwa [rowAll_full] at this
theorem foldH_all (l : List SRow) (h16 : l.length ≤ 16) : foldH (rowAll l.length true) (HighAt l 0) = HighAt l l.length := by
 have key : ∀ k, k ≤ l.length → foldH ((rowAll l.length true).take k) (HighAt l 0) = HighAt l k := by
  intro k
  induction k with
  | zero => intro _; rfl
  | succ k ih =>
   intro hk
   obtain ⟨x, hx, ht⟩ := take_succ_row l.length true k hk
   rw [ht, foldH_snoc, ih (by omega), hx]
   exact stepH_at l k hk h16
 have := key _ (Nat.le_refl _)
 rwa [rowAll_full] at this
theorem foldL_end (l : List SRow) (h16 : l.length ≤ 16) (pre : List (Fin l.length)) : foldL pre (LowAt l l.length) = LowAt l l.length := by
 unfold foldL
 induction pre with
 | nil => rfl
 | cons x pre ih => rw [List.foldl_cons, stepL_end l x.val x.isLt h16]; exact ih
theorem foldH_end (l : List SRow) (h16 : l.length ≤ 16) (pre : List (Fin l.length)) : foldH pre (HighAt l l.length) = HighAt l l.length := by
 unfold foldH
 induction pre with
 | nil => rfl
 | cons x pre ih => rw [List.foldl_cons, stepH_end l x.val x.isLt h16]; exact ih
theorem LowAt_get (l : List SRow) (i : Nat) (hi : i < l.length) (h16 : l.length ≤ 16) : (LowAt l l.length).getD i 0 = lowN l i := by
 rw [LowAt, padRow_in _ _ _ hi h16, if_pos hi]
theorem HighAt_get (l : List SRow) (i : Nat) (hi : i < l.length) (h16 : l.length ≤ 16) : (HighAt l l.length).getD i 0 = highN l i := by
 rw [HighAt, padRow_in _ _ _ hi h16, if_pos (by omega)]
structure Tn (l : List SRow) (lo hi : List Int) : Prop where
 lo : foldL (rowAll l.length false) lo = LowAt l l.length
 hi : foldH (rowAll l.length true) hi = HighAt l l.length
theorem Tn.first (l : List SRow) (h16 : l.length ≤ 16) : Tn l (LowAt l 0) (HighAt l 0) := ⟨foldL_all l h16, foldH_all l h16⟩
theorem Tn.again (l : List SRow) (h16 : l.length ≤ 16) : Tn l (LowAt l l.length) (HighAt l l.length) := ⟨foldL_end l h16 _, foldH_end l h16 _⟩
theorem tight_no (l : List SRow) (h16 : l.length ≤ 16) (i : Nat) (hi : i < l.length) (h : (HighAt l l.length).getD i 0 < (LowAt l l.length).getD i 0) : tightOk l = false := by
 rw [LowAt_get l i hi h16, HighAt_get l i hi h16] at h
 unfold tightOk
 rw [Bool.eq_false_iff]
 intro e
 rw [List.all_eq_true] at e
 have := of_decide_eq_true (e i (List.mem_range.2 hi))
 omega
theorem tight_yes (l : List SRow) (h16 : l.length ≤ 16) (h : ∀ x : Fin l.length, (LowAt l l.length).getD x.val 0 ≤ (HighAt l l.length).getD x.val 0) : tightOk l = true := by
 unfold tightOk
 rw [List.all_eq_true]
 intro i hi
 have hi' := List.mem_range.1 hi
 have := h ⟨i, hi'⟩
 rw [LowAt_get l i hi' h16, HighAt_get l i hi' h16] at this
 exact decide_eq_true this
theorem mem_rowAll {N : Nat} (back : Bool) (x : Fin N) : x ∈ rowAll N back := by cases back <;> simp [rowAll]
end Go.Proofs.Ytpkajhmchcbbhaa.P
end
