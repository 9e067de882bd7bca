/- Part 28 of 44. -/
import Derived.Test.YtpkajhmchcbbhaaL27
import Derived.Shelf.SlIterI.Collect
set_option linter.unusedSimpArgs false
set_option linter.unusedVariables false
section
namespace Go.Proofs.Ytpkajhmchcbbhaa.P
open Go.Shelf Go.Proofs
def keysA_ren : Go.Shelf.Ren := ⟨fun | 7 => 90 | 10 => 93 | n => n, fun | 23 => 132 | 26 => 2 | 3 => 3 | 28 => 137 | 0 => 0 | 27 => 136 | 33 => 121 | 4 => 4 | n => n, fun | n => n⟩
theorem keysA : Go.Proofs.SlLaysZI.n7 Try.prog keysA_ren := {
 mixed := by kernel_rfl
 f7 := ⟨Try.f90.name, by decide, Try.func90.trans (congrArg some (by kernel_rfl))⟩
 f10 := ⟨Try.f93.name, by decide, Try.func93.trans (congrArg some (by kernel_rfl))⟩
 t0 := Try.underlying0
 a0 := Try.isAgg0
 z0 := Try.sizeOf0
 v0 := Try.zeroValue0
 t4 := Try.underlying4
 a4 := Try.isAgg4
 z4 := Try.sizeOf4
 v4 := Try.zeroValue4
 t23 := Try.underlying132
 a23 := Try.isAgg132
 z23 := Try.sizeOf132
 v23 := Try.zeroValue132
 t26 := Try.underlying2
 a26 := Try.isAgg2
 z26 := Try.sizeOf2
 v26 := Try.zeroValue2
 t27 := Try.underlying136
 a27 := Try.isAgg136
 z27 := Try.sizeOf136
 v27 := Try.zeroValue136
 t28 := Try.underlying137
 a28 := Try.isAgg137
 z28 := Try.sizeOf137
 v28 := Try.zeroValue137
 t33 := Try.underlying121
 a33 := Try.isAgg121
 z33 := Try.sizeOf121
 v33 := Try.zeroValue121 }
def collectA_ren : Go.Shelf.Ren := ⟨fun | 8 => 89 | 11 => 92 | n => n, fun | 26 => 2 | 28 => 137 | 24 => 25 | 0 => 0 | 33 => 121 | 4 => 4 | n => n, fun | n => n⟩
theorem collectA : Go.Proofs.SlLaysZI.n8 Try.prog collectA_ren := {
 mixed := by kernel_rfl
 f8 := ⟨Try.f89.name, by decide, Try.func89.trans (congrArg some (by kernel_rfl))⟩
 f11 := ⟨Try.f92.name, by decide, Try.func92.trans (congrArg some (by kernel_rfl))⟩
 t0 := Try.underlying0
 a0 := Try.isAgg0
 z0 := Try.sizeOf0
 v0 := Try.zeroValue0
 t24 := Try.underlying25
 a24 := Try.isAgg25
 z24 := Try.sizeOf25
 v24 := Try.zeroValue25
 t26 := Try.underlying2
 a26 := Try.isAgg2
 z26 := Try.sizeOf2
 v26 := Try.zeroValue2
 t28 := Try.underlying137
 a28 := Try.isAgg137
 z28 := Try.sizeOf137
 v28 := Try.zeroValue137
 i26 := by kernel_rfl }
end Go.Proofs.Ytpkajhmchcbbhaa.P
end
section
namespace Go.Proofs.Ytpkajhmchcbbhaa.P
open Go.RowKit Go.Proofs.YtpkajhmchcbbhaaW.PrintWords Go.Proofs.YtpkajhmchcbbhaaW.PrintLast Go.Proofs.YtpkajhmchcbbhaaW.PrintMore
attribute [local go_sem] max2_mx min2_mn max_two min_two
def minL : List Int → Int
 | [] => 0
 | x :: l => l.foldl mn x
theorem minL_take (l : List Int) (k : Nat) (h1 : 1 ≤ k) (hk : k < l.length) : minL (l.take (k + 1)) = mn (minL (l.take k)) (l.getD k 0) := by
 cases l with
 | nil => simp at hk
 | cons x l =>
  obtain ⟨k, rfl⟩ : ∃ j, k = j + 1 := ⟨k - 1, by omega⟩
  have hk' : k < l.length := by simpa using hk
  simp only [List.take_succ_cons, minL, List.getD_cons_succ]
  rw [List.take_succ_eq_append_getElem hk', List.foldl_append, List.getD_eq_getElem?_getD, List.getElem?_eq_getElem hk']
  rfl
theorem foldl_mn_le (l : List Int) : ∀ (x : Int), l.foldl mn x ≤ x ∧ (∀ y, y ∈ l → l.foldl mn x ≤ y) ∧ (l.foldl mn x = x ∨ l.foldl mn x ∈ l) := by
 induction l with
 | nil => intro x; exact ⟨Int.le_refl _, fun y hy => by simp at hy, .inl rfl⟩
 | cons z l ih =>
  intro x
  obtain ⟨h1, h2, h3⟩ := ih (mn x z)
  have hm : mn x z ≤ x ∧ mn x z ≤ z ∧ (mn x z = x ∨ mn x z = z) := by unfold mn; split <;> omega
  refine ⟨by simp only [List.foldl_cons]; omega, fun y hy => ?_, ?_⟩
  ·simp only [List.foldl_cons]
   rcases List.mem_cons.1 hy with rfl | hy
   ·omega
   exact h2 y hy
  simp only [List.foldl_cons]
  rcases h3 with h3 | h3
  ·rcases hm.2.2 with h4 | h4
   ·left; rw [h3, h4]
   right; rw [h3, h4]; exact List.mem_cons_self
  right; exact List.mem_cons_of_mem _ h3
theorem minL_perm {l : List Int} {x : Int} {r : List Int} (hp : l.Perm (x :: r)) (hx : ∀ y, y ∈ r → x ≤ y) : minL l = x := by
 cases l with
 | nil => have := hp.length_eq; simp at this
 | cons z l =>
  obtain ⟨h1, h2, h3⟩ := foldl_mn_le l z
  have hmem : minL (z :: l) ∈ z :: l := by
   rcases h3 with h3 | h3
   ·simp only [minL]; rw [h3]; exact List.mem_cons_self
   exact List.mem_cons_of_mem _ h3
  have hxm : x ∈ z :: l := hp.mem_iff.2 List.mem_cons_self
  have hle : minL (z :: l) ≤ x := by
   rcases List.mem_cons.1 hxm with rfl | hm
   ·exact h1
   exact h2 x hm
  have hge : x ≤ minL (z :: l) := by
   rcases List.mem_cons.1 (hp.mem_iff.1 hmem) with h4 | h4
   ·omega
   exact hx _ h4
  omega
set_option maxHeartbeats 1000000 in
theorem min_calls (A : Option Addr) (l : List Int) (c : Nat) (hl : 0 < l.length) (w : World) (hr : Kd.C (Kd.int .i64) w A l.length l) :
  Calls Try.prog 88 #[.slice A l.length c] w fun e w' => e = .returned (.int .i64 (minL l)) ∧ w = w' := by
 have hm : l.length ≤ 9223372036854775807 := hr.2.1
 obtain ⟨ad, rfl, _⟩ := hr.2.2 hl
 have HR := Aside0.mk hr
 have c0 : w.cell? ad = some (.int .i64 (l.getD 0 0)) := by
  have := Kd.foot_int hr (0 : Int) (by omega) (by omega)
  simpa [rd, addr_add0] using this
 clear hr
 have hlen : (0 : Int) < l.length := by omega
 have h1 : ¬ (l.length : Int) < 1 := by omega
 go_enter Try.func88, Try.ntmps88
 go_wp2
 go_loop [3, 4] (fun v3 v4 => ∃ k : Nat, 1 ≤ k ∧ k ≤ l.length ∧ v4 = .int .i64 k ∧ v3 = .int .i64 (minL (l.take k))) (fun _ v4 => l.length - (RowKit.intOf v4).toNat)
 case atStart => exact ⟨1, Nat.le_refl _, hl, rfl, by
  cases l with
  | nil => simp at hl
  | cons x l => rfl⟩
 case round =>
  obtain ⟨k, hk1, hk, rfl, rfl⟩ := hrel
  by_cases hlt : k < l.length
  ·have hcell := Kd.foot_int HR.out (k : Int) (by omega) (by omega)
   rw [Int.toNat_natCast] at hcell
   have e1 : rd l k = l.getD k 0 := by simp [rd]
   rw [e1] at hcell
   have HT := Lib.hid (minL_take l k hk1 hlt)
   obtain ⟨x, hx⟩ : ∃ x, x = l.getD k 0 := ⟨_, rfl⟩
   obtain ⟨s, hs⟩ : ∃ s, s = minL (l.take k) := ⟨_, rfl⟩
   rw [← hx] at hcell HT
   rw [← hs] at HT ⊢
   clear e1 hx hs
   have k1 : (k : Int) < l.length := by omega
   go_wp2
   go_round
   case rel => exact ⟨k + 1, by omega, by omega, by go_num, by rw [HT.out]⟩
   case measure => simp [RowKit.intOf]; omega
  obtain rfl : k = l.length := by omega
  go_wp2
  go_ret
  exact ⟨ret_int (by first | rfl | rw [List.take_of_length_le (Nat.le_refl _)]), rfl⟩
theorem law2 : Maps.Keyed Try.prog 2 := Maps.int_keyed Try.underlying2
theorem collect_calls (Bm b n : Nat) (ks : List Int) (w : World) (hm : w.heap[Bm]? = some (.cells #[.map (some b)] 132 (0, 0))) (h : KMap w Try.prog 2 b n ks) (hnd : ks.Nodup) (hks : ks.length ≤ 100000) :
  Calls Try.prog 89 #[.func (.func 93) #[] #[.pointer (some ⟨Bm, 0, none⟩)]] w fun e w' => ∃ A c ss, e = .returned (.slice A ss.length c) ∧ ss.Perm ks ∧ Kd.C (Kd.int .i64) w' A ss.length ss ∧ Below w.heap.size w w' := by
 obtain ⟨D, hD, hp, hs⟩ := h.perm law2 Try.underlying2 hnd
 refine (callsIn_wide (n := 6)).1 ?_
 have hseq : SeqGives Fence.wide 4 Try.prog 93 #[.pointer (some ⟨Bm, 0, none⟩)] encZ (fun ss => ss.Perm (intKeys D)) (Maps.size D) w :=
  AnyZI.keys_gives (ρ := keysA_ren) { keysA with } Fence.wide _ trivial rfl (by omega) Bm b n D _ (blk_lt hm) (cell_of_one hm) hD
 have cS := AnyZI.collect_in collectA Fence.wide 6 trivial trivial rfl (by omega) 93 #[.pointer (some ⟨Bm, 0, none⟩)] trivial (enters_ Try.func93 (by kernel_rfl) rfl) _ _ (by rw [hs]; unfold maxLen; omega) (by rw [hs]; omega) w hseq
 refine cS.mono ?_
 rintro e w' ⟨v, ss, rfl, hS, hrow, _, hb⟩
 obtain ⟨A, c, he, _, hC⟩ := Kd.R_reads (Kd.R_of_own (ok := fun _ => True) (h1 := fun _ => rfl) (xs := ss) hrow (fun _ _ => trivial))
 refine ⟨A, c, ss, by rw [he], hS.trans hp.symm, hC, hb⟩
theorem keys_calls (mb : Option Nat) (w : World) : Calls Try.prog 90 #[.map mb] w fun e w' => e = .returned (.func (.func 93) #[] #[.pointer (some ⟨w.heap.size, 0, none⟩)]) ∧ w' = w.alloc (.cells #[.map mb] 132) :=
 (callsIn_wide (n := 5)).1 (AnyZI.keys_in keysA Fence.wide 5 trivial rfl mb w)
end Go.Proofs.Ytpkajhmchcbbhaa.P
end
