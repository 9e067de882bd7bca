/- Part 15 of 38. -/
import Derived.Test.YtpkajhmchcbbhaaH14
import Derived.Test.YtpkajhmchcbbhaaH13
import Derived.Test.YtpkajhmchcbbhaaH10
import Derived.Test.YtpkajhmchcbbhaaH5
set_option linter.unusedSimpArgs false
set_option linter.unusedVariables false
section
namespace Go.Proofs.Ytpkajhmchcbbhaa.P
open Go.RowKit Go.Proofs.YtpkajhmchcbbhaaW.PrintWords Go.Proofs.YtpkajhmchcbbhaaW.PrintLast Go.Proofs.YtpkajhmchcbbhaaW.PrintMore
theorem inB_iff (lo hi n : Int) : inB lo hi n = true ↔ lo ≤ n ∧ n ≤ hi := by
 unfold inB
 by_cases h1 : n < lo <;> by_cases h2 : hi < n <;> simp [h1, h2] <;> omega
structure TankOk (l : List SRow) (p : Int) : Prop where
 n2 : 2 ≤ l.length
 n16 : l.length ≤ 16
 d0 : 0 ≤ dipN l 0
 up : ∀ i, i + 1 < l.length → dipN l i < dipN l (i + 1)
 top : ∀ i, i < l.length → dipN l i ≤ 4000
 lit : ∀ i, i < l.length → 0 ≤ loR l i ∧ loR l i ≤ hiR l i ∧ hiR l i ≤ 100000
 p0 : 0 ≤ p
 p1 : p ≤ 50
theorem dipsOk_spec (l : List SRow) : ∀ (last : Int), dipsOk last l = true → (∀ i, i < l.length → last < dipN l i ∧ dipN l i ≤ 4000) ∧ (∀ i, i + 1 < l.length → dipN l i < dipN l (i + 1)) := by
 induction l with
 | nil => intro last _; exact ⟨fun i hi => by simp at hi, fun i hi => by simp at hi⟩
 | cons r l ih =>
  intro last h
  simp only [dipsOk, Bool.and_eq_true, Bool.not_eq_true', Bool.or_eq_false_iff, decide_eq_false_iff_not, Int.not_le, Int.not_lt] at h
  obtain ⟨⟨h1, h2⟩, h3⟩ := h
  obtain ⟨i1, i2⟩ := ih _ h3
  constructor
  ·intro i hi
   cases i with
   | zero => exact ⟨h1, h2⟩
   | succ i =>
    have := i1 i (by simpa using hi)
    have e : dipN (r :: l) (i + 1) = dipN l i := rfl
    rw [e]
    exact ⟨by omega, this.2⟩
  intro i hi
  cases i with
  | zero =>
   have := i1 0 (by simpa using hi)
   exact this.1
  | succ i => exact i2 i (by simpa using hi)
theorem tankOk_of {l : List SRow} {p : Int} (h : checkTank l p = 0) : TankOk l p := by
 unfold checkTank at h
 split at h
 ·cases h
 rename_i h1
 split at h
 ·cases h
 rename_i h2
 split at h
 ·cases h
 rename_i h3
 split at h
 ·cases h
 rename_i h4
 obtain ⟨a, b⟩ := dipsOk_spec l (-1) (by simpa using h2)
 have hp := (inB_iff 0 50 p).1 (by simpa using h3)
 refine ⟨by omega, by omega, by have := (a 0 (by omega)).1; omega, b, fun i hi => (a i hi).2, fun i hi => ?_, hp.1, hp.2⟩
 have h5 : litresOk (l.getD i zRow) = true := by
  have : ∀ x, x ∈ l → litresOk x = true := by
   intro x hx
   have := h4
   simp only [List.any_eq_true, not_exists, not_and] at this
   have := this x hx
   simpa using this
  refine this _ ?_
  rw [List.getD_eq_getElem?_getD, List.getElem?_eq_getElem hi]
  exact List.getElem_mem _
 unfold litresOk at h5
 simp only [Bool.and_eq_true, decide_eq_true_eq] at h5
 have h6 := (inB_iff _ _ _).1 h5.1.1
 have h7 := (inB_iff _ _ _).1 h5.1.2
 exact ⟨h6.1, h5.2, h7.2⟩
namespace TankOk
variable {l : List SRow} {p : Int} (h : TankOk l p)
include h
theorem mono (i k : Nat) (hi : i < l.length) (hk : k ≤ i) : dipN l k ≤ dipN l i ∧ (k < i → dipN l k < dipN l i) := by
  induction i with
  | zero => obtain rfl : k = 0 := by omega
            exact ⟨Int.le_refl _, fun h => by omega⟩
  | succ i ih =>
    have h1 := h.up i (by omega)
    by_cases e : k = i + 1
    · subst e; exact ⟨Int.le_refl _, fun h => by omega⟩
    have := ih (by omega) (by omega)
    exact ⟨by omega, fun _ => by omega⟩
theorem low (i : Nat) (hi : i < l.length) : 0 ≤ dipN l i := by
 have := (h.mono i 0 hi (Nat.zero_le _)).1
 have := h.d0
 omega
theorem dipOk : DipOk l := ⟨h.n2, h.n16, h.low, h.top⟩
theorem wden_pos (dip : Int) : 1 ≤ wden l dip := by
 have hp := h.dipOk.pos dip
 have := h.up (pos l dip - 1) (by omega)
 unfold wden
 rw [show pos l dip - 1 + 1 = pos l dip from by omega] at this
 omega
theorem bden_ne (d0 d1 : Int) : bden l d0 d1 ≠ 0 := by
 unfold bden
 have h1 := h.wden_pos d0
 have h2 := h.wden_pos d1
 intro e
 rcases Int.mul_eq_zero.1 e with e | e <;> omega
theorem lowN_in (i : Nat) (hi : i < l.length) : 0 ≤ lowN l i ∧ lowN l i ≤ 100000 ∧ loR l i ≤ lowN l i := by
 induction i with
 | zero => have := h.lit 0 hi; simp only [lowN]; omega
 | succ i ih =>
  have h1 := ih (by omega)
  have h2 := h.lit (i + 1) hi
  simp only [lowN]
  unfold mx
  split <;> omega
theorem highR_in (j : Nat) (hj : j < l.length) : 0 ≤ highR l j ∧ highR l j ≤ 100000 := by
 induction j with
 | zero => have := h.lit (l.length - 1) (by omega); simp only [highR]; omega
 | succ j ih =>
  have h1 := ih (by omega)
  have h2 := h.lit (l.length - 1 - (j + 1)) (by omega)
  simp only [highR]
  unfold mn
  split <;> omega
theorem highN_in (i : Nat) (hi : i < l.length) : 0 ≤ highN l i ∧ highN l i ≤ 100000 := h.highR_in _ (by omega)
theorem lowAt_in : ∀ x, x ∈ LowAt l l.length → 0 ≤ x ∧ x ≤ 100000 := by
 intro x hx
 simp only [LowAt, padRow, List.mem_map, List.mem_range] at hx
 obtain ⟨i, hi, rfl⟩ := hx
 split
 ·rename_i h1
  have := h.lowN_in i h1
  exact ⟨this.1, this.2.1⟩
 omega
theorem highAt_in : ∀ x, x ∈ HighAt l l.length → 0 ≤ x ∧ x ≤ 100000 := by
 intro x hx
 simp only [HighAt, padRow, List.mem_map, List.mem_range] at hx
 obtain ⟨i, hi, rfl⟩ := hx
 split
 ·rename_i h1
  rw [if_pos (by omega)]
  exact h.highN_in i h1
 omega
theorem true_in (dip : Int) (h0 : firstD l ≤ dip) (h1 : dip ≤ lastD l) : firstD l ≤ trueLo l p dip ∧ trueLo l p dip ≤ dip ∧ dip ≤ trueHi l p dip ∧ trueHi l p dip ≤ lastD l := by
 have := h.p0
 unfold trueLo trueHi mx mn
 refine ⟨?_, ?_, ?_, ?_⟩ <;> split <;> omega
theorem first_last : 0 ≤ firstD l ∧ firstD l ≤ lastD l ∧ lastD l ≤ 4000 := by
 have := h.n2
 exact ⟨h.d0, (h.mono (l.length - 1) 0 (by omega) (by omega)).1, h.top _ (by omega)⟩
end TankOk
theorem C_none (w : World) : Kd.C (Kd.int .i64) w none 0 [] := ⟨rfl, by simp, fun h => absurd h (by simp)⟩
end Go.Proofs.Ytpkajhmchcbbhaa.P
end
section
namespace Go.Proofs.Ytpkajhmchcbbhaa.P
open Go.RowKit Go.Proofs.YtpkajhmchcbbhaaW.PrintWords Go.Proofs.YtpkajhmchcbbhaaW.PrintLast Go.Proofs.YtpkajhmchcbbhaaW.PrintMore
attribute [local go_sem] max2_mx min2_mn max_two min_two
attribute [local go_sem] Oper.semAt_some
attribute [local go_sem ↓] exec_load97 exec_store97 sem_load97 sem_store97
attribute [local go_sem] load97_at store97_at SegOk_alloc seg_alloc SegOk_drew seg_drew SegOk_drewN seg_drewN ints_size Ones_ints store97_new store97_newD
def stepN (lo hi : List Int) (n : Int) (o : List Int) (i : Nat) : List Int := o.set i (mx (lo.getD i 0) (mn (hi.getD i 0) n))
def foldN {N : Nat} (lo hi : List Int) (n : Int) (pre : List (Fin N)) (o : List Int) : List Int := pre.foldl (fun a x => stepN lo hi n a x.val) o
theorem foldN_snoc {N : Nat} (lo hi : List Int) (n : Int) (pre : List (Fin N)) (x : Fin N) (o : List Int) : foldN lo hi n (pre ++ [x]) o = stepN lo hi n (foldN lo hi n pre o) x.val := by simp [foldN]
theorem foldN_length {N : Nat} (lo hi : List Int) (n : Int) (pre : List (Fin N)) (o : List Int) : (foldN lo hi n pre o).length = o.length := by
 unfold foldN
 induction pre generalizing o with
 | nil => rfl
 | cons x pre ih => rw [List.foldl_cons, ih]; simp [stepN]
def nearL (lo hi : List Int) (N : Nat) (n : Int) : List Int := padRow (fun i => mx (lo.getD i 0) (mn (hi.getD i 0) n)) N
theorem foldN_all (lo hi : List Int) (n : Int) (N : Nat) (h16 : N ≤ 16) : foldN lo hi n (rowAll N false) (List.replicate 16 0) = nearL lo hi N n := by
 have key : ∀ k, k ≤ N → foldN lo hi n ((rowAll N false).take k) (List.replicate 16 0) = padRow (fun i => mx (lo.getD i 0) (mn (hi.getD i 0) n)) k := by
  intro k
  induction k with
  | zero =>
   intro _
   apply List.ext_getElem
   ·simp [foldN, padRow]
   intro i h1 h2
   have h3 : i < 16 := by simpa [padRow] using h2
   have e : foldN lo hi n (List.take 0 (rowAll N false)) (List.replicate 16 0) = List.replicate 16 0 := rfl
   rw [List.getElem_of_eq e, List.getElem_replicate]
   simp [padRow]
  | succ k ih =>
   intro hk
   obtain ⟨x, hx, ht⟩ := take_succ_row N false k hk
   rw [ht, foldN_snoc, ih (by omega), hx]
   exact padRow_set _ k (by omega)
 have := key N (Nat.le_refl _)
 rwa [rowAll_full] at this
set_option maxRecDepth 100000 in
set_option maxHeartbeats 4000000 in
theorem near_calls (g : Nat) (A : Option Addr) (c N : Nat) (p : Int) (lo hi : List Int) (n : Int) (h16 : N ≤ 16) (w : World) (hg : Gauge w g A N c p lo hi) :
  Calls Try.prog 87 #[.pointer (some ⟨g, 0, none⟩), .int .i64 n] w fun e w' => e = .returned (.agg (ints (nearL lo hi N n))) ∧ Below w.heap.size w w' := by
 have hu3 := Try.underlying99
 have hu5 := Try.underlying97
 have hgl := hg.lt
 have HG := Aside0.mk hg
 clear hg
 refine (callsIn_wide (n := 10)).1 ?_
 refine callsIn_of_wp_marks Try.func87 rfl trivial ?_ rfl
 simp only [Try.ntmps87, List.size_toArray, List.length_cons, List.length_nil, Nat.reduceAdd, Nat.reduceSub, Array.replicate_succ, Array.replicate_zero, List.push_toArray, List.append_toArray, List.nil_append, List.cons_append]
 gi_wp2_with fail
 obtain ⟨W1, hW1⟩ : ∃ W1, (((w.alloc (.cells #[.pointer (some ⟨g, 0, none⟩)] 90)).alloc (.cells #[.int .i64 n] 2)).alloc (.cells (ints (List.replicate 16 0)) 97)).alloc (.cells (ints (List.replicate 16 0)) 97) = W1 := ⟨_, rfl⟩
 have k0 : W1.heap[w.heap.size]? = some (.cells #[.pointer (some ⟨g, 0, none⟩)] 90 (0, 0)) := by rw [← hW1]; exact blk_old (blk_old (blk_old (blk_new _ _)))
 have k1 : W1.heap[w.heap.size + 1]? = some (.cells #[.int .i64 n] 2 (0, 0)) := by rw [← hW1]; exact blk_old (blk_old (blk_new' (by simp)))
 have k2 : W1.heap[w.heap.size + 2]? = some (.cells (ints (List.replicate 16 0)) 97 (0, 0)) := by rw [← hW1]; exact blk_old (blk_new' (by simp))
 have k3 : W1.heap[w.heap.size + 3]? = some (.cells (ints (List.replicate 16 0)) 97 (0, 0)) := by rw [← hW1]; exact blk_new' (by simp)
 have kb : Below w.heap.size w W1 := by rw [← hW1]; exact ((((Below.refl _ _).alloc (Nat.le_refl _) _).alloc (by simp) _).alloc (by simp; omega) _).alloc (by simp; omega) _
 have ks : W1.heap.size = w.heap.size + 4 := by rw [← hW1]; simp
 have hc0 := (HG.out.below kb).c0
 refine ⟨trivial, (callsIn_wide.2 (rows_calls g A N c false _ (by rw [← hW1] at hc0; exact hc0))).mono ?_⟩
 simp only [zlit]
 rw [show ((((w.alloc (.cells #[.pointer (some ⟨g, 0, none⟩)] 90)).alloc (.cells #[.int .i64 n] 2)).alloc (.cells (ints (List.replicate 16 0)) 97)).alloc (.cells (ints (List.replicate 16 0)) 97)) = W1 from hW1]
 rintro e W2 ⟨rfl, hW2⟩
 clear hW1 hc0
 have K0 : Aside0 (W2.heap[w.heap.size]? = some (.cells #[.pointer (some ⟨g, 0, none⟩)] 90 (0, 0))) := ⟨by rw [hW2]; exact blk_old (blk_old k0)⟩
 have K1 : Aside0 (W2.heap[w.heap.size + 1]? = some (.cells #[.int .i64 n] 2 (0, 0))) := ⟨by rw [hW2]; exact blk_old (blk_old k1)⟩
 have K2 : Aside0 (W2.heap[w.heap.size + 2]? = some (.cells (ints (List.replicate 16 0)) 97 (0, 0))) := ⟨by rw [hW2]; exact blk_old (blk_old k2)⟩
 have K3 : Aside0 (W2.heap[w.heap.size + 3]? = some (.cells (ints (List.replicate 16 0)) 97 (0, 0))) := ⟨by rw [hW2]; exact blk_old (blk_old k3)⟩
 have KB : Aside0 (Below w.heap.size w W2) := ⟨by rw [hW2]; exact (kb.alloc kb.size _).alloc (by simp; omega) _⟩
 have hbb : W2.heap[w.heap.size + 4]? = some (Obj.cells #[.bool false] 4 (0, 0)) := by rw [hW2]; exact blk_old (blk_new' ks.symm)
 have hbn : W2.heap[w.heap.size + 5]? = some (Obj.cells #[.int .i64 N] 3 (0, 0)) := by rw [hW2]; exact blk_new' (by simp; omega)
 have hs2 : W2.heap.size = w.heap.size + 6 := by rw [hW2]; simp; omega
 rw [ks]
 clear hW2 k0 k1 k2 k3 kb ks W1
 gi_wp2_with fail
 (refine rowsRange 10 (w.heap.size + 5)  (w.heap.size + 4)  N  false  (by omega) rfl ?hBn ?hBb ?hN (fun pre W => W.heap[w.heap.size]? = some (.cells #[.pointer (some ⟨g, 0, none⟩)] 90 (0, 0)) ∧ W.heap[w.heap.size + 1]? = some (.cells #[.int .i64 n] 2 (0, 0)) ∧ W.heap[w.heap.size + 2]? = some (.cells (ints (List.replicate 16 0)) 97 (0, 0)) ∧ W.heap[w.heap.size + 3]? = some (.cells (ints (foldN lo hi n pre (List.replicate 16 0))) 97 (0, 0)) ∧ But [] w W)  (fun _ _ _ => False)  ?hJ ?hJx ?h0 (fun x => Go.Act.mk #[Go.Value.pointer (Option.some (Go.Addr.mk g 0 Option.none)), Go.Value.int Go.IntKind.i64 n, Go.Value.pointer (Option.some (Go.Addr.mk (Array.size (Go.World.heap w)) 0 Option.none)), Go.Value.pointer (Option.some (Go.Addr.mk (Array.size (Go.World.heap w) + 1) 0 Option.none)), Go.Value.pointer (Option.some (Go.Addr.mk (Array.size (Go.World.heap w) + 1 + 1) 0 Option.none)), Go.Value.pointer (Option.some (Go.Addr.mk (Array.size (Go.World.heap w) + 1 + 1 + 1) 0 Option.none)), Go.Value.int Go.IntKind.i64 (Nat.cast (Fin.val x)), Go.Value.pointer (Option.some (Go.Addr.mk g 0 Option.none)), Go.Value.func (Go.Fn.func 76) #[] #[Go.Value.pointer (Option.some (Go.Addr.mk (Array.size (Go.World.heap w) + 4 + 1) 0 Option.none)), Go.Value.pointer (Option.some (Go.Addr.mk (Array.size (Go.World.heap w) + 4) 0 Option.none))], Go.Value.int Go.IntKind.i64 (Nat.cast (Fin.val x)), Go.undef, Go.undef, Go.undef, Go.undef, Go.undef, Go.undef, Go.undef, Go.undef, Go.undef, Go.undef, Go.undef, Go.undef, Go.undef, Go.undef, Go.undef, Go.undef, Go.undef, Go.undef] []) ?hassign ?hbody ?hdone ?hstop)
 case hBn => exact hbn
 case hBb => exact hbb
 case hN => omega
 case hJ => exact .and (ownBlk _) (.and (ownBlk _) (.and (ownBlk _) (.and (ownBlk _) (ownBut (by omega)))))
 case hJx => exact fun _ _ _ _ _ h _ _ => h
 case h0 => exact ⟨K0.out, K1.out, K2.out, K3.out, Below.but KB.out _⟩
 case hstop => exact fun _ _ _ _ _ _ h => h.elim
 case hassign =>
  intro l0 x W K hK
  gi_wp2
  exact hK
 case hbody =>
  intro l0 pre x W hJ hbn hbb
  obtain ⟨i, hi16⟩ := x
  obtain ⟨j0, j1, j2, j3, jB⟩ := hJ
  have hcg := cell_of_one j0
  have hcn := cell_of_one j1
  have hgW := HG.out.below jB.nil
  have hcl := hgW.cl i (by omega)
  have hch := hgW.ch i (by omega)
  have hglW := hgW.lt
  have i16 : i < 16 := by omega
  have hlen := foldN_length lo hi n pre (List.replicate 16 0)
  rw [List.length_replicate] at hlen
  have ho := (blk_cell j3 i).trans (ints_getD _ i (by rw [hlen]; exact i16))
  have hof := blk_frozen j3 i
  obtain ⟨o, hoo⟩ : ∃ o, o = foldN lo hi n pre (List.replicate 16 0) := ⟨_, rfl⟩
  have HO := Lib.hid hoo
  rw [← hoo] at ho j3
  obtain ⟨a, ha⟩ : ∃ a, a = lo.getD i 0 := ⟨_, rfl⟩
  obtain ⟨b, hb⟩ : ∃ b, b = hi.getD i 0 := ⟨_, rfl⟩
  rw [← ha] at hcl
  rw [← hb] at hch
  have HA := Lib.hid ha
  have HB := Lib.hid hb
  have J0 := Aside0.mk j0
  have J1 := Aside0.mk j1
  have J2 := Aside0.mk j2
  have J3 := Aside0.mk j3
  have JB := Aside0.mk jB
  have HI := Lib.hid hi16
  clear hoo ha hb
  (skip)
  gi_wp2_with fail
  (refine Code.wpIn_mono calm_le ?_; (first | refine startR_ (k := 18) (S := fun w' => w' = _) (ds := [17]) (List.toArray (false :: false :: false :: false :: false :: false :: false :: false :: false :: false :: false :: false :: false :: false :: false :: false :: false :: false :: [])) (by kernel_rfl) (by kernel_rfl) calm_in rfl rfl rfl (fun plS => ?_) | refine startW_ (k := 18) (S := fun w' => w' = _) (ds := [17]) (List.toArray (false :: false :: false :: false :: false :: false :: false :: false :: false :: false :: false :: false :: false :: false :: false :: false :: false :: false :: [])) (by kernel_rfl) (by kernel_rfl) calm_in rfl rfl rfl (fun plS => ?_)); clear plS; refine pureY (i := 0) (N := (some 10)) ?_; refine pureY (i := 2) (N := (some 12)) ?_; refine pureY (i := 8) (N := (some 18)) ?_; refine takeE (i := 1) (N := (some 11)) ?_; refine pureY (i := 3) (N := (some 13)) ?_; refine pureY (i := 4) (N := (some 14)) ?_; refine pureY (i := 5) (N := (some 15)) ?_; refine takeE (i := 6) (N := (some 16)) ?_; refine takeE (i := 7) (N := (some 17)) ?_; refine pureY (i := 9) (N := (some 19)) ?_; refine pureY (i := 10) (N := (some 20)) ?_; refine pureY (i := 11) (N := (some 21)) ?_; refine takeE (i := 12) (N := (some 22)) ?_; refine takeE (i := 13) (N := (some 23)) ?_; refine pureY (i := 14) (N := (some 24)) ?_; refine pureY (i := 15) (N := (some 25)) ?_; refine pureY (i := 16) (N := (some 26)) ?_; refine lastY (i := 17) (fun plK plH => ?_); rw [if_pos (by rfl)]; (first | gi_big_move | go_big_op | go_simp))
  ((try simp only [Act.put, List.getElem_toArray, List.getElem_cons_succ, List.getElem_cons_zero, List.setIfInBounds_toArray, List.set_cons_succ, List.set_cons_zero]); refine plH _ _ ?_; clear plH plK; refine done_ (by kernel_rfl) ?_; rw [calm_normal])
  have hk3 := blk_put J3.out i (.int .i64 (mx a (mn b n))) (ints_set _ _ _)
  have e0 : ∀ k, k ≠ 3 → w.heap.size + k ≠ w.heap.size + 3 := fun k hk => by omega
  refine ⟨(KeepsOthers.setCell W _ _).trans (.drew _), ?_, (Below.heap_setCell _ ⟨w.heap.size + 3, i, none⟩ _ _ (e0 0 (by omega))).trans J0.out, (Below.heap_setCell _ ⟨w.heap.size + 3, i, none⟩ _ _ (e0 1 (by omega))).trans J1.out, (Below.heap_setCell _ ⟨w.heap.size + 3, i, none⟩ _ _ (e0 2 (by omega))).trans J2.out, ?_, (JB.out.setCell ⟨w.heap.size + 3, i, none⟩ _ (.inr (by show w.heap.size ≤ w.heap.size + 3; omega))).drew⟩
  ·intro b hb
   simp only [List.mem_cons, List.not_mem_nil, or_false] at hb
   refine (Below.heap_setCell _ _ _ _ (fun e => ?_))
   have e : b = w.heap.size + 3 := e
   rcases hb with rfl | rfl <;> omega
  rw [foldN_snoc, ← HO.out]
  unfold stepN
  rw [← HA.out, ← HB.out]
  exact hk3
 case hdone =>
  intro D W3 hD hJ hK
  obtain ⟨j0, j1, j2, j3, jB⟩ := hJ
  rw [foldN_all lo hi n N h16] at j3
  have hnl : (nearL lo hi N n).length = 16 := padRow_length _ _
  have hS3 := SegOk.mk' j3 0 16 (by simp [ints, hnl])
  have hV3 := seg_whole (n := 16) j3 (by simp [ints, hnl])
  have hS2 := SegOk.mk' j2 0 16 (by simp [ints])
  have J2 := Aside0.mk j2
  have JB := Aside0.mk jB
  have HK := Aside0.mk hK
  clear j0 j1 j2 j3 jB hK hbb hbn
  gi_wp2_with fail
  have hfin := putSeg_block J2.out (l := (ints (nearL lo hi N n)).toList) (by simp [ints, hnl])
  have hD2 : D ≠ w.heap.size + 2 := by omega
  refine leaves_marks [D] _ ⟨fun E hE => by
   obtain rfl := List.mem_singleton.1 hE
   exact (putSeg_other _ _ _ _ _ hD2).trans HK.out, by simp⟩ ?_
  intro W8 hb hc
  have h8 := hc _ _ _ _ hfin
  refine ⟨.agg (ints (nearL lo hi N n)), ?_, rfl, ?_⟩
  ·exact (results_arr1 rfl rfl isAgg16 sizeOf16 (SegOk.mk' h8 0 16 (by simp [ints, hnl]))).trans (by rw [seg_whole (n := 16) h8 (by simp [ints, hnl])])
  exact (putSeg_below _ _ _ _ _ _ (by omega) JB.out.nil).trans (hb.below _ (by rw [putSeg_size]; have := JB.out.size; omega) (fun d hd => by
   obtain rfl := List.mem_singleton.1 hd
   omega))
end Go.Proofs.Ytpkajhmchcbbhaa.P
end
section
namespace Go.Proofs.Ytpkajhmchcbbhaa.P
open Go.RowKit Go.Proofs.YtpkajhmchcbbhaaW.PrintWords Go.Proofs.YtpkajhmchcbbhaaW.PrintLast Go.Proofs.YtpkajhmchcbbhaaW.PrintMore
theorem dot_snoc (w l : List Int) (x : Int) (h : l.length < w.length) : dot w (l ++ [x]) = dot w l + w.getD l.length 0 * x := by
 induction w generalizing l with
 | nil => simp at h
 | cons y w ih =>
  cases l with
  | nil => simp [dot]
  | cons z l =>
   simp only [List.length_cons, Nat.add_lt_add_iff_right] at h
   simp only [List.cons_append, dot, ih l h, List.length_cons, List.getD_cons_succ]
   omega
theorem dot_take (w l : List Int) (k : Nat) (hk : k < l.length) (hw : k < w.length) : dot w (l.take (k + 1)) = dot w (l.take k) + w.getD k 0 * l.getD k 0 := by
 have h := dot_snoc w (l.take k) (l.getD k 0) (by rw [List.length_take]; omega)
 rw [List.length_take, Nat.min_eq_left (by omega)] at h
 rw [← h, List.take_succ_eq_append_getElem hk, List.getD_eq_getElem?_getD, List.getElem?_eq_getElem hk]
 rfl
theorem mul_within {x y : Int} (hx : -100000000 ≤ x ∧ x ≤ 100000000) (hy : -1000000 ≤ y ∧ y ≤ 1000000) : -100000000000000 ≤ x * y ∧ x * y ≤ 100000000000000 := by
 have h1 := Int.mul_le_mul_of_nonneg_left (a := 100000000 - x) (b := 0) (c := 1)
 have a1 : 0 ≤ (100000000 - x) * (1000000 - y) := Int.mul_nonneg (by omega) (by omega)
 have a2 : 0 ≤ (100000000 + x) * (1000000 + y) := Int.mul_nonneg (by omega) (by omega)
 have a3 : 0 ≤ (100000000 - x) * (1000000 + y) := Int.mul_nonneg (by omega) (by omega)
 have a4 : 0 ≤ (100000000 + x) * (1000000 - y) := Int.mul_nonneg (by omega) (by omega)
 simp only [Int.sub_mul, Int.mul_sub, Int.add_mul, Int.mul_add] at a1 a2 a3 a4
 omega
theorem dot_within (w l : List Int) (hw : ∀ x, x ∈ w → -100000000 ≤ x ∧ x ≤ 100000000) (hl : ∀ x, x ∈ l → -1000000 ≤ x ∧ x ≤ 1000000) : -(l.length : Int) * 100000000000000 ≤ dot w l ∧ dot w l ≤ l.length * 100000000000000 := by
 induction w generalizing l with
 | nil => simp only [dot]; omega
 | cons y w ih =>
  cases l with
  | nil => simp [dot]
  | cons z l =>
   have h1 := ih l (fun x hx => hw x (List.mem_cons_of_mem _ hx)) (fun x hx => hl x (List.mem_cons_of_mem _ hx))
   have h2 := mul_within (hw y List.mem_cons_self) (hl z List.mem_cons_self)
   simp only [dot, List.length_cons]
   omega
set_option maxRecDepth 100000 in
set_option maxHeartbeats 1000000 in
theorem sum_calls (W : List Int) (hW : W.length = 16) (hb : ∀ x, x ∈ W → -100000000 ≤ x ∧ x ≤ 100000000) (A : Option Addr) (c : Nat) (l : List Int) (h16 : l.length ≤ 16) (hl : ∀ x, x ∈ l → -1000000 ≤ x ∧ x ≤ 1000000) (w : World)
  (hr : Kd.C (Kd.int .i64) w A l.length l) :
  Calls Try.prog 66 #[.agg (ints W), .slice A l.length c] w fun e w' => e = .returned (.int .i64 (dot W l)) ∧ Below w.heap.size w w' := by
 have HR := Aside0.mk hr
 have HB := Aside0.mk hb
 have HL := Aside0.mk hl
 have HW := Lib.hid hW
 have hu5 := Try.underlying97
 clear hr hb hl hW
 go_enter Try.func66, Try.ntmps66
 go_wp2_with fail
 obtain ⟨W1, hW1⟩ : ∃ W1, w.alloc (.cells (ints W) 97) = W1 := ⟨_, rfl⟩
 have hB1 : Below w.heap.size w W1 := by rw [← hW1]; exact (Below.refl _ _).alloc (Nat.le_refl _) _
 have HK : Aside0 (W1.heap[w.heap.size]? = some (.cells (ints W) 97 (0, 0))) := ⟨by rw [← hW1]; exact blk_new _ _⟩
 have HB1 := Aside0.mk hB1
 try rw [hW1]
 clear hW1 hB1
 go_loop [5, 10] (fun v5 v10 => ∃ k : Nat, k ≤ l.length ∧ v10 = .int .i64 k ∧ v5 = .int .i64 (dot W (l.take k))) (fun _ v10 => l.length - (intOf v10).toNat)
 case atStart => exact ⟨0, Nat.zero_le _, rfl, by cases W <;> simp [dot]⟩
 case round =>
  obtain ⟨k, hk, rfl, rfl⟩ := hrel
  by_cases hlt : k < l.length
  ·have hc := HR.out
   obtain ⟨ad, rfl, _⟩ := hc.2.2 (by omega)
   have hcell := pw_cell_below HB1.out (Kd.foot_int hc (k : Int) (by omega) (by omega))
   rw [Int.toNat_natCast] at hcell
   clear hc
   have hz := (blk_cell HK.out k).trans (ints_getD W k (by rw [HW.out]; omega))
   have hsn := dot_take W l k hlt (by rw [HW.out]; omega)
   have hbd := dot_within W (l.take k) HB.out (fun x hx => HL.out x (List.mem_of_mem_take hx))
   rw [List.length_take, Nat.min_eq_left hk] at hbd
   have e1 : rd l k = l.getD k 0 := by simp [rd]
   rw [e1] at hcell
   have hm1 : W.getD k 0 ∈ W := by
    rw [List.getD_eq_getElem?_getD, List.getElem?_eq_getElem (by rw [HW.out]; omega)]; exact List.getElem_mem _
   have hm2 : l.getD k 0 ∈ l := by
    rw [List.getD_eq_getElem?_getD, List.getElem?_eq_getElem hlt]; exact List.getElem_mem _
   have hmb := mul_within (HB.out _ hm1) (HL.out _ hm2)
   obtain ⟨x, hx⟩ : ∃ x, x = W.getD k 0 := ⟨_, rfl⟩
   obtain ⟨y, hy⟩ : ∃ y, y = l.getD k 0 := ⟨_, rfl⟩
   obtain ⟨s, hs⟩ : ∃ s, s = dot W (l.take k) := ⟨_, rfl⟩
   rw [← hx] at hz hsn hmb
   rw [← hy] at hcell hsn hmb
   rw [← hs] at hsn hbd ⊢
   have HSN := Lib.hid hsn
   clear hm1 hm2 hx hy hs e1 hsn
   obtain ⟨b1, b2⟩ := hbd
   obtain ⟨b3, b4⟩ := hmb
   have k16 : k < 16 := by omega
   have b5 : -1700000000000000 ≤ s := by omega
   have b6 : s ≤ 1700000000000000 := by omega
   clear b1 b2
   go_wp2
   go_round
   case rel => exact ⟨k + 1, by omega, by go_num, by rw [HSN.out]⟩
   case measure => simp [intOf]; omega
  have hd : decide (k < l.length) = false := by simpa using hlt
  obtain rfl : k = l.length := by omega
  go_wp2
  go_ret
  exact ⟨ret_int (by first | rfl | rw [List.take_of_length_le (Nat.le_refl _)]), HB1.out⟩
end Go.Proofs.Ytpkajhmchcbbhaa.P
end
section
namespace Go.Proofs.Ytpkajhmchcbbhaa.P
open Go.RowKit Go.Proofs.YtpkajhmchcbbhaaW.PrintWords Go.Proofs.YtpkajhmchcbbhaaW.PrintLast Go.Proofs.YtpkajhmchcbbhaaW.PrintMore
theorem gcdT_zero (a : Int) : gcdT a 0 = a := by rw [gcdT]; simp
theorem gcdT_step (a b : Int) (h : b ≠ 0) : gcdT a b = gcdT b (a.tmod b) := by rw [gcdT, dif_neg h]
theorem tmod_abs (a b : Int) (h : b ≠ 0) : (a.tmod b).natAbs < b.natAbs := by
 rw [Int.natAbs_tmod]; exact Nat.mod_lt _ (by omega)
theorem tmod_in (a b : Int) (hb : -4611686018427387904 ≤ b ∧ b ≤ 4611686018427387904) (h : b ≠ 0) : -4611686018427387904 ≤ a.tmod b ∧ a.tmod b ≤ 4611686018427387904 := by
 have := tmod_abs a b h
 omega
theorem gcdT_ne (a b : Int) (h : a ≠ 0 ∨ b ≠ 0) : gcdT a b ≠ 0 := by
 have key : ∀ n (a b : Int), b.natAbs < n → (a ≠ 0 ∨ b ≠ 0) → gcdT a b ≠ 0 := by
  intro n
  induction n with
  | zero => intro a b h; omega
  | succ n ih =>
   intro a b hn h
   by_cases hb : b = 0
   ·subst hb; rw [gcdT_zero]; simpa using h
   rw [gcdT_step a b hb]
   have := tmod_abs a b hb
   exact ih b _ (by omega) (.inl hb)
 exact key _ a b (Nat.lt_succ_self _) h
theorem common_some (n : Nat) : ∀ (k : Nat) (a b : Int), b.natAbs < n → n ≤ k → -4611686018427387904 ≤ b ∧ b ≤ 4611686018427387904 → chart_common_int64.l0 k a b = some (gcdT a b) := by
 induction n with
 | zero => intro k a b h; omega
 | succ n ih =>
  intro k a b hn hk hb
  obtain ⟨k, rfl⟩ : ∃ m, k = m + 1 := ⟨k - 1, by omega⟩
  simp only [chart_common_int64.l0]
  by_cases h : b = 0
  ·subst h; simp [gcdT_zero]
  have h1 := tmod_abs a b h
  have h2 := tmod_in a b hb h
  rw [gcdT_step a b h]
  rw [if_neg h]
  exact ih k b _ (by omega) (by omega) h2
theorem tdiv_in (a b : Int) (ha : -4611686018427387904 ≤ a ∧ a ≤ 4611686018427387904) : wrap64 (a.tdiv b) = a.tdiv b := by
 have h2 : (a.tdiv b).natAbs ≤ a.natAbs := by rw [Int.natAbs_tdiv]; exact Nat.div_le_self a.natAbs b.natAbs
 unfold wrap64
 omega
theorem least_some (num den : Int) (hn : -4611686018427387904 ≤ num ∧ num ≤ 4611686018427387904) (hd : -4611686018427387904 ≤ den ∧ den ≤ 4611686018427387904) (h0 : den ≠ 0) : ∃ k, chart_least.f k num den = some (leastN num den, leastD num den) := by
 refine ⟨den.natAbs + 1, ?_⟩
 unfold chart_least.f chart_common_int64.f
 rw [common_some (den.natAbs + 1) _ _ _ (by omega) (Nat.le_refl _) hd]
 simp only [Option.bind_some]
 rw [if_neg (gcdT_ne num den (.inr h0)), tdiv_in _ _ hn, tdiv_in _ _ hd]
 rfl
theorem least_calls (num den : Int) (hn : -4611686018427387904 ≤ num ∧ num ≤ 4611686018427387904) (hd : -4611686018427387904 ≤ den ∧ den ≤ 4611686018427387904) (h0 : den ≠ 0) (w : World) :
  Calls Try.prog 65 #[.int .i64 num, .int .i64 den] w fun e w' => e = .returned (.agg #[.int .i64 (leastN num den), .int .i64 (leastD num den)]) ∧ Below w.heap.size w w' := by
 obtain ⟨k, hk⟩ := least_some num den hn hd h0
 exact chart_least.calls k num den _ _ w hk
end Go.Proofs.Ytpkajhmchcbbhaa.P
end
section
namespace Go.Proofs.Ytpkajhmchcbbhaa.P
open Go.RowKit Go.Proofs.YtpkajhmchcbbhaaW.PrintWords Go.Proofs.YtpkajhmchcbbhaaW.PrintLast Go.Proofs.YtpkajhmchcbbhaaW.PrintMore
attribute [local go_sem] max2_mx min2_mn max_two min_two
set_option maxRecDepth 100000 in
set_option maxHeartbeats 4000000 in
theorem truly_calls (g : Nat) (A : Option Addr) (c : Nat) (l : List SRow) (p : Int) (lo hi : List Int) (dip : Int) (w : World) (hr : Kd.C kRow w A l.length l) (hD : DipOk l) (hd0 : -100000 ≤ dip) (hd1 : dip ≤ 100000) (hp0 : 0 ≤ p) (hp1 : p ≤ 50)
  (hg : Gauge w g A l.length c p lo hi) :
  Calls Try.prog 82 #[.pointer (some ⟨g, 0, none⟩), .int .i64 dip] w fun e w' => e = .returned (.agg #[.int .i64 (trueLo l p dip), .int .i64 (trueHi l p dip)]) ∧ Below w.heap.size w w' := by
 have HR := Aside0.mk hr
 have hc0 := hg.c0
 have hc1 := hg.c1
 have hgl := hg.lt
 have n2 := hD.n2
 have n16 := hD.n16
 clear hg hr hD
 have hu1 := Try.underlying24
 have hu2 := Try.underlying70
 have hu3 := Try.underlying99
 have hu4 := Try.underlying43
 obtain ⟨ad, rfl, d0, x1, x2⟩ := row_cells HR.out 0 (by omega)
 obtain ⟨ad', had, d1, x3, x4⟩ := row_cells HR.out (l.length - 1) (by omega)
 obtain rfl := Option.some.inj had
 clear had x1 x2 x3 x4
 have i0 : (0 : Int) < l.length := by omega
 have i2 : ((l.length : Int) - 1).toNat = l.length - 1 := by omega
 have i3 : (l.length : Int) - 1 < l.length := by omega
 have i4 : (0 : Int) ≤ (l.length : Int) - 1 := by omega
 have i5 : (1 : Int) ≤ (l.length : Int) := by omega
 obtain ⟨a, ha⟩ : ∃ a, a = (l.getD 0 zRow).f0 := ⟨_, rfl⟩
 obtain ⟨b, hb⟩ : ∃ b, b = (l.getD (l.length - 1) zRow).f0 := ⟨_, rfl⟩
 rw [← ha] at d0
 rw [← hb] at d1
 replace d0 : w.cell? ad = some (.int .i64 a) := by rw [Nat.zero_mul, addr_add0] at d0; exact d0
 have H1 := Lib.hid (show trueLo l p dip = mx a (dip - p) by rw [ha]; rfl)
 have H2 := Lib.hid (show trueHi l p dip = mn b (dip + p) by rw [hb]; rfl)
 clear ha hb
 go_enter Try.func82, Try.ntmps82
 go_wp2_with fail
 obtain ⟨W1, hW1⟩ : ∃ W1, w.alloc (.cells #[.int .i64 0, .int .i64 0] 43) = W1 := ⟨_, rfl⟩
 have hB1 : Below w.heap.size w W1 := by rw [← hW1]; exact (Below.refl _ _).alloc (Nat.le_refl _) _
 have HK : Aside0 (W1.heap[w.heap.size]? = some (.cells #[.int .i64 0, .int .i64 0] 43 (0, 0))) := ⟨by rw [← hW1]; exact blk_new _ _⟩
 rw [hW1]
 replace d0 := pw_cell_below hB1 d0
 replace d1 := pw_cell_below hB1 d1
 replace hc0 := pw_cell_below hB1 hc0
 replace hc1 := pw_cell_below hB1 hc1
 have hk0 := blk_cell HK.out 0
 have hk1 := blk_cell HK.out 1
 have hkf0 := blk_frozen HK.out 0
 have hkf1 := blk_frozen HK.out 1
 have HB1 := Aside0.mk hB1
 clear hW1 hB1
 (refine start_ (n := 41) (S := fun w' => w' = _) (ds := [40]) (List.toArray (false :: false :: false :: false :: false :: false :: false :: false :: false :: false :: false :: false :: false :: false :: false :: false :: false :: false :: false :: false :: false :: false :: false :: false :: false :: false :: false :: false :: false :: false :: false :: false :: false :: false :: false :: false :: false :: false :: false :: false :: false :: [])) (by kernel_rfl) rfl rfl rfl (fun plS => ?_); clear plS; refine pureY (i := 0) (N := (some 5)) ?_; refine pureY (i := 1) (N := (some 6)) ?_; refine pureY (i := 2) (N := (some 7)) ?_; refine pureY (i := 3) (N := (some 8)) ?_; refine pureY (i := 8) (N := (some 13)) ?_; refine pureY (i := 9) (N := (some 14)) ?_; refine pureY (i := 10) (N := (some 15)) ?_; refine pureY (i := 11) (N := (some 16)) ?_; refine pureY (i := 12) (N := (some 17)) ?_; refine pureY (i := 16) (N := (some 21)) ?_; refine pureY (i := 17) (N := (some 22)) ?_; refine pureY (i := 18) (N := (some 23)) ?_; refine pureY (i := 19) (N := (some 24)) ?_; refine pureY (i := 21) (N := (some 26)) ?_; refine pureY (i := 22) (N := (some 27)) ?_; refine pureY (i := 23) (N := (some 28)) ?_; refine pureY (i := 24) (N := (some 29)) ?_; refine pureY (i := 31) (N := (some 36)) ?_; refine pureY (i := 32) (N := (some 37)) ?_; refine pureY (i := 33) (N := (some 38)) ?_; refine pureY (i := 34) (N := (some 39)) ?_; refine pureY (i := 35) (N := (some 40)) ?_; refine takeE (i := 4) (N := (some 9)) ?_; refine pureY (i := 5) (N := (some 10)) ?_; refine pureY (i := 6) (N := (some 11)) ?_; refine takeE (i := 7) (N := (some 12)) ?_; refine takeE (i := 13) (N := (some 18)) ?_; refine pureY (i := 14) (N := (some 19)) ?_; refine pureY (i := 15) (N := (some 20)) ?_; refine takeE (i := 20) (N := (some 25)) ?_; refine takeE (i := 25) (N := (some 30)) ?_; refine pureY (i := 26) (N := (some 31)) ?_; refine pureY (i := 27) (N := (some 32)) ?_; refine pureY (i := 28) (N := (some 33)) ?_; refine pureY (i := 29) (N := (some 34)) ?_; refine takeE (i := 30) (N := (some 35)) ?_; refine takeE (i := 36) (N := (some 41)) ?_; refine pureY (i := 37) (N := (some 42)) ?_; refine pureY (i := 38) (N := (some 43)) ?_; refine pureY (i := 39) (N := (some 44)) ?_; refine lastY (i := 40) (fun plK plH => ?_); rw [if_pos (by rfl)]; (first | gi_big_move | go_big_op | go_simp))
 ((try simp only [Act.put, List.getElem_toArray, List.getElem_cons_succ, List.getElem_cons_zero, List.setIfInBounds_toArray, List.set_cons_succ, List.set_cons_zero]); refine plH _ _ ?_; clear plH plK; refine done_ (by kernel_rfl) ?_)
 go_wp2
 have hfin := blk_put (blk_put HK.out 0 (.int .i64 (mx a (dip - p))) rfl) 1 (.int .i64 (mn b (dip + p))) rfl
 refine bodyPost_ret (results_arr1 rfl rfl isAggR sizeOfR (SegOk.mk' hfin 0 2 (by simp))) rfl ⟨?_, ?_⟩
 ·rw [seg_drew, seg_whole (n := 2) hfin rfl, H1.out, H2.out]
  rfl
 exact ((HB1.out.setCell (p := ⟨w.heap.size, 0, none⟩) (Nat.le_refl _) _).setCell (p := ⟨w.heap.size, 1, none⟩) (Nat.le_refl _) _).drew
end Go.Proofs.Ytpkajhmchcbbhaa.P
end
