/- Part 25 of 51. -/
import Derived.Test.YtpkajhmchcbbhaaD24
import Derived.Test.YtpkajhmchcbbhaaD23
import Derived.Test.YtpkajhmchcbbhaaD19
import Derived.Test.YtpkajhmchcbbhaaD20
import Derived.Test.YtpkajhmchcbbhaaD12
set_option linter.unusedSimpArgs false
set_option linter.unusedVariables false
section
namespace Go.Proofs.Ytpkajhmchcbbhaa.P
open Go.RowKit Go.Proofs.YtpkajhmchcbbhaaW.PrintWords Go.Proofs.YtpkajhmchcbbhaaW.PrintLast Go.Proofs.YtpkajhmchcbbhaaW.PrintMore
attribute [local go_sem ↓] exec_load97 exec_store97 sem_load97 sem_store97
attribute [local go_sem] load97_at store97_at SegOk_alloc seg_alloc SegOk_drew seg_drew SegOk_drewN seg_drewN ints_size Ones_ints store97_new store97_newD
theorem DipOk.pos {l : List SRow} (h : DipOk l) (dip : Int) : 1 ≤ pos l dip ∧ pos l dip < l.length := by
 have key : ∀ f i, 1 ≤ i → i < l.length → 1 ≤ posA l dip f i ∧ posA l dip f i < l.length := by
  intro f
  induction f with
  | zero => intro i h1 h2; exact ⟨h1, h2⟩
  | succ f ih =>
   intro i h1 h2
   unfold posA
   split
   ·rename_i hc; exact ih (i + 1) (by omega) (by omega)
   exact ⟨h1, h2⟩
 exact key _ 1 (Nat.le_refl _) (by have := h.n2; omega)
theorem wts_get {l : List SRow} (h : DipOk l) (dip : Int) (i : Nat) (hi : i < 16) : (wts l dip).getD i 0 = if i = pos l dip then dip - dipN l (pos l dip - 1) else if i = pos l dip - 1 then dipN l (pos l dip) - dip else 0 := by
 have hp := h.pos dip
 have h16 := h.n16
 unfold wts
 simp only [List.getD_eq_getElem?_getD, List.getElem?_set, List.length_set, List.length_replicate, List.getElem?_replicate]
 by_cases h1 : i = pos l dip
 ·subst h1; simp [hi]
 by_cases h2 : i = pos l dip - 1
 ·have h3 : pos l dip ≠ i := fun e => h1 e.symm
  rw [if_neg h1, if_pos h2, if_neg h3, if_pos h2.symm, if_pos (by omega)]; rfl
 have h3 : pos l dip ≠ i := fun e => h1 e.symm
 have h4 : pos l dip - 1 ≠ i := fun e => h2 e.symm
 rw [if_neg h1, if_neg h2, if_neg h3, if_neg h4, if_pos hi]; rfl
theorem wts_within {l : List SRow} (h : DipOk l) (dip : Int) (h0 : 0 ≤ dip) (h1 : dip ≤ 4000) (i : Nat) (hi : i < 16) : -4000 ≤ (wts l dip).getD i 0 ∧ (wts l dip).getD i 0 ≤ 4000 := by
 have hp := h.pos dip
 have a1 := h.lo (pos l dip) hp.2
 have a2 := h.hi (pos l dip) hp.2
 have a3 := h.lo (pos l dip - 1) (by omega)
 have a4 := h.hi (pos l dip - 1) (by omega)
 rw [wts_get h dip i hi]
 split
 ·omega
 split <;> omega
theorem wden_within {l : List SRow} (h : DipOk l) (dip : Int) : -4000 ≤ wden l dip ∧ wden l dip ≤ 4000 := by
 have hp := h.pos dip
 have a1 := h.lo (pos l dip) hp.2
 have a2 := h.hi (pos l dip) hp.2
 have a3 := h.lo (pos l dip - 1) (by omega)
 have a4 := h.hi (pos l dip - 1) (by omega)
 unfold wden
 omega
theorem mul_4000 {x y : Int} (hx : -4000 ≤ x ∧ x ≤ 4000) (hy : -4000 ≤ y ∧ y ≤ 4000) : -16000000 ≤ x * y ∧ x * y ≤ 16000000 := by
 have a1 : 0 ≤ (4000 - x) * (4000 - y) := Int.mul_nonneg (by omega) (by omega)
 have a2 : 0 ≤ (4000 + x) * (4000 + y) := Int.mul_nonneg (by omega) (by omega)
 have a3 : 0 ≤ (4000 - x) * (4000 + y) := Int.mul_nonneg (by omega) (by omega)
 have a4 : 0 ≤ (4000 + x) * (4000 - y) := Int.mul_nonneg (by omega) (by omega)
 simp only [Int.sub_mul, Int.mul_sub, Int.add_mul, Int.mul_add] at a1 a2 a3 a4
 omega
def bw (x y : List Int) (a b : Int) (k : Nat) : List Int := (List.range 16).map fun i => if i < k then y.getD i 0 * a - x.getD i 0 * b else y.getD i 0
theorem bw_length (x y : List Int) (a b : Int) (k : Nat) : (bw x y a b k).length = 16 := by simp [bw]
theorem bw_get (x y : List Int) (a b : Int) (k i : Nat) (hi : i < 16) : (bw x y a b k).getD i 0 = if i < k then y.getD i 0 * a - x.getD i 0 * b else y.getD i 0 := by
 simp [bw, List.getD_eq_getElem?_getD, hi]
theorem bw_set (x y : List Int) (a b : Int) (k : Nat) (_hk : k < 16) : (bw x y a b k).set k (y.getD k 0 * a - x.getD k 0 * b) = bw x y a b (k + 1) := by
 apply List.ext_getElem
 ·simp [bw]
 intro i h1 h2
 simp only [List.getElem_set, bw, List.getElem_map, List.getElem_range]
 by_cases e : k = i
 ·subst e; simp
 rw [if_neg e]
 by_cases h : i < k
 ·rw [if_pos h, if_pos (by omega)]
 rw [if_neg h, if_neg (by omega)]
theorem bw_start (x y : List Int) (a b : Int) (hy : y.length = 16) : bw x y a b 0 = y := by
 apply List.ext_getElem
 ·simp [bw, hy]
 intro i h1 h2
 simp [bw, List.getD_eq_getElem?_getD, h2]
theorem bw_end (l : List SRow) (d0 d1 : Int) : bw (wts l d0) (wts l d1) (wden l d0) (wden l d1) 16 = bwts l d0 d1 := by
 apply List.ext_getElem
 ·simp [bw, bwts, wts_length]
 intro i h1 h2
 have h16 : i < 16 := by simpa [bw] using h1
 have e0 : i < (wts l d0).length := by rw [wts_length]; exact h16
 have e1 : i < (wts l d1).length := by rw [wts_length]; exact h16
 simp [bw, bwts, List.getD_eq_getElem?_getD, h16, e0, e1]
set_option maxRecDepth 100000 in
set_option maxHeartbeats 4000000 in
theorem between_calls (g : Nat) (A : Option Addr) (c : Nat) (l : List SRow) (p : Int) (lo hi : List Int) (d0 d1 : Int) (w : World) (hr : Kd.C kRow w A l.length l) (hD : DipOk l) (h0 : 0 ≤ d0) (h1 : d0 ≤ 4000) (h2 : 0 ≤ d1) (h3 : d1 ≤ 4000)
  (hg : Gauge w g A l.length c p lo hi) :
  Calls Try.prog 86 #[.pointer (some ⟨g, 0, none⟩), .agg #[.int .i64 d0, .int .i64 d1]] w fun e w' => e = .returned (.tuple #[.agg (ints (bwts l d0 d1)), .int .i64 (bden l d0 d1)]) ∧ Below w.heap.size w w' := by
 have HR := Aside0.mk hr
 have HG := Aside0.mk hg
 have HDD := Aside0.mk hD
 have hgl := hg.lt
 clear hr hg hD
 have hu5 := Try.underlying97
 have hu6 := Try.underlying51
 have hW0 := wts_length l d0
 have hW1 := wts_length l d1
 go_enter Try.func86, Try.ntmps86
 go_wp2_with fail
 obtain ⟨V0, hV0⟩ : ∃ V, (w.alloc (.cells #[.int .i64 d0, .int .i64 d1] 51)).alloc (.cells (ints (List.replicate 16 0)) 97) = V := ⟨_, rfl⟩
 have hBa : Below w.heap.size w V0 := by rw [← hV0]; exact ((Below.refl _ _).alloc (Nat.le_refl _) _).alloc (by simp) _
 have hs0 : V0.heap.size = w.heap.size + 2 := by rw [← hV0]; simp
 have k0 : V0.heap[w.heap.size]? = some (.cells #[.int .i64 d0, .int .i64 d1] 51 (0, 0)) := by rw [← hV0]; exact blk_old (blk_new _ _)
 have k1 : V0.heap[w.heap.size + 1]? = some (.cells (ints (List.replicate 16 0)) 97 (0, 0)) := by rw [← hV0]; exact blk_new' (by simp)
 refine (weigh_calls g A c l p lo hi d0 _ (Kd.C_below HR.out (by rw [← hV0] at hBa; exact hBa)) HDD.out (by omega) (by omega) (HG.out.below (by rw [← hV0] at hBa; exact hBa))).mono ?_
 rintro e w1 ⟨rfl, hB1⟩
 have hB1' : Below V0.heap.size V0 w1 := by rw [← hV0]; exact hB1
 have m0 := below_blk hB1' k0 (by omega)
 have m1 := below_blk hB1' k1 (by omega)
 have hBb := below_then hBa hB1'
 have hs1 : w.heap.size + 2 ≤ w1.heap.size := by have := hB1'.size; omega
 have M0 := Aside0.mk m0
 have M1 := Aside0.mk m1
 have HBb := Aside0.mk hBb
 have hd1 : w1.cell? ⟨w.heap.size, 1, none⟩ = some (.int .i64 d1) := blk_cell m0 1
 have hlt1 : w.heap.size < w1.heap.size := by omega
 clear hV0 k0 k1 hBa hB1 hB1' hs0 m0 m1 hBb V0
 go_wp2_with fail
 have hBc := HBb.out.alloc HBb.out.size (.cells (ints (wts l d0)) 97)
 refine (weigh_calls g A c l p lo hi d1 _ (Kd.C_below HR.out hBc) HDD.out (by omega) (by omega) (HG.out.below hBc)).mono ?_
 rintro e w2 ⟨rfl, hB2⟩
 have M1b : Aside0 (w2.heap[w.heap.size + 1]? = some (.cells (ints (List.replicate 16 0)) 97 (0, 0))) := ⟨below_blk hB2 (blk_old M1.out) (by simp; omega)⟩
 have M2 : Aside0 (w2.heap[w1.heap.size]? = some (.cells (ints (wts l d0)) 97 (0, 0))) := ⟨below_blk hB2 (blk_new _ _) (by simp)⟩
 have HB2 : Aside0 (Below w.heap.size w w2) := ⟨below_then hBc hB2⟩
 have hs2 : w1.heap.size + 1 ≤ w2.heap.size := by have := hB2.size; simpa using this
 obtain ⟨gw, hgw⟩ : ∃ gw, gw = w1.heap.size := ⟨_, rfl⟩
 rw [← hgw] at M2 hs2 ⊢
 have hgw2 : w.heap.size + 2 ≤ gw := by omega
 clear hBc hB2 HBb M0 M1 hd1 hs1 hgw hlt1
 go_wp2_with fail
 obtain ⟨V0, hV0⟩ : ∃ V, w2.alloc (.cells (ints (wts l d1)) 97) = V := ⟨_, rfl⟩
 have N1 : Aside0 (V0.heap[w.heap.size + 1]? = some (.cells (ints (List.replicate 16 0)) 97 (0, 0))) := ⟨by rw [← hV0]; exact blk_old M1b.out⟩
 have N2 : Aside0 (V0.heap[gw]? = some (.cells (ints (wts l d0)) 97 (0, 0))) := ⟨by rw [← hV0]; exact blk_old M2.out⟩
 have N3 : Aside0 (V0.heap[w2.heap.size]? = some (.cells (ints (wts l d1)) 97 (0, 0))) := ⟨by rw [← hV0]; exact blk_new _ _⟩
 have NB : Aside0 (Below w.heap.size w V0) := ⟨by rw [← hV0]; exact HB2.out.alloc HB2.out.size _⟩
 try rw [hV0]
 obtain ⟨gl, hgl2⟩ : ∃ gl, gl = w2.heap.size := ⟨_, rfl⟩
 rw [← hgl2] at N3 hs2 ⊢
 clear hV0 M1b M2 HB2 hgl2 w1 w2
 have hwd0 := wden_within HDD.out d0
 have hwd1 := wden_within HDD.out d1
 have hwt0 := fun i (hi : i < 16) => wts_within HDD.out d0 h0 h1 i hi
 have hwt1 := fun i (hi : i < 16) => wts_within HDD.out d1 h2 h3 i hi
 have HBD := Lib.hid (show bden l d0 d1 = wden l d0 * wden l d1 from rfl)
 have HBE := Lib.hid (bw_end l d0 d1)
 have HBS := Lib.hid (bw_start (wts l d0) (wts l d1) (wden l d0) (wden l d1) hW1)
 obtain ⟨x, hx⟩ : ∃ x, x = wts l d0 := ⟨_, rfl⟩
 obtain ⟨y, hy⟩ : ∃ y, y = wts l d1 := ⟨_, rfl⟩
 obtain ⟨a, ha⟩ : ∃ a, a = wden l d0 := ⟨_, rfl⟩
 obtain ⟨b, hb⟩ : ∃ b, b = wden l d1 := ⟨_, rfl⟩
 rw [← hx, ← hy, ← ha, ← hb] at HBE HBS
 rw [← ha, ← hb] at HBD
 rw [← hx] at N2 hwt0 hW0
 rw [← hy] at N3 hwt1 hW1
 rw [← ha] at hwd0
 rw [← hb] at hwd1
 try simp only [← hx, ← hy, ← ha, ← hb]
 have HT0 := Aside0.mk hwt0
 have HT1 := Aside0.mk hwt1
 obtain ⟨q1, q2⟩ := hwd0
 obtain ⟨q3, q4⟩ := hwd1
 clear hx hy ha hb hwt0 hwt1
 go_loopw [25] (fun v25 w' => ∃ k : Nat, k ≤ 16 ∧ v25 = .int .i64 k ∧ w'.heap[w.heap.size + 1]? = some (.cells (ints (List.replicate 16 0)) 97 (0, 0)) ∧ w'.heap[gw]? = some (.cells (ints x) 97 (0, 0)) ∧
  w'.heap[gl]? = some (.cells (ints (bw x y a b k)) 97 (0, 0)) ∧ Below w.heap.size w w') (fun v25 _ => 16 - (intOf v25).toNat)
 case atStart => exact ⟨0, Nat.zero_le _, rfl, N1.out, N2.out, by rw [HBS.out]; exact N3.out, NB.out⟩
 case round =>
  obtain ⟨k, hk, rfl, p1, p2, p3, hB⟩ := hrel
  have P1 := Aside0.mk p1
  have P2 := Aside0.mk p2
  have P3 := Aside0.mk p3
  have HB := Aside0.mk hB
  clear p1 p2 p3 hB N1 N2 N3 NB
  by_cases hlt : k < 16
  ·have c1 := (blk_cell P2.out k).trans (ints_getD x k (by omega))
   have c2 := (blk_cell P3.out k).trans (ints_getD _ k (by rw [bw_length]; exact hlt))
   rw [bw_get _ _ _ _ _ _ hlt, if_neg (Nat.lt_irrefl k)] at c2
   have f2 := blk_frozen P3.out k
   obtain ⟨t1, t2⟩ := HT0.out k hlt
   obtain ⟨t3, t4⟩ := HT1.out k hlt
   have HST := Lib.hid (bw_set x y a b k hlt)
   obtain ⟨u, hu⟩ : ∃ u, u = x.getD k 0 := ⟨_, rfl⟩
   obtain ⟨v, hv⟩ : ∃ v, v = y.getD k 0 := ⟨_, rfl⟩
   rw [← hu] at c1 t1 t2 HST
   rw [← hv] at c2 t3 t4 HST
   clear hu hv
   obtain ⟨s1, s2⟩ := mul_4000 (x := v) (y := a) ⟨t3, t4⟩ ⟨q1, q2⟩
   obtain ⟨s3, s4⟩ := mul_4000 (x := u) (y := b) ⟨t1, t2⟩ ⟨q3, q4⟩
   have k1 : (k : Int) < 16 := by omega
   go_wp2_with fail
   (refine start_ (n := 14) (S := fun w' => w' = _) (ds := [13]) (List.toArray (false :: false :: false :: false :: false :: false :: false :: false :: false :: false :: false :: false :: false :: false :: [])) (by kernel_rfl) rfl rfl rfl (fun plS => ?_); clear plS; refine pureY (i := 0) (N := (some 28)) ?_; refine pureY (i := 1) (N := (some 29)) ?_; refine pureY (i := 2) (N := (some 30)) ?_; refine pureY (i := 4) (N := (some 32)) ?_; refine pureY (i := 6) (N := (some 34)) ?_; refine pureY (i := 7) (N := (some 35)) ?_; refine pureY (i := 9) (N := (some 37)) ?_; refine takeE (i := 3) (N := (some 31)) ?_; refine pureY (i := 5) (N := (some 33)) ?_; refine takeE (i := 8) (N := (some 36)) ?_; refine pureY (i := 10) (N := (some 38)) ?_; refine pureY (i := 11) (N := (some 39)) ?_; refine pureY (i := 12) (N := (some 40)) ?_; refine lastY (i := 13) (fun plK plH => ?_); rw [if_pos (by rfl)]; (first | gi_big_move | go_big_op | go_simp))
   ((try simp only [Act.put, List.getElem_toArray, List.getElem_cons_succ, List.getElem_cons_zero, List.setIfInBounds_toArray, List.set_cons_succ, List.set_cons_zero]); refine plH _ _ ?_; clear plH plK; refine done_ (by kernel_rfl) ?_)
   go_wp2
   go_roundw
   case rel =>
    have hb3 := blk_put P3.out k (.int .i64 (v * a - u * b)) (ints_set _ _ _)
    rw [HST.out] at hb3
    have hne1 : w.heap.size + 1 ≠ gl := by omega
    have hne2 : gw ≠ gl := by omega
    exact ⟨k + 1, by omega, by go_num, (Below.heap_setCell _ ⟨gl, k, none⟩ _ _ hne1).trans P1.out, (Below.heap_setCell _ ⟨gl, k, none⟩ _ _ hne2).trans P2.out, hb3, (HB.out.setCell (p := ⟨gl, k, none⟩) (by show w.heap.size ≤ gl; omega) _).drew⟩
   case measure => simp [intOf]; omega
  obtain rfl : k = 16 := by omega
  have hS3 := SegOk.mk' P3.out 0 16 (by simp [ints, bw_length])
  have hV3 := seg_whole (n := 16) P3.out (by simp [ints, bw_length])
  have hS1 := SegOk.mk' P1.out 0 16 (by simp [ints])
  rw [HBE.out] at hV3
  have hbl : (bwts l d0 d1).length = 16 := by rw [← HBE.out]; exact bw_length _ _ _ _ _
  obtain ⟨s1, s2⟩ := mul_4000 (x := a) (y := b) ⟨q1, q2⟩ ⟨q3, q4⟩
  go_wp2_with fail
  skip
  go_wp2
  have hfin := putSeg_block P1.out (l := (ints (bwts l d0 d1)).toList) (by simp [ints, hbl])
  refine bodyPost_ret (results_arr2 rfl rfl isAgg16 sizeOf16 (SegOk.mk' hfin 0 16 (by simp [ints, hbl]))) rfl ⟨?_, ?_⟩
  ·rw [seg_whole (n := 16) hfin (by simp [ints, hbl]), HBD.out]
   simp
  exact putSeg_below _ _ _ _ _ _ (by omega) HB.out
end Go.Proofs.Ytpkajhmchcbbhaa.P
end
section
namespace Go.Proofs.Ytpkajhmchcbbhaa.P
open Go.RowKit Go.Proofs.YtpkajhmchcbbhaaW.PrintWords Go.Proofs.YtpkajhmchcbbhaaW.PrintLast Go.Proofs.YtpkajhmchcbbhaaW.PrintMore
theorem inB_iff (lo hi n : Int) : inB lo hi n = true ↔ lo ≤ n ∧ n ≤ hi := by
 unfold inB
 by_cases h1 : n < lo <;> by_cases h2 : hi < n <;> simp [h1, h2] <;> omega
structure TankOk (l : List SRow) (p : Int) : Prop where
 n2 : 2 ≤ l.length
 n16 : l.length ≤ 16
 d0 : 0 ≤ dipN l 0
 up : ∀ i, i + 1 < l.length → dipN l i < dipN l (i + 1)
 top : ∀ i, i < l.length → dipN l i ≤ 4000
 lit : ∀ i, i < l.length → 0 ≤ loR l i ∧ loR l i ≤ hiR l i ∧ hiR l i ≤ 100000
 p0 : 0 ≤ p
 p1 : p ≤ 50
theorem dipsOk_spec (l : List SRow) : ∀ (last : Int), dipsOk last l = true → (∀ i, i < l.length → last < dipN l i ∧ dipN l i ≤ 4000) ∧ (∀ i, i + 1 < l.length → dipN l i < dipN l (i + 1)) := by
 induction l with
 | nil => intro last _; exact ⟨fun i hi => by simp at hi, fun i hi => by simp at hi⟩
 | cons r l ih =>
  intro last h
  simp only [dipsOk, Bool.and_eq_true, Bool.not_eq_true', Bool.or_eq_false_iff, decide_eq_false_iff_not, Int.not_le, Int.not_lt] at h
  obtain ⟨⟨h1, h2⟩, h3⟩ := h
  obtain ⟨i1, i2⟩ := ih _ h3
  constructor
  ·intro i hi
   cases i with
   | zero => exact ⟨h1, h2⟩
   | succ i =>
    have := i1 i (by simpa using hi)
    have e : dipN (r :: l) (i + 1) = dipN l i := rfl
    rw [e]
    exact ⟨by omega, this.2⟩
  intro i hi
  cases i with
  | zero =>
   have := i1 0 (by simpa using hi)
   exact this.1
  | succ i => exact i2 i (by simpa using hi)
theorem tankOk_of {l : List SRow} {p : Int} (h : checkTank l p = 0) : TankOk l p := by
 unfold checkTank at h
 split at h
 ·cases h
 rename_i h1
 split at h
 ·cases h
 rename_i h2
 split at h
 ·cases h
 rename_i h3
 split at h
 ·cases h
 rename_i h4
 obtain ⟨a, b⟩ := dipsOk_spec l (-1) (by simpa using h2)
 have hp := (inB_iff 0 50 p).1 (by simpa using h3)
 refine ⟨by omega, by omega, by have := (a 0 (by omega)).1; omega, b, fun i hi => (a i hi).2, fun i hi => ?_, hp.1, hp.2⟩
 have h5 : litresOk (l.getD i zRow) = true := by
  have : ∀ x, x ∈ l → litresOk x = true := by
   intro x hx
   have := h4
   simp only [List.any_eq_true, not_exists, not_and] at this
   have := this x hx
   simpa using this
  refine this _ ?_
  rw [List.getD_eq_getElem?_getD, List.getElem?_eq_getElem hi]
  exact List.getElem_mem _
 unfold litresOk at h5
 simp only [Bool.and_eq_true, decide_eq_true_eq] at h5
 have h6 := (inB_iff _ _ _).1 h5.1.1
 have h7 := (inB_iff _ _ _).1 h5.1.2
 exact ⟨h6.1, h5.2, h7.2⟩
namespace TankOk
variable {l : List SRow} {p : Int} (h : TankOk l p)
include h
theorem mono (i k : Nat) (hi : i < l.length) (hk : k ≤ i) : dipN l k ≤ dipN l i ∧ (k < i → dipN l k < dipN l i) := by
  induction i with
  | zero => obtain rfl : k = 0 := by omega
            exact ⟨Int.le_refl _, fun h => by omega⟩
  | succ i ih =>
    have h1 := h.up i (by omega)
    by_cases e : k = i + 1
    · subst e; exact ⟨Int.le_refl _, fun h => by omega⟩
    have := ih (by omega) (by omega)
    exact ⟨by omega, fun _ => by omega⟩
theorem low (i : Nat) (hi : i < l.length) : 0 ≤ dipN l i := by
 have := (h.mono i 0 hi (Nat.zero_le _)).1
 have := h.d0
 omega
theorem dipOk : DipOk l := ⟨h.n2, h.n16, h.low, h.top⟩
theorem wden_pos (dip : Int) : 1 ≤ wden l dip := by
 have hp := h.dipOk.pos dip
 have := h.up (pos l dip - 1) (by omega)
 unfold wden
 rw [show pos l dip - 1 + 1 = pos l dip from by omega] at this
 omega
theorem bden_ne (d0 d1 : Int) : bden l d0 d1 ≠ 0 := by
 unfold bden
 have h1 := h.wden_pos d0
 have h2 := h.wden_pos d1
 intro e
 rcases Int.mul_eq_zero.1 e with e | e <;> omega
theorem lowN_in (i : Nat) (hi : i < l.length) : 0 ≤ lowN l i ∧ lowN l i ≤ 100000 ∧ loR l i ≤ lowN l i := by
 induction i with
 | zero => have := h.lit 0 hi; simp only [lowN]; omega
 | succ i ih =>
  have h1 := ih (by omega)
  have h2 := h.lit (i + 1) hi
  simp only [lowN]
  unfold mx
  split <;> omega
theorem highR_in (j : Nat) (hj : j < l.length) : 0 ≤ highR l j ∧ highR l j ≤ 100000 := by
 induction j with
 | zero => have := h.lit (l.length - 1) (by omega); simp only [highR]; omega
 | succ j ih =>
  have h1 := ih (by omega)
  have h2 := h.lit (l.length - 1 - (j + 1)) (by omega)
  simp only [highR]
  unfold mn
  split <;> omega
theorem highN_in (i : Nat) (hi : i < l.length) : 0 ≤ highN l i ∧ highN l i ≤ 100000 := h.highR_in _ (by omega)
theorem lowAt_in : ∀ x, x ∈ LowAt l l.length → 0 ≤ x ∧ x ≤ 100000 := by
 intro x hx
 simp only [LowAt, padRow, List.mem_map, List.mem_range] at hx
 obtain ⟨i, hi, rfl⟩ := hx
 split
 ·rename_i h1
  have := h.lowN_in i h1
  exact ⟨this.1, this.2.1⟩
 omega
theorem highAt_in : ∀ x, x ∈ HighAt l l.length → 0 ≤ x ∧ x ≤ 100000 := by
 intro x hx
 simp only [HighAt, padRow, List.mem_map, List.mem_range] at hx
 obtain ⟨i, hi, rfl⟩ := hx
 split
 ·rename_i h1
  rw [if_pos (by omega)]
  exact h.highN_in i h1
 omega
theorem true_in (dip : Int) (h0 : firstD l ≤ dip) (h1 : dip ≤ lastD l) : firstD l ≤ trueLo l p dip ∧ trueLo l p dip ≤ dip ∧ dip ≤ trueHi l p dip ∧ trueHi l p dip ≤ lastD l := by
 have := h.p0
 unfold trueLo trueHi mx mn
 refine ⟨?_, ?_, ?_, ?_⟩ <;> split <;> omega
theorem first_last : 0 ≤ firstD l ∧ firstD l ≤ lastD l ∧ lastD l ≤ 4000 := by
 have := h.n2
 exact ⟨h.d0, (h.mono (l.length - 1) 0 (by omega) (by omega)).1, h.top _ (by omega)⟩
end TankOk
theorem C_none (w : World) : Kd.C (Kd.int .i64) w none 0 [] := ⟨rfl, by simp, fun h => absurd h (by simp)⟩
end Go.Proofs.Ytpkajhmchcbbhaa.P
end
section
namespace Go.Proofs.Ytpkajhmchcbbhaa.P
open Go.RowKit Go.Proofs.YtpkajhmchcbbhaaW.PrintWords Go.Proofs.YtpkajhmchcbbhaaW.PrintLast Go.Proofs.YtpkajhmchcbbhaaW.PrintMore
theorem drop_int (l : List Int) (k : Nat) (h : k < l.length) : l.drop k = l.getD k 0 :: l.drop (k + 1) := by
 rw [List.drop_eq_getElem_cons h, List.getD_eq_getElem?_getD, List.getElem?_eq_getElem h]; rfl
theorem rdR_nat (l : List SRow) (i : Nat) : rd_T70 l (i : Int) = l.getD i zRow := by simp [rd_T70]
theorem rd_nat (l : List Int) (i : Nat) : rd l (i : Int) = l.getD i 0 := by simp [rd]
theorem wrap_nat (i : Nat) (h : i ≤ 1000000) : wrap64 ((i : Int) + 1) = ((i + 1 : Nat) : Int) := by unfold wrap64; omega
theorem checkChart_loop (l : List SRow) (p : Int) (c : List Int) (hn : c.length = l.length) (h16 : l.length ≤ 16) (d : Nat) : ∀ (k i : Nat) (last : Int), i + d = l.length → d < k →
  chart_CheckChart.l0 k last c c.length i l p = some (if chartOk last (l.drop i) (c.drop i) then 0 else 21) := by
 induction d with
 | zero =>
  intro k i last hi hk
  obtain ⟨k, rfl⟩ : ∃ m, k = m + 1 := ⟨k - 1, by omega⟩
  simp only [chart_CheckChart.l0]
  rw [if_neg (by omega), List.drop_eq_nil_of_le (by omega)]
  rfl
 | succ d ih =>
  intro k i last hi hk
  obtain ⟨k, rfl⟩ : ∃ m, k = m + 1 := ⟨k - 1, by omega⟩
  simp only [chart_CheckChart.l0]
  rw [if_pos (by omega), if_pos (by omega), if_pos (by omega), if_pos (by omega), rdR_nat, rd_nat, drop_row l i (by omega), drop_int c i (by omega)]
  simp only [chart_within.f, Option.bind_some, List.all_cons, List.all_nil, Bool.and_true, chartOk]
  by_cases hb : inB (mx last (l.getD i zRow).f1.f0) (l.getD i zRow).f1.f1 (c.getD i 0) = true
  ·rw [if_pos hb, wrap_nat i (by omega), ih k (i + 1) _ (by omega) (by omega)]; simp only [hb, Bool.true_and]
  rw [if_neg hb]; simp only [Bool.eq_false_iff.mpr hb, Bool.false_and]; rfl
theorem checkChart_some (l : List SRow) (p : Int) (c : List Int) : ∃ k, chart_CheckChart.f k l p c = some (checkChart l p c) := by
 refine ⟨l.length + 1, ?_⟩
 unfold chart_CheckChart.f chart_CheckTank.f checkChart
 simp only [Option.bind_some]
 by_cases h0 : checkTank l p = 0
 ·have hT := tankOk_of h0
  rw [if_pos h0, if_neg (show ¬ checkTank l p ≠ 0 by rw [h0]; simp)]
  by_cases hl : c.length = l.length
  ·rw [if_pos (show (c.length : Int) = l.length by omega), if_neg (show ¬ c.length ≠ l.length by simp [hl])]
   have := checkChart_loop l p c hl hT.n16 l.length (l.length + 1) 0 0 (by omega) (by omega)
   simpa using this
  rw [if_neg (show ¬ (c.length : Int) = l.length by omega), if_pos hl]
 rw [if_neg h0, if_pos h0]
theorem chartOk_in (l : List SRow) (hl : ∀ i, i < l.length → hiR l i ≤ 100000) : ∀ (last : Int) (c : List Int), 0 ≤ last → c.length = l.length → chartOk last l c = true → ∀ x, x ∈ c → 0 ≤ x ∧ x ≤ 100000 := by
 induction l with
 | nil => intro last c _ hc _ x hx; simp at hc; subst hc; simp at hx
 | cons r l ih =>
  intro last c h0 hc h x hx
  cases c with
  | nil => simp at hc
  | cons n c =>
   simp only [chartOk, Bool.and_eq_true] at h
   have h1 := (inB_iff _ _ _).1 h.1
   have h2 : r.f1.f1 ≤ 100000 := hl 0 (by simp)
   have h3 : last ≤ mx last r.f1.f0 := by unfold mx; split <;> omega
   rcases List.mem_cons.1 hx with rfl | hx
   ·omega
   exact ih (fun i hi => hl (i + 1) (by simpa using hi)) n c (by omega) (by simpa using hc) h.2 x hx
theorem checkChart_spec {l : List SRow} {p : Int} {c : List Int} (h : checkChart l p c = 0) : checkTank l p = 0 ∧ c.length = l.length ∧ chartOk 0 l c = true ∧ ∀ x, x ∈ c → 0 ≤ x ∧ x ≤ 100000 := by
 unfold checkChart at h
 split at h
 ·rename_i h1; exact absurd h h1
 rename_i h1
 have h1 : checkTank l p = 0 := by simpa using h1
 split at h
 ·cases h
 rename_i h2
 have h2 : c.length = l.length := by simpa using h2
 split at h
 ·rename_i h3
  exact ⟨h1, h2, h3, chartOk_in l (fun i hi => ((tankOk_of h1).lit i hi).2.2) 0 c (Int.le_refl _) h2 h3⟩
 cases h
end Go.Proofs.Ytpkajhmchcbbhaa.P
end
section
namespace Go.Proofs.Ytpkajhmchcbbhaa.P
open Go.RowKit Go.Proofs.YtpkajhmchcbbhaaW.PrintWords Go.Proofs.YtpkajhmchcbbhaaW.PrintLast Go.Proofs.YtpkajhmchcbbhaaW.PrintMore
theorem dot_snoc (w l : List Int) (x : Int) (h : l.length < w.length) : dot w (l ++ [x]) = dot w l + w.getD l.length 0 * x := by
 induction w generalizing l with
 | nil => simp at h
 | cons y w ih =>
  cases l with
  | nil => simp [dot]
  | cons z l =>
   simp only [List.length_cons, Nat.add_lt_add_iff_right] at h
   simp only [List.cons_append, dot, ih l h, List.length_cons, List.getD_cons_succ]
   omega
theorem dot_take (w l : List Int) (k : Nat) (hk : k < l.length) (hw : k < w.length) : dot w (l.take (k + 1)) = dot w (l.take k) + w.getD k 0 * l.getD k 0 := by
 have h := dot_snoc w (l.take k) (l.getD k 0) (by rw [List.length_take]; omega)
 rw [List.length_take, Nat.min_eq_left (by omega)] at h
 rw [← h, List.take_succ_eq_append_getElem hk, List.getD_eq_getElem?_getD, List.getElem?_eq_getElem hk]
 rfl
theorem mul_within {x y : Int} (hx : -100000000 ≤ x ∧ x ≤ 100000000) (hy : -1000000 ≤ y ∧ y ≤ 1000000) : -100000000000000 ≤ x * y ∧ x * y ≤ 100000000000000 := by
 have h1 := Int.mul_le_mul_of_nonneg_left (a := 100000000 - x) (b := 0) (c := 1)
 have a1 : 0 ≤ (100000000 - x) * (1000000 - y) := Int.mul_nonneg (by omega) (by omega)
 have a2 : 0 ≤ (100000000 + x) * (1000000 + y) := Int.mul_nonneg (by omega) (by omega)
 have a3 : 0 ≤ (100000000 - x) * (1000000 + y) := Int.mul_nonneg (by omega) (by omega)
 have a4 : 0 ≤ (100000000 + x) * (1000000 - y) := Int.mul_nonneg (by omega) (by omega)
 simp only [Int.sub_mul, Int.mul_sub, Int.add_mul, Int.mul_add] at a1 a2 a3 a4
 omega
theorem dot_within (w l : List Int) (hw : ∀ x, x ∈ w → -100000000 ≤ x ∧ x ≤ 100000000) (hl : ∀ x, x ∈ l → -1000000 ≤ x ∧ x ≤ 1000000) : -(l.length : Int) * 100000000000000 ≤ dot w l ∧ dot w l ≤ l.length * 100000000000000 := by
 induction w generalizing l with
 | nil => simp only [dot]; omega
 | cons y w ih =>
  cases l with
  | nil => simp [dot]
  | cons z l =>
   have h1 := ih l (fun x hx => hw x (List.mem_cons_of_mem _ hx)) (fun x hx => hl x (List.mem_cons_of_mem _ hx))
   have h2 := mul_within (hw y List.mem_cons_self) (hl z List.mem_cons_self)
   simp only [dot, List.length_cons]
   omega
set_option maxRecDepth 100000 in
set_option maxHeartbeats 1000000 in
theorem sum_calls (W : List Int) (hW : W.length = 16) (hb : ∀ x, x ∈ W → -100000000 ≤ x ∧ x ≤ 100000000) (A : Option Addr) (c : Nat) (l : List Int) (h16 : l.length ≤ 16) (hl : ∀ x, x ∈ l → -1000000 ≤ x ∧ x ≤ 1000000) (w : World)
  (hr : Kd.C (Kd.int .i64) w A l.length l) :
  Calls Try.prog 66 #[.agg (ints W), .slice A l.length c] w fun e w' => e = .returned (.int .i64 (dot W l)) ∧ Below w.heap.size w w' := by
 have HR := Aside0.mk hr
 have HB := Aside0.mk hb
 have HL := Aside0.mk hl
 have HW := Lib.hid hW
 have hu5 := Try.underlying97
 clear hr hb hl hW
 go_enter Try.func66, Try.ntmps66
 go_wp2_with fail
 obtain ⟨W1, hW1⟩ : ∃ W1, w.alloc (.cells (ints W) 97) = W1 := ⟨_, rfl⟩
 have hB1 : Below w.heap.size w W1 := by rw [← hW1]; exact (Below.refl _ _).alloc (Nat.le_refl _) _
 have HK : Aside0 (W1.heap[w.heap.size]? = some (.cells (ints W) 97 (0, 0))) := ⟨by rw [← hW1]; exact blk_new _ _⟩
 have HB1 := Aside0.mk hB1
 try rw [hW1]
 clear hW1 hB1
 go_loop [5, 10] (fun v5 v10 => ∃ k : Nat, k ≤ l.length ∧ v10 = .int .i64 k ∧ v5 = .int .i64 (dot W (l.take k))) (fun _ v10 => l.length - (intOf v10).toNat)
 case atStart => exact ⟨0, Nat.zero_le _, rfl, by cases W <;> simp [dot]⟩
 case round =>
  obtain ⟨k, hk, rfl, rfl⟩ := hrel
  by_cases hlt : k < l.length
  ·have hc := HR.out
   obtain ⟨ad, rfl, _⟩ := hc.2.2 (by omega)
   have hcell := pw_cell_below HB1.out (Kd.foot_int hc (k : Int) (by omega) (by omega))
   rw [Int.toNat_natCast] at hcell
   clear hc
   have hz := (blk_cell HK.out k).trans (ints_getD W k (by rw [HW.out]; omega))
   have hsn := dot_take W l k hlt (by rw [HW.out]; omega)
   have hbd := dot_within W (l.take k) HB.out (fun x hx => HL.out x (List.mem_of_mem_take hx))
   rw [List.length_take, Nat.min_eq_left hk] at hbd
   have e1 : rd l k = l.getD k 0 := by simp [rd]
   rw [e1] at hcell
   have hm1 : W.getD k 0 ∈ W := by
    rw [List.getD_eq_getElem?_getD, List.getElem?_eq_getElem (by rw [HW.out]; omega)]; exact List.getElem_mem _
   have hm2 : l.getD k 0 ∈ l := by
    rw [List.getD_eq_getElem?_getD, List.getElem?_eq_getElem hlt]; exact List.getElem_mem _
   have hmb := mul_within (HB.out _ hm1) (HL.out _ hm2)
   obtain ⟨x, hx⟩ : ∃ x, x = W.getD k 0 := ⟨_, rfl⟩
   obtain ⟨y, hy⟩ : ∃ y, y = l.getD k 0 := ⟨_, rfl⟩
   obtain ⟨s, hs⟩ : ∃ s, s = dot W (l.take k) := ⟨_, rfl⟩
   rw [← hx] at hz hsn hmb
   rw [← hy] at hcell hsn hmb
   rw [← hs] at hsn hbd ⊢
   have HSN := Lib.hid hsn
   clear hm1 hm2 hx hy hs e1 hsn
   obtain ⟨b1, b2⟩ := hbd
   obtain ⟨b3, b4⟩ := hmb
   have k16 : k < 16 := by omega
   have b5 : -1700000000000000 ≤ s := by omega
   have b6 : s ≤ 1700000000000000 := by omega
   clear b1 b2
   go_wp2
   go_round
   case rel => exact ⟨k + 1, by omega, by go_num, by rw [HSN.out]⟩
   case measure => simp [intOf]; omega
  have hd : decide (k < l.length) = false := by simpa using hlt
  obtain rfl : k = l.length := by omega
  go_wp2
  go_ret
  exact ⟨ret_int (by first | rfl | rw [List.take_of_length_le (Nat.le_refl _)]), HB1.out⟩
end Go.Proofs.Ytpkajhmchcbbhaa.P
end
section
namespace Go.Proofs.Ytpkajhmchcbbhaa.P
open Go.RowKit Go.Proofs.YtpkajhmchcbbhaaW.PrintWords Go.Proofs.YtpkajhmchcbbhaaW.PrintLast Go.Proofs.YtpkajhmchcbbhaaW.PrintMore
theorem gcdT_zero (a : Int) : gcdT a 0 = a := by rw [gcdT]; simp
theorem gcdT_step (a b : Int) (h : b ≠ 0) : gcdT a b = gcdT b (a.tmod b) := by rw [gcdT, dif_neg h]
theorem tmod_abs (a b : Int) (h : b ≠ 0) : (a.tmod b).natAbs < b.natAbs := by
 rw [Int.natAbs_tmod]; exact Nat.mod_lt _ (by omega)
theorem tmod_in (a b : Int) (hb : -4611686018427387904 ≤ b ∧ b ≤ 4611686018427387904) (h : b ≠ 0) : -4611686018427387904 ≤ a.tmod b ∧ a.tmod b ≤ 4611686018427387904 := by
 have := tmod_abs a b h
 omega
theorem gcdT_ne (a b : Int) (h : a ≠ 0 ∨ b ≠ 0) : gcdT a b ≠ 0 := by
 have key : ∀ n (a b : Int), b.natAbs < n → (a ≠ 0 ∨ b ≠ 0) → gcdT a b ≠ 0 := by
  intro n
  induction n with
  | zero => intro a b h; omega
  | succ n ih =>
   intro a b hn h
   by_cases hb : b = 0
   ·subst hb; rw [gcdT_zero]; simpa using h
   rw [gcdT_step a b hb]
   have := tmod_abs a b hb
   exact ih b _ (by omega) (.inl hb)
 exact key _ a b (Nat.lt_succ_self _) h
theorem common_some (n : Nat) : ∀ (k : Nat) (a b : Int), b.natAbs < n → n ≤ k → -4611686018427387904 ≤ b ∧ b ≤ 4611686018427387904 → chart_common_int64.l0 k a b = some (gcdT a b) := by
 induction n with
 | zero => intro k a b h; omega
 | succ n ih =>
  intro k a b hn hk hb
  obtain ⟨k, rfl⟩ : ∃ m, k = m + 1 := ⟨k - 1, by omega⟩
  simp only [chart_common_int64.l0]
  by_cases h : b = 0
  ·subst h; simp [gcdT_zero]
  have h1 := tmod_abs a b h
  have h2 := tmod_in a b hb h
  rw [gcdT_step a b h]
  rw [if_neg h]
  exact ih k b _ (by omega) (by omega) h2
theorem tdiv_in (a b : Int) (ha : -4611686018427387904 ≤ a ∧ a ≤ 4611686018427387904) : wrap64 (a.tdiv b) = a.tdiv b := by
 have h2 : (a.tdiv b).natAbs ≤ a.natAbs := by rw [Int.natAbs_tdiv]; exact Nat.div_le_self a.natAbs b.natAbs
 unfold wrap64
 omega
theorem least_some (num den : Int) (hn : -4611686018427387904 ≤ num ∧ num ≤ 4611686018427387904) (hd : -4611686018427387904 ≤ den ∧ den ≤ 4611686018427387904) (h0 : den ≠ 0) : ∃ k, chart_least.f k num den = some (leastN num den, leastD num den) := by
 refine ⟨den.natAbs + 1, ?_⟩
 unfold chart_least.f chart_common_int64.f
 rw [common_some (den.natAbs + 1) _ _ _ (by omega) (Nat.le_refl _) hd]
 simp only [Option.bind_some]
 rw [if_neg (gcdT_ne num den (.inr h0)), tdiv_in _ _ hn, tdiv_in _ _ hd]
 rfl
theorem least_calls (num den : Int) (hn : -4611686018427387904 ≤ num ∧ num ≤ 4611686018427387904) (hd : -4611686018427387904 ≤ den ∧ den ≤ 4611686018427387904) (h0 : den ≠ 0) (w : World) :
  Calls Try.prog 65 #[.int .i64 num, .int .i64 den] w fun e w' => e = .returned (.agg #[.int .i64 (leastN num den), .int .i64 (leastD num den)]) ∧ Below w.heap.size w w' := by
 obtain ⟨k, hk⟩ := least_some num den hn hd h0
 exact chart_least.calls k num den _ _ w hk
end Go.Proofs.Ytpkajhmchcbbhaa.P
end
section
namespace Go.Proofs.Ytpkajhmchcbbhaa.P
open Go.RowKit Go.Proofs.YtpkajhmchcbbhaaW.PrintWords Go.Proofs.YtpkajhmchcbbhaaW.PrintLast Go.Proofs.YtpkajhmchcbbhaaW.PrintMore
theorem gcdT_nat (n : Nat) : ∀ a b : Nat, b < n → gcdT (a : Int) (b : Int) = ((Nat.gcd a b : Nat) : Int) := by
 induction n with
 | zero => intro a b h; omega
 | succ n ih =>
  intro a b h
  by_cases hb : b = 0
  ·subst hb; rw [show ((0 : Nat) : Int) = 0 from rfl, gcdT_zero, Nat.gcd_zero_right]
  rw [gcdT_step _ _ (by omega)]
  have e : ((a : Int)).tmod (b : Int) = ((a % b : Nat) : Int) := by rw [Int.tmod_eq_emod_of_nonneg (by omega)]; rfl
  rw [e, ih b (a % b) (by have := Nat.mod_lt a (Nat.pos_of_ne_zero hb); omega), Nat.gcd_comm a b, Nat.gcd_rec b a, Nat.gcd_comm]
theorem leastN_nat (a b : Nat) : leastN (a : Int) (b : Int) = ((a / Nat.gcd a b : Nat) : Int) := by
 unfold leastN
 rw [gcdT_nat (b + 1) a b (Nat.lt_succ_self _), Int.tdiv_eq_ediv_of_nonneg (by omega)]
 rfl
theorem leastD_nat (a b : Nat) : leastD (a : Int) (b : Int) = ((b / Nat.gcd a b : Nat) : Int) := by
 unfold leastD
 rw [gcdT_nat (b + 1) a b (Nat.lt_succ_self _), Int.tdiv_eq_ediv_of_nonneg (by omega)]
 rfl
theorem frac_val {a b : Int} (ha : 0 ≤ a) (hb : 1 ≤ b) : leastN a b * b = a * leastD a b ∧ 1 ≤ leastD a b ∧ 0 ≤ leastN a b ∧ leastN a b ≤ a ∧ leastD a b ≤ b := by
  obtain ⟨a, rfl⟩ := Int.eq_ofNat_of_zero_le ha
  obtain ⟨b, rfl⟩ := Int.eq_ofNat_of_zero_le (show 0 ≤ b by omega)
  have hb' : 0 < b := by omega
  rw [leastN_nat, leastD_nat]
  obtain ⟨u, hu⟩ := Nat.gcd_dvd_left a b
  obtain ⟨v, hv⟩ := Nat.gcd_dvd_right a b
  have hg : 0 < Nat.gcd a b := Nat.gcd_pos_of_pos_right _ hb'
  have e1 : a / Nat.gcd a b = u := by conv => lhs; lhs; rw [hu]
                                      exact Nat.mul_div_cancel_left _ hg
  have e2 : b / Nat.gcd a b = v := by conv => lhs; lhs; rw [hv]
                                      exact Nat.mul_div_cancel_left _ hg
  have h1 : a / Nat.gcd a b ≤ a := Nat.div_le_self _ _
  have h2 : b / Nat.gcd a b ≤ b := Nat.div_le_self _ _
  have h3 : 0 < v := by
    rcases Nat.eq_zero_or_pos v with h | h
    · rw [h] at hv; omega
    exact h
  refine ⟨?_, by rw [e2]; omega, by omega, by omega, by omega⟩
  rw [e1, e2]
  have : u * b = a * v := by
    conv => lhs; rw [hv]
    conv => rhs; rw [hu]
    rw [Nat.mul_comm (Nat.gcd a b) v, ← Nat.mul_assoc, Nat.mul_comm _ (Nat.gcd a b), Nat.mul_assoc]
  exact_mod_cast this
def sumN : Nat → (Nat → Int) → Int
 | 0, _ => 0
 | n + 1, f => sumN n f + f n
theorem sumN_congr {n : Nat} {f g : Nat → Int} (h : ∀ i, i < n → f i = g i) : sumN n f = sumN n g := by
 induction n with
 | zero => rfl
 | succ n ih => rw [sumN, sumN, ih (fun i hi => h i (by omega)), h n (by omega)]
theorem sumN_le {n : Nat} {f g : Nat → Int} (h : ∀ i, i < n → f i ≤ g i) : sumN n f ≤ sumN n g := by
 induction n with
 | zero => exact Int.le_refl _
 | succ n ih =>
  have h1 := ih (fun i hi => h i (by omega))
  have h2 := h n (by omega)
  rw [sumN, sumN]; omega
theorem sumN_add (n : Nat) (f g : Nat → Int) : sumN n (fun i => f i + g i) = sumN n f + sumN n g := by
 induction n with
 | zero => rfl
 | succ n ih => rw [sumN, sumN, sumN, ih]; omega
theorem sumN_mul (n : Nat) (c : Int) (f : Nat → Int) : sumN n (fun i => c * f i) = c * sumN n f := by
 induction n with
 | zero => rw [sumN, sumN, Int.mul_zero]
 | succ n ih => rw [sumN, sumN, ih, Int.mul_add]
theorem sumN_zero (n : Nat) : sumN n (fun _ => 0) = 0 := by
 induction n with
 | zero => rfl
 | succ n ih => rw [sumN, ih]; rfl
theorem dot_take_sum (w c : List Int) (hw : c.length ≤ w.length) : ∀ k, k ≤ c.length → dot w (c.take k) = sumN k (fun i => w.getD i 0 * c.getD i 0) := by
 intro k
 induction k with
 | zero => intro _; rw [List.take_zero]; cases w <;> rfl
 | succ k ih => intro hk; rw [dot_take w c k (by omega) (by omega), ih (by omega), sumN]
theorem dot_sum (w c : List Int) (hw : c.length ≤ w.length) : dot w c = sumN c.length (fun i => w.getD i 0 * c.getD i 0) := by
 have := dot_take_sum w c hw c.length (Nat.le_refl _)
 rwa [List.take_length] at this
theorem sumN_two (n j : Nat) (x y : Int) (c : Nat → Int) (hj : j + 1 < n) : sumN n (fun i => (if i = j + 1 then y else if i = j then x else 0) * c i) = x * c j + y * c (j + 1) := by
 have h : ∀ m, sumN m (fun i => (if i = j + 1 then y else if i = j then x else 0) * c i) = (if j < m then x * c j else 0) + (if j + 1 < m then y * c (j + 1) else 0) := by
  intro m
  induction m with
  | zero => simp [sumN]
  | succ m ih =>
   rw [sumN, ih]
   rcases Nat.lt_trichotomy m j with h | rfl | h
   ·rw [if_neg (by omega), if_neg (by omega), if_neg (by omega), if_neg (by omega), if_neg (by omega), if_neg (by omega)]; simp
   ·rw [if_neg (by omega), if_neg (by omega), if_neg (by omega), if_pos rfl, if_pos (by omega), if_neg (by omega)]; omega
   by_cases hm : m = j + 1
   ·subst hm
    rw [if_pos (by omega), if_neg (by omega), if_pos rfl, if_pos (by omega), if_pos (by omega)]; omega
   rw [if_pos (by omega), if_pos (by omega), if_neg (by omega), if_neg (by omega), if_pos (by omega), if_pos (by omega)]; simp
 rw [h n, if_pos (by omega), if_pos hj]
theorem posA_spec (l : List SRow) (dip : Int) : ∀ (f i : Nat), l.length - 1 - i ≤ f → i ≤ l.length - 1 → i ≤ posA l dip f i ∧ posA l dip f i ≤ l.length - 1 ∧ (∀ j, i ≤ j → j < posA l dip f i → dipN l j < dip) ∧ (posA l dip f i < l.length - 1 → dip ≤ dipN l (posA l dip f i)) := by
 intro f
 induction f with
 | zero => intro i hf hi; rw [posA]; exact ⟨Nat.le_refl _, hi, fun j h1 h2 => by omega, fun h => by omega⟩
 | succ f ih =>
  intro i hf hi
  by_cases hc : i < l.length - 1 ∧ dipN l i < dip
  ·rw [posA_step l dip f i hc]
   obtain ⟨h1, h2, h3, h4⟩ := ih (i + 1) (by omega) (by omega)
   refine ⟨by omega, h2, fun j hj1 hj2 => ?_, h4⟩
   rcases Nat.lt_or_ge i j with h | h
   ·exact h3 j h hj2
   obtain rfl : j = i := by omega
   exact hc.2
  rw [posA_stop l dip (f + 1) i hc]
  refine ⟨Nat.le_refl _, hi, fun j h1 h2 => by omega, fun h => ?_⟩
  rcases Int.lt_or_le (dipN l i) dip with h2 | h2
  ·exact absurd ⟨h, h2⟩ hc
  exact h2
theorem pos_spec {l : List SRow} (h2 : 2 ≤ l.length) (dip : Int) : 1 ≤ pos l dip ∧ pos l dip < l.length ∧ (∀ j, 1 ≤ j → j < pos l dip → dipN l j < dip) ∧ (pos l dip < l.length - 1 → dip ≤ dipN l (pos l dip)) := by
 obtain ⟨a, b, c, d⟩ := posA_spec l dip l.length 1 (by omega) (by omega)
 exact ⟨a, by unfold pos; omega, c, d⟩
end Go.Proofs.Ytpkajhmchcbbhaa.P
end
section
namespace Go.Proofs.Ytpkajhmchcbbhaa.P
open Go.RowKit Go.Proofs.YtpkajhmchcbbhaaW.PrintWords Go.Proofs.YtpkajhmchcbbhaaW.PrintLast Go.Proofs.YtpkajhmchcbbhaaW.PrintMore
structure Tube (n : Nat) (low high : Nat → Int) : Prop where
 le : ∀ i, i < n → low i ≤ high i
 low : ∀ i j, i ≤ j → j < n → low i ≤ low j
 high : ∀ i j, i ≤ j → j < n → high i ≤ high j
structure Signs (n : Nat) (w : Nat → Int) (s : Nat) : Prop where
 neg : ∀ i, i < n → i < s → w i ≤ 0
 pos : ∀ i, i < n → s ≤ i → 0 ≤ w i
 sum : sumN n w = 0
structure In (n : Nat) (low high c : Nat → Int) : Prop where
 lo : ∀ i, i < n → low i ≤ c i
 hi : ∀ i, i < n → c i ≤ high i
def Up (n : Nat) (c : Nat → Int) : Prop := ∀ i j, i ≤ j → j < n → c i ≤ c j
def wsum (n : Nat) (w c : Nat → Int) : Int := sumN n fun i => w i * c i
theorem mul_le_neg {w a b : Int} (hw : w ≤ 0) (h : b ≤ a) : w * a ≤ w * b := by
 have := Int.mul_le_mul_of_nonpos_left hw h
 omega
theorem mul_le_pos {w a b : Int} (hw : 0 ≤ w) (h : a ≤ b) : w * a ≤ w * b := Int.mul_le_mul_of_nonneg_left h hw
section
variable {n s : Nat} {low high w : Nat → Int}
theorem split_at {c : Nat → Int} (h0 : 0 < n) (hc : Up n c) (s : Nat) : ∃ j, j < n ∧ (∀ i, i < n → i < s → c i ≤ c j) ∧ (∀ i, i < n → s ≤ i → c j ≤ c i) := by
 by_cases h : s < n
 ·exact ⟨s, h, fun i _ hs => hc i s (by omega) h, fun i hi hs => hc s i hs hi⟩
 exact ⟨n - 1, by omega, fun i hi _ => hc i (n - 1) (by omega) (by omega), fun i hi hs => by omega⟩
theorem wsum_nonneg (hS : Signs n w s) {c : Nat → Int} (hc : Up n c) : 0 ≤ wsum n w c := by
 by_cases h0 : n = 0
 ·subst h0; exact Int.le_refl _
 obtain ⟨j, hj, h1, h2⟩ := split_at (by omega) hc s
 have e : sumN n (fun i => w i * c j) = 0 := by
  rw [sumN_congr (g := fun i => c j * w i) (fun i _ => Int.mul_comm _ _), sumN_mul, hS.sum, Int.mul_zero]
 rw [← e]
 refine sumN_le fun i hi => ?_
 rcases Nat.lt_or_ge i s with h | h
 ·exact mul_le_neg (hS.neg i hi h) (h1 i hi h)
 exact mul_le_pos (hS.pos i hi h) (h2 i hi h)
end
end Go.Proofs.Ytpkajhmchcbbhaa.P
end
