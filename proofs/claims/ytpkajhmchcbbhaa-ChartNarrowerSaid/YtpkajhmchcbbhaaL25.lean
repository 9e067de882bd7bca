/- Part 25 of 44. -/
import Derived.Test.YtpkajhmchcbbhaaL17
import Derived.Test.YtpkajhmchcbbhaaL24
import Derived.Test.YtpkajhmchcbbhaaL18
import Derived.Test.YtpkajhmchcbbhaaL13
import Derived.Deep.RegionLaw
import Derived.Laws.CopyOwn
set_option linter.unusedSimpArgs false
set_option linter.unusedVariables false
section
namespace Go.Proofs.Ytpkajhmchcbbhaa.P
open Go.RowKit Go.Proofs.YtpkajhmchcbbhaaW.PrintWords Go.Proofs.YtpkajhmchcbbhaaW.PrintLast Go.Proofs.YtpkajhmchcbbhaaW.PrintMore
attribute [local go_sem ↓] exec_load97 exec_store97 sem_load97 sem_store97 exec_load112 exec_store112 sem_load112 sem_store112
attribute [local go_sem] load97_at store97_at load112_at store112_at SegOk_alloc seg_alloc SegOk_drew seg_drew SegOk_drewN seg_drewN ints_size Ones_ints store97_new store97_newD store112_new store112_newD run_slice_low run_slice_high
set_option maxHeartbeats 400000 in
theorem most1_calls (n : Int) (w : World) :
  Calls Try.prog 91 #[.int .i64 n] w fun e w' => e = .returned (.bool (decide (0 < n))) ∧ w = w' := by
 go_enter Try.func91, Try.ntmps91
 go_wp2
 go_ret
 exact ⟨rfl, rfl⟩
theorem zend : (#[Value.int IntKind.i64 0, Value.int IntKind.i64 0, Value.int IntKind.i64 0, Value.int IntKind.i64 0, Value.int IntKind.i64 0, Value.int IntKind.i64 0, Value.int IntKind.i64 0, Value.int IntKind.i64 0, Value.int IntKind.i64 0, Value.int IntKind.i64 0, Value.int IntKind.i64 0, Value.int IntKind.i64 0, Value.int IntKind.i64 0, Value.int IntKind.i64 0, Value.int IntKind.i64 0, Value.int IntKind.i64 0, Value.int IntKind.i64 0, Value.int IntKind.i64 0, Value.int IntKind.i64 0, Value.int IntKind.i64 0] : Array Value) = ints (List.replicate 20 0) := rfl
def firstPos (W : List Int) : Int := idxF (fun n : Int => decide (0 < n)) W
def mostL (lo hi W : List Int) : List Int := if firstPos W < 0 then lo else lo.take (firstPos W).toNat ++ hi.drop (firstPos W).toNat
theorem idxF_lt {α : Type} (p : α → Bool) (l : List α) : -1 ≤ idxF p l ∧ idxF p l < l.length := by
 induction l with
 | nil => simp [idxF]
 | cons x l ih =>
  simp only [idxF, List.length_cons]
  split
  ·omega
  split <;> omega
theorem mostL_length (lo hi W : List Int) (h1 : lo.length = 16) (h2 : hi.length = 16) (h3 : W.length = 16) : (mostL lo hi W).length = 16 := by
 have := idxF_lt (fun n : Int => decide (0 < n)) W
 unfold mostL firstPos
 split
 ·exact h1
 rw [List.length_append, List.length_take, List.length_drop]; omega
theorem mostL_mem (lo hi W : List Int) {x : Int} (h : x ∈ mostL lo hi W) : x ∈ lo ∨ x ∈ hi := by
 unfold mostL at h
 split at h
 ·exact .inl h
 rcases List.mem_append.1 h with h | h
 ·exact .inl (List.mem_of_mem_take h)
 exact .inr (List.mem_of_mem_drop h)
theorem bwts_length (l : List SRow) (d0 d1 : Int) : (bwts l d0 d1).length = 16 := by simp [bwts, wts_length]
theorem bwts_within {l : List SRow} (h : DipOk l) (d0 d1 : Int) (h0 : 0 ≤ d0) (h1 : d0 ≤ 4000) (h2 : 0 ≤ d1) (h3 : d1 ≤ 4000) : ∀ x, x ∈ bwts l d0 d1 → -100000000 ≤ x ∧ x ≤ 100000000 := by
 intro x hx
 rw [← bw_end] at hx
 simp only [bw, List.mem_map, List.mem_range] at hx
 obtain ⟨i, hi, rfl⟩ := hx
 rw [if_pos hi]
 have a1 := mul_4000 (wts_within h d1 h2 h3 i hi) (wden_within h d0)
 have a2 := mul_4000 (wts_within h d0 h0 h1 i hi) (wden_within h d1)
 omega
theorem bden_within {l : List SRow} (h : DipOk l) (d0 d1 : Int) : -16000000 ≤ bden l d0 d1 ∧ bden l d0 d1 ≤ 16000000 := mul_4000 (wden_within h d0) (wden_within h d1)
set_option maxRecDepth 100000 in
set_option maxHeartbeats 40000000 in
theorem most_calls (g : Nat) (A : Option Addr) (c : Nat) (l : List SRow) (p : Int) (lo hi : List Int) (d0 d1 : Int) (w : World) (hr : Kd.C kRow w A l.length l) (hD : DipOk l) (h0 : 0 ≤ d0) (h1 : d0 ≤ 4000) (h2 : 0 ≤ d1) (h3 : d1 ≤ 4000)
  (hlo : ∀ x, x ∈ lo → -1000000 ≤ x ∧ x ≤ 1000000) (hhi : ∀ x, x ∈ hi → -1000000 ≤ x ∧ x ≤ 1000000) (hden : bden l d0 d1 ≠ 0) (hg : Gauge w g A l.length c p lo hi) (c0 : List Int) (hc0 : c0.length = 16) (n0 m0 : Int) :
  Calls Try.prog 84 #[.pointer (some ⟨g, 0, none⟩), .agg (ints (endL d0 d1 c0 n0 m0))] w fun e w' =>
   e = .returned (.agg (ints (endL d0 d1 (mostL lo hi (bwts l d0 d1)) (leastN (dot (bwts l d0 d1) (mostL lo hi (bwts l d0 d1))) (bden l d0 d1)) (leastD (dot (bwts l d0 d1) (mostL lo hi (bwts l d0 d1))) (bden l d0 d1))))) ∧ Below w.heap.size w w' := by
 have HR := Aside0.mk hr
 have HG := Aside0.mk hg
 have HDD := Aside0.mk hD
 have HLO := Aside0.mk hlo
 have HHI := Aside0.mk hhi
 have HDN := Aside0.mk hden
 have HC0 := Lib.hid hc0
 have hgl := hg.lt
 have HL1 := Lib.hid hg.l
 have HL2 := Lib.hid hg.h
 clear hr hg hD hlo hhi hden hc0
 have hu3 := Try.underlying99
 have hu5 := Try.underlying97
 have hu6 := Try.underlying51
 have hu7 := Try.underlying112
 have hu8 := Try.underlying39
 go_enter Try.func84, Try.ntmps84
 have he0 : (ints (endL d0 d1 c0 n0 m0))[0]? = some (.int .i64 d0) := rfl
 have he1 : (ints (endL d0 d1 c0 n0 m0))[1]? = some (.int .i64 d1) := rfl
 go_wp2_with fail
 simp only [zend]
 clear he0 he1
 obtain ⟨V0, hV0⟩ : ∃ V, (w.alloc (.cells (ints (endL d0 d1 c0 n0 m0)) 112)).alloc (.cells (ints (List.replicate 20 0)) 112) = V := ⟨_, rfl⟩
 have hs0 : V0.heap.size = w.heap.size + 2 := by rw [← hV0]; simp
 have K0 : Aside0 (V0.heap[w.heap.size]? = some (.cells (ints (endL d0 d1 c0 n0 m0)) 112 (0, 0))) := ⟨by rw [← hV0]; exact blk_old (blk_new _ _)⟩
 have K1 : Aside0 (V0.heap[w.heap.size + 1]? = some (.cells (ints (List.replicate 20 0)) 112 (0, 0))) := ⟨by rw [← hV0]; exact blk_new' (by simp)⟩
 have KB : Aside0 (Below w.heap.size w V0) := ⟨by rw [← hV0]; exact ((Below.refl _ _).alloc (Nat.le_refl _) _).alloc (by simp) _⟩
 rw [hV0]
 clear hV0
 refine (between_calls g A c l p lo hi d0 d1 V0 (Kd.C_below HR.out KB.out) HDD.out h0 h1 h2 h3 (HG.out.below KB.out)).mono ?_
 rintro e w1 ⟨rfl, hB1⟩
 have M0 := Aside0.mk (below_blk hB1 K0.out (blk_lt K0.out))
 have M1 := Aside0.mk (below_blk hB1 K1.out (blk_lt K1.out))
 have MB := Aside0.mk (below_then KB.out hB1)
 have hs1 : w.heap.size + 2 ≤ w1.heap.size := by have := hB1.size; omega
 clear hB1 K0 K1 KB hs0 V0
 have hWl := bwts_length l d0 d1
 have HWB := Aside0.mk (bwts_within HDD.out d0 d1 h0 h1 h2 h3)
 have hden1 := bden_within HDD.out d0 d1
 have HML := Lib.hid (mostL_length lo hi (bwts l d0 d1) HL1.out HL2.out hWl)
 obtain ⟨W, hW⟩ : ∃ W, W = bwts l d0 d1 := ⟨_, rfl⟩
 obtain ⟨den, hdn⟩ : ∃ den, den = bden l d0 d1 := ⟨_, rfl⟩
 rw [← hW] at hWl HWB HML ⊢
 rw [← hdn] at HDN hden1 ⊢
 have HWE := Lib.hid hW
 have HDE := Lib.hid hdn
 clear hW hdn

 have hgm := HG.out.below MB.out
 have hglw := hgm.lt
 have hs2 := fun o => (hgm.alloc o).segL
 have ha2 := fun o => (hs2 o).1
 have hb2 := fun o => (hs2 o).2
 have hd1 := fun o => SegOk.mk' (blk_old (o := o) M0.out) 2 16 (by simp [ints, endL, HC0.out])
 have hl16 := HL1.out
 clear hgm hs2
 go_wp2_with fail
 clear ha2 hb2 hd1
 obtain ⟨gw, hgw⟩ : ∃ gw, gw = w1.heap.size := ⟨_, rfl⟩
 obtain ⟨V1, hV1⟩ : ∃ V, putSeg (w1.alloc (.cells (ints W) 97)) w.heap.size 2 (ints lo).toList = V := ⟨_, rfl⟩
 have hne0 : w1.heap.size ≠ w.heap.size := by omega
 have N0 : Aside0 (V1.heap[w.heap.size]? = some (.cells (ints (endL d0 d1 lo n0 m0)) 112 (0, 0))) := ⟨by rw [← hV1]; exact endL_put HC0.out hl16 (blk_old M0.out)⟩
 have N1 : Aside0 (V1.heap[w.heap.size + 1]? = some (.cells (ints (List.replicate 20 0)) 112 (0, 0))) := ⟨by rw [← hV1]; exact (putSeg_other _ _ _ _ _ (by omega)).trans (blk_old M1.out)⟩
 have N2 : Aside0 (V1.heap[gw]? = some (.cells (ints W) 97 (0, 0))) := ⟨by rw [← hV1, hgw]; exact (putSeg_other _ _ _ _ _ hne0).trans (blk_new _ _)⟩
 have NB : Aside0 (Below w.heap.size w V1) := ⟨by rw [← hV1]; exact putSeg_below _ _ _ _ _ _ (Nat.le_refl _) (MB.out.alloc MB.out.size _)⟩
 have hgw2 : w.heap.size + 2 ≤ gw := by omega
 rw [hV1, ← hgw]
 clear hV1 hgw hne0 hs1 hglw M0 M1 MB w1
 have hr1 := C_arr (l := W) N2.out (by omega)
 rw [hWl] at hr1
 have hcall := indexFunc64 (some ⟨gw, 0, none⟩) W 16 91 #[] (fun n => decide (0 < n)) V1 (by rw [hWl]; exact hr1) (fun W' n hW' => (most1_calls n W').mono (by rintro e W'' ⟨rfl, rfl⟩; exact ⟨rfl, Below.refl _ _⟩)) (enters_ Try.func91 (by kernel_rfl) rfl)
 rw [hWl] at hcall
 refine hcall.mono ?_
 rintro e w2 ⟨rfl, hB2⟩
 clear hcall hr1
 have hfp := idxF_lt (fun n : Int => decide (0 < n)) W
 rw [hWl] at hfp
 have hfe : idxF (fun n : Int => decide (0 < n)) W = firstPos W := rfl
 rw [hfe] at hfp
 simp only [hfe]
 clear hfe
 have M0 := Aside0.mk (below_blk hB2 N0.out (blk_lt N0.out))
 have M1 := Aside0.mk (below_blk hB2 N1.out (blk_lt N1.out))
 have M2 := Aside0.mk (below_blk hB2 N2.out (blk_lt N2.out))
 have MB := Aside0.mk (below_then NB.out hB2)
 clear hB2 N0 N1 N2 NB V1
 have HMD := Lib.hid (show mostL lo hi W = if firstPos W < 0 then lo else lo.take (firstPos W).toNat ++ hi.drop (firstPos W).toNat from rfl)
 obtain ⟨fp, hfp'⟩ : ∃ fp, fp = firstPos W := ⟨_, rfl⟩
 rw [← hfp'] at hfp HMD ⊢
 clear hfp'
 obtain ⟨ML, hML⟩ : ∃ ML, ML = mostL lo hi W := ⟨_, rfl⟩
 have HMM : Aside0 (∀ x, x ∈ ML → -1000000 ≤ x ∧ x ≤ 1000000) := ⟨fun x hx => by
  rw [hML] at hx
  exact (mostL_mem lo hi W hx).elim (HLO.out x) (HHI.out x)⟩
 rw [← hML] at HML HMD
 have HMLE := Lib.hid hML
 clear hML
 rcases Decidable.em (fp < 0) with hf | hf
 have P0 := M0.out
 have hml : lo = ML := by rw [HMD.out, if_pos hf]
 rw [hml] at P0
 replace P0 := Aside0.mk P0
 have P1 := M1
 have P2 := M2
 have PB := MB
 have f9 : ¬ 0 ≤ fp := by omega
 clear hml M0 M1 M2 MB
 rename World => W4
 clear hf hfp
 go_wp2_with fail
 rotate_left
 obtain ⟨f, rfl⟩ : ∃ f : Nat, fp = (f : Int) := ⟨fp.toNat, by omega⟩
 have f1 : f < 16 := by omega
 have hgm := HG.out.below MB.out
 have hglw := hgm.lt
 have f2 : (f : Int) < 16 := by omega
 have f3 : 0 < 16 - f := by omega
 go_wp2_with fail
 (refine start_ (n := 9) (S := fun w' => w' = _) (ds := [8]) (List.toArray (false :: false :: false :: false :: false :: false :: false :: false :: false :: [])) (by kernel_rfl) rfl rfl rfl (fun plS => ?_); clear plS; refine pureY (i := 0) (N := (some 24)) ?_; refine pureY (i := 1) (N := (some 25)) ?_; refine pureY (i := 2) (N := (some 26)) ?_; refine pureY (i := 3) (N := (some 27)) ?_; refine pureY (i := 4) (N := (some 28)) ?_; refine pureY (i := 5) (N := (some 29)) ?_; refine pureY (i := 6) (N := (some 30)) ?_; refine pureY (i := 7) (N := (some 31)) ?_; refine lastY (i := 8) (fun plK plH => ?_))
 refine step_copy_row rfl (.tmp 26) (.tmp 31) 25 25 rfl 2 Try.underlying25 (by kernel_rfl) w.heap.size (2 + f) (16 - f) (16 - f) ⟨g, 18 + f, none⟩ (16 - f) (16 - f) rfl rfl ((endL d0 d1 lo n0 m0).map (Value.int .i64)) 112 M0.out ((hi.drop f).map (Value.int .i64)) ?c1 ?c2 ?c3 ?c4 ?_
 case c1 => rw [List.length_map, List.length_drop, HL2.out]; exact (Nat.min_self _).symm
 case c2 =>
  intro j v hj
  rw [List.getElem?_map] at hj
  have hj2 : j < (hi.drop f).length := by
   rcases Nat.lt_or_ge j (hi.drop f).length with h | h
   ·exact h
   rw [List.getElem?_eq_none h] at hj; cases hj
  rw [List.length_drop, HL2.out] at hj2
  have hadd : (⟨g, 18 + f, none⟩ : Addr).add j = ⟨g, 18 + (f + j), none⟩ := by unfold Addr.add; split <;> simp_all [Nat.add_assoc]
  rw [hadd]
  have := hgm.drew.ch (f + j) (by omega)
  rw [this]
  rw [List.getElem?_drop] at hj
  rw [List.getD_eq_getElem?_getD]
  cases hq : hi[f + j]? with
  | none => rw [hq] at hj; cases hj
  | some x => rw [hq] at hj; cases hj; rfl
 case c3 => simp [endL, HL1.out, HL2.out]; omega
 case c4 =>
  intro v hv
  obtain ⟨x, _, rfl⟩ := List.mem_map.1 hv
  rfl
 have hrow : ((((endL d0 d1 lo n0 m0).map (Value.int .i64)).take (2 + f) ++ ((hi.drop f).map (Value.int .i64) ++ ((endL d0 d1 lo n0 m0).map (Value.int .i64)).drop (2 + f + ((hi.drop f).map (Value.int .i64)).length))).toArray) = ints (endL d0 d1 ML n0 m0) := by
  have hml : ML = lo.take f ++ hi.drop f := by rw [HMD.out, if_neg (by omega), Int.toNat_natCast]
  rw [List.length_map, List.length_drop, HL2.out, show 2 + f + (16 - f) = 18 by omega]
  unfold ints
  congr 1
  rw [← List.map_take, ← List.map_drop, ← List.map_append, ← List.map_append]
  congr 1
  rw [hml]
  have e1 : (endL d0 d1 lo n0 m0).drop 18 = [n0, m0] := by
   simp only [endL, List.drop_succ_cons]
   rw [List.drop_append_of_le_length (by rw [HL1.out]; omega), List.drop_of_length_le (by rw [HL1.out]; omega)]
   rfl
  have e2 : (endL d0 d1 lo n0 m0).take (2 + f) = d0 :: d1 :: lo.take f := by
   rw [Nat.add_comm]
   simp only [endL, List.take_succ_cons]
   rw [List.take_append_of_le_length (by rw [HL1.out]; omega)]
  rw [e1, e2]
  simp [endL]
 rw [hrow]
 obtain ⟨W4, hW4⟩ : ∃ W4, w2.drew.setRow w.heap.size (ints (endL d0 d1 ML n0 m0)) = W4 := ⟨_, rfl⟩
 rw [hW4]
 have P0 : Aside0 (W4.heap[w.heap.size]? = some (.cells (ints (endL d0 d1 ML n0 m0)) 112 (0, 0))) := ⟨by rw [← hW4]; exact setRow_heap _ _ _ _ _ _ M0.out⟩
 have P1 : Aside0 (W4.heap[w.heap.size + 1]? = some (.cells (ints (List.replicate 20 0)) 112 (0, 0))) := ⟨by rw [← hW4]; exact (setRow_other _ _ _ _ (by omega)).trans M1.out⟩
 have P2 : Aside0 (W4.heap[gw]? = some (.cells (ints W) 97 (0, 0))) := ⟨by rw [← hW4]; exact (setRow_other _ _ _ _ (by omega)).trans M2.out⟩
 have PB : Aside0 (Below w.heap.size w W4) := ⟨by rw [← hW4]; exact below_setRow MB.out.drew (Nat.le_refl _) _⟩
 clear hW4 hrow M0 M1 M2 MB hgm hglw
 ((try simp only [Act.put, List.getElem_toArray, List.getElem_cons_succ, List.getElem_cons_zero, List.setIfInBounds_toArray, List.set_cons_succ, List.set_cons_zero]); refine plH _ _ ?_; clear plH plK; refine done_ (by kernel_rfl) ?_)
 clear f1 f2 f3 hf hfp
 go_wp2_with fail
 all_goals
  have hm16 := HML.out
  have hlw := blk_lt P0.out
  have hS1 := SegOk.mk' (show W4.drew.heap[gw]? = _ from P2.out) 0 16 (by simp [ints, hWl])
  have hV1 := seg_whole (n := 16) (show W4.drew.heap[gw]? = _ from P2.out) (by simp [ints, hWl])
  (refine start_ (n := 8) (S := fun w' => w' = _) (ds := [3, 5, 7]) (List.toArray (false :: false :: false :: false :: false :: false :: false :: false :: [])) (by kernel_rfl) rfl rfl rfl (fun plS => ?_); clear plS; refine pureY (i := 1) (N := (some 34)) ?_; refine pureY (i := 2) (N := (some 35)) ?_; refine pureY (i := 4) (N := (some 37)) ?_; refine takeE (i := 0) (N := (some 33)) ?_; refine lastY (i := 3) (fun plK plH => ?_); rw [if_pos (by rfl)]; (first | gi_big_move | go_big_op | go_simp))
  have hrd := endL_reads hm16 (show W4.drew.heap[w.heap.size]? = _ from P0.out)
  have hsum := sum_calls W hWl HWB.out (some ⟨w.heap.size, 2, none⟩) 16 ML (by omega) HMM.out W4.drew hrd
  rw [hm16] at hsum
  refine hsum.mono ?_
  rintro e w5 ⟨rfl, hB5⟩
  have hdb := dot_within W ML HWB.out HMM.out
  rw [hm16] at hdb
  have hd0' := HDN.out
  obtain ⟨S, hS⟩ : ∃ S, S = dot W ML := ⟨_, rfl⟩
  rw [← hS] at hdb ⊢
  have HS := Lib.hid hS
  clear hsum hrd hS
  ((try simp only [Act.put, List.getElem_toArray, List.getElem_cons_succ, List.getElem_cons_zero, List.setIfInBounds_toArray, List.set_cons_succ, List.set_cons_zero]); refine plH _ _ ?_; clear plH plK; refine lastY (i := 5) (fun plK plH => ?_); rw [if_pos (by rfl)]; (first | gi_big_move | go_big_op | go_simp))
  refine (least_calls S den (by omega) (by omega) hd0' _).mono ?_
  rintro e w6 ⟨rfl, hB6⟩
  have hB7 : Below W4.heap.size W4 w6 := below_then (((Below.refl _ W4).drew).trans hB5) hB6
  have R0 := Aside0.mk (below_blk hB7 P0.out (blk_lt P0.out))
  have R1 := Aside0.mk (below_blk hB7 P1.out (blk_lt P1.out))
  have RB := Aside0.mk (below_then PB.out hB7)
  have c18 : w6.cell? ⟨w.heap.size, 18, none⟩ = some (.int .i64 n0) := (blk_cell R0.out 18).trans (endL_get18 _ _ _ _ _ hm16)
  have c19 : w6.cell? ⟨w.heap.size, 19, none⟩ = some (.int .i64 m0) := (blk_cell R0.out 19).trans (endL_get19 _ _ _ _ _ hm16)
  have f18 := blk_frozen R0.out 18
  have f19 := blk_frozen R0.out 19
  clear hB5 hB6 hB7 hS1 hV1
  ((try simp only [Act.put, List.getElem_toArray, List.getElem_cons_succ, List.getElem_cons_zero, List.setIfInBounds_toArray, List.set_cons_succ, List.set_cons_zero]); refine plH _ _ ?_; clear plH plK; refine pureY (i := 6) (N := (some 39)) ?_; refine lastY (i := 7) (fun plK plH => ?_); rw [if_pos (by rfl)]; (first | gi_big_move | go_big_op | go_simp))
  ((try simp only [Act.put, List.getElem_toArray, List.getElem_cons_succ, List.getElem_cons_zero, List.setIfInBounds_toArray, List.set_cons_succ, List.set_cons_zero]); refine plH _ _ ?_; clear plH plK; refine done_ (by kernel_rfl) ?_)
  have hq := blk_put (blk_put R0.out 18 (.int .i64 (leastN S den)) (endL_set18 _ _ _ _ _ _ hm16)) 19 (.int .i64 (leastD S den)) (endL_set19 _ _ _ _ _ _ hm16)
  have hq1 := (Below.heap_setCell (w6.setCell ⟨w.heap.size, 18, none⟩ (.int .i64 (leastN S den))) ⟨w.heap.size, 19, none⟩ (.int .i64 (leastD S den)) (w.heap.size + 1) (by show w.heap.size + 1 ≠ w.heap.size; omega)).trans ((Below.heap_setCell w6 ⟨w.heap.size, 18, none⟩ (.int .i64 (leastN S den)) (w.heap.size + 1) (by show w.heap.size + 1 ≠ w.heap.size; omega)).trans R1.out)
  have hS4 := SegOk.mk' hq 0 20 (by simp [ints, endL, hm16])
  have hV4 := seg_whole (n := 20) hq (by simp [ints, endL, hm16])
  have hS5 := SegOk.mk' hq1 0 20 (by simp [ints])
  have hlen := endL_length d0 d1 ML (leastN S den) (leastD S den) hm16
  have Q1 := Aside0.mk hq1
  clear hq hq1
  go_wp2
  have hfin := putSeg_block Q1.out (l := (ints (endL d0 d1 ML (leastN S den) (leastD S den))).toList) (by simp [ints, hlen])
  refine bodyPost_ret (results_arr1 rfl rfl isAggE sizeOfE (SegOk.mk' hfin 0 20 (by simp [ints, hlen]))) rfl ⟨?_, ?_⟩
  ·rw [seg_whole (n := 20) hfin (by simp [ints, hlen]), HS.out, HMLE.out, HWE.out, HDE.out]
  exact putSeg_below _ _ _ _ _ _ (by omega) ((RB.out.setCell (p := ⟨w.heap.size, 18, none⟩) (Nat.le_refl _) _).setCell (p := ⟨w.heap.size, 19, none⟩) (Nat.le_refl _) _)
end Go.Proofs.Ytpkajhmchcbbhaa.P
end
