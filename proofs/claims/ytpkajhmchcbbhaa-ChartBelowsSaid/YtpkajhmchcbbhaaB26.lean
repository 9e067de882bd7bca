/- Part 26 of 46. -/
import Derived.Test.YtpkajhmchcbbhaaB24
import Derived.Test.YtpkajhmchcbbhaaB23
set_option linter.unusedSimpArgs false
set_option linter.unusedVariables false
section
namespace Go.Proofs.Ytpkajhmchcbbhaa.P
open Go.RowKit Go.Proofs.YtpkajhmchcbbhaaW.PrintWords Go.Proofs.YtpkajhmchcbbhaaW.PrintLast Go.Proofs.YtpkajhmchcbbhaaW.PrintMore
attribute [local go_sem] max2_mx min2_mn max_two min_two
attribute [local go_sem] Oper.semAt_some
attribute [local go_sem ↓] exec_load97 exec_store97 sem_load97 sem_store97
attribute [local go_sem] load97_at store97_at SegOk_alloc seg_alloc SegOk_drew seg_drew SegOk_drewN seg_drewN ints_size Ones_ints store97_new store97_newD
def stepN (lo hi : List Int) (n : Int) (o : List Int) (i : Nat) : List Int := o.set i (mx (lo.getD i 0) (mn (hi.getD i 0) n))
def foldN {N : Nat} (lo hi : List Int) (n : Int) (pre : List (Fin N)) (o : List Int) : List Int := pre.foldl (fun a x => stepN lo hi n a x.val) o
theorem foldN_snoc {N : Nat} (lo hi : List Int) (n : Int) (pre : List (Fin N)) (x : Fin N) (o : List Int) : foldN lo hi n (pre ++ [x]) o = stepN lo hi n (foldN lo hi n pre o) x.val := by simp [foldN]
theorem foldN_length {N : Nat} (lo hi : List Int) (n : Int) (pre : List (Fin N)) (o : List Int) : (foldN lo hi n pre o).length = o.length := by
 unfold foldN
 induction pre generalizing o with
 | nil => rfl
 | cons x pre ih => rw [List.foldl_cons, ih]; simp [stepN]
def nearL (lo hi : List Int) (N : Nat) (n : Int) : List Int := padRow (fun i => mx (lo.getD i 0) (mn (hi.getD i 0) n)) N
theorem foldN_all (lo hi : List Int) (n : Int) (N : Nat) (h16 : N ≤ 16) : foldN lo hi n (rowAll N false) (List.replicate 16 0) = nearL lo hi N n := by
 have key : ∀ k, k ≤ N → foldN lo hi n ((rowAll N false).take k) (List.replicate 16 0) = padRow (fun i => mx (lo.getD i 0) (mn (hi.getD i 0) n)) k := by
  intro k
  induction k with
  | zero =>
   intro _
   apply List.ext_getElem
   ·simp [foldN, padRow]
   intro i h1 h2
   have h3 : i < 16 := by simpa [padRow] using h2
   have e : foldN lo hi n (List.take 0 (rowAll N false)) (List.replicate 16 0) = List.replicate 16 0 := rfl
   rw [List.getElem_of_eq e, List.getElem_replicate]
   simp [padRow]
  | succ k ih =>
   intro hk
   obtain ⟨x, hx, ht⟩ := take_succ_row N false k hk
   rw [ht, foldN_snoc, ih (by omega), hx]
   exact padRow_set _ k (by omega)
 have := key N (Nat.le_refl _)
 rwa [rowAll_full] at this
set_option maxRecDepth 100000 in
set_option maxHeartbeats 4000000 in
theorem near_calls (g : Nat) (A : Option Addr) (c N : Nat) (p : Int) (lo hi : List Int) (n : Int) (h16 : N ≤ 16) (w : World) (hg : Gauge w g A N c p lo hi) :
  Calls Try.prog 87 #[.pointer (some ⟨g, 0, none⟩), .int .i64 n] w fun e w' => e = .returned (.agg (ints (nearL lo hi N n))) ∧ Below w.heap.size w w' := by
 have hu3 := Try.underlying99
 have hu5 := Try.underlying97
 have hgl := hg.lt
 have HG := Aside0.mk hg
 clear hg
 refine (callsIn_wide (n := 10)).1 ?_
 refine callsIn_of_wp_marks Try.func87 rfl trivial ?_ rfl
 simp only [Try.ntmps87, List.size_toArray, List.length_cons, List.length_nil, Nat.reduceAdd, Nat.reduceSub, Array.replicate_succ, Array.replicate_zero, List.push_toArray, List.append_toArray, List.nil_append, List.cons_append]
 gi_wp2_with fail
 obtain ⟨W1, hW1⟩ : ∃ W1, (((w.alloc (.cells #[.pointer (some ⟨g, 0, none⟩)] 90)).alloc (.cells #[.int .i64 n] 2)).alloc (.cells (ints (List.replicate 16 0)) 97)).alloc (.cells (ints (List.replicate 16 0)) 97) = W1 := ⟨_, rfl⟩
 have k0 : W1.heap[w.heap.size]? = some (.cells #[.pointer (some ⟨g, 0, none⟩)] 90 (0, 0)) := by rw [← hW1]; exact blk_old (blk_old (blk_old (blk_new _ _)))
 have k1 : W1.heap[w.heap.size + 1]? = some (.cells #[.int .i64 n] 2 (0, 0)) := by rw [← hW1]; exact blk_old (blk_old (blk_new' (by simp)))
 have k2 : W1.heap[w.heap.size + 2]? = some (.cells (ints (List.replicate 16 0)) 97 (0, 0)) := by rw [← hW1]; exact blk_old (blk_new' (by simp))
 have k3 : W1.heap[w.heap.size + 3]? = some (.cells (ints (List.replicate 16 0)) 97 (0, 0)) := by rw [← hW1]; exact blk_new' (by simp)
 have kb : Below w.heap.size w W1 := by rw [← hW1]; exact ((((Below.refl _ _).alloc (Nat.le_refl _) _).alloc (by simp) _).alloc (by simp; omega) _).alloc (by simp; omega) _
 have ks : W1.heap.size = w.heap.size + 4 := by rw [← hW1]; simp
 have hc0 := (HG.out.below kb).c0
 refine ⟨trivial, (callsIn_wide.2 (rows_calls g A N c false _ (by rw [← hW1] at hc0; exact hc0))).mono ?_⟩
 simp only [zlit]
 rw [show ((((w.alloc (.cells #[.pointer (some ⟨g, 0, none⟩)] 90)).alloc (.cells #[.int .i64 n] 2)).alloc (.cells (ints (List.replicate 16 0)) 97)).alloc (.cells (ints (List.replicate 16 0)) 97)) = W1 from hW1]
 rintro e W2 ⟨rfl, hW2⟩
 clear hW1 hc0
 have K0 : Aside0 (W2.heap[w.heap.size]? = some (.cells #[.pointer (some ⟨g, 0, none⟩)] 90 (0, 0))) := ⟨by rw [hW2]; exact blk_old (blk_old k0)⟩
 have K1 : Aside0 (W2.heap[w.heap.size + 1]? = some (.cells #[.int .i64 n] 2 (0, 0))) := ⟨by rw [hW2]; exact blk_old (blk_old k1)⟩
 have K2 : Aside0 (W2.heap[w.heap.size + 2]? = some (.cells (ints (List.replicate 16 0)) 97 (0, 0))) := ⟨by rw [hW2]; exact blk_old (blk_old k2)⟩
 have K3 : Aside0 (W2.heap[w.heap.size + 3]? = some (.cells (ints (List.replicate 16 0)) 97 (0, 0))) := ⟨by rw [hW2]; exact blk_old (blk_old k3)⟩
 have KB : Aside0 (Below w.heap.size w W2) := ⟨by rw [hW2]; exact (kb.alloc kb.size _).alloc (by simp; omega) _⟩
 have hbb : W2.heap[w.heap.size + 4]? = some (Obj.cells #[.bool false] 4 (0, 0)) := by rw [hW2]; exact blk_old (blk_new' ks.symm)
 have hbn : W2.heap[w.heap.size + 5]? = some (Obj.cells #[.int .i64 N] 3 (0, 0)) := by rw [hW2]; exact blk_new' (by simp; omega)
 have hs2 : W2.heap.size = w.heap.size + 6 := by rw [hW2]; simp; omega
 rw [ks]
 clear hW2 k0 k1 k2 k3 kb ks W1
 gi_wp2_with fail
 (refine rowsRange 10 (w.heap.size + 5)  (w.heap.size + 4)  N  false  (by omega) rfl ?hBn ?hBb ?hN (fun pre W => W.heap[w.heap.size]? = some (.cells #[.pointer (some ⟨g, 0, none⟩)] 90 (0, 0)) ∧ W.heap[w.heap.size + 1]? = some (.cells #[.int .i64 n] 2 (0, 0)) ∧ W.heap[w.heap.size + 2]? = some (.cells (ints (List.replicate 16 0)) 97 (0, 0)) ∧ W.heap[w.heap.size + 3]? = some (.cells (ints (foldN lo hi n pre (List.replicate 16 0))) 97 (0, 0)) ∧ But [] w W)  (fun _ _ _ => False)  ?hJ ?hJx ?h0 (fun x => Go.Act.mk #[Go.Value.pointer (Option.some (Go.Addr.mk g 0 Option.none)), Go.Value.int Go.IntKind.i64 n, Go.Value.pointer (Option.some (Go.Addr.mk (Array.size (Go.World.heap w)) 0 Option.none)), Go.Value.pointer (Option.some (Go.Addr.mk (Array.size (Go.World.heap w) + 1) 0 Option.none)), Go.Value.pointer (Option.some (Go.Addr.mk (Array.size (Go.World.heap w) + 1 + 1) 0 Option.none)), Go.Value.pointer (Option.some (Go.Addr.mk (Array.size (Go.World.heap w) + 1 + 1 + 1) 0 Option.none)), Go.Value.int Go.IntKind.i64 (Nat.cast (Fin.val x)), Go.Value.pointer (Option.some (Go.Addr.mk g 0 Option.none)), Go.Value.func (Go.Fn.func 76) #[] #[Go.Value.pointer (Option.some (Go.Addr.mk (Array.size (Go.World.heap w) + 4 + 1) 0 Option.none)), Go.Value.pointer (Option.some (Go.Addr.mk (Array.size (Go.World.heap w) + 4) 0 Option.none))], Go.Value.int Go.IntKind.i64 (Nat.cast (Fin.val x)), Go.undef, Go.undef, Go.undef, Go.undef, Go.undef, Go.undef, Go.undef, Go.undef, Go.undef, Go.undef, Go.undef, Go.undef, Go.undef, Go.undef, Go.undef, Go.undef, Go.undef, Go.undef] []) ?hassign ?hbody ?hdone ?hstop)
 case hBn => exact hbn
 case hBb => exact hbb
 case hN => omega
 case hJ => exact .and (ownBlk _) (.and (ownBlk _) (.and (ownBlk _) (.and (ownBlk _) (ownBut (by omega)))))
 case hJx => exact fun _ _ _ _ _ h _ _ => h
 case h0 => exact ⟨K0.out, K1.out, K2.out, K3.out, Below.but KB.out _⟩
 case hstop => exact fun _ _ _ _ _ _ h => h.elim
 case hassign =>
  intro l0 x W K hK
  gi_wp2
  exact hK
 case hbody =>
  intro l0 pre x W hJ hbn hbb
  obtain ⟨i, hi16⟩ := x
  obtain ⟨j0, j1, j2, j3, jB⟩ := hJ
  have hcg := cell_of_one j0
  have hcn := cell_of_one j1
  have hgW := HG.out.below jB.nil
  have hcl := hgW.cl i (by omega)
  have hch := hgW.ch i (by omega)
  have hglW := hgW.lt
  have i16 : i < 16 := by omega
  have hlen := foldN_length lo hi n pre (List.replicate 16 0)
  rw [List.length_replicate] at hlen
  have ho := (blk_cell j3 i).trans (ints_getD _ i (by rw [hlen]; exact i16))
  have hof := blk_frozen j3 i
  obtain ⟨o, hoo⟩ : ∃ o, o = foldN lo hi n pre (List.replicate 16 0) := ⟨_, rfl⟩
  have HO := Lib.hid hoo
  rw [← hoo] at ho j3
  obtain ⟨a, ha⟩ : ∃ a, a = lo.getD i 0 := ⟨_, rfl⟩
  obtain ⟨b, hb⟩ : ∃ b, b = hi.getD i 0 := ⟨_, rfl⟩
  rw [← ha] at hcl
  rw [← hb] at hch
  have HA := Lib.hid ha
  have HB := Lib.hid hb
  have J0 := Aside0.mk j0
  have J1 := Aside0.mk j1
  have J2 := Aside0.mk j2
  have J3 := Aside0.mk j3
  have JB := Aside0.mk jB
  have HI := Lib.hid hi16
  clear hoo ha hb
  (skip)
  gi_wp2_with fail
  (refine Code.wpIn_mono calm_le ?_; (first | refine startR_ (k := 18) (S := fun w' => w' = _) (ds := [17]) (List.toArray (false :: false :: false :: false :: false :: false :: false :: false :: false :: false :: false :: false :: false :: false :: false :: false :: false :: false :: [])) (by kernel_rfl) (by kernel_rfl) calm_in rfl rfl rfl (fun plS => ?_) | refine startW_ (k := 18) (S := fun w' => w' = _) (ds := [17]) (List.toArray (false :: false :: false :: false :: false :: false :: false :: false :: false :: false :: false :: false :: false :: false :: false :: false :: false :: false :: [])) (by kernel_rfl) (by kernel_rfl) calm_in rfl rfl rfl (fun plS => ?_)); clear plS; refine pureY (i := 0) (N := (some 10)) ?_; refine pureY (i := 2) (N := (some 12)) ?_; refine pureY (i := 8) (N := (some 18)) ?_; refine takeE (i := 1) (N := (some 11)) ?_; refine pureY (i := 3) (N := (some 13)) ?_; refine pureY (i := 4) (N := (some 14)) ?_; refine pureY (i := 5) (N := (some 15)) ?_; refine takeE (i := 6) (N := (some 16)) ?_; refine takeE (i := 7) (N := (some 17)) ?_; refine pureY (i := 9) (N := (some 19)) ?_; refine pureY (i := 10) (N := (some 20)) ?_; refine pureY (i := 11) (N := (some 21)) ?_; refine takeE (i := 12) (N := (some 22)) ?_; refine takeE (i := 13) (N := (some 23)) ?_; refine pureY (i := 14) (N := (some 24)) ?_; refine pureY (i := 15) (N := (some 25)) ?_; refine pureY (i := 16) (N := (some 26)) ?_; refine lastY (i := 17) (fun plK plH => ?_); rw [if_pos (by rfl)]; (first | gi_big_move | go_big_op | go_simp))
  ((try simp only [Act.put, List.getElem_toArray, List.getElem_cons_succ, List.getElem_cons_zero, List.setIfInBounds_toArray, List.set_cons_succ, List.set_cons_zero]); refine plH _ _ ?_; clear plH plK; refine done_ (by kernel_rfl) ?_; rw [calm_normal])
  have hk3 := blk_put J3.out i (.int .i64 (mx a (mn b n))) (ints_set _ _ _)
  have e0 : ∀ k, k ≠ 3 → w.heap.size + k ≠ w.heap.size + 3 := fun k hk => by omega
  refine ⟨(KeepsOthers.setCell W _ _).trans (.drew _), ?_, (Below.heap_setCell _ ⟨w.heap.size + 3, i, none⟩ _ _ (e0 0 (by omega))).trans J0.out, (Below.heap_setCell _ ⟨w.heap.size + 3, i, none⟩ _ _ (e0 1 (by omega))).trans J1.out, (Below.heap_setCell _ ⟨w.heap.size + 3, i, none⟩ _ _ (e0 2 (by omega))).trans J2.out, ?_, (JB.out.setCell ⟨w.heap.size + 3, i, none⟩ _ (.inr (by show w.heap.size ≤ w.heap.size + 3; omega))).drew⟩
  ·intro b hb
   simp only [List.mem_cons, List.not_mem_nil, or_false] at hb
   refine (Below.heap_setCell _ _ _ _ (fun e => ?_))
   have e : b = w.heap.size + 3 := e
   rcases hb with rfl | rfl <;> omega
  rw [foldN_snoc, ← HO.out]
  unfold stepN
  rw [← HA.out, ← HB.out]
  exact hk3
 case hdone =>
  intro D W3 hD hJ hK
  obtain ⟨j0, j1, j2, j3, jB⟩ := hJ
  rw [foldN_all lo hi n N h16] at j3
  have hnl : (nearL lo hi N n).length = 16 := padRow_length _ _
  have hS3 := SegOk.mk' j3 0 16 (by simp [ints, hnl])
  have hV3 := seg_whole (n := 16) j3 (by simp [ints, hnl])
  have hS2 := SegOk.mk' j2 0 16 (by simp [ints])
  have J2 := Aside0.mk j2
  have JB := Aside0.mk jB
  have HK := Aside0.mk hK
  clear j0 j1 j2 j3 jB hK hbb hbn
  gi_wp2_with fail
  have hfin := putSeg_block J2.out (l := (ints (nearL lo hi N n)).toList) (by simp [ints, hnl])
  have hD2 : D ≠ w.heap.size + 2 := by omega
  refine leaves_marks [D] _ ⟨fun E hE => by
   obtain rfl := List.mem_singleton.1 hE
   exact (putSeg_other _ _ _ _ _ hD2).trans HK.out, by simp⟩ ?_
  intro W8 hb hc
  have h8 := hc _ _ _ _ hfin
  refine ⟨.agg (ints (nearL lo hi N n)), ?_, rfl, ?_⟩
  ·exact (results_arr1 rfl rfl isAgg16 sizeOf16 (SegOk.mk' h8 0 16 (by simp [ints, hnl]))).trans (by rw [seg_whole (n := 16) h8 (by simp [ints, hnl])])
  exact (putSeg_below _ _ _ _ _ _ (by omega) JB.out.nil).trans (hb.below _ (by rw [putSeg_size]; have := JB.out.size; omega) (fun d hd => by
   obtain rfl := List.mem_singleton.1 hd
   omega))
end Go.Proofs.Ytpkajhmchcbbhaa.P
end
section
namespace Go.Proofs.Ytpkajhmchcbbhaa.P
open Go.RowKit Go.Proofs.YtpkajhmchcbbhaaW.PrintWords Go.Proofs.YtpkajhmchcbbhaaW.PrintLast Go.Proofs.YtpkajhmchcbbhaaW.PrintMore
attribute [local go_sem] max2_mx min2_mn max_two min_two
set_option maxRecDepth 100000 in
set_option maxHeartbeats 4000000 in
theorem truly_calls (g : Nat) (A : Option Addr) (c : Nat) (l : List SRow) (p : Int) (lo hi : List Int) (dip : Int) (w : World) (hr : Kd.C kRow w A l.length l) (hD : DipOk l) (hd0 : -100000 ≤ dip) (hd1 : dip ≤ 100000) (hp0 : 0 ≤ p) (hp1 : p ≤ 50)
  (hg : Gauge w g A l.length c p lo hi) :
  Calls Try.prog 82 #[.pointer (some ⟨g, 0, none⟩), .int .i64 dip] w fun e w' => e = .returned (.agg #[.int .i64 (trueLo l p dip), .int .i64 (trueHi l p dip)]) ∧ Below w.heap.size w w' := by
 have HR := Aside0.mk hr
 have hc0 := hg.c0
 have hc1 := hg.c1
 have hgl := hg.lt
 have n2 := hD.n2
 have n16 := hD.n16
 clear hg hr hD
 have hu1 := Try.underlying24
 have hu2 := Try.underlying70
 have hu3 := Try.underlying99
 have hu4 := Try.underlying43
 obtain ⟨ad, rfl, d0, x1, x2⟩ := row_cells HR.out 0 (by omega)
 obtain ⟨ad', had, d1, x3, x4⟩ := row_cells HR.out (l.length - 1) (by omega)
 obtain rfl := Option.some.inj had
 clear had x1 x2 x3 x4
 have i0 : (0 : Int) < l.length := by omega
 have i2 : ((l.length : Int) - 1).toNat = l.length - 1 := by omega
 have i3 : (l.length : Int) - 1 < l.length := by omega
 have i4 : (0 : Int) ≤ (l.length : Int) - 1 := by omega
 have i5 : (1 : Int) ≤ (l.length : Int) := by omega
 obtain ⟨a, ha⟩ : ∃ a, a = (l.getD 0 zRow).f0 := ⟨_, rfl⟩
 obtain ⟨b, hb⟩ : ∃ b, b = (l.getD (l.length - 1) zRow).f0 := ⟨_, rfl⟩
 rw [← ha] at d0
 rw [← hb] at d1
 replace d0 : w.cell? ad = some (.int .i64 a) := by rw [Nat.zero_mul, addr_add0] at d0; exact d0
 have H1 := Lib.hid (show trueLo l p dip = mx a (dip - p) by rw [ha]; rfl)
 have H2 := Lib.hid (show trueHi l p dip = mn b (dip + p) by rw [hb]; rfl)
 clear ha hb
 go_enter Try.func82, Try.ntmps82
 go_wp2_with fail
 obtain ⟨W1, hW1⟩ : ∃ W1, w.alloc (.cells #[.int .i64 0, .int .i64 0] 43) = W1 := ⟨_, rfl⟩
 have hB1 : Below w.heap.size w W1 := by rw [← hW1]; exact (Below.refl _ _).alloc (Nat.le_refl _) _
 have HK : Aside0 (W1.heap[w.heap.size]? = some (.cells #[.int .i64 0, .int .i64 0] 43 (0, 0))) := ⟨by rw [← hW1]; exact blk_new _ _⟩
 rw [hW1]
 replace d0 := pw_cell_below hB1 d0
 replace d1 := pw_cell_below hB1 d1
 replace hc0 := pw_cell_below hB1 hc0
 replace hc1 := pw_cell_below hB1 hc1
 have hk0 := blk_cell HK.out 0
 have hk1 := blk_cell HK.out 1
 have hkf0 := blk_frozen HK.out 0
 have hkf1 := blk_frozen HK.out 1
 have HB1 := Aside0.mk hB1
 clear hW1 hB1
 (refine start_ (n := 41) (S := fun w' => w' = _) (ds := [40]) (List.toArray (false :: false :: false :: false :: false :: false :: false :: false :: false :: false :: false :: false :: false :: false :: false :: false :: false :: false :: false :: false :: false :: false :: false :: false :: false :: false :: false :: false :: false :: false :: false :: false :: false :: false :: false :: false :: false :: false :: false :: false :: false :: [])) (by kernel_rfl) rfl rfl rfl (fun plS => ?_); clear plS; refine pureY (i := 0) (N := (some 5)) ?_; refine pureY (i := 1) (N := (some 6)) ?_; refine pureY (i := 2) (N := (some 7)) ?_; refine pureY (i := 3) (N := (some 8)) ?_; refine pureY (i := 8) (N := (some 13)) ?_; refine pureY (i := 9) (N := (some 14)) ?_; refine pureY (i := 10) (N := (some 15)) ?_; refine pureY (i := 11) (N := (some 16)) ?_; refine pureY (i := 12) (N := (some 17)) ?_; refine pureY (i := 16) (N := (some 21)) ?_; refine pureY (i := 17) (N := (some 22)) ?_; refine pureY (i := 18) (N := (some 23)) ?_; refine pureY (i := 19) (N := (some 24)) ?_; refine pureY (i := 21) (N := (some 26)) ?_; refine pureY (i := 22) (N := (some 27)) ?_; refine pureY (i := 23) (N := (some 28)) ?_; refine pureY (i := 24) (N := (some 29)) ?_; refine pureY (i := 31) (N := (some 36)) ?_; refine pureY (i := 32) (N := (some 37)) ?_; refine pureY (i := 33) (N := (some 38)) ?_; refine pureY (i := 34) (N := (some 39)) ?_; refine pureY (i := 35) (N := (some 40)) ?_; refine takeE (i := 4) (N := (some 9)) ?_; refine pureY (i := 5) (N := (some 10)) ?_; refine pureY (i := 6) (N := (some 11)) ?_; refine takeE (i := 7) (N := (some 12)) ?_; refine takeE (i := 13) (N := (some 18)) ?_; refine pureY (i := 14) (N := (some 19)) ?_; refine pureY (i := 15) (N := (some 20)) ?_; refine takeE (i := 20) (N := (some 25)) ?_; refine takeE (i := 25) (N := (some 30)) ?_; refine pureY (i := 26) (N := (some 31)) ?_; refine pureY (i := 27) (N := (some 32)) ?_; refine pureY (i := 28) (N := (some 33)) ?_; refine pureY (i := 29) (N := (some 34)) ?_; refine takeE (i := 30) (N := (some 35)) ?_; refine takeE (i := 36) (N := (some 41)) ?_; refine pureY (i := 37) (N := (some 42)) ?_; refine pureY (i := 38) (N := (some 43)) ?_; refine pureY (i := 39) (N := (some 44)) ?_; refine lastY (i := 40) (fun plK plH => ?_); rw [if_pos (by rfl)]; (first | gi_big_move | go_big_op | go_simp))
 ((try simp only [Act.put, List.getElem_toArray, List.getElem_cons_succ, List.getElem_cons_zero, List.setIfInBounds_toArray, List.set_cons_succ, List.set_cons_zero]); refine plH _ _ ?_; clear plH plK; refine done_ (by kernel_rfl) ?_)
 go_wp2
 have hfin := blk_put (blk_put HK.out 0 (.int .i64 (mx a (dip - p))) rfl) 1 (.int .i64 (mn b (dip + p))) rfl
 refine bodyPost_ret (results_arr1 rfl rfl isAggR sizeOfR (SegOk.mk' hfin 0 2 (by simp))) rfl ⟨?_, ?_⟩
 ·rw [seg_drew, seg_whole (n := 2) hfin rfl, H1.out, H2.out]
  rfl
 exact ((HB1.out.setCell (p := ⟨w.heap.size, 0, none⟩) (Nat.le_refl _) _).setCell (p := ⟨w.heap.size, 1, none⟩) (Nat.le_refl _) _).drew
end Go.Proofs.Ytpkajhmchcbbhaa.P
end
