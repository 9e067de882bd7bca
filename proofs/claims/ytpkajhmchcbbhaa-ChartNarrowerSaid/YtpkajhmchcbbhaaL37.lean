/- Part 37 of 44. -/
import Derived.Test.YtpkajhmchcbbhaaL0
import Derived.Test.YtpkajhmchcbbhaaL34
import Derived.Laws.MakeOwn
import Derived.Laws.CopyRow
set_option linter.unusedSimpArgs false
set_option linter.unusedVariables false
section
namespace Go.Proofs.Ytpkajhmchcbbhaa.P
open Go.RowKit Go.Proofs.YtpkajhmchcbbhaaW.PrintWords Go.Proofs.YtpkajhmchcbbhaaW.PrintLast Go.Proofs.YtpkajhmchcbbhaaW.PrintMore
attribute [local go_sem ↓] exec_load112 exec_store112 sem_load112 sem_store112 exec_load113 exec_store113 sem_load113 sem_store113 exec_none113 sem_none113
attribute [local go_sem] load112_at store112_at load113_at store113_at SegOk_alloc seg_alloc SegOk_drew seg_drew SegOk_drewN seg_drewN ints_size Ones_ints store112_new store112_newD store113_new
theorem make_ints (W : World) (n : Nat) (hn : n ≤ 16) : (Instr.makeSlice 25 (.int .i64 n) (.int .i64 n)).run Try.prog W = .ok (.slice (some ⟨W.heap.size, 0, none⟩) n n) (W.alloc (.cells (ints (List.replicate n 0)) 2)) := by
 obtain ⟨i, hi, hz, hs, hb⟩ : ∃ i, Try.prog.info? 2 = some i ∧ i.zero = some (.int .i64 0) ∧ i.size = 1 ∧ i.bytes = 8 := by
  have h : (Try.prog.info? 2).map (fun i => (i.zero, i.size, i.bytes)) = some (some (.int .i64 0), 1, 8) := by kernel_rfl
  cases hq : Try.prog.info? 2 with
  | none => rw [hq] at h; cases h
  | some i => rw [hq] at h; simp at h; exact ⟨i, rfl, h.1, h.2.1, h.2.2⟩
 have h := run_make (P := Try.prog) W 25 2 i (.int .i64 0) Try.underlying25 hi hz .i64 .i64 n n (by omega) (by omega) (by rw [hb]; omega) (by omega)
 rw [h, hs]
 have e : madeCells (Value.int .i64 0).cells ((n : Int).toNat * 1) = ints (List.replicate n 0) := by
  apply Array.ext
  ·simp [madeCells, ints]
  intro i h1 h2
  simp [madeCells, ints, Value.cells, Nat.mod_one]
 rw [show ((n : Int).toNat) = n from Int.toNat_natCast n] at e ⊢
 exact congrArg (fun c => Result.ok _ (W.alloc (.cells c _))) e
theorem copy_ints (W : World) (g q n : Nat) (d0 d1 : Int) (C : List Int) (a b : Int) (ty : TypeId) (t : TypeId) (hn : n ≤ 16) (hC : C.length = 16) (hg : W.heap[g]? = some (.cells (ints (List.replicate n 0)) 2 (0, 0))) (hq : W.heap[q]? = some (.cells (ints (endL d0 d1 C a b)) t (0, 0))) :
  (Builtin.copy_ #[25, 25] ty #[.slice (some ⟨g, 0, none⟩) n n, .slice (some ⟨q, 2, none⟩) 16 16]).run Try.prog W = .ok (.int .i64 n) (W.setRow g (ints (C.take n))) := by
 have hlen : ((C.take n).map (Value.int .i64)).length = n := by rw [List.length_map, List.length_take, hC]; omega
 have h := run_copy_row (P := Try.prog) W 25 25 ty 2 g 0 n n ⟨q, 2, none⟩ 16 16 _ _ ((C.take n).map (Value.int .i64)) Try.underlying25 (by kernel_rfl) hg (by rw [hlen]; exact (Nat.min_eq_right hn).symm) (fun j v hj => by
   rw [List.getElem?_map] at hj
   have hadd : (⟨q, 2, none⟩ : Addr).add j = ⟨q, 2 + j, none⟩ := by unfold Addr.add; split <;> simp_all
   rw [hadd, blk_cell hq]
   cases hx : (C.take n)[j]? with
   | none => rw [hx] at hj; cases hj
   | some x =>
    rw [hx] at hj; cases hj
    have hj2 : C[j]? = some x := by
     rw [List.getElem?_take] at hx
     split at hx
     ·exact hx
     cases hx
    have hj3 := (List.getElem?_eq_some_iff.1 hj2).1
    simp only [ints, endL, List.map_cons, List.map_append, List.getElem?_toArray, Nat.add_comm 2 j, List.getElem?_cons_succ]
    rw [List.getElem?_append_left (by simpa using hj3), List.getElem?_map, hj2]
    rfl) (by rw [hlen, ints_size, List.length_replicate]; omega) (fun v hv => by
   obtain ⟨x, _, rfl⟩ := List.mem_map.1 hv; rfl)
 rw [h, hlen]
 have e : ((ints (List.replicate n 0)).toList.take 0 ++ (C.take n).map (Value.int .i64) ++ (ints (List.replicate n 0)).toList.drop (0 + n)).toArray = ints (C.take n) := by
  rw [List.drop_of_length_le (by simp [ints])]
  simp [ints]
 rw [e]
 rfl
attribute [local go_sem] make_ints
theorem results_mid {fn : Func} {tmps : Array Value} {w : World} {a b c ty n g k : Nat} (hr : fn.results = #[.tmp a, .cell b ty, .tmp c]) (hp : tmps.getD b undef = .pointer (some ⟨g, k, none⟩)) (ha : ∀ w, (isAgg ty).run Try.prog w = .ok true w) (hs : ∀ w, (sizeOf ty).run Try.prog w = .ok n w) (h : SegOk w g k n) :
  (results fn tmps).run Try.prog w = .ok (.tuple #[tmps.getD a undef, .agg (seg w g k n), tmps.getD c undef]) w := by
 have hp' : tmps[b]?.getD undef = .pointer (some ⟨g, k, none⟩) := by simpa using hp
 simp [results, hr, hp', asAddr, run_loadVar_arr ty n ha hs w g k h]
theorem R_ints {w : World} {base g n : Nat} {l : List Int} (hl : l.length = n) (hn : n ≤ 1000000) (hg : w.heap[g]? = some (.cells (ints l) 2 (0, 0))) (hb : base ≤ g) : Kd.R (Kd.int .i64) 2 w base (fun _ => True) (.slice (some ⟨g, 0, none⟩) n n) l := by
 subst hl
 refine Kd.R_of_own ⟨by simp [encs], .inr ⟨g, l.length, ints l, rfl, hb, hg, Nat.le_refl _, by unfold maxLen; omega, by simp [ints], ?_⟩⟩ (fun _ _ => trivial)
 simp only [ints, encs, Nat.mul_one]
 exact List.take_of_length_le (by simp)
theorem two_left {xs ys : Array Value} {n : Nat} (h : xs.size = n) : (xs ++ ys).extract 0 (0 + n) = xs := by
 subst h; rw [Nat.zero_add]; simp
theorem two_right {xs ys : Array Value} {n : Nat} (h : xs.size = n) (k : ys.size = n) : (xs ++ ys).extract n (n + n) = ys := by
 subst h
 have : xs.size + xs.size = (xs ++ ys).size := by rw [Array.size_append, k]
 rw [this]
 simp
set_option maxRecDepth 100000 in
set_option maxHeartbeats 40000000 in
theorem chart_End.calls (A0_0 : Option Addr) (c0_0 : Nat) (l0_0 : List SRow) (a0_1 : Int) (a1 : Int) (a2 : Int) (a3 : Bool) (r1 : List Int) (r2 : Int) (r3 : Int) (r4 : Int) (w : World) (hr0_0 : Kd.C kRow w A0_0 l0_0.length l0_0) (hc0_0 : l0_0.length ≤ c0_0) (h : chart_End.f l0_0 a0_1 a1 a2 a3 = some (r1, r2, r3, r4)) :
  Calls Try.prog 32 #[.agg #[.slice A0_0 l0_0.length c0_0, .int .i64 a0_1], .int .i64 a1, .int .i64 a2, .bool a3] w fun e w' => ∃ v0_ : Value, e = .returned (.tuple #[v0_, .agg #[.int .i64 r2, .int .i64 r3], .int .i64 r4]) ∧ Kd.R (Kd.int .i64) 2 w' w.heap.size (fun _ => True) v0_ r1 ∧ Below w.heap.size w w' := by
 have HR := Aside0.mk hr0_0
 have HC := Aside0.mk hc0_0
 have HE := Aside0.mk (Option.some.inj h)
 clear hr0_0 hc0_0 h
 have hu1 := Try.underlying24
 have hu2 := Try.underlying39
 have hu3 := Try.underlying48
 have hu7 := Try.underlying112
 have hu9 := Try.underlying113
 have hu6 := Try.underlying51
 have hu5 := Try.underlying97
 go_enter Try.func32, Try.ntmps32
 go_wp2_with fail
 obtain ⟨V0, hV0⟩ : ∃ V, (w.alloc (.cells #[.slice A0_0 l0_0.length c0_0, .int .i64 a0_1] 24)).alloc (.cells #[.int .i64 0, .int .i64 0] 51) = V := ⟨_, rfl⟩
 have hs0 : V0.heap.size = w.heap.size + 2 := by rw [← hV0]; simp
 have K0 : Aside0 (V0.heap[w.heap.size]? = some (.cells #[.slice A0_0 l0_0.length c0_0, .int .i64 a0_1] 24 (0, 0))) := ⟨by rw [← hV0]; exact blk_old (blk_new _ _)⟩
 have K1 : Aside0 (V0.heap[w.heap.size + 1]? = some (.cells #[.int .i64 0, .int .i64 0] 51 (0, 0))) := ⟨by rw [← hV0]; exact blk_new' (by simp)⟩
 have KB : Aside0 (Below w.heap.size w V0) := ⟨by rw [← hV0]; exact ((Below.refl _ _).alloc (Nat.le_refl _) _).alloc (by simp) _⟩
 rw [hV0]
 clear hV0
 refine (ends_calls A0_0 c0_0 l0_0 a0_1 a1 a2 V0 (Kd.C_below HR.out KB.out) HC.out).mono ?_
 rintro e w3 ⟨rfl, hB3⟩
 have M0 := Aside0.mk (below_blk hB3 K0.out (blk_lt K0.out))
 have M1 := Aside0.mk (below_blk hB3 K1.out (blk_lt K1.out))
 have MB := Aside0.mk (below_then KB.out hB3)
 have hs3 : w.heap.size + 2 ≤ w3.heap.size := by have := hB3.size; omega
 clear hB3 K0 K1 KB hs0 V0
 have hTE : endsE l0_0 a0_1 a1 a2 = 0 → 2 ≤ l0_0.length ∧ l0_0.length ≤ 16 := fun h => checkTank_len (endsE_tank h)
 have hLl := endsL_length (l := l0_0) (p := a0_1) (water := a1) (level := a2) (fun h => ⟨(hTE h).2, (hTE h).1⟩)
 have hLs : (ints (endsL l0_0 a0_1 a1 a2)).size = 40 := by rw [ints_size, hLl]
 have HLE : Aside0 (endsE l0_0 a0_1 a1 a2 = 0 → endsL l0_0 a0_1 a1 a2 = endLow l0_0 a0_1 a1 a2 ++ endHigh l0_0 a0_1 a1 a2) := ⟨fun h => by unfold endsL; rw [if_pos h]⟩
 obtain ⟨L, hL⟩ : ∃ L, L = endsL l0_0 a0_1 a1 a2 := ⟨_, rfl⟩
 obtain ⟨E, hE⟩ : ∃ E, E = endsE l0_0 a0_1 a1 a2 := ⟨_, rfl⟩
 rw [← hL] at hLl hLs HLE ⊢
 rw [← hE] at HLE hTE ⊢
 have HEE := Lib.hid hE
 have HTE := Aside0.mk hTE
 clear hL hE hTE
 have hm1 := blk_lt M1.out
 have g0 : w3.cell? ⟨w.heap.size + 1, 0, none⟩ = some (.int .i64 0) := blk_cell M1.out 0
 have g1 : w3.cell? ⟨w.heap.size + 1, 1, none⟩ = some (.int .i64 0) := blk_cell M1.out 1
 have f0 := blk_frozen M1.out 0
 have f1 := blk_frozen M1.out 1
 rcases Decidable.em (E = 0) with h0 | h0
 ·obtain ⟨h2, h16⟩ := HTE.out h0
  have hLE := HLE.out h0
  have he := HE.out
  rw [if_neg (by rw [← HEE.out]; simpa using h0)] at he
  have HN := Aside0.mk he
  have HQ := Lib.hid hLE
  subst h0
  clear HE HLE HTE HEE he hLE
  have hel : (fewR l0_0 (lowDips l0_0 a0_1 a1 a2).1 (lowDips l0_0 a0_1 a1 a2).2).2.length = 16 := fewR_length h16 h2 _ _
  have hem : (mostR l0_0 (highDips l0_0 a0_1 a1 a2).1 (highDips l0_0 a0_1 a1 a2).2).2.length = 16 := by
   unfold mostR; rw [mostC_eq h16]; exact mostL_length _ _ _ (by simp [LowAt, padRow]) (by simp [HighAt, padRow]) (bwts_length l0_0 _ _)
  unfold endLow endHigh at HQ
  obtain ⟨d1, hd1⟩ : ∃ d, d = (lowDips l0_0 a0_1 a1 a2).1 := ⟨_, rfl⟩
  obtain ⟨d2, hd2⟩ : ∃ d, d = (lowDips l0_0 a0_1 a1 a2).2 := ⟨_, rfl⟩
  obtain ⟨d3, hd3⟩ : ∃ d, d = (highDips l0_0 a0_1 a1 a2).1 := ⟨_, rfl⟩
  obtain ⟨d4, hd4⟩ : ∃ d, d = (highDips l0_0 a0_1 a1 a2).2 := ⟨_, rfl⟩
  rw [← hd1, ← hd2] at hel
  rw [← hd3, ← hd4] at hem
  rw [← hd1, ← hd2, ← hd3, ← hd4] at HQ HN
  clear hd1 hd2 hd3 hd4
  obtain ⟨C1, hC1⟩ : ∃ c, c = (fewR l0_0 d1 d2).2 := ⟨_, rfl⟩
  obtain ⟨C2, hC2⟩ : ∃ c, c = (mostR l0_0 d3 d4).2 := ⟨_, rfl⟩
  obtain ⟨n1, hn1⟩ : ∃ c, c = leastN (fewR l0_0 d1 d2).1 (bden l0_0 d1 d2) := ⟨_, rfl⟩
  obtain ⟨n2, hn2⟩ : ∃ c, c = leastD (fewR l0_0 d1 d2).1 (bden l0_0 d1 d2) := ⟨_, rfl⟩
  obtain ⟨n3, hn3⟩ : ∃ c, c = leastN (mostR l0_0 d3 d4).1 (bden l0_0 d3 d4) := ⟨_, rfl⟩
  obtain ⟨n4, hn4⟩ : ∃ c, c = leastD (mostR l0_0 d3 d4).1 (bden l0_0 d3 d4) := ⟨_, rfl⟩
  rw [← hC1] at hel
  rw [← hC2] at hem
  rw [← hC1, ← hC2] at HQ HN
  rw [← hn1, ← hn2, ← hn3, ← hn4] at HQ
  clear hC1 hC2 hn1 hn2 hn3 hn4
  have hz1 := endL_length d1 d2 C1 n1 n2 hel
  have hz2 := endL_length d3 d4 C2 n3 n4 hem
  go_wp2_with fail
  obtain ⟨V, hV⟩ : ∃ V, w3.alloc (.cells (ints L) 113) = V := ⟨_, rfl⟩
  obtain ⟨b, hb⟩ : ∃ b, b = w3.heap.size := ⟨_, rfl⟩
  have N0 : Aside0 (V.heap[w.heap.size]? = some (.cells #[.slice A0_0 l0_0.length c0_0, .int .i64 a0_1] 24 (0, 0))) := ⟨by rw [← hV]; exact blk_old M0.out⟩
  have N1 : Aside0 (V.heap[w.heap.size + 1]? = some (.cells #[.int .i64 0, .int .i64 0] 51 (0, 0))) := ⟨by rw [← hV]; exact blk_old M1.out⟩
  have N2 : Aside0 (V.heap[b]? = some (.cells (ints (endL d1 d2 C1 n1 n2 ++ endL d3 d4 C2 n3 n4)) 113 (0, 0))) := ⟨by rw [← hV, hb, ← HQ.out]; exact blk_new _ _⟩
  have NB : Aside0 (Below w.heap.size w V) := ⟨by rw [← hV]; exact MB.out.alloc (by omega) _⟩
  have HVS := Lib.hid (show V.heap.size = b + 1 by rw [← hV, hb]; simp)
  have hbV : b < V.heap.size := by have := HVS.out; omega
  rw [hV, ← hb]
  rw [← hb] at hs3
  clear hV hb g0 g1 f0 f1 hm1 M0 M1 MB w3
  have hS1 : SegOk V b 0 20 := SegOk.mk' N2.out 0 20 (by rw [ints_size, List.length_append, hz1, hz2]; omega)
  have hS2 : SegOk V b 20 20 := SegOk.mk' N2.out 20 20 (by rw [ints_size, List.length_append, hz1, hz2]; omega)
  have hV1 : seg V b 0 20 = ints (endL d1 d2 C1 n1 n2) := by rw [seg_of N2.out, ← ints_app]; exact two_left (by rw [ints_size, hz1])
  have hV2 : seg V b 20 20 = ints (endL d3 d4 C2 n3 n4) := by rw [seg_of N2.out, ← ints_app]; exact two_right (by rw [ints_size, hz1]) (by rw [ints_size, hz2])
  rw [load112_at V b 0 hS1, hV1]
  cases a3 with
  | false =>
   have c0 : (V.alloc (.cells (ints (endL d1 d2 C1 n1 n2)) 112)).cell? ⟨w.heap.size, 0, none⟩ = some (.slice A0_0 l0_0.length c0_0) := (blk_cell (blk_old N0.out) 0).trans rfl
   go_wp2_with fail
   obtain ⟨W, hW⟩ : ∃ W, (V.alloc (.cells (ints (endL d1 d2 C1 n1 n2)) 112)).alloc (.cells (ints (List.replicate l0_0.length 0)) 2) = W := ⟨_, rfl⟩
   obtain ⟨q, hq⟩ : ∃ q, q = V.heap.size := ⟨_, rfl⟩
   have P1 : Aside0 (W.heap[w.heap.size + 1]? = some (.cells #[.int .i64 0, .int .i64 0] 51 (0, 0))) := ⟨by rw [← hW]; exact blk_old (blk_old N1.out)⟩
   have P2 : Aside0 (W.heap[q]? = some (.cells (ints (endL d1 d2 C1 n1 n2)) 112 (0, 0))) := ⟨by rw [← hW, hq]; exact blk_old (blk_new _ _)⟩
   have P3 : Aside0 (W.heap[q + 1]? = some (.cells (ints (List.replicate l0_0.length 0)) 2 (0, 0))) := ⟨by rw [← hW, hq]; exact blk_new' (by simp)⟩
   have PB : Aside0 (Below w.heap.size w W) := ⟨by rw [← hW]; exact (NB.out.alloc (by omega) _).alloc (by simp; omega) _⟩
   have hwq : w.heap.size + 2 ≤ q := by omega
   rw [hW, ← hq]
   clear hW hq N0 N1 N2 NB HVS hbV hS1 hS2 hV1 hV2 c0 V
   rw [copy_ints W (q + 1) q l0_0.length d1 d2 C1 n1 n2 _ _ h16 hel P3.out P2.out]
   obtain ⟨X, hX⟩ : ∃ X, W.setRow (q + 1) (ints (C1.take l0_0.length)) = X := ⟨_, rfl⟩
   have Q1 : Aside0 (X.heap[w.heap.size + 1]? = some (.cells #[.int .i64 0, .int .i64 0] 51 (0, 0))) := ⟨by rw [← hX]; exact (setRow_other _ _ _ _ (by omega)).trans P1.out⟩
   have Q2 : Aside0 (X.heap[q]? = some (.cells (ints (endL d1 d2 C1 n1 n2)) 112 (0, 0))) := ⟨by rw [← hX]; exact (setRow_other _ _ _ _ (by omega)).trans P2.out⟩
   have Q3 : Aside0 (X.heap[q + 1]? = some (.cells (ints (C1.take l0_0.length)) 2 (0, 0))) := ⟨by rw [← hX]; exact setRow_heap _ _ _ _ _ _ P3.out⟩
   have QB : Aside0 (Below w.heap.size w X) := ⟨by rw [← hX]; exact below_setRow PB.out (by omega) _⟩
   rw [hX]
   clear hX P1 P2 P3 PB W
   go_wp2_with fail
   have x0 : X.cell? ⟨q, 0, none⟩ = some (.int .i64 d1) := blk_cell Q2.out 0
   have x1 : X.cell? ⟨q, 1, none⟩ = some (.int .i64 d2) := blk_cell Q2.out 1
   have g0 : X.cell? ⟨w.heap.size + 1, 0, none⟩ = some (.int .i64 0) := blk_cell Q1.out 0
   have g1 : X.cell? ⟨w.heap.size + 1, 1, none⟩ = some (.int .i64 0) := blk_cell Q1.out 1
   have f0 := blk_frozen Q1.out 0
   have f1 := blk_frozen Q1.out 1
   have hm1 := blk_lt Q1.out
   (refine start_ (n := 6) (S := fun w' => w' = _) (ds := [4]) (List.toArray (false :: false :: false :: false :: false :: false :: [])) (by kernel_rfl) rfl rfl rfl (fun plS => ?_); clear plS; refine pureY (i := 0) (N := (some 39)) ?_; refine pureY (i := 1) (N := (some 40)) ?_; refine pureY (i := 3) (N := (some 8)) ?_; refine takeE (i := 2) (N := (some 41)) ?_; refine lastY (i := 4) (fun plK plH => ?_); rw [if_pos (by rfl)]; (first | gi_big_move | go_big_op | go_simp))
   ((try simp only [Act.put, List.getElem_toArray, List.getElem_cons_succ, List.getElem_cons_zero, List.setIfInBounds_toArray, List.set_cons_succ, List.set_cons_zero]); refine plH _ _ ?_; clear plH plK; refine pureY (i := 5) (N := (some 10)) ?_; refine done_ (by kernel_rfl) ?_)
   go_wp2
   have hf := blk_put (blk_put Q1.out 0 (.int .i64 d1) rfl) 1 (.int .i64 d2) rfl
   have hq := (Below.heap_setCell (X.setCell ⟨w.heap.size + 1, 0, none⟩ (.int .i64 d1)) ⟨w.heap.size + 1, 1, none⟩ (.int .i64 d2) (q + 1) ql34).trans ((Below.heap_setCell X ⟨w.heap.size + 1, 0, none⟩ (.int .i64 d1) (q + 1) ql34).trans Q3.out)
   have he7 := HN.out
   simp only [Bool.false_eq_true, if_false, if_true, Prod.mk.injEq] at he7
   obtain ⟨rfl, rfl, rfl, rfl⟩ := he7
   refine bodyPost_ret (results_mid rfl rfl isAgg2 sizeOf2 (SegOk.mk' hf 0 2 (by simp))) rfl ⟨.slice (some ⟨q + 1, 0, none⟩) l0_0.length l0_0.length, ?_, ?_, ?_⟩
   ·rw [seg_drew, seg_whole (n := 2) hf rfl]; rfl
   ·exact R_ints (by rw [List.length_take]; omega) (by omega) hq (by omega)
   exact ((QB.out.setCell (p := ⟨w.heap.size + 1, 0, none⟩) (Nat.le_succ _) _).setCell (p := ⟨w.heap.size + 1, 1, none⟩) (Nat.le_succ _) _).drew
  | true =>
   have c0 : (V.alloc (.cells (ints (endL d3 d4 C2 n3 n4)) 112)).cell? ⟨w.heap.size, 0, none⟩ = some (.slice A0_0 l0_0.length c0_0) := (blk_cell (blk_old N0.out) 0).trans rfl
   go_wp2_with fail
   obtain ⟨W, hW⟩ : ∃ W, (V.alloc (.cells (ints (endL d3 d4 C2 n3 n4)) 112)).alloc (.cells (ints (List.replicate l0_0.length 0)) 2) = W := ⟨_, rfl⟩
   obtain ⟨q, hq⟩ : ∃ q, q = V.heap.size := ⟨_, rfl⟩
   have P1 : Aside0 (W.heap[w.heap.size + 1]? = some (.cells #[.int .i64 0, .int .i64 0] 51 (0, 0))) := ⟨by rw [← hW]; exact blk_old (blk_old N1.out)⟩
   have P2 : Aside0 (W.heap[q]? = some (.cells (ints (endL d3 d4 C2 n3 n4)) 112 (0, 0))) := ⟨by rw [← hW, hq]; exact blk_old (blk_new _ _)⟩
   have P3 : Aside0 (W.heap[q + 1]? = some (.cells (ints (List.replicate l0_0.length 0)) 2 (0, 0))) := ⟨by rw [← hW, hq]; exact blk_new' (by simp)⟩
   have PB : Aside0 (Below w.heap.size w W) := ⟨by rw [← hW]; exact (NB.out.alloc (by omega) _).alloc (by simp; omega) _⟩
   have hwq : w.heap.size + 2 ≤ q := by omega
   rw [hW, ← hq]
   clear hW hq N0 N1 N2 NB HVS hbV hS1 hS2 hV1 hV2 c0 V
   rw [copy_ints W (q + 1) q l0_0.length d3 d4 C2 n3 n4 _ _ h16 hem P3.out P2.out]
   obtain ⟨X, hX⟩ : ∃ X, W.setRow (q + 1) (ints (C2.take l0_0.length)) = X := ⟨_, rfl⟩
   have Q1 : Aside0 (X.heap[w.heap.size + 1]? = some (.cells #[.int .i64 0, .int .i64 0] 51 (0, 0))) := ⟨by rw [← hX]; exact (setRow_other _ _ _ _ (by omega)).trans P1.out⟩
   have Q2 : Aside0 (X.heap[q]? = some (.cells (ints (endL d3 d4 C2 n3 n4)) 112 (0, 0))) := ⟨by rw [← hX]; exact (setRow_other _ _ _ _ (by omega)).trans P2.out⟩
   have Q3 : Aside0 (X.heap[q + 1]? = some (.cells (ints (C2.take l0_0.length)) 2 (0, 0))) := ⟨by rw [← hX]; exact setRow_heap _ _ _ _ _ _ P3.out⟩
   have QB : Aside0 (Below w.heap.size w X) := ⟨by rw [← hX]; exact below_setRow PB.out (by omega) _⟩
   rw [hX]
   clear hX P1 P2 P3 PB W
   go_wp2_with fail
   have x0 : X.cell? ⟨q, 0, none⟩ = some (.int .i64 d3) := blk_cell Q2.out 0
   have x1 : X.cell? ⟨q, 1, none⟩ = some (.int .i64 d4) := blk_cell Q2.out 1
   have g0 : X.cell? ⟨w.heap.size + 1, 0, none⟩ = some (.int .i64 0) := blk_cell Q1.out 0
   have g1 : X.cell? ⟨w.heap.size + 1, 1, none⟩ = some (.int .i64 0) := blk_cell Q1.out 1
   have f0 := blk_frozen Q1.out 0
   have f1 := blk_frozen Q1.out 1
   have hm1 := blk_lt Q1.out
   (refine start_ (n := 6) (S := fun w' => w' = _) (ds := [4]) (List.toArray (false :: false :: false :: false :: false :: false :: [])) (by kernel_rfl) rfl rfl rfl (fun plS => ?_); clear plS; refine pureY (i := 0) (N := (some 39)) ?_; refine pureY (i := 1) (N := (some 40)) ?_; refine pureY (i := 3) (N := (some 8)) ?_; refine takeE (i := 2) (N := (some 41)) ?_; refine lastY (i := 4) (fun plK plH => ?_); rw [if_pos (by rfl)]; (first | gi_big_move | go_big_op | go_simp))
   ((try simp only [Act.put, List.getElem_toArray, List.getElem_cons_succ, List.getElem_cons_zero, List.setIfInBounds_toArray, List.set_cons_succ, List.set_cons_zero]); refine plH _ _ ?_; clear plH plK; refine pureY (i := 5) (N := (some 10)) ?_; refine done_ (by kernel_rfl) ?_)
   go_wp2
   have hf := blk_put (blk_put Q1.out 0 (.int .i64 d3) rfl) 1 (.int .i64 d4) rfl
   have hq := (Below.heap_setCell (X.setCell ⟨w.heap.size + 1, 0, none⟩ (.int .i64 d3)) ⟨w.heap.size + 1, 1, none⟩ (.int .i64 d4) (q + 1) ql34).trans ((Below.heap_setCell X ⟨w.heap.size + 1, 0, none⟩ (.int .i64 d3) (q + 1) ql34).trans Q3.out)
   have he7 := HN.out
   simp only [Bool.false_eq_true, if_false, if_true, Prod.mk.injEq] at he7
   obtain ⟨rfl, rfl, rfl, rfl⟩ := he7
   refine bodyPost_ret (results_mid rfl rfl isAgg2 sizeOf2 (SegOk.mk' hf 0 2 (by simp))) rfl ⟨.slice (some ⟨q + 1, 0, none⟩) l0_0.length l0_0.length, ?_, ?_, ?_⟩
   ·rw [seg_drew, seg_whole (n := 2) hf rfl]; rfl
   ·exact R_ints (by rw [List.length_take]; omega) (by omega) hq (by omega)
   exact ((QB.out.setCell (p := ⟨w.heap.size + 1, 0, none⟩) (Nat.le_succ _) _).setCell (p := ⟨w.heap.size + 1, 1, none⟩) (Nat.le_succ _) _).drew
 obtain ⟨rfl, rfl, rfl, rfl⟩ : r1 = [] ∧ r2 = 0 ∧ r3 = 0 ∧ r4 = E := by
  have h1 := HE.out
  rw [← HEE.out, if_pos h0] at h1
  simp only [Prod.mk.injEq] at h1
  obtain ⟨a, b, c, d⟩ := h1
  exact ⟨a.symm, b.symm, c.symm, d.symm⟩
 clear HE HLE HTE HEE
 go_wp2_with fail
 have hf := blk_old (o := .cells (ints L) 113) (blk_put (blk_put M1.out 0 (.int .i64 0) rfl) 1 (.int .i64 0) rfl)
 refine bodyPost_ret (results_mid rfl rfl isAgg2 sizeOf2 (SegOk.mk' hf 0 2 (by simp))) rfl ⟨.slice none 0 0, ?_, Kd.R_nil _ _ _ _ _, ?_⟩
 ·rw [seg_whole (n := 2) hf rfl]; rfl
 exact Below.alloc ((MB.out.setCell (p := ⟨w.heap.size + 1, 0, none⟩) (Nat.le_succ _) _).setCell (p := ⟨w.heap.size + 1, 1, none⟩) (Nat.le_succ _) _) (by simp; omega) _
end Go.Proofs.Ytpkajhmchcbbhaa.P
end
