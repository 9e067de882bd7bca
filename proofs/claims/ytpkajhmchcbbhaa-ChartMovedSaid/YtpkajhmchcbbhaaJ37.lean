/- Part 37 of 39. -/
import Derived.Test.YtpkajhmchcbbhaaJ0
import Derived.Test.YtpkajhmchcbbhaaJ33
import Derived.Test.YtpkajhmchcbbhaaJ34
import Derived.Test.YtpkajhmchcbbhaaJ30
import Derived.Test.YtpkajhmchcbbhaaJ36
import Derived.Test.YtpkajhmchcbbhaaJ9
import Derived.Test.YtpkajhmchcbbhaaJ11
import Derived.Test.YtpkajhmchcbbhaaJ16
import Derived.Test.YtpkajhmchcbbhaaJ32
import Derived.Test.YtpkajhmchcbbhaaJ8
set_option linter.unusedSimpArgs false
set_option linter.unusedVariables false
section
namespace Go.Proofs.Ytpkajhmchcbbhaa.P
open Go.RowKit Go.Proofs.YtpkajhmchcbbhaaW.PrintWords Go.Proofs.YtpkajhmchcbbhaaW.PrintLast Go.Proofs.YtpkajhmchcbbhaaW.PrintMore
def upD (l : List SRow) (u : Int) : List SRow := l.map fun r => ⟨r.f0 + u, r.f1⟩
def upL (l : List SRow) (m : Int) : List SRow := l.map fun r => ⟨r.f0, ⟨r.f1.f0 + m, r.f1.f1 + m⟩⟩
theorem upD_len (l : List SRow) (u : Int) : (upD l u).length = l.length := by simp [upD]
theorem upL_len (l : List SRow) (m : Int) : (upL l m).length = l.length := by simp [upL]
theorem map_row (f : SRow → SRow) (l : List SRow) (i : Nat) (hi : i < l.length) : (l.map f).getD i zRow = f (l.getD i zRow) := by
 rw [List.getD_eq_getElem?_getD, List.getD_eq_getElem?_getD, List.getElem?_map, List.getElem?_eq_getElem hi]; rfl
theorem moved_D (l : List SRow) (u : Int) : Moved l (upD l u) u 0 :=
 ⟨upD_len l u, fun i hi => by unfold dipN upD; rw [map_row _ _ _ hi], fun i hi => by unfold loR upD; rw [map_row _ _ _ hi, Int.add_zero], fun i hi => by unfold hiR upD; rw [map_row _ _ _ hi, Int.add_zero]⟩
theorem moved_L (l : List SRow) (m : Int) : Moved l (upL l m) 0 m :=
 ⟨upL_len l m, fun i hi => by unfold dipN upL; rw [map_row _ _ _ hi, Int.add_zero], fun i hi => by unfold loR upL; rw [map_row _ _ _ hi], fun i hi => by unfold hiR upL; rw [map_row _ _ _ hi]⟩
theorem upD_succ (l : List SRow) (u : Int) (i : Nat) (hi : i < l.length) : (upD l u).take (i + 1) = (upD l u).take i ++ [⟨dipN l i + u, ⟨loR l i, hiR l i⟩⟩] := by
 rw [List.take_add_one]
 unfold upD dipN loR hiR
 rw [List.getElem?_map, List.getD_eq_getElem?_getD, List.getElem?_eq_getElem hi]; rfl
theorem upL_succ (l : List SRow) (m : Int) (i : Nat) (hi : i < l.length) : (upL l m).take (i + 1) = (upL l m).take i ++ [⟨dipN l i, ⟨loR l i + m, hiR l i + m⟩⟩] := by
 rw [List.take_add_one]
 unfold upL dipN loR hiR
 rw [List.getElem?_map, List.getD_eq_getElem?_getD, List.getElem?_eq_getElem hi]; rfl
theorem upD_all (l : List SRow) (u : Int) : (upD l u).take l.length = upD l u := List.take_of_length_le (by rw [upD_len]; exact Nat.le_refl _)
theorem upL_all (l : List SRow) (u : Int) : (upL l u).take l.length = upL l u := List.take_of_length_le (by rw [upL_len]; exact Nat.le_refl _)
theorem Fine.tight_f {l : List SRow} {p : Int} (hF : Fine l p) : chart_Tight.f l p = some (tightL l, 0) := by
 have ho : openE l p [] = 0 := by
  unfold openE
  rw [if_neg (by rw [hF.check]; simp)]
  simp [hF.tight]
 unfold chart_Tight.f
 rw [if_pos ho]
structure MoveFacts (l : List SRow) (p u m x0 x1 : Int) (k : Nat) (wa le n1 n2 n3 n4 e : Int) (bx bl : Bool) : Prop where
 fine : Fine l p
 read0 : forecourtlaw01_Read.f l p x0 = some wa
 read1 : forecourtlaw01_Read.f l p x1 = some le
 in0 : 0 ≤ wa ∧ wa ≤ 4000
 in1 : 0 ≤ le ∧ le ≤ 4000
 net : chart_Net.f l p wa le = some (n1, n2, n3, n4, e)
 tight : chart_Tight.f l p = some (tightL l, 0)
 fx : forecourtlaw01_fine.f k (upD l u) p = some bx
 netx : bx = true → chart_Net.f (upD l u) p (wa + u) (le + u) = some (n1, n2, n3, n4, e)
 tx : bx = true → chart_Tight.f (upD l u) p = some (tightL l, 0)
 rgs : forecourtlaw01_ranges.f k (tightL l) (tightL l) = some true
 fl : forecourtlaw01_fine.f k (upL l m) p = some bl
 netl : bl = true → chart_Net.f (upL l m) p wa le = some (n1, n2, n3, n4, e)
 tl : bl = true → chart_Tight.f (upL l m) p = some (tightL (upL l m), 0)
 rows : ∀ i, i < l.length → lowN (upL l m) i = lowN l i + m ∧ highN (upL l m) i = highN l i + m
theorem tight_upD (l : List SRow) (u : Int) : tightL (upD l u) = tightL l := by
 have h := moved_D l u
 unfold tightL
 rw [upD_len]
 apply List.map_congr_left
 intro i hi
 rw [List.mem_range] at hi
 rw [h.lowN i hi, h.highN i hi, Int.add_zero, Int.add_zero]
theorem move_facts {l : List SRow} {p : Int} (hF : Fine l p) (u m x0 x1 : Int) (h0 : 0 ≤ x0 ∧ x0 ≤ 65535) (h1 : 0 ≤ x1 ∧ x1 ≤ 65535) : ∃ K, ∀ k, K ≤ k → ∃ wa le n1 n2 n3 n4 e bx bl, MoveFacts l p u m x0 x1 k wa le n1 n2 n3 n4 e bx bl := by
 obtain ⟨wa, r0, a0, a1⟩ := read_f hF.tank x0 h0
 obtain ⟨le, r1, b0, b1⟩ := read_f hF.tank x1 h1
 obtain ⟨bx, ⟨K1, hK1⟩, hx⟩ := fine_ev (upD l u) p
 obtain ⟨bl, ⟨K2, hK2⟩, hl⟩ := fine_ev (upL l m) p
 have h16 := hF.tank.n16
 obtain ⟨K3, hK3⟩ := ranges_ev (tightL l) (by rw [tightL_len]; omega)
 have d0 : 0 ≤ firstD l := hF.tank.d0
 have d1 : lastD l ≤ 4000 := hF.tank.top _ (by have := hF.tank.n2; omega)
 obtain ⟨⟨n1, n2, n3, n4, e⟩, hn⟩ : ∃ r, chart_Net.f l p wa le = some r := ⟨_, rfl⟩
 refine ⟨K1 + K2 + K3, fun k hk => ⟨wa, le, n1, n2, n3, n4, e, bx, bl, hF, r0, r1, by omega, by omega, hn, hF.tight_f, hK1 k (by omega), fun hb => ?_, fun hb => ?_, hK3 k (by omega), hK2 k (by omega), fun hb => ?_, fun hb => ?_, fun i hi => ⟨(moved_L l m).lowN i hi, (moved_L l m).highN i hi⟩⟩⟩
 ·rw [(moved_D l u).net hF (hx hb), hn]
 ·rw [(hx hb).tight_f, tight_upD]
 ·have := (moved_L l m).net hF (hl hb) wa le
  rw [Int.add_zero, Int.add_zero] at this
  rw [this, hn]
 exact (hl hb).tight_f
end Go.Proofs.Ytpkajhmchcbbhaa.P
end
section
namespace Go.Proofs.Ytpkajhmchcbbhaa.P
open Go Go.BigFrame Go.RowKit Go.Proofs.YtpkajhmchcbbhaaW.PrintWords Go.Proofs.YtpkajhmchcbbhaaW.PrintLast Go.Proofs.YtpkajhmchcbbhaaW.PrintMore
attribute [local go_sem high] eqA43 eqA48
set_option maxRecDepth 100000 in
set_option maxHeartbeats 80000000 in
theorem moveA_calls (A : Option Addr) (c : Nat) (l : List SRow) (p : Int) (u m x0 x1 : Int) (k : Nat) (wa le n1 n2 n3 n4 e : Int) (bl : Bool) (w w0 : World)
  (HR_0 : Aside0 (Kd.C k70 w0 A l.length l)) (HC : Hid (l.length ≤ c)) (HB_0 : Aside0 (Below w.heap.size w w0)) (HU : Hid (0 ≤ u ∧ u ≤ 65535 ∧ 0 ≤ m ∧ m ≤ 4294967295))
  (HF : Hid (forecourtlaw01_fine.f k l p = some true)) (HM : Aside0 (MoveFacts l p u m x0 x1 k wa le n1 n2 n3 n4 e true bl)) :
  Calls Try.prog 10 #[.agg #[.slice A l.length c, .int .i64 p], .int .u16 u, .int .u32 m, .agg #[.int .u16 x0, .int .u16 x1]] w0 fun e w' => e = .returned (.bool true) ∧ Below w.heap.size w w' := by
 have hu1 := Try.underlying24
 have hu2 := Try.underlying70
 have hu3 := Try.underlying43
 have hu4 := Try.underlying48
 have hu5 := Try.underlying61
 have hu6 := Try.underlying22
 have hu7 := Try.underlying28
 have HF_0 : Aside0 (Held [] w0) := ⟨⟨fun b cs t hm => by simp at hm⟩⟩
 go_enter Try.func10, Try.ntmps10
 go_wp2_with fail
 obtain ⟨w0a, hZ⟩ : ∃ Z, w0.alloc (.cells #[.slice A l.length c, .int .i64 p] 24) = Z := ⟨_, rfl⟩
 obtain ⟨tb, hbk⟩ : ∃ b, b = w0.heap.size := ⟨_, rfl⟩
 have HF_0a : Aside0 (Held [(tb, #[.slice A l.length c, .int .i64 p], 24)] w0a) := ⟨by rw [← hZ, hbk]; exact HF_0.out.new _ _⟩
 have HSZ := Lib.hid (show w0a.heap.size = tb + 1 by rw [← hZ, hbk]; simp)
 have HR_0a : Aside0 (Kd.C k70 w0a A l.length l) := ⟨by rw [← hZ]; exact Kd.C_below HR_0.out ((Below.refl _ _).alloc (Nat.le_refl _) _)⟩
 have HB_0a : Aside0 (Below w.heap.size w w0a) := ⟨by rw [← hZ]; exact HB_0.out.alloc HB_0.out.size _⟩
 rw [hZ, ← hbk]
 clear hZ hbk HF_0 HB_0 HR_0 w0
 obtain ⟨w0aa, hZ⟩ : ∃ Z, w0a.alloc (.cells #[.int .u16 x0, .int .u16 x1] 61) = Z := ⟨_, rfl⟩
 obtain ⟨rb, hbk⟩ : ∃ b, b = tb + 1 := ⟨_, rfl⟩
 have HF_0aa : Aside0 (Held [(rb, #[.int .u16 x0, .int .u16 x1], 61), (tb, #[.slice A l.length c, .int .i64 p], 24)] w0aa) := ⟨by rw [← hZ, hbk, ← HSZ.out]; exact HF_0a.out.new _ _⟩
 have HR_0aa : Aside0 (Kd.C k70 w0aa A l.length l) := ⟨by rw [← hZ]; exact Kd.C_below HR_0a.out ((Below.refl _ _).alloc (Nat.le_refl _) _)⟩
 have HB_0aa : Aside0 (Below w.heap.size w w0aa) := ⟨by rw [← hZ]; exact HB_0a.out.alloc HB_0a.out.size _⟩
 rw [hZ, ← hbk]
 clear hZ hbk HSZ HF_0a HB_0a HR_0a w0a
 refine (forecourtlaw01_fine.calls k A c l p true w0aa HR_0aa.out HC.out HF.out).mono ?_
 rintro e w1 ⟨rfl, hB⟩
 have HF_1 := Aside0.mk (HF_0aa.out.below hB)
 have HB_1 := Aside0.mk (below_then HB_0aa.out hB)
 have HR_1 := Aside0.mk (Kd.C_below HR_0aa.out hB)
 clear hB HF_0aa HB_0aa HR_0aa w0aa
 have hn2 := HM.out.fine.tank.n2
 have hn16 := HM.out.fine.tank.n16
 obtain ⟨ad3, ea, hq0, hq1, hq2⟩ := at_T70 HR_1.out 0 (by omega) (by omega)
 cases ea
 clear hq0 hq1 hq2
 have hH := HF_1.out.get tb #[.slice (some ad3) l.length c, .int .i64 p] 24 (by simp)
 have hltb := blk_lt hH
 have ctb0 : w1.cell? ⟨tb, 0, none⟩ = some (.slice (some ad3) l.length c) := (blk_cell hH 0).trans rfl
 have ctb1 : w1.cell? ⟨tb, 1, none⟩ = some (.int .i64 p) := (blk_cell hH 1).trans rfl
 clear hH
 go_wp2_with fail
 (refine start_ (n := 10) (S := fun w' => Below (World.heap w1).size w1 w') (ds := []) (List.toArray (false :: false :: false :: false :: false :: false :: false :: false :: false :: false :: [])) (by kernel_rfl) rfl rfl (belowDrew w1) (fun plS => ?_); refine pureY (i := 0) (N := (some 32)) ?_; refine pureY (i := 3) (N := (some 35)) ?_; refine takeF (i := 1) (N := (some 33)) (hS := plS) (hy := by (intro w' hw'; replace hw' : Below (World.heap w1).size w1 w' := hw'; have q0 := pw_cell_below hw' ctb1; exact yieldA)) (h := ?_); refine pureY (i := 2) (N := (some 34)) ?_; refine takeF (i := 4) (N := (some 36)) (hS := plS) (hy := by (intro w' hw'; replace hw' : Below (World.heap w1).size w1 w' := hw'; have q0 := pw_cell_below hw' ctb1; exact yieldA)) (h := ?_); refine pureY (i := 5) (N := (some 37)) ?_)
 obtain ⟨y0, hy0⟩ : ∃ Y, w1.drew = Y := ⟨_, rfl⟩
 have hB0 : Below w1.heap.size w1 y0 := by rw [← hy0]; exact belowDrew w1
 rw [hy0]
 clear hy0 plS
 refine join_ (σ := Nat × Nat) 2 (List.toArray (true :: true :: true :: true :: true :: true :: true :: true :: false :: false :: [])) (fun s => [(9, .pointer (some ⟨s.1, 0, none⟩)), (10, .pointer (some ⟨s.2, 0, none⟩))])
  (fun s W => Below w1.heap.size w1 W ∧ W.heap[s.1]? = some (.cells #[.slice none 0 0, .int .i64 0] 24 (0, 0)) ∧ W.heap[s.2]? = some (.cells #[.slice none 0 0, .int .i64 0] 24 (0, 0)) ∧ w1.heap.size ≤ s.1 ∧ w1.heap.size ≤ s.2 ∧ s.1 ≠ s.2) ?_ ?_
 rotate_left
 ·intro hJ
  (refine two_ (i := 6) (j := 7) (List.toArray (true :: true :: true :: true :: true :: true :: true :: false :: false :: false :: [])) (List.toArray (true :: true :: true :: true :: true :: true :: false :: true :: false :: false :: [])) rfl rfl rfl rfl (by kernel_rfl) (by decide) (by decide) (fun plK plH => ?_) (fun plK plH => ?_))
  all_goals ((try (rw [if_pos (by rfl)]; (first | gi_big_move | go_big_op | go_simp))); obtain ⟨y1, hy⟩ : ∃ Y, World.alloc y0 (.cells #[.slice none 0 0, .int .i64 0] 24) = Y := ⟨_, rfl⟩; obtain ⟨b1, hb⟩ : ∃ b, b = y0.heap.size := ⟨_, rfl⟩; have hx1 : Below (World.heap y0).size y0 y1 := (by rw [← hy]; exact below_own _ _); have hM1 : y1.heap[b1]? = some (.cells #[.slice none 0 0, .int .i64 0] 24 (0, 0)) := (by rw [← hy, hb]; exact blk_new _ _); have hE1 : Hid (b1 = y0.heap.size) := Lib.hid hb; have hL1 : w1.heap.size ≤ b1 := (by rw [hb]; exact hB0.size); rw [hy, ← hb]; clear hy hb)
  all_goals have hB1 : Below w1.heap.size w1 y1 := (below_then hB0 hx1)
  all_goals (first | ((try simp only [Act.put, List.getElem_toArray, List.getElem_cons_succ, List.getElem_cons_zero, List.setIfInBounds_toArray, List.set_cons_succ, List.set_cons_zero]); refine plH _ _ hB1  (fun plS => ?_); clear plH plK; refine at_ #[true, true, true, true, true, true, true, false, false, false] rfl ?_; refine oneY (i := 7) (fun plK plH => ?_); rw [if_pos (by rfl)]; (first | gi_big_move | go_big_op | go_simp)) | ((try simp only [Act.put, List.getElem_toArray, List.getElem_cons_succ, List.getElem_cons_zero, List.setIfInBounds_toArray, List.set_cons_succ, List.set_cons_zero]); refine plH _ _ hB1  (fun plS => ?_); clear plH plK; refine at_ #[true, true, true, true, true, true, false, true, false, false] rfl ?_; refine oneY (i := 6) (fun plK plH => ?_); rw [if_pos (by rfl)]; (first | gi_big_move | go_big_op | go_simp)))
  all_goals ((try (rw [if_pos (by rfl)]; (first | gi_big_move | go_big_op | go_simp))); obtain ⟨y2, hy⟩ : ∃ Y, World.alloc y1 (.cells #[.slice none 0 0, .int .i64 0] 24) = Y := ⟨_, rfl⟩; obtain ⟨b2, hb⟩ : ∃ b, b = y1.heap.size := ⟨_, rfl⟩; have hx2 : Below (World.heap y1).size y1 y2 := (by rw [← hy]; exact below_own _ _); have hM2 : y2.heap[b2]? = some (.cells #[.slice none 0 0, .int .i64 0] 24 (0, 0)) := (by rw [← hy, hb]; exact blk_new _ _); have hE2 : Hid (b2 = y1.heap.size) := Lib.hid hb; have hL2 : w1.heap.size ≤ b2 := (by rw [hb]; exact hB1.size); rw [hy, ← hb]; clear hy hb)
  all_goals have hB2 : Below w1.heap.size w1 y2 := (below_then hB1 hx2)
  all_goals have hD12 : b1 ≠ b2 := (by rw [hE2.out]; exact Nat.ne_of_lt (blk_lt hM1))
  all_goals replace hM1 := blk_call hx2 hM1
  all_goals (refine plH _ _ hB2 (fun plS => ?_); clear plH plK plS; (try simp only [Act.put, List.getElem_toArray, List.getElem_cons_succ, List.getElem_cons_zero, List.setIfInBounds_toArray, List.set_cons_succ, List.set_cons_zero]); first | exact hJ (b1, b2) y2 ⟨hB2, hM1, hM2, hL1, hL2, hD12⟩ | exact hJ (b2, b1) y2 ⟨hB2, hM2, hM1, hL2, hL1, hD12.symm⟩)
 rintro ⟨xb, yb⟩ W ⟨hBW, hG1, hG2, hL1, hL2, hne⟩
 refine norm_ (a' := ?_) qj24 ?_
 simp only at hG1 hG2 hL1 hL2 hne
 have z0 := blk_cell hG1 0
 have z1 := blk_cell hG1 1
 have xf0 := blk_frozen hG1 0
 have xf1 := blk_frozen hG1 1
 have hlt1 := blk_lt hG1
 (refine oneY (i := 8) (fun plK plH => ?_); rw [if_pos (by rfl)]; (first | gi_big_move | go_big_op | go_simp))
 obtain ⟨W2, hW2⟩ : ∃ Z, ((W.setCell ⟨xb, 0, none⟩ (.slice none 0 0)).setCell ⟨xb, 1, none⟩ (.int .i64 p)) = Z := ⟨_, rfl⟩
 have hB2 : Below w1.heap.size w1 W2 := by rw [← hW2]; exact (hBW.setCell (p := ⟨xb, 0, none⟩) hL1 _).setCell (p := ⟨xb, 1, none⟩) hL1 _
 have hA1 : W2.heap[xb]? = some (.cells #[.slice none 0 0, .int .i64 p] 24 (0, 0)) := by rw [← hW2]; exact blk_put (blk_put hG1 0 _ rfl) 1 _ rfl
 have hA2 : W2.heap[yb]? = some (.cells #[.slice none 0 0, .int .i64 0] 24 (0, 0)) := by rw [← hW2]; exact (Below.heap_setCell _ _ _ _ hne.symm).trans ((Below.heap_setCell _ _ _ _ hne.symm).trans hG2)
 rw [hW2]
 clear hW2 z0 z1 xf0 xf1 hlt1 hG1 hG2 hBW
 have z0 := blk_cell hA2 0
 have z1 := blk_cell hA2 1
 have xf0 := blk_frozen hA2 0
 have xf1 := blk_frozen hA2 1
 have hlt1 := blk_lt hA2
 ((try simp only [Act.put, List.getElem_toArray, List.getElem_cons_succ, List.getElem_cons_zero, List.setIfInBounds_toArray, List.set_cons_succ, List.set_cons_zero]); refine plH _ _ hB2  (fun plS => ?_); clear plH plK; refine oneY (i := 9) (fun plK plH => ?_); rw [if_pos (by rfl)]; (first | gi_big_move | go_big_op | go_simp))
 obtain ⟨W3, hW3⟩ : ∃ Z, ((W2.setCell ⟨yb, 0, none⟩ (.slice none 0 0)).setCell ⟨yb, 1, none⟩ (.int .i64 p)) = Z := ⟨_, rfl⟩
 have hB3 : Below w1.heap.size w1 W3 := by rw [← hW3]; exact (hB2.setCell (p := ⟨yb, 0, none⟩) hL2 _).setCell (p := ⟨yb, 1, none⟩) hL2 _
 have hC1 : W3.heap[xb]? = some (.cells #[.slice none 0 0, .int .i64 p] 24 (0, 0)) := by rw [← hW3]; exact (Below.heap_setCell _ _ _ _ hne).trans ((Below.heap_setCell _ _ _ _ hne).trans hA1)
 have hC2 : W3.heap[yb]? = some (.cells #[.slice none 0 0, .int .i64 p] 24 (0, 0)) := by rw [← hW3]; exact blk_put (blk_put hA2 0 _ rfl) 1 _ rfl
 rw [hW3]
 clear hW3 z0 z1 xf0 xf1 hlt1 hA1 hA2 hB2
 ((try simp only [Act.put, List.getElem_toArray, List.getElem_cons_succ, List.getElem_cons_zero, List.setIfInBounds_toArray, List.set_cons_succ, List.set_cons_zero]); refine plH _ _ hB3  (fun plS => ?_); clear plH plK; refine done_ (by kernel_rfl) ?_)
 go_wp2_with fail
 have HD := Lib.hid hne
 have HL1 := Lib.hid hL1
 have HL2 := Lib.hid hL2
 obtain ⟨NB, hNB⟩ : ∃ n, n = W3.heap.size := ⟨_, rfl⟩
 have HX1 : Hid (xb < NB) := Lib.hid (by rw [hNB]; exact blk_lt hC1)
 have HX2 : Hid (yb < NB) := Lib.hid (by rw [hNB]; exact blk_lt hC2)
 have HVN : Hid (w1.heap.size ≤ NB) := Lib.hid (by rw [hNB]; exact hB3.size)
 clear hne hL1 hL2 hltb ctb0 ctb1
 go_loopw [11, 12] (fun v11 v12 w' => ∃ (i : Nat) (vx vy : Value), i ≤ l.length ∧ v11 = .int .i64 i ∧ Below w1.heap.size w1 w' ∧ w'.heap[xb]? = some (.cells #[vx, .int .i64 p] 24 (0, 0)) ∧ w'.heap[yb]? = some (.cells #[vy, .int .i64 p] 24 (0, 0)) ∧ TwoR NB w' vx vy ((upD l u).take i) ((upL l m).take i) ∧ NB ≤ w'.heap.size) (fun v11 v12 _ => l.length - (RowKit.intOf v11).toNat)
 case atStart => exact ⟨0, _, _, Nat.zero_le _, rfl, hB3, hC1, hC2, TwoR.start _ _, by rw [hNB]; exact Nat.le_refl _⟩
 case round =>
 obtain ⟨i, vx, vy, hi, rfl, hBi, hX, hY, hTwo, hS⟩ := hrel
 clear hNB hC1 hC2 hB3
 obtain ⟨w20, hZ⟩ : ∃ Z, wr = Z := ⟨_, rfl⟩
 rw [hZ] at hBi hX hY hTwo hS
 rw [hZ]
 clear hZ wr
 have HF_20 := Aside0.mk (HF_1.out.below hBi)
 have HB_20 := Aside0.mk (below_then HB_1.out hBi)
 have HR_20 := Aside0.mk (Kd.C_below HR_1.out hBi)
 have HTW := Aside0.mk hTwo
 have HXB := Aside0.mk hX
 have HYB := Aside0.mk hY
 have HJ_20 := Aside0.mk hBi
 have HS := Lib.hid hS
 clear hBi hX hY hTwo hS
 by_cases hlt : i < l.length
 ·as_aux_lemma =>
  obtain ⟨_, ea, hr0, hr1, hr2⟩ := at_T70 HR_20.out (i : Int) (by omega) (by omega)
  cases ea
  rw [show rd_T70 l (i : Int) = l.getD i zRow from rdR_nat l i, Int.toNat_natCast] at hr0 hr1 hr2
  replace hr0 : w20.cell? (ad3.add (i * 3)) = some (.int .i64 (dipN l i)) := hr0
  replace hr1 : w20.cell? ⟨(ad3.add (i * 3)).block, (ad3.add (i * 3)).off + 1, none⟩ = some (.int .i64 (loR l i)) := hr1
  replace hr2 : w20.cell? ⟨(ad3.add (i * 3)).block, (ad3.add (i * 3)).off + 2, none⟩ = some (.int .i64 (hiR l i)) := hr2
  have hH := HF_20.out.get tb #[.slice (some ad3) l.length c, .int .i64 p] 24 (by simp)
  have hltb := blk_lt hH
  have ctb0 : w20.cell? ⟨tb, 0, none⟩ = some (.slice (some ad3) l.length c) := (blk_cell hH 0).trans rfl
  have ctb1 : w20.cell? ⟨tb, 1, none⟩ = some (.int .i64 p) := (blk_cell hH 1).trans rfl
  clear hH
  have p1 : (0 : Int) ≤ (i : Int) := by omega
  have p2 : (i : Int) < (l.length : Int) := by omega
  have p3 : (i : Int) ≤ 1000 := by omega
  have p4 := cell_lt hr0
  go_wp2_with fail
  clear hltb ctb0 ctb1 hr0 hr1 hr2 p4
  obtain ⟨d, hd⟩ : ∃ z, z = dipN l i := ⟨_, rfl⟩
  obtain ⟨lo, hlo⟩ : ∃ z, z = loR l i := ⟨_, rfl⟩
  obtain ⟨h', hhi⟩ : ∃ z, z = hiR l i := ⟨_, rfl⟩
  have b1 := HM.out.fine.tank.low i hlt
  have b2 := HM.out.fine.tank.top i hlt
  have b3 := HM.out.fine.tank.lit i hlt
  rw [← hd] at b1 b2
  rw [← hlo, ← hhi] at b3
  rw [← hd, ← hlo, ← hhi]
  have HDD := Lib.hid hd
  have HLO := Lib.hid hlo
  have HHI := Lib.hid hhi
  have BB := Lib.hid (show 0 ≤ d ∧ d ≤ 4000 ∧ 0 ≤ lo ∧ lo ≤ 100000 ∧ 0 ≤ h' ∧ h' ≤ 100000 by omega)
  clear hd hlo hhi b1 b2 b3
  obtain ⟨w21, hZ⟩ : ∃ Z, w20.alloc (.cells #[.int .i64 d, .int .i64 lo, .int .i64 h'] 70) = Z := ⟨_, rfl⟩
  obtain ⟨cb, hcb⟩ : ∃ b, b = w20.heap.size := ⟨_, rfl⟩
  have hB : Below w20.heap.size w20 w21 := by rw [← hZ]; exact below_own _ _
  have hCB : w21.heap[cb]? = some (.cells #[.int .i64 d, .int .i64 lo, .int .i64 h'] 70 (0, 0)) := by rw [← hZ, hcb]; exact blk_new _ _
  have hov1 : ∀ k, vx.ownBlock = some k → k < cb := by rw [hcb]; exact own_lt HTW.out.a
  have hov2 : ∀ k, vy.ownBlock = some k → k < cb := by rw [hcb]; exact own_lt HTW.out.b
  have hS1 : NB ≤ w21.heap.size := Nat.le_trans HS.out hB.size
  rw [hZ, ← hcb]
  have HT1 := HTW.out.below hB
  have hX1 := blk_call hB HXB.out
  have hY1 := blk_call hB HYB.out
  have hJ1 := below_then HJ_20.out hB
  have HOV1 := Lib.hid hov1
  have HOV2 := Lib.hid hov2
  clear hZ hcb hB hov1 hov2 HTW HXB HYB HF_20 HB_20 HR_20
  have u1 := HU.out
  have bb := BB.out
  have c0 := blk_cell hCB 0
  have c1 := blk_cell hCB 1
  have c2 := blk_cell hCB 2
  have cx := blk_cell hX1 0
  have cl := blk_lt hCB
  have cm := blk_lt hX1
  have wr1 : IntKind.i64.wrap (d + u) = d + u := by rw [i64_w]; exact wrap_id (by omega)
  (refine start_ (n := 18) (S := fun w' => Below (World.heap _).size _ w') (ds := [15, 17]) (List.toArray (false :: false :: false :: false :: false :: false :: false :: false :: false :: false :: false :: false :: false :: false :: false :: false :: false :: false :: [])) (by kernel_rfl) rfl rfl (belowDrew _) (fun plS => ?_); refine pureY (i := 0) (N := (some 50)) ?_; refine pureY (i := 2) (N := (some 52)) ?_; refine pureY (i := 4) (N := (some 54)) ?_; refine pureY (i := 5) (N := (some 55)) ?_; refine pureY (i := 7) (N := (some 57)) ?_; refine pureY (i := 8) (N := (some 58)) ?_; refine pureY (i := 10) (N := (some 60)) ?_; refine pureY (i := 11) (N := (some 61)) ?_; refine takeF (i := 1) (N := (some 51)) (hS := plS) (hy := by (intro w' hw'; replace hw' : Below (World.heap w21).size w21 w' := hw'; have q0 := pw_cell_below hw' c0; have q1 := pw_cell_below hw' c1; have q2 := pw_cell_below hw' c2; have q3 := pw_cell_below hw' cx; exact yieldA)) (h := ?_); refine takeF (i := 3) (N := (some 53)) (hS := plS) (hy := by (intro w' hw'; replace hw' : Below (World.heap w21).size w21 w' := hw'; have q0 := pw_cell_below hw' c0; have q1 := pw_cell_below hw' c1; have q2 := pw_cell_below hw' c2; have q3 := pw_cell_below hw' cx; exact yieldA)) (h := ?_); refine pureY (i := 6) (N := (some 56)) ?_; refine takeF (i := 9) (N := (some 59)) (hS := plS) (hy := by (intro w' hw'; replace hw' : Below (World.heap w21).size w21 w' := hw'; have q0 := pw_cell_below hw' c0; have q1 := pw_cell_below hw' c1; have q2 := pw_cell_below hw' c2; have q3 := pw_cell_below hw' cx; exact yieldA)) (h := ?_); refine takeF (i := 12) (N := (some 62)) (hS := plS) (hy := by (intro w' hw'; replace hw' : Below (World.heap w21).size w21 w' := hw'; have q0 := pw_cell_below hw' c0; have q1 := pw_cell_below hw' c1; have q2 := pw_cell_below hw' c2; have q3 := pw_cell_below hw' cx; exact yieldA)) (h := ?_); refine oneY (i := 13) (fun plK plH => ?_); rw [if_pos (by rfl)]; (first | gi_big_move | go_big_op | go_simp))
  have hb0 : Below w21.heap.size w21 w21.drew := belowDrew w21
  refine (forecourtlaw01_Row.calls (d + u) (lo) (h') (d + u) (lo) (h') _ rfl).mono ?_
  rintro e y1 ⟨rfl, hb⟩
  have hb1 : Below w21.heap.size w21 y1 := hb0.trans hb
  clear hb plS
  ((try simp only [Act.put, List.getElem_toArray, List.getElem_cons_succ, List.getElem_cons_zero, List.setIfInBounds_toArray, List.set_cons_succ, List.set_cons_zero]); refine plH _ _ hb1 (fun plS => ?_); clear plH plK; refine oneY (i := 14) (fun plK plH => ?_); rw [if_pos (by rfl)]; (first | gi_big_move | go_big_op | go_simp))
  obtain ⟨y2, hy⟩ : ∃ Y, World.alloc y1 (.cells #[.int .i64 (d + u), .int .i64 (lo), .int .i64 (h')] 70) = Y := ⟨_, rfl⟩
  obtain ⟨b, hbb⟩ : ∃ b, b = y1.heap.size := ⟨_, rfl⟩
  have hx : Below y1.heap.size y1 y2 := by rw [← hy]; exact below_own _ _
  have hM : y2.heap[b]? = some (.cells #[.int .i64 (d + u), .int .i64 (lo), .int .i64 (h')] 70 (0, 0)) := by rw [← hy, hbb]; exact blk_new _ _
  rw [hy, ← hbb]
  have hb2 := below_then hb1 hx
  clear hy hbb hx
  ((try simp only [Act.put, List.getElem_toArray, List.getElem_cons_succ, List.getElem_cons_zero, List.setIfInBounds_toArray, List.set_cons_succ, List.set_cons_zero]); refine plH _ _ hb2 (fun plS => ?_); clear plH plK; refine lastY (i := 15) (fun plK plH => ?_))
  refine step_row (N0 := w1.heap.size) (w0 := w1) ((HT1.below hb2)) rfl _ _ rfl rfl b rfl (d + u) (lo) (h') 70 hM HVN.out (below_then hJ1 hb2) (Nat.le_trans hS1 hb2.size) (by rw [List.length_take]; omega) ?_
  intro v1 y3 hT hJ3 hlow hnew hS3
  obtain ⟨Aq1, nq1, cq1, rfl⟩ : ∃ A n c, v1 = .slice A n c := by obtain ⟨A, c, h⟩ := own_slice hT.a; exact ⟨A, _, c, h⟩
  have hA := hlow _ _ (blk_call hb2 hX1) HX1.out
  have hA2 := hlow _ _ (blk_call hb2 hY1) HX2.out
  have hA3 := hnew _ _ (blk_call hb2 hCB) HOV1.out
  have hS4 : NB ≤ y3.heap.size := Nat.le_trans (Nat.le_trans hS1 hb2.size) hS3
  clear hlow hnew hS3 hM hb1 hb2 hb0 c0 c1 c2 cx cl cm
  have cx : y3.cell? ⟨xb, 0, none⟩ = some vx := (blk_cell hA 0).trans rfl
  have cf := blk_frozen hA 0
  have cl := blk_lt hA
  ((try simp only [Act.put, List.getElem_toArray, List.getElem_cons_succ, List.getElem_cons_zero, List.setIfInBounds_toArray, List.set_cons_succ, List.set_cons_zero]); refine plH _ _ ?_; clear plH plK; refine pureY (i := 16) (N := (some 66)) ?_; refine lastY (i := 17) (fun plK plH => ?_); rw [if_pos (by rfl)]; (first | gi_big_move | go_big_op | go_simp))
  obtain ⟨w22, hZ⟩ : ∃ Z, y3.setCell ⟨xb, 0, none⟩ (.slice Aq1 nq1 cq1) = Z := ⟨_, rfl⟩
  have hX2 : w22.heap[xb]? = some (.cells #[.slice Aq1 nq1 cq1, .int .i64 p] 24 (0, 0)) := by rw [← hZ]; exact blk_put hA 0 _ rfl
  have hY2 : w22.heap[yb]? = some (.cells #[vy, .int .i64 p] 24 (0, 0)) := by rw [← hZ]; exact (Below.heap_setCell _ _ _ _ HD.out.symm).trans hA2
  have hCB : w22.heap[cb]? = some (.cells #[.int .i64 d, .int .i64 lo, .int .i64 h'] 70 (0, 0)) := by
   rw [← hZ]
   refine (Below.heap_setCell _ _ _ _ (fun hh => ?_)).trans hA3
   have hh : cb = xb := hh
   rw [hh, hA] at hA3
   simp at hA3
  have HT2 := (hT).set (k := 0) HX1.out (.slice Aq1 nq1 cq1)
  rw [hZ] at HT2
  have hJn : Below w1.heap.size w1 w22 := by rw [← hZ]; exact hJ3.setCell (p := ⟨xb, 0, none⟩) HL1.out _
  clear hJ3
  have hJ2 := hJn
  clear hJn
  have hS2 : NB ≤ w22.heap.size := by rw [← hZ]; simpa using hS4
  rw [hZ]
  clear hZ hT hA hA2 hA3 hS4 cx cf cl hX1 hY1 HT1 hJ1 hS1
  ((try simp only [Act.put, List.getElem_toArray, List.getElem_cons_succ, List.getElem_cons_zero, List.setIfInBounds_toArray, List.set_cons_succ, List.set_cons_zero]); refine plH _ _ ?_; clear plH plK; refine done_ (by kernel_rfl) ?_)
  clear wr1
  go_wp2_with fail
  have c0 := blk_cell hCB 0
  have c1 := blk_cell hCB 1
  have c2 := blk_cell hCB 2
  have cx := blk_cell hY2 0
  have cl := blk_lt hCB
  have cm := blk_lt hY2
  have wr2 : IntKind.i64.wrap (lo + m) = lo + m := by rw [i64_w]; exact wrap_id (by omega)
  have wr3 : IntKind.i64.wrap (h' + m) = h' + m := by rw [i64_w]; exact wrap_id (by omega)
  (refine start_ (n := 21) (S := fun w' => Below (World.heap _).size _ w') (ds := [18, 20]) (List.toArray (false :: false :: false :: false :: false :: false :: false :: false :: false :: false :: false :: false :: false :: false :: false :: false :: false :: false :: false :: false :: false :: [])) (by kernel_rfl) rfl rfl (belowDrew _) (fun plS => ?_); refine pureY (i := 0) (N := (some 67)) ?_; refine pureY (i := 2) (N := (some 69)) ?_; refine pureY (i := 4) (N := (some 71)) ?_; refine pureY (i := 5) (N := (some 72)) ?_; refine pureY (i := 7) (N := (some 74)) ?_; refine pureY (i := 8) (N := (some 75)) ?_; refine pureY (i := 10) (N := (some 77)) ?_; refine pureY (i := 11) (N := (some 78)) ?_; refine pureY (i := 13) (N := (some 80)) ?_; refine pureY (i := 14) (N := (some 81)) ?_; refine takeF (i := 1) (N := (some 68)) (hS := plS) (hy := by (intro w' hw'; replace hw' : Below (World.heap w22).size w22 w' := hw'; have q0 := pw_cell_below hw' c0; have q1 := pw_cell_below hw' c1; have q2 := pw_cell_below hw' c2; have q3 := pw_cell_below hw' cx; exact yieldA)) (h := ?_); refine takeF (i := 3) (N := (some 70)) (hS := plS) (hy := by (intro w' hw'; replace hw' : Below (World.heap w22).size w22 w' := hw'; have q0 := pw_cell_below hw' c0; have q1 := pw_cell_below hw' c1; have q2 := pw_cell_below hw' c2; have q3 := pw_cell_below hw' cx; exact yieldA)) (h := ?_); refine takeF (i := 6) (N := (some 73)) (hS := plS) (hy := by (intro w' hw'; replace hw' : Below (World.heap w22).size w22 w' := hw'; have q0 := pw_cell_below hw' c0; have q1 := pw_cell_below hw' c1; have q2 := pw_cell_below hw' c2; have q3 := pw_cell_below hw' cx; exact yieldA)) (h := ?_); refine pureY (i := 9) (N := (some 76)) ?_; refine takeF (i := 12) (N := (some 79)) (hS := plS) (hy := by (intro w' hw'; replace hw' : Below (World.heap w22).size w22 w' := hw'; have q0 := pw_cell_below hw' c0; have q1 := pw_cell_below hw' c1; have q2 := pw_cell_below hw' c2; have q3 := pw_cell_below hw' cx; exact yieldA)) (h := ?_); refine pureY (i := 15) (N := (some 82)) ?_; refine oneY (i := 16) (fun plK plH => ?_); rw [if_pos (by rfl)]; (first | gi_big_move | go_big_op | go_simp))
  have hb0 : Below w22.heap.size w22 w22.drew := belowDrew w22
  refine (forecourtlaw01_Row.calls (d) (lo + m) (h' + m) (d) (lo + m) (h' + m) _ rfl).mono ?_
  rintro e y1 ⟨rfl, hb⟩
  have hb1 : Below w22.heap.size w22 y1 := hb0.trans hb
  clear hb plS
  ((try simp only [Act.put, List.getElem_toArray, List.getElem_cons_succ, List.getElem_cons_zero, List.setIfInBounds_toArray, List.set_cons_succ, List.set_cons_zero]); refine plH _ _ hb1 (fun plS => ?_); clear plH plK; refine oneY (i := 17) (fun plK plH => ?_); rw [if_pos (by rfl)]; (first | gi_big_move | go_big_op | go_simp))
  obtain ⟨y2, hy⟩ : ∃ Y, World.alloc y1 (.cells #[.int .i64 (d), .int .i64 (lo + m), .int .i64 (h' + m)] 70) = Y := ⟨_, rfl⟩
  obtain ⟨b, hbb⟩ : ∃ b, b = y1.heap.size := ⟨_, rfl⟩
  have hx : Below y1.heap.size y1 y2 := by rw [← hy]; exact below_own _ _
  have hM : y2.heap[b]? = some (.cells #[.int .i64 (d), .int .i64 (lo + m), .int .i64 (h' + m)] 70 (0, 0)) := by rw [← hy, hbb]; exact blk_new _ _
  rw [hy, ← hbb]
  have hb2 := below_then hb1 hx
  clear hy hbb hx
  ((try simp only [Act.put, List.getElem_toArray, List.getElem_cons_succ, List.getElem_cons_zero, List.setIfInBounds_toArray, List.set_cons_succ, List.set_cons_zero]); refine plH _ _ hb2 (fun plS => ?_); clear plH plK; refine lastY (i := 18) (fun plK plH => ?_))
  refine step_row (N0 := w1.heap.size) (w0 := w1) ((HT2.below hb2).swap) rfl _ _ rfl rfl b rfl (d) (lo + m) (h' + m) 70 hM HVN.out (below_then hJ2 hb2) (Nat.le_trans hS2 hb2.size) (by rw [List.length_take]; omega) ?_
  intro v2 y3 hT hJ3 hlow hnew hS3
  obtain ⟨Aq2, nq2, cq2, rfl⟩ : ∃ A n c, v2 = .slice A n c := by obtain ⟨A, c, h⟩ := own_slice hT.a; exact ⟨A, _, c, h⟩
  have hA := hlow _ _ (blk_call hb2 hY2) HX2.out
  have hA2 := hlow _ _ (blk_call hb2 hX2) HX1.out
  have hA3 := hnew _ _ (blk_call hb2 hCB) HOV2.out
  have hS4 : NB ≤ y3.heap.size := Nat.le_trans (Nat.le_trans hS2 hb2.size) hS3
  clear hlow hnew hS3 hM hb1 hb2 hb0 c0 c1 c2 cx cl cm
  have cx : y3.cell? ⟨yb, 0, none⟩ = some vy := (blk_cell hA 0).trans rfl
  have cf := blk_frozen hA 0
  have cl := blk_lt hA
  ((try simp only [Act.put, List.getElem_toArray, List.getElem_cons_succ, List.getElem_cons_zero, List.setIfInBounds_toArray, List.set_cons_succ, List.set_cons_zero]); refine plH _ _ ?_; clear plH plK; refine pureY (i := 19) (N := (some 86)) ?_; refine lastY (i := 20) (fun plK plH => ?_); rw [if_pos (by rfl)]; (first | gi_big_move | go_big_op | go_simp))
  obtain ⟨w23, hZ⟩ : ∃ Z, y3.setCell ⟨yb, 0, none⟩ (.slice Aq2 nq2 cq2) = Z := ⟨_, rfl⟩
  have hY3 : w23.heap[yb]? = some (.cells #[.slice Aq2 nq2 cq2, .int .i64 p] 24 (0, 0)) := by rw [← hZ]; exact blk_put hA 0 _ rfl
  have hX3 : w23.heap[xb]? = some (.cells #[.slice Aq1 nq1 cq1, .int .i64 p] 24 (0, 0)) := by rw [← hZ]; exact (Below.heap_setCell _ _ _ _ HD.out).trans hA2
  have hCB : w23.heap[cb]? = some (.cells #[.int .i64 d, .int .i64 lo, .int .i64 h'] 70 (0, 0)) := by
   rw [← hZ]
   refine (Below.heap_setCell _ _ _ _ (fun hh => ?_)).trans hA3
   have hh : cb = yb := hh
   rw [hh, hA] at hA3
   simp at hA3
  have HT3 := (hT.swap).set (k := 0) HX2.out (.slice Aq2 nq2 cq2)
  rw [hZ] at HT3
  have hJn : Below w1.heap.size w1 w23 := by rw [← hZ]; exact hJ3.setCell (p := ⟨yb, 0, none⟩) HL2.out _
  clear hJ3
  have hJ3 := hJn
  clear hJn
  have hS3 : NB ≤ w23.heap.size := by rw [← hZ]; simpa using hS4
  rw [hZ]
  clear hZ hT hA hA2 hA3 hS4 cx cf cl hX2 hY2 HT2 hJ2 hS2
  ((try simp only [Act.put, List.getElem_toArray, List.getElem_cons_succ, List.getElem_cons_zero, List.setIfInBounds_toArray, List.set_cons_succ, List.set_cons_zero]); refine plH _ _ ?_; clear plH plK; refine done_ (by kernel_rfl) ?_)
  clear wr2 wr3
  go_wp2_with fail
  go_roundw
  case rel => exact ⟨i + 1, _, _, by omega, by go_num, hJ3, hX3, hY3, by rw [upD_succ l u i hlt, upL_succ l m i hlt, ← HDD.out, ← HLO.out, ← HHI.out]; exact HT3, hS3⟩
  case measure => simp [RowKit.intOf]; omega
 obtain rfl : i = l.length := by omega
 rw [upD_all, upL_all] at HTW
 obtain ⟨Hx, Hy⟩ := HTW.out.slices
 clear HTW hi HS
 have hq := HXB.out
 have hq2 := HYB.out
 clear HXB HYB
 obtain ⟨Ax, cx, rfl, Hxl, Hxr⟩ := Kd.R_reads Hx
 have Hx_L := Lib.hid Hxl
 have Hx_Y := Aside0.mk Hxr
 clear Hx Hxl Hxr
 obtain ⟨Ay, cy, rfl, Hyl, Hyr⟩ := Kd.R_reads Hy
 have Hy_L := Lib.hid Hyl
 have Hy_Y := Aside0.mk Hyr
 clear Hy Hyl Hyr
 have Hx_20 := Hx_Y
 have Hy_20 := Hy_Y
 clear Hx_Y Hy_Y
 replace HF_20 : Aside0 (Held ((xb, #[.slice Ax (upD l u).length cx, .int .i64 p], 24) :: (yb, #[.slice Ay (upL l m).length cy, .int .i64 p], 24) :: [(rb, #[.int .u16 x0, .int .u16 x1], 61), (tb, #[.slice (some ad3) l.length c, .int .i64 p], 24)]) w20) := ⟨Held.cons hq (Held.cons hq2 HF_20.out)⟩
 clear hq hq2 HJ_20
 have hlt2 : ¬ ((l.length : Int) < (l.length : Int)) := by omega
 have hH := HF_20.out.get tb #[.slice (some ad3) l.length c, .int .i64 p] 24 (by simp)
 have hltb := blk_lt hH
 have ctb0 : w20.cell? ⟨tb, 0, none⟩ = some (.slice (some ad3) l.length c) := (blk_cell hH 0).trans rfl
 have ctb1 : w20.cell? ⟨tb, 1, none⟩ = some (.int .i64 p) := (blk_cell hH 1).trans rfl
 clear hH
 have hH := HF_20.out.get rb #[.int .u16 x0, .int .u16 x1] 61 (by simp)
 have hlrb := blk_lt hH
 have crb0 : w20.cell? ⟨rb, 0, none⟩ = some (.int .u16 x0) := (blk_cell hH 0).trans rfl
 have crb1 : w20.cell? ⟨rb, 1, none⟩ = some (.int .u16 x1) := (blk_cell hH 1).trans rfl
 clear hH
 go_wp2_with fail
 (refine start_ (n := 10) (S := fun w' => Below (World.heap _).size _ w') (ds := []) (List.toArray (false :: false :: false :: false :: false :: false :: false :: false :: false :: false :: [])) (by kernel_rfl) rfl rfl (belowDrew _) (fun plS => ?_); refine pureY (i := 1) (N := (some 88)) ?_; refine pureY (i := 5) (N := (some 92)) ?_; refine takeF (i := 0) (N := (some 87)) (hS := plS) (hy := by (intro w' hw'; replace hw' : Below (World.heap w20).size w20 w' := hw'; have q0 := pw_cell_below hw' ctb0; have q1 := pw_cell_below hw' ctb1; have q2 := pw_cell_below hw' crb0; have q3 := pw_cell_below hw' crb1; exact yieldA)) (h := ?_); refine takeF (i := 2) (N := (some 89)) (hS := plS) (hy := by (intro w' hw'; replace hw' : Below (World.heap w20).size w20 w' := hw'; have q0 := pw_cell_below hw' ctb0; have q1 := pw_cell_below hw' ctb1; have q2 := pw_cell_below hw' crb0; have q3 := pw_cell_below hw' crb1; exact yieldA)) (h := ?_); refine takeF (i := 4) (N := (some 91)) (hS := plS) (hy := by (intro w' hw'; replace hw' : Below (World.heap w20).size w20 w' := hw'; have q0 := pw_cell_below hw' ctb0; have q1 := pw_cell_below hw' ctb1; have q2 := pw_cell_below hw' crb0; have q3 := pw_cell_below hw' crb1; exact yieldA)) (h := ?_); refine takeF (i := 6) (N := (some 93)) (hS := plS) (hy := by (intro w' hw'; replace hw' : Below (World.heap w20).size w20 w' := hw'; have q0 := pw_cell_below hw' ctb0; have q1 := pw_cell_below hw' ctb1; have q2 := pw_cell_below hw' crb0; have q3 := pw_cell_below hw' crb1; exact yieldA)) (h := ?_); refine oneY (i := 3) (fun plK plH => ?_); rw [if_pos (by rfl)]; (first | gi_big_move | go_big_op | go_simp))
 refine (forecourtlaw01_Read.calls (some ad3) c l p x0 wa w20.drew (Kd.C_below HR_20.out ((Below.refl _ _).drew)) HC.out HM.out.read0).mono ?_
 rintro e y1 ⟨rfl, hb⟩
 have hB1 : Below w20.heap.size w20 y1 := ((Below.refl _ w20).drew).trans hb
 clear hb
 ((try simp only [Act.put, List.getElem_toArray, List.getElem_cons_succ, List.getElem_cons_zero, List.setIfInBounds_toArray, List.set_cons_succ, List.set_cons_zero]); refine plH _ _ hB1 (fun plS => ?_); clear plH plK; refine oneY (i := 7) (fun plK plH => ?_); rw [if_pos (by rfl)]; (first | gi_big_move | go_big_op | go_simp))
 refine (forecourtlaw01_Read.calls (some ad3) c l p x1 le y1 (Kd.C_below HR_20.out (hB1)) HC.out HM.out.read1).mono ?_
 rintro e y2 ⟨rfl, hb⟩
 have hB2 : Below w20.heap.size w20 y2 := below_then hB1 hb
 clear hb
 ((try simp only [Act.put, List.getElem_toArray, List.getElem_cons_succ, List.getElem_cons_zero, List.setIfInBounds_toArray, List.set_cons_succ, List.set_cons_zero]); refine plH _ _ hB2 (fun plS => ?_); clear plH plK; refine pureY (i := 8) (N := (some 13)) ?_; refine pureY (i := 9) (N := (some 14)) ?_; refine done_ (by kernel_rfl) ?_)
 clear plS hltb ctb0 ctb1 hlrb crb0 crb1
 obtain ⟨w21, hZ⟩ : ∃ Z, y2 = Z := ⟨_, rfl⟩
 have hB := hB2
 rw [hZ] at hB
 rw [hZ]
 have HF_21 := Aside0.mk (HF_20.out.below hB)
 have HB_21 := Aside0.mk (below_then HB_20.out hB)
 have HR_21 := Aside0.mk (Kd.C_below HR_20.out hB)
 have Hx_21 := Aside0.mk (Kd.C_below Hx_20.out hB)
 have Hy_21 := Aside0.mk (Kd.C_below Hy_20.out hB)
 clear hZ hB hB1 hB2 HF_20 HB_20 HR_20 Hx_20 Hy_20 hlt2
 have hH := HF_21.out.get tb #[.slice (some ad3) l.length c, .int .i64 p] 24 (by simp)
 have hltb := blk_lt hH
 have ctb0 : w21.cell? ⟨tb, 0, none⟩ = some (.slice (some ad3) l.length c) := (blk_cell hH 0).trans rfl
 have ctb1 : w21.cell? ⟨tb, 1, none⟩ = some (.int .i64 p) := (blk_cell hH 1).trans rfl
 clear hH
 go_wp2_with fail
 clear hltb ctb0 ctb1
 refine (chart_Net.calls (some ad3) c l p wa le n1 n2 n3 n4 e w21 HR_21.out HC.out HM.out.net).mono ?_
 rintro e w22 ⟨rfl, hB⟩
 have HF_22 := Aside0.mk (HF_21.out.below hB)
 have HB_22 := Aside0.mk (below_then HB_21.out hB)
 have HR_22 := Aside0.mk (Kd.C_below HR_21.out hB)
 have Hx_22 := Aside0.mk (Kd.C_below Hx_21.out hB)
 have Hy_22 := Aside0.mk (Kd.C_below Hy_21.out hB)
 clear hB HF_21 HB_21 HR_21 Hx_21 Hy_21 w21
 have hH := HF_22.out.get tb #[.slice (some ad3) l.length c, .int .i64 p] 24 (by simp)
 have hltb := blk_lt hH
 have ctb0 : w22.cell? ⟨tb, 0, none⟩ = some (.slice (some ad3) l.length c) := (blk_cell hH 0).trans rfl
 have ctb1 : w22.cell? ⟨tb, 1, none⟩ = some (.int .i64 p) := (blk_cell hH 1).trans rfl
 clear hH
 go_wp2_with fail
 clear hltb ctb0 ctb1
 obtain ⟨w22a, hZ⟩ : ∃ Z, w22.alloc (.cells #[.int .i64 n1, .int .i64 n2, .int .i64 n3, .int .i64 n4] 48) = Z := ⟨_, rfl⟩
 obtain ⟨nb, hbk⟩ : ∃ b, b = w22.heap.size := ⟨_, rfl⟩
 have HF_22a : Aside0 (Held [(nb, #[.int .i64 n1, .int .i64 n2, .int .i64 n3, .int .i64 n4], 48), (xb, #[.slice Ax (upD l u).length cx, .int .i64 p], 24), (yb, #[.slice Ay (upL l m).length cy, .int .i64 p], 24), (rb, #[.int .u16 x0, .int .u16 x1], 61), (tb, #[.slice (some ad3) l.length c, .int .i64 p], 24)] w22a) := ⟨by rw [← hZ, hbk]; exact HF_22.out.new _ _⟩
 have HR_22a : Aside0 (Kd.C k70 w22a (some ad3) l.length l) := ⟨by rw [← hZ]; exact Kd.C_below HR_22.out ((Below.refl _ _).alloc (Nat.le_refl _) _)⟩
 have Hx_22a : Aside0 (Kd.C k70 w22a Ax (upD l u).length (upD l u)) := ⟨by rw [← hZ]; exact Kd.C_below Hx_22.out ((Below.refl _ _).alloc (Nat.le_refl _) _)⟩
 have Hy_22a : Aside0 (Kd.C k70 w22a Ay (upL l m).length (upL l m)) := ⟨by rw [← hZ]; exact Kd.C_below Hy_22.out ((Below.refl _ _).alloc (Nat.le_refl _) _)⟩
 have HB_22a : Aside0 (Below w.heap.size w w22a) := ⟨by rw [← hZ]; exact HB_22.out.alloc HB_22.out.size _⟩
 rw [hZ, ← hbk]
 clear hZ hbk HF_22 HB_22 HR_22 Hx_22 Hy_22 w22
 refine (chart_Tight.calls (some ad3) c l p (tightL l) 0 w22a HR_22a.out HC.out HM.out.tight).mono ?_
 rintro e w23 ⟨v, rfl, Ht, hB⟩
 obtain ⟨At, ct, rfl, Htl, Htr⟩ := Kd.R_reads Ht
 have Ht_L := Lib.hid Htl
 have Ht_23 := Aside0.mk Htr
 clear Ht Htl Htr
 have HF_23 := Aside0.mk (HF_22a.out.below hB)
 have HB_23 := Aside0.mk (below_then HB_22a.out hB)
 have HR_23 := Aside0.mk (Kd.C_below HR_22a.out hB)
 have Hx_23 := Aside0.mk (Kd.C_below Hx_22a.out hB)
 have Hy_23 := Aside0.mk (Kd.C_below Hy_22a.out hB)
 clear hB HF_22a HB_22a HR_22a Hx_22a Hy_22a w22a
 have hH := HF_23.out.get xb #[.slice Ax (upD l u).length cx, .int .i64 p] 24 (by simp)
 have hlxb := blk_lt hH
 have cxb0 : w23.cell? ⟨xb, 0, none⟩ = some (.slice Ax (upD l u).length cx) := (blk_cell hH 0).trans rfl
 have cxb1 : w23.cell? ⟨xb, 1, none⟩ = some (.int .i64 p) := (blk_cell hH 1).trans rfl
 clear hH
 go_wp2_with fail
 clear hlxb cxb0 cxb1
 refine (forecourtlaw01_fine.calls k Ax cx (upD l u) p true w23 Hx_23.out Hx_L.out HM.out.fx).mono ?_
 rintro e w24 ⟨rfl, hB⟩
 have HF_24 := Aside0.mk (HF_23.out.below hB)
 have HB_24 := Aside0.mk (below_then HB_23.out hB)
 have HR_24 := Aside0.mk (Kd.C_below HR_23.out hB)
 have Hx_24 := Aside0.mk (Kd.C_below Hx_23.out hB)
 have Hy_24 := Aside0.mk (Kd.C_below Hy_23.out hB)
 have Ht_24 := Aside0.mk (Kd.C_below Ht_23.out hB)
 clear hB HF_23 HB_23 HR_23 Hx_23 Hy_23 Ht_23 w23
 have u1 := HU.out
 have i0 := HM.out.in0
 have i1 := HM.out.in1
 have wr1 : IntKind.i64.wrap (wa + u) = wa + u := by rw [i64_w]; exact wrap_id (by omega)
 have wr2 : IntKind.i64.wrap (le + u) = le + u := by rw [i64_w]; exact wrap_id (by omega)
 have hH := HF_24.out.get xb #[.slice Ax (upD l u).length cx, .int .i64 p] 24 (by simp)
 have hlxb := blk_lt hH
 have cxb0 : w24.cell? ⟨xb, 0, none⟩ = some (.slice Ax (upD l u).length cx) := (blk_cell hH 0).trans rfl
 have cxb1 : w24.cell? ⟨xb, 1, none⟩ = some (.int .i64 p) := (blk_cell hH 1).trans rfl
 clear hH
 go_wp2_with fail
 clear hlxb cxb0 cxb1 wr1 wr2 u1 i0 i1
 refine (chart_Net.calls Ax cx (upD l u) p (wa + u) (le + u) n1 n2 n3 n4 e w24 Hx_24.out Hx_L.out (HM.out.netx rfl)).mono ?_
 rintro e w25 ⟨rfl, hB⟩
 have HF_25 := Aside0.mk (HF_24.out.below hB)
 have HB_25 := Aside0.mk (below_then HB_24.out hB)
 have HR_25 := Aside0.mk (Kd.C_below HR_24.out hB)
 have Hx_25 := Aside0.mk (Kd.C_below Hx_24.out hB)
 have Hy_25 := Aside0.mk (Kd.C_below Hy_24.out hB)
 have Ht_25 := Aside0.mk (Kd.C_below Ht_24.out hB)
 clear hB HF_24 HB_24 HR_24 Hx_24 Hy_24 Ht_24 w24
 have hH := HF_25.out.get xb #[.slice Ax (upD l u).length cx, .int .i64 p] 24 (by simp)
 have hlxb := blk_lt hH
 have cxb0 : w25.cell? ⟨xb, 0, none⟩ = some (.slice Ax (upD l u).length cx) := (blk_cell hH 0).trans rfl
 have cxb1 : w25.cell? ⟨xb, 1, none⟩ = some (.int .i64 p) := (blk_cell hH 1).trans rfl
 clear hH
 go_wp2_with fail
 clear hlxb cxb0 cxb1
 obtain ⟨w25a, hZ⟩ : ∃ Z, w25.alloc (.cells #[.int .i64 n1, .int .i64 n2, .int .i64 n3, .int .i64 n4] 48) = Z := ⟨_, rfl⟩
 obtain ⟨mb, hbk⟩ : ∃ b, b = w25.heap.size := ⟨_, rfl⟩
 have HF_25a : Aside0 (Held [(mb, #[.int .i64 n1, .int .i64 n2, .int .i64 n3, .int .i64 n4], 48), (nb, #[.int .i64 n1, .int .i64 n2, .int .i64 n3, .int .i64 n4], 48), (xb, #[.slice Ax (upD l u).length cx, .int .i64 p], 24), (yb, #[.slice Ay (upL l m).length cy, .int .i64 p], 24), (rb, #[.int .u16 x0, .int .u16 x1], 61), (tb, #[.slice (some ad3) l.length c, .int .i64 p], 24)] w25a) := ⟨by rw [← hZ, hbk]; exact HF_25.out.new _ _⟩
 have HR_25a : Aside0 (Kd.C k70 w25a (some ad3) l.length l) := ⟨by rw [← hZ]; exact Kd.C_below HR_25.out ((Below.refl _ _).alloc (Nat.le_refl _) _)⟩
 have Hx_25a : Aside0 (Kd.C k70 w25a Ax (upD l u).length (upD l u)) := ⟨by rw [← hZ]; exact Kd.C_below Hx_25.out ((Below.refl _ _).alloc (Nat.le_refl _) _)⟩
 have Hy_25a : Aside0 (Kd.C k70 w25a Ay (upL l m).length (upL l m)) := ⟨by rw [← hZ]; exact Kd.C_below Hy_25.out ((Below.refl _ _).alloc (Nat.le_refl _) _)⟩
 have Ht_25a : Aside0 (Kd.C k43 w25a At (tightL l).length (tightL l)) := ⟨by rw [← hZ]; exact Kd.C_below Ht_25.out ((Below.refl _ _).alloc (Nat.le_refl _) _)⟩
 have HB_25a : Aside0 (Below w.heap.size w w25a) := ⟨by rw [← hZ]; exact HB_25.out.alloc HB_25.out.size _⟩
 rw [hZ, ← hbk]
 clear hZ hbk HF_25 HB_25 HR_25 Hx_25 Hy_25 Ht_25 w25
 refine (chart_Tight.calls Ax cx (upD l u) p (tightL l) 0 w25a Hx_25a.out Hx_L.out (HM.out.tx rfl)).mono ?_
 rintro e w26 ⟨v, rfl, Hs, hB⟩
 obtain ⟨As, cs, rfl, Hsl, Hsr⟩ := Kd.R_reads Hs
 have Hs_L := Lib.hid Hsl
 have Hs_26 := Aside0.mk Hsr
 clear Hs Hsl Hsr
 have HF_26 := Aside0.mk (HF_25a.out.below hB)
 have HB_26 := Aside0.mk (below_then HB_25a.out hB)
 have HR_26 := Aside0.mk (Kd.C_below HR_25a.out hB)
 have Hx_26 := Aside0.mk (Kd.C_below Hx_25a.out hB)
 have Hy_26 := Aside0.mk (Kd.C_below Hy_25a.out hB)
 have Ht_26 := Aside0.mk (Kd.C_below Ht_25a.out hB)
 clear hB HF_25a HB_25a HR_25a Hx_25a Hy_25a Ht_25a w25a
 have hH := HF_26.out.get nb #[.int .i64 n1, .int .i64 n2, .int .i64 n3, .int .i64 n4] 48 (by simp)
 have hlnb := blk_lt hH
 have cnb0 : w26.cell? ⟨nb, 0, none⟩ = some (.int .i64 n1) := (blk_cell hH 0).trans rfl
 have cnb1 : w26.cell? ⟨nb, 1, none⟩ = some (.int .i64 n2) := (blk_cell hH 1).trans rfl
 have cnb2 : w26.cell? ⟨nb, 2, none⟩ = some (.int .i64 n3) := (blk_cell hH 2).trans rfl
 have cnb3 : w26.cell? ⟨nb, 3, none⟩ = some (.int .i64 n4) := (blk_cell hH 3).trans rfl
 clear hH
 have hH := HF_26.out.get mb #[.int .i64 n1, .int .i64 n2, .int .i64 n3, .int .i64 n4] 48 (by simp)
 have hlmb := blk_lt hH
 have cmb0 : w26.cell? ⟨mb, 0, none⟩ = some (.int .i64 n1) := (blk_cell hH 0).trans rfl
 have cmb1 : w26.cell? ⟨mb, 1, none⟩ = some (.int .i64 n2) := (blk_cell hH 1).trans rfl
 have cmb2 : w26.cell? ⟨mb, 2, none⟩ = some (.int .i64 n3) := (blk_cell hH 2).trans rfl
 have cmb3 : w26.cell? ⟨mb, 3, none⟩ = some (.int .i64 n4) := (blk_cell hH 3).trans rfl
 clear hH
 go_wp2_with fail
 clear hlnb cnb0 cnb1 cnb2 cnb3 hlmb cmb0 cmb1 cmb2 cmb3
 refine (forecourtlaw01_ranges.calls k As cs (tightL l) At ct (tightL l) true w26 Hs_26.out Hs_L.out Ht_26.out Ht_L.out HM.out.rgs).mono ?_
 rintro e w27 ⟨rfl, hB⟩
 replace hB := hB.below
 have HF_27 := Aside0.mk (HF_26.out.below hB)
 have HB_27 := Aside0.mk (below_then HB_26.out hB)
 have HR_27 := Aside0.mk (Kd.C_below HR_26.out hB)
 have Hx_27 := Aside0.mk (Kd.C_below Hx_26.out hB)
 have Hy_27 := Aside0.mk (Kd.C_below Hy_26.out hB)
 have Ht_27 := Aside0.mk (Kd.C_below Ht_26.out hB)
 have Hs_27 := Aside0.mk (Kd.C_below Hs_26.out hB)
 clear hB HF_26 HB_26 HR_26 Hx_26 Hy_26 Ht_26 Hs_26 w26
 have hH := HF_27.out.get yb #[.slice Ay (upL l m).length cy, .int .i64 p] 24 (by simp)
 have hlyb := blk_lt hH
 have cyb0 : w27.cell? ⟨yb, 0, none⟩ = some (.slice Ay (upL l m).length cy) := (blk_cell hH 0).trans rfl
 have cyb1 : w27.cell? ⟨yb, 1, none⟩ = some (.int .i64 p) := (blk_cell hH 1).trans rfl
 clear hH
 go_wp2_with fail
 clear hlyb cyb0 cyb1
 refine (forecourtlaw01_fine.calls k Ay cy (upL l m) p bl w27 Hy_27.out Hy_L.out HM.out.fl).mono ?_
 rintro e w28 ⟨rfl, hB⟩
 have HF_28 := Aside0.mk (HF_27.out.below hB)
 have HB_28 := Aside0.mk (below_then HB_27.out hB)
 have HR_28 := Aside0.mk (Kd.C_below HR_27.out hB)
 have Hx_28 := Aside0.mk (Kd.C_below Hx_27.out hB)
 have Hy_28 := Aside0.mk (Kd.C_below Hy_27.out hB)
 have Ht_28 := Aside0.mk (Kd.C_below Ht_27.out hB)
 have Hs_28 := Aside0.mk (Kd.C_below Hs_27.out hB)
 clear hB HF_27 HB_27 HR_27 Hx_27 Hy_27 Ht_27 Hs_27 w27
 cases bl with
 | false =>
  go_wp2_with fail
  refine (forecourtlaw01_Works.calls true w28 ⟨rfl⟩ rfl).mono ?_
  rintro e wz ⟨rfl, hB⟩
  go_wp2_with fail
  go_ret
  exact ⟨rfl, below_then HB_28.out hB⟩
 | true =>
 have hH := HF_28.out.get yb #[.slice Ay (upL l m).length cy, .int .i64 p] 24 (by simp)
 have hlyb := blk_lt hH
 have cyb0 : w28.cell? ⟨yb, 0, none⟩ = some (.slice Ay (upL l m).length cy) := (blk_cell hH 0).trans rfl
 have cyb1 : w28.cell? ⟨yb, 1, none⟩ = some (.int .i64 p) := (blk_cell hH 1).trans rfl
 clear hH
 go_wp2_with fail
 clear hlyb cyb0 cyb1
 refine (chart_Net.calls Ay cy (upL l m) p wa le n1 n2 n3 n4 e w28 Hy_28.out Hy_L.out (HM.out.netl rfl)).mono ?_
 rintro e w29 ⟨rfl, hB⟩
 have HF_29 := Aside0.mk (HF_28.out.below hB)
 have HB_29 := Aside0.mk (below_then HB_28.out hB)
 have HR_29 := Aside0.mk (Kd.C_below HR_28.out hB)
 have Hx_29 := Aside0.mk (Kd.C_below Hx_28.out hB)
 have Hy_29 := Aside0.mk (Kd.C_below Hy_28.out hB)
 have Ht_29 := Aside0.mk (Kd.C_below Ht_28.out hB)
 have Hs_29 := Aside0.mk (Kd.C_below Hs_28.out hB)
 clear hB HF_28 HB_28 HR_28 Hx_28 Hy_28 Ht_28 Hs_28 w28
 have hH := HF_29.out.get yb #[.slice Ay (upL l m).length cy, .int .i64 p] 24 (by simp)
 have hlyb := blk_lt hH
 have cyb0 : w29.cell? ⟨yb, 0, none⟩ = some (.slice Ay (upL l m).length cy) := (blk_cell hH 0).trans rfl
 have cyb1 : w29.cell? ⟨yb, 1, none⟩ = some (.int .i64 p) := (blk_cell hH 1).trans rfl
 clear hH
 go_wp2_with fail
 clear hlyb cyb0 cyb1
 obtain ⟨w29a, hZ⟩ : ∃ Z, w29.alloc (.cells #[.int .i64 n1, .int .i64 n2, .int .i64 n3, .int .i64 n4] 48) = Z := ⟨_, rfl⟩
 obtain ⟨qb, hbk⟩ : ∃ b, b = w29.heap.size := ⟨_, rfl⟩
 have HF_29a : Aside0 (Held [(qb, #[.int .i64 n1, .int .i64 n2, .int .i64 n3, .int .i64 n4], 48), (mb, #[.int .i64 n1, .int .i64 n2, .int .i64 n3, .int .i64 n4], 48), (nb, #[.int .i64 n1, .int .i64 n2, .int .i64 n3, .int .i64 n4], 48), (xb, #[.slice Ax (upD l u).length cx, .int .i64 p], 24), (yb, #[.slice Ay (upL l m).length cy, .int .i64 p], 24), (rb, #[.int .u16 x0, .int .u16 x1], 61), (tb, #[.slice (some ad3) l.length c, .int .i64 p], 24)] w29a) := ⟨by rw [← hZ, hbk]; exact HF_29.out.new _ _⟩
 have HR_29a : Aside0 (Kd.C k70 w29a (some ad3) l.length l) := ⟨by rw [← hZ]; exact Kd.C_below HR_29.out ((Below.refl _ _).alloc (Nat.le_refl _) _)⟩
 have Hx_29a : Aside0 (Kd.C k70 w29a Ax (upD l u).length (upD l u)) := ⟨by rw [← hZ]; exact Kd.C_below Hx_29.out ((Below.refl _ _).alloc (Nat.le_refl _) _)⟩
 have Hy_29a : Aside0 (Kd.C k70 w29a Ay (upL l m).length (upL l m)) := ⟨by rw [← hZ]; exact Kd.C_below Hy_29.out ((Below.refl _ _).alloc (Nat.le_refl _) _)⟩
 have Ht_29a : Aside0 (Kd.C k43 w29a At (tightL l).length (tightL l)) := ⟨by rw [← hZ]; exact Kd.C_below Ht_29.out ((Below.refl _ _).alloc (Nat.le_refl _) _)⟩
 have Hs_29a : Aside0 (Kd.C k43 w29a As (tightL l).length (tightL l)) := ⟨by rw [← hZ]; exact Kd.C_below Hs_29.out ((Below.refl _ _).alloc (Nat.le_refl _) _)⟩
 have HB_29a : Aside0 (Below w.heap.size w w29a) := ⟨by rw [← hZ]; exact HB_29.out.alloc HB_29.out.size _⟩
 rw [hZ, ← hbk]
 clear hZ hbk HF_29 HB_29 HR_29 Hx_29 Hy_29 Ht_29 Hs_29 w29
 refine (chart_Tight.calls Ay cy (upL l m) p (tightL (upL l m)) 0 w29a Hy_29a.out Hy_L.out (HM.out.tl rfl)).mono ?_
 rintro e w30 ⟨v, rfl, Hz, hB⟩
 obtain ⟨Az, cz, rfl, Hzl, Hzr⟩ := Kd.R_reads Hz
 have Hz_L := Lib.hid Hzl
 have Hz_30 := Aside0.mk Hzr
 clear Hz Hzl Hzr
 have HF_30 := Aside0.mk (HF_29a.out.below hB)
 have HB_30 := Aside0.mk (below_then HB_29a.out hB)
 have HR_30 := Aside0.mk (Kd.C_below HR_29a.out hB)
 have Hx_30 := Aside0.mk (Kd.C_below Hx_29a.out hB)
 have Hy_30 := Aside0.mk (Kd.C_below Hy_29a.out hB)
 have Ht_30 := Aside0.mk (Kd.C_below Ht_29a.out hB)
 have Hs_30 := Aside0.mk (Kd.C_below Hs_29a.out hB)
 clear hB HF_29a HB_29a HR_29a Hx_29a Hy_29a Ht_29a Hs_29a w29a
 have hzl : (tightL (upL l m)).length = l.length := by rw [tightL_len, upL_len]
 have htl : (tightL l).length = l.length := tightL_len l
 have h1 : ((tightL (upL l m)).length != (tightL l).length) = false := by rw [hzl, htl]; simp
 have h2 : (((tightL (upL l m)).length : Int) != ((tightL l).length : Int)) = false := by rw [hzl, htl]; simp
 have HZL := Lib.hid hzl
 have HTL := Lib.hid htl
 clear hzl htl
 have hH := HF_30.out.get nb #[.int .i64 n1, .int .i64 n2, .int .i64 n3, .int .i64 n4] 48 (by simp)
 have hlnb := blk_lt hH
 have cnb0 : w30.cell? ⟨nb, 0, none⟩ = some (.int .i64 n1) := (blk_cell hH 0).trans rfl
 have cnb1 : w30.cell? ⟨nb, 1, none⟩ = some (.int .i64 n2) := (blk_cell hH 1).trans rfl
 have cnb2 : w30.cell? ⟨nb, 2, none⟩ = some (.int .i64 n3) := (blk_cell hH 2).trans rfl
 have cnb3 : w30.cell? ⟨nb, 3, none⟩ = some (.int .i64 n4) := (blk_cell hH 3).trans rfl
 clear hH
 have hH := HF_30.out.get qb #[.int .i64 n1, .int .i64 n2, .int .i64 n3, .int .i64 n4] 48 (by simp)
 have hlqb := blk_lt hH
 have cqb0 : w30.cell? ⟨qb, 0, none⟩ = some (.int .i64 n1) := (blk_cell hH 0).trans rfl
 have cqb1 : w30.cell? ⟨qb, 1, none⟩ = some (.int .i64 n2) := (blk_cell hH 1).trans rfl
 have cqb2 : w30.cell? ⟨qb, 2, none⟩ = some (.int .i64 n3) := (blk_cell hH 2).trans rfl
 have cqb3 : w30.cell? ⟨qb, 3, none⟩ = some (.int .i64 n4) := (blk_cell hH 3).trans rfl
 clear hH
 go_wp2_with fail
 clear hlnb cnb0 cnb1 cnb2 cnb3 hlqb cqb0 cqb1 cqb2 cqb3 h1 h2
 go_loopw [27] (fun v27 w' => ∃ i : Nat, i ≤ l.length ∧ v27 = .int .i64 i ∧ Below w30.heap.size w30 w') (fun v27 _ => l.length - (RowKit.intOf v27).toNat)
 case atStart => exact ⟨0, Nat.zero_le _, rfl, Below.refl _ _⟩
 case round =>
 obtain ⟨i, hi, rfl, hBi⟩ := hrel
 obtain ⟨w31, hZ⟩ : ∃ Z, wr = Z := ⟨_, rfl⟩
 have hB := hBi
 rw [hZ] at hB
 rw [hZ]
 have HF_31 := Aside0.mk (HF_30.out.below hB)
 have HB_31 := Aside0.mk (below_then HB_30.out hB)
 have HR_31 := Aside0.mk (Kd.C_below HR_30.out hB)
 have Hx_31 := Aside0.mk (Kd.C_below Hx_30.out hB)
 have Hy_31 := Aside0.mk (Kd.C_below Hy_30.out hB)
 have Ht_31 := Aside0.mk (Kd.C_below Ht_30.out hB)
 have Hs_31 := Aside0.mk (Kd.C_below Hs_30.out hB)
 have Hz_31 := Aside0.mk (Kd.C_below Hz_30.out hB)
 have HBi := Aside0.mk hB
 clear hZ hB
 by_cases hlt : i < l.length
 ·as_aux_lemma =>
  obtain ⟨ad, ea, hx1, hx2⟩ := at_T43 Hz_31.out (i : Int) (by omega) (by have := HZL.out; omega)
  cases ea
  obtain ⟨ad2, ea, hx3, hx4⟩ := at_T43 Ht_31.out (i : Int) (by omega) (by have := HTL.out; omega)
  cases ea
  rw [rdTight (upL l m) i (by rw [upL_len]; exact hlt), Int.toNat_natCast] at hx1 hx2
  rw [rdTight l i hlt, Int.toNat_natCast] at hx3 hx4
  obtain ⟨e1, e2⟩ := HM.out.rows i hlt
  have g1 := (low_chart HM.out.fine.tank HM.out.fine.tight).getIn HM.out.fine.tank i hlt
  have g2 := (high_chart HM.out.fine.tank HM.out.fine.tight).getIn HM.out.fine.tank i hlt
  rw [show (lows l).getD i 0 = lowN l i from range_getD (lowN l) l.length i hlt] at g1
  rw [show (highs l).getD i 0 = highN l i from range_getD (highN l) l.length i hlt] at g2
  have u1 := HU.out
  obtain ⟨lo, elo⟩ : ∃ z, z = lowN l i := ⟨_, rfl⟩
  obtain ⟨h', ehi⟩ : ∃ z, z = highN l i := ⟨_, rfl⟩
  rw [← elo] at e1 g1 hx3
  rw [← ehi] at e2 g2 hx4
  replace hx1 : w31.cell? (ad.add (i * 2)) = some (.int .i64 (lowN (upL l m) i)) := hx1
  replace hx2 : w31.cell? ⟨(ad.add (i * 2)).block, (ad.add (i * 2)).off + 1, none⟩ = some (.int .i64 (highN (upL l m) i)) := hx2
  replace hx3 : w31.cell? (ad2.add (i * 2)) = some (.int .i64 lo) := hx3
  replace hx4 : w31.cell? ⟨(ad2.add (i * 2)).block, (ad2.add (i * 2)).off + 1, none⟩ = some (.int .i64 h') := hx4
  rw [e1] at hx1
  rw [e2] at hx2
  have wr1 : IntKind.i64.wrap (lo + m) = lo + m := by rw [i64_w]; exact wrap_id (by omega)
  have wr2 : IntKind.i64.wrap (h' + m) = h' + m := by rw [i64_w]; exact wrap_id (by omega)
  have p1 : (0 : Int) ≤ (i : Int) := by omega
  have p2 : (i : Int) < (tightL (upL l m)).length := by have := HZL.out; omega
  have p3 : (i : Int) < (tightL l).length := by have := HTL.out; omega
  have p4 : (i : Int) ≤ 16 := by omega
  clear elo ehi e1 e2 g1 g2
  go_wp2_with fail
  (refine start_ (n := 22) (S := fun w' => Below (World.heap _).size _ w') (ds := []) (List.toArray (false :: false :: false :: false :: false :: false :: false :: false :: false :: false :: false :: false :: false :: false :: false :: false :: false :: false :: false :: false :: false :: false :: [])) (by kernel_rfl) rfl rfl (belowDrew _) (fun plS => ?_); refine pureY (i := 0) (N := (some 188)) ?_; refine pureY (i := 1) (N := (some 189)) ?_; refine pureY (i := 2) (N := (some 190)) ?_; refine pureY (i := 4) (N := (some 192)) ?_; refine pureY (i := 5) (N := (some 193)) ?_; refine pureY (i := 6) (N := (some 194)) ?_; refine pureY (i := 7) (N := (some 195)) ?_; refine pureY (i := 9) (N := (some 197)) ?_; refine pureY (i := 10) (N := (some 198)) ?_; refine pureY (i := 12) (N := (some 200)) ?_; refine pureY (i := 13) (N := (some 201)) ?_; refine pureY (i := 14) (N := (some 202)) ?_; refine pureY (i := 15) (N := (some 203)) ?_; refine pureY (i := 17) (N := (some 205)) ?_; refine pureY (i := 18) (N := (some 206)) ?_; refine takeF (i := 3) (N := (some 191)) (hS := plS) (hy := by (intro w' hw'; replace hw' : Below (World.heap w31).size w31 w' := hw'; have q0 := pw_cell_below hw' hx1; have q1 := pw_cell_below hw' hx2; have q2 := pw_cell_below hw' hx3; have q3 := pw_cell_below hw' hx4; exact yieldA)) (h := ?_); refine takeF (i := 8) (N := (some 196)) (hS := plS) (hy := by (intro w' hw'; replace hw' : Below (World.heap w31).size w31 w' := hw'; have q0 := pw_cell_below hw' hx1; have q1 := pw_cell_below hw' hx2; have q2 := pw_cell_below hw' hx3; have q3 := pw_cell_below hw' hx4; exact yieldA)) (h := ?_); refine pureY (i := 11) (N := (some 199)) ?_; refine takeF (i := 16) (N := (some 204)) (hS := plS) (hy := by (intro w' hw'; replace hw' : Below (World.heap w31).size w31 w' := hw'; have q0 := pw_cell_below hw' hx1; have q1 := pw_cell_below hw' hx2; have q2 := pw_cell_below hw' hx3; have q3 := pw_cell_below hw' hx4; exact yieldA)) (h := ?_); refine pureY (i := 19) (N := (some 207)) ?_; refine oneY (i := 20) (fun plK plH => ?_); rw [if_pos (by rfl)]; (first | gi_big_move | go_big_op | go_simp))
  refine (forecourtlaw01_rg.calls (lo + m) (h' + m) (lo + m) (h' + m) w31.drew rfl).mono ?_
  rintro e y1 ⟨rfl, hb⟩
  have hB1 : Below w31.heap.size w31 y1 := ((Below.refl _ w31).drew).trans hb
  clear hb
  ((try simp only [Act.put, List.getElem_toArray, List.getElem_cons_succ, List.getElem_cons_zero, List.setIfInBounds_toArray, List.set_cons_succ, List.set_cons_zero]); refine plH _ _ hB1 (fun plS => ?_); clear plH plK; refine pureY (i := 21) (N := (some 209)) ?_; refine done_ (by kernel_rfl) ?_)
  clear plS
  go_wp2_with fail
  go_roundw
  case rel => exact ⟨i + 1, by omega, by go_num, below_then HBi.out hB1⟩
  case measure => simp [RowKit.intOf]; omega
 obtain rfl : i = l.length := by omega
 have hq3 : decide ((l.length : Int) < ((tightL l).length : Int)) = false := decide_eq_false (by have := HTL.out; omega)
 have hq4 : decide (l.length < (tightL l).length) = false := decide_eq_false (by have := HTL.out; omega)
 have hq5 : ¬ l.length < (tightL l).length := by have := HTL.out; omega
 go_wp2_with fail
 refine (forecourtlaw01_Works.calls true w31 ⟨rfl⟩ rfl).mono ?_
 rintro e wz ⟨rfl, hB⟩
 go_wp2_with fail
 go_ret
 exact ⟨rfl, below_then HB_31.out hB⟩
end Go.Proofs.Ytpkajhmchcbbhaa.P
end
