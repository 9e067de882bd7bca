/- Part 34 of 44. -/
import Derived.Test.YtpkajhmchcbbhaaL33
import Derived.Test.YtpkajhmchcbbhaaL21
import Derived.Test.YtpkajhmchcbbhaaL20
set_option linter.unusedSimpArgs false
set_option linter.unusedVariables false
section
namespace Go.Proofs.Ytpkajhmchcbbhaa.P
open Go.RowKit Go.Proofs.YtpkajhmchcbbhaaW.PrintWords Go.Proofs.YtpkajhmchcbbhaaW.PrintLast Go.Proofs.YtpkajhmchcbbhaaW.PrintMore
attribute [local go_sem] max2_mx min2_mn max_two min_two
attribute [local go_sem ↓] exec_load112 exec_store112 sem_load112 sem_store112 exec_load113 exec_store113 sem_load113 sem_store113 exec_build112 sem_build112 exec_build113 sem_build113 exec_none113 sem_none113
attribute [local go_sem] load112_at store112_at load113_at store113_at SegOk_alloc seg_alloc SegOk_drew seg_drew SegOk_drewN seg_drewN ints_size Ones_ints store112_new store112_newD buildEnd_at buildEnds_at buildNone_at ints_app
def endLow (l : List SRow) (p water level : Int) : List Int := endL (lowDips l p water level).1 (lowDips l p water level).2 (fewR l (lowDips l p water level).1 (lowDips l p water level).2).2
 (leastN (fewR l (lowDips l p water level).1 (lowDips l p water level).2).1 (bden l (lowDips l p water level).1 (lowDips l p water level).2)) (leastD (fewR l (lowDips l p water level).1 (lowDips l p water level).2).1 (bden l (lowDips l p water level).1 (lowDips l p water level).2))
def endHigh (l : List SRow) (p water level : Int) : List Int := endL (highDips l p water level).1 (highDips l p water level).2 (mostR l (highDips l p water level).1 (highDips l p water level).2).2
 (leastN (mostR l (highDips l p water level).1 (highDips l p water level).2).1 (bden l (highDips l p water level).1 (highDips l p water level).2)) (leastD (mostR l (highDips l p water level).1 (highDips l p water level).2).1 (bden l (highDips l p water level).1 (highDips l p water level).2))
theorem zends : (#[Value.int IntKind.i64 0, Value.int IntKind.i64 0, Value.int IntKind.i64 0, Value.int IntKind.i64 0, Value.int IntKind.i64 0, Value.int IntKind.i64 0, Value.int IntKind.i64 0, Value.int IntKind.i64 0, Value.int IntKind.i64 0, Value.int IntKind.i64 0, Value.int IntKind.i64 0, Value.int IntKind.i64 0, Value.int IntKind.i64 0, Value.int IntKind.i64 0, Value.int IntKind.i64 0, Value.int IntKind.i64 0, Value.int IntKind.i64 0, Value.int IntKind.i64 0, Value.int IntKind.i64 0, Value.int IntKind.i64 0, Value.int IntKind.i64 0, Value.int IntKind.i64 0, Value.int IntKind.i64 0, Value.int IntKind.i64 0, Value.int IntKind.i64 0, Value.int IntKind.i64 0, Value.int IntKind.i64 0, Value.int IntKind.i64 0, Value.int IntKind.i64 0, Value.int IntKind.i64 0, Value.int IntKind.i64 0, Value.int IntKind.i64 0, Value.int IntKind.i64 0, Value.int IntKind.i64 0, Value.int IntKind.i64 0, Value.int IntKind.i64 0, Value.int IntKind.i64 0, Value.int IntKind.i64 0, Value.int IntKind.i64 0, Value.int IntKind.i64 0] : Array Value) = ints (List.replicate 40 0) := rfl
def endsL (l : List SRow) (p water level : Int) : List Int := if endsE l p water level = 0 then endLow l p water level ++ endHigh l p water level else List.replicate 40 0
theorem openE_in {l : List SRow} {p : Int} {dips : List Int} (h : openE l p dips = 0) : checkTank l p = 0 ∧ (∀ d, d ∈ dips → firstD l ≤ d ∧ d ≤ lastD l) ∧ tightOk l = true := by
 unfold openE at h
 split at h
 ·rename_i h1; exact absurd h h1
 rename_i h1
 split at h
 ·cases h
 rename_i h2
 split at h
 ·rename_i h3
  refine ⟨by simpa using h1, fun d hd => ?_, h3⟩
  have h4 : (dips.all fun d => inB (firstD l) (lastD l) d) = true := by simpa using h2
  rw [List.all_eq_true] at h4
  exact (inB_iff _ _ _).1 (h4 d hd)
 cases h
theorem fewF_length {l : List SRow} (h16 : l.length ≤ 16) (d0 d1 : Int) : ∀ (ks : List Int) (st : Option (Int × List Int)), (∀ q, st = some q → q.2.length = 16) → ∀ q, fewF l d0 d1 ks st = some q → q.2.length = 16 := by
 intro ks
 induction ks with
 | nil => intro st h q hq; exact h q (by cases st <;> first | (simp [fewF] at hq; exact congrArg some hq) | (simp [fewF] at hq))
 | cons x r ih =>
  intro st h q hq
  have hx : ∀ q', some (dot (bwts l d0 d1) (nearC l x), nearC l x) = some q' → q'.2.length = 16 := fun q' hq' => by cases hq'; exact nearC_length h16 x
  cases st with
  | none => exact ih _ hx q (by simpa only [fewF] using hq)
  | some p0 =>
   obtain ⟨f, c⟩ := p0
   simp only [fewF] at hq
   split at hq
   ·exact ih _ hx q hq
   exact ih _ h q hq
theorem fewR_length {l : List SRow} (h16 : l.length ≤ 16) (h2 : 2 ≤ l.length) (d0 d1 : Int) : (fewR l d0 d1).2.length = 16 := by
 unfold fewR
 cases hq : fewF l d0 d1 (cands l l.length) none with
 | none =>
  have h1 := (fewF_some _ _ _ _ _ hq).1
  have : lowN l 0 ∈ cands l l.length := (mem_cands l _ _).2 ⟨0, by omega, .inl rfl⟩
  rw [h1] at this; cases this
 | some q => exact fewF_length h16 d0 d1 _ none (fun q hq => by cases hq) q hq
theorem endL_set0 (d0 d1 : Int) (c : List Int) (n m v : Int) : (ints (endL d0 d1 c n m)).setIfInBounds 0 (.int .i64 v) = ints (endL v d1 c n m) := by rw [ints_set]; rfl
theorem endL_set1 (d0 d1 : Int) (c : List Int) (n m v : Int) : (ints (endL d0 d1 c n m)).setIfInBounds 1 (.int .i64 v) = ints (endL d0 v c n m) := by rw [ints_set]; rfl
theorem zl16 : ([0, 0, 0, 0, 0, 0, 0, 0, 0, 0, 0, 0, 0, 0, 0, 0] : List Int) = List.replicate 16 0 := rfl
theorem zl40 : ([0, 0, 0, 0, 0, 0, 0, 0, 0, 0, 0, 0, 0, 0, 0, 0, 0, 0, 0, 0, 0, 0, 0, 0, 0, 0, 0, 0, 0, 0, 0, 0, 0, 0, 0, 0, 0, 0, 0, 0] : List Int) = List.replicate 40 0 := rfl
set_option maxRecDepth 100000 in
set_option maxHeartbeats 40000000 in
theorem ends_calls (A : Option Addr) (c : Nat) (l : List SRow) (p water level : Int) (w : World) (hr : Kd.C kRow w A l.length l) (hc : l.length ≤ c) :
  Calls Try.prog 68 #[.agg #[.slice A l.length c, .int .i64 p], .int .i64 water, .int .i64 level] w fun e w' => e = .returned (.tuple #[.agg (ints (endsL l p water level)), .int .i64 (endsE l p water level)]) ∧ Below w.heap.size w w' := by
 have HR := Aside0.mk hr
 have HC := Aside0.mk hc
 clear hr hc
 have hu1 := Try.underlying24
 have hu4 := Try.underlying43
 have hu5 := Try.underlying97
 have hu6 := Try.underlying51
 have hu7 := Try.underlying112
 have hu9 := Try.underlying113
 go_enter Try.func68, Try.ntmps68
 go_wp2_with fail
 simp only [zends]
 obtain ⟨V0, hV0⟩ : ∃ V, ((w.alloc (.cells #[.slice A l.length c, .int .i64 p] 24)).alloc (.cells (ints (List.replicate 40 0)) 113)).alloc (.cells #[.int .i64 water, .int .i64 level] 2) = V := ⟨_, rfl⟩
 have hs0 : V0.heap.size = w.heap.size + 3 := by rw [← hV0]; simp
 have K1 : Aside0 (V0.heap[w.heap.size + 1]? = some (.cells (ints (List.replicate 40 0)) 113 (0, 0))) := ⟨by rw [← hV0]; exact blk_old (blk_new' (by simp))⟩
 have K2 : Aside0 (V0.heap[w.heap.size + 2]? = some (.cells #[.int .i64 water, .int .i64 level] 2 (0, 0))) := ⟨by rw [← hV0]; exact blk_new' (by simp)⟩
 have KB : Aside0 (Below w.heap.size w V0) := ⟨by rw [← hV0]; exact (((Below.refl _ _).alloc (Nat.le_refl _) _).alloc (by simp) _).alloc (by simp; omega) _⟩
 rw [hV0]
 clear hV0
 refine (open_calls A c l p (some ⟨w.heap.size + 2, 0, none⟩) 2 [water, level] V0 (Kd.C_below HR.out KB.out) HC.out (C_arr (l := [water, level]) K2.out (by simp)) (Nat.le_refl _)).mono ?_
 rintro e w3 ⟨hB3, hO⟩
 have M1 := Aside0.mk (below_blk hB3 K1.out (blk_lt K1.out))
 have MB := Aside0.mk (below_then KB.out hB3)
 have hs3 : w.heap.size + 3 ≤ w3.heap.size := by have := hB3.size; omega
 clear hB3 K1 K2 KB
 have hS1 := SegOk.mk' M1.out 0 40 (by simp [ints])
 have hz : (ints (List.replicate 40 0)).size = 40 := by simp [ints]
 have hr40 : (List.replicate 40 (0 : Int)).length = 40 := by simp
 rcases hO with ⟨hne, rfl⟩ | ⟨heq, g, rfl, hg0, hG⟩
 ·have hE : endsE l p water level = openE l p [water, level] := by unfold endsE; rw [if_pos hne]
  have hL : endsL l p water level = List.replicate 40 0 := by unfold endsL; rw [if_neg (by rw [hE]; exact hne)]
  have HE := Lib.hid hE
  have HL := Lib.hid hL
  clear hE hL
  obtain ⟨E, hEE⟩ : ∃ E, E = openE l p [water, level] := ⟨_, rfl⟩
  rw [← hEE] at hne HE ⊢
  clear hEE
  go_wp2_with fail
  simp only [zl40]
  have hfin := putSeg_block M1.out (l := (ints (List.replicate 40 0)).toList) (by simp [ints])
  refine bodyPost_ret (results_arr2 rfl rfl isAggEE sizeOfEE (SegOk.mk' hfin 0 40 (by simp [ints]))) rfl ⟨?_, ?_⟩
  ·rw [seg_whole (n := 40) hfin (by simp [ints]), HE.out, HL.out]; rfl
  exact putSeg_below _ _ _ _ _ _ (by omega) MB.out
 obtain ⟨hck, hin, htt⟩ := openE_in heq
 have HT := Aside0.mk (tankOk_of hck)
 have hw := hin water (by simp)
 have hv := hin level (by simp)
 have ht1 := HT.out.true_in water hw.1 hw.2
 have ht2 := HT.out.true_in level hv.1 hv.2
 have hfl := HT.out.first_last
 have HG := Aside0.mk hG
 have HD := Aside0.mk HT.out.dipOk
 have hp0 := HT.out.p0
 have hp1 := HT.out.p1
 have HEE : Hid (endsE l p water level = if trueHi l p level < trueLo l p water then 24 else 0) := Lib.hid (by unfold endsE; rw [heq]; rfl)
 clear hin htt hck hG
 have hgl := HG.out.lt
 go_wp2_with fail
 refine (truly_calls g A c l p _ _ water w3 (Kd.C_below HR.out MB.out) HD.out (by omega) (by omega) hp0 hp1 HG.out).mono ?_
 rintro e w4 ⟨rfl, hB4⟩
 have HG4 := Aside0.mk (HG.out.below hB4)
 have N1 := Aside0.mk (below_blk hB4 M1.out (blk_lt M1.out))
 have NB := Aside0.mk (below_then MB.out hB4)
 have hs4 : w.heap.size + 3 ≤ w4.heap.size := by have := hB4.size; omega
 clear hB4 M1 MB HG hS1 hgl
 go_wp2_with fail
 refine (truly_calls g A c l p _ _ level w4 (Kd.C_below HR.out NB.out) HD.out (by omega) (by omega) hp0 hp1 HG4.out).mono ?_
 rintro e w5 ⟨rfl, hB5⟩
 have HG5 := Aside0.mk (HG4.out.below hB5)
 have P1 := Aside0.mk (below_blk hB5 N1.out (blk_lt N1.out))
 have PB := Aside0.mk (below_then NB.out hB5)
 have hs5 : w.heap.size + 3 ≤ w5.heap.size := by have := hB5.size; omega
 clear hB5 N1 NB HG4 hs4 w4
 have HLO := Lib.hid (show lowDips l p water level = if trueHi l p water < trueLo l p level then (trueHi l p water, trueLo l p level) else (mx (trueLo l p water) (trueLo l p level), mx (trueLo l p water) (trueLo l p level)) from rfl)
 have HHI := Lib.hid (show highDips l p water level = (trueLo l p water, trueHi l p level) from rfl)
 obtain ⟨t1, e1⟩ : ∃ t, t = trueLo l p water := ⟨_, rfl⟩
 obtain ⟨t2, e2⟩ : ∃ t, t = trueHi l p water := ⟨_, rfl⟩
 obtain ⟨t3, e3⟩ : ∃ t, t = trueLo l p level := ⟨_, rfl⟩
 obtain ⟨t4, e4⟩ : ∃ t, t = trueHi l p level := ⟨_, rfl⟩
 rw [← e1, ← e2] at ht1
 rw [← e3, ← e4] at ht2
 rw [← e1, ← e4] at HEE HHI
 rw [← e1, ← e2, ← e3] at HLO
 rw [← e1, ← e2, ← e3, ← e4]
 clear e1 e2 e3 e4
 have hS1 := SegOk.mk' P1.out 0 40 (by simp [ints])
 have HG5lt := HG5.out.lt
 rcases Decidable.em (t4 < t1) with hlt | hlt
 ·go_wp2_with fail
  simp only [zl40]
  obtain ⟨V, hV⟩ : ∃ V, (w5.alloc (.cells #[.int .i64 t1, .int .i64 t2] 43)).alloc (.cells #[.int .i64 t3, .int .i64 t4] 43) = V := ⟨_, rfl⟩
  have Q1 : Aside0 (V.heap[w.heap.size + 1]? = some (.cells (ints (List.replicate 40 0)) 113 (0, 0))) := ⟨by rw [← hV]; exact blk_old (blk_old P1.out)⟩
  have QB : Aside0 (Below w.heap.size w V) := ⟨by rw [← hV]; exact (PB.out.alloc PB.out.size _).alloc (by simp; omega) _⟩
  rw [hV]
  clear hV
  have hS2 := SegOk.mk' Q1.out 0 40 (by simp [ints])
  rw [store113_at V _ 0 _ hS2 hz (Ones_ints _)]
  go_wp2_with fail
  simp only [zl40]
  have hfin := putSeg_block Q1.out (l := (ints (List.replicate 40 0)).toList) (by simp [ints])
  have hE : endsE l p water level = 24 := by rw [HEE.out, if_pos hlt]
  have hL : endsL l p water level = List.replicate 40 0 := by unfold endsL; rw [if_neg (by rw [hE]; omega)]
  refine bodyPost_ret (results_arr2 rfl rfl isAggEE sizeOfEE (SegOk.mk' hfin 0 40 (by simp [ints]))) rfl ⟨?_, ?_⟩
  ·rw [seg_whole (n := 40) hfin (by simp [ints]), hE, hL]; rfl
  exact putSeg_below _ _ _ _ _ _ (by omega) QB.out
 go_wp2_with fail
 simp only [zl16, zend]
 obtain ⟨Z, hZ⟩ : ∃ Z, Z = List.replicate 16 (0 : Int) := ⟨_, rfl⟩
 have hZ16 : Z.length = 16 := by rw [hZ]; simp
 rw [← hZ]
 clear hZ
 obtain ⟨m, hm⟩ : ∃ m, m = mx t1 t3 := ⟨_, rfl⟩
 rw [← hm] at HLO ⊢
 have HM := Lib.hid hm
 have hmr : (m = t1 ∨ m = t3) := by rw [hm]; unfold mx; split <;> omega
 clear hm
 obtain ⟨V, hV⟩ : ∃ V, ((w5.alloc (.cells #[.int .i64 t1, .int .i64 t2] 43)).alloc (.cells #[.int .i64 t3, .int .i64 t4] 43)).alloc (.cells (ints (List.replicate 20 0)) 112) = V := ⟨_, rfl⟩
 obtain ⟨b, hb⟩ : ∃ b, b = w5.heap.size := ⟨_, rfl⟩
 have hVs : V.heap.size = b + 3 := by rw [← hV, hb]; simp
 have Q1 : Aside0 (V.heap[w.heap.size + 1]? = some (.cells (ints (List.replicate 40 0)) 113 (0, 0))) := ⟨by rw [← hV]; exact blk_old (blk_old (blk_old P1.out))⟩
 have Q2 : Aside0 (V.heap[b]? = some (.cells #[.int .i64 t1, .int .i64 t2] 43 (0, 0))) := ⟨by rw [← hV, hb]; exact blk_old (blk_old (blk_new _ _))⟩
 have Q3 : Aside0 (V.heap[b + 1]? = some (.cells #[.int .i64 t3, .int .i64 t4] 43 (0, 0))) := ⟨by rw [← hV, hb]; exact blk_old (blk_new' (by simp))⟩
 have Q4 : Aside0 (V.heap[b + 2]? = some (.cells (ints (List.replicate 20 0)) 112 (0, 0))) := ⟨by rw [← hV, hb]; exact blk_new' (by simp)⟩
 have QB : Aside0 (Below w.heap.size w V) := ⟨by rw [← hV]; exact ((PB.out.alloc PB.out.size _).alloc (by simp; omega) _).alloc (by simp; omega) _⟩
 have QG := Aside0.mk (HG5.out.below (show Below w5.heap.size w5 V by rw [← hV]; exact (((Below.refl _ _).alloc (Nat.le_refl _) _).alloc (by simp) _).alloc (by simp; omega) _))
 rw [hV, ← hb]
 rw [← hb] at hs5 HG5lt
 clear hV hb P1 PB HG5 hS1
 have hel := endL_length m m Z 0 0 hZ16
 have hS2 : SegOk V (b + 1 + 1) 0 20 := SegOk.mk' Q4.out 0 20 (by simp [ints])
 have hso : ∀ k, k ≠ b + 2 → (putSeg V (b + 2) 0 (ints (endL m m Z 0 0)).toList).heap[k]? = V.heap[k]? := fun k hk => putSeg_other _ _ _ _ _ hk
 obtain ⟨X, hX⟩ : ∃ X, X = putSeg V (b + 1 + 1) 0 (ints (endL m m Z 0 0)).toList := ⟨_, rfl⟩
 have R1 : Aside0 (X.heap[w.heap.size + 1]? = some (.cells (ints (List.replicate 40 0)) 113 (0, 0))) := ⟨by rw [hX]; exact (hso _ (by omega)).trans Q1.out⟩
 have R2 : Aside0 (X.heap[b]? = some (.cells #[.int .i64 t1, .int .i64 t2] 43 (0, 0))) := ⟨by rw [hX]; exact (hso _ (by omega)).trans Q2.out⟩
 have R3 : Aside0 (X.heap[b + 1]? = some (.cells #[.int .i64 t3, .int .i64 t4] 43 (0, 0))) := ⟨by rw [hX]; exact (hso _ (by omega)).trans Q3.out⟩
 have R4 : Aside0 (X.heap[b + 2]? = some (.cells (ints (endL m m Z 0 0)) 112 (0, 0))) := ⟨by rw [hX]; exact putSeg_block Q4.out (by simp [ints, hel])⟩
 have RB : Aside0 (Below w.heap.size w X) := ⟨by rw [hX]; exact putSeg_below _ _ _ _ _ _ (by omega) QB.out⟩
 have RG : Aside0 (Gauge X g A l.length c p (LowAt l l.length) (HighAt l l.length)) := ⟨by rw [hX]; exact ⟨QG.out.l, QG.out.h, (hso _ (by have := QG.out.lt; have := HG5lt; omega)).trans QG.out.b⟩⟩
 have hXs : X.heap.size = b + 3 := by rw [hX, putSeg_size, hVs]
 have x0 : X.cell? ⟨b, 0, none⟩ = some (.int .i64 t1) := blk_cell R2.out 0
 have x1 : X.cell? ⟨b, 1, none⟩ = some (.int .i64 t2) := blk_cell R2.out 1
 have y0 : X.cell? ⟨b + 1, 0, none⟩ = some (.int .i64 t3) := blk_cell R3.out 0
 have y1 : X.cell? ⟨b + 1, 1, none⟩ = some (.int .i64 t4) := blk_cell R3.out 1
 rw [store112_at V _ 0 _ hS2 (by rw [ints_size, hel]) (Ones_ints _), ← hX]
 have hb3 : b + 1 < X.heap.size := by omega
 clear hX
 have z0 : X.cell? ⟨b + 1 + 1, 0, none⟩ = some (.int .i64 m) := blk_cell R4.out 0
 have z1 : X.cell? ⟨b + 1 + 1, 1, none⟩ = some (.int .i64 m) := blk_cell R4.out 1
 have f0 := blk_frozen R4.out 0
 have f1 := blk_frozen R4.out 1
 have hb4 : b + 1 + 1 < X.heap.size := by omega
 clear hlt
 rcases Decidable.em (t2 < t3) with h23 | h23
 ·go_wp2_with fail
  obtain ⟨Y, hY⟩ : ∃ Y, (X.setCell ⟨b + 1 + 1, 0, none⟩ (.int .i64 t2)).setCell ⟨b + 1 + 1, 1, none⟩ (.int .i64 t3) = Y := ⟨_, rfl⟩
  have S4 : Aside0 (Y.heap[b + 2]? = some (.cells (ints (endL t2 t3 Z 0 0)) 112 (0, 0))) := ⟨by rw [← hY]; exact blk_put (blk_put R4.out 0 (.int .i64 t2) (endL_set0 _ _ _ _ _ _)) 1 (.int .i64 t3) (endL_set1 _ _ _ _ _ _)⟩
  have YO : ∀ k, k ≠ b + 2 → ∀ {o : Obj}, X.heap[k]? = some o → Y.heap[k]? = some o := fun k hk o ho => by
   rw [← hY]
   exact (Below.heap_setCell _ ⟨b + 1 + 1, 1, none⟩ _ k hk).trans ((Below.heap_setCell _ ⟨b + 1 + 1, 0, none⟩ _ k hk).trans ho)
  have SB : Aside0 (Below w.heap.size w Y) := ⟨by rw [← hY]; exact (RB.out.setCell (p := ⟨b + 1 + 1, 0, none⟩) (by show w.heap.size ≤ b + 1 + 1; omega) _).setCell (p := ⟨b + 1 + 1, 1, none⟩) (by show w.heap.size ≤ b + 1 + 1; omega) _⟩
  have YSZ : Y.heap.size = b + 3 := by rw [← hY]; simpa using hXs
  have hlow : lowDips l p water level = (t2, t3) := by rw [HLO.out, if_pos h23]
  rw [hY]
  clear hY z0 z1 f0 f1 x0 x1 y0 y1
  have S2 : Aside0 (Y.heap[b]? = some (.cells #[.int .i64 t1, .int .i64 t2] 43 (0, 0))) := Aside0.mk (YO b (by omega) R2.out)
  have S3 : Aside0 (Y.heap[b + 1]? = some (.cells #[.int .i64 t3, .int .i64 t4] 43 (0, 0))) := Aside0.mk (YO (b + 1) (by omega) R3.out)
  have S1 : Aside0 (Y.heap[w.heap.size + 1]? = some (.cells (ints (List.replicate 40 0)) 113 (0, 0))) := Aside0.mk (YO _ (by omega) R1.out)
  have SG : Aside0 (Gauge Y g A l.length c p (LowAt l l.length) (HighAt l l.length)) := Aside0.mk ⟨RG.out.l, RG.out.h, YO g (by omega) RG.out.b⟩
  have s1 := SegOk.mk' S4.out 0 20 (by simp [ints, endL, hZ16])
  have s2 := seg_whole (n := 20) S4.out (by simp [ints, endL, hZ16])
  have x0 : Y.cell? ⟨b, 0, none⟩ = some (.int .i64 t1) := blk_cell S2.out 0
  have y1 : Y.cell? ⟨b + 1, 1, none⟩ = some (.int .i64 t4) := blk_cell S3.out 1
  have hYs : Y.heap.size = b + 3 := YSZ
  clear R1 R2 R3 R4 RG RB YO hb3
  (refine start_ (n := 14) (S := fun w' => Below (World.heap _).size _ w') (ds := [12]) (List.toArray (false :: false :: false :: false :: false :: false :: false :: false :: false :: false :: false :: false :: false :: false :: [])) (by kernel_rfl) rfl rfl (belowDrew _) (fun plS => ?_); refine pureY (i := 0) (N := (some 60)) ?_; refine pureY (i := 3) (N := (some 63)) ?_; refine pureY (i := 4) (N := (some 64)) ?_; refine pureY (i := 6) (N := (some 66)) ?_; refine takeF (i := 1) (N := (some 61)) (hS := plS) (hy := by (intro w' hw'; replace hw' : Below (World.heap Y).size Y w' := hw'; have q0 := seg_below hw' s1 s2; have r0 := segOk_below hw' s1; have q1 := pw_cell_below hw' x0; have q2 := pw_cell_below hw' y1; exact yieldA)) (h := ?_); refine takeF (i := 5) (N := (some 65)) (hS := plS) (hy := by (intro w' hw'; replace hw' : Below (World.heap Y).size Y w' := hw'; have q0 := seg_below hw' s1 s2; have r0 := segOk_below hw' s1; have q1 := pw_cell_below hw' x0; have q2 := pw_cell_below hw' y1; exact yieldA)) (h := ?_); refine takeF (i := 7) (N := (some 67)) (hS := plS) (hy := by (intro w' hw'; replace hw' : Below (World.heap Y).size Y w' := hw'; have q0 := seg_below hw' s1 s2; have r0 := segOk_below hw' s1; have q1 := pw_cell_below hw' x0; have q2 := pw_cell_below hw' y1; exact yieldA)) (h := ?_); refine pureY (i := 8) (N := (some 68)) ?_; refine pureY (i := 9) (N := (some 69)) ?_; refine oneY (i := 2) (fun plK plH => ?_); rw [if_pos (by rfl)]; (first | gi_big_move | go_big_op | go_simp))
  have YB : Below w.heap.size w Y.drew := SB.out.drew
  refine (fewest_calls' g A c l p t2 t3 Y.drew (Kd.C_below HR.out YB) HT.out (by omega) (by omega) (by omega) (by omega) SG.out.drew Z hZ16).mono ?_
  rintro e w7 ⟨rfl, hB7⟩
  have hBY : Below Y.heap.size Y w7 := ((Below.refl _ Y).drew).trans hB7
  have T1 := Aside0.mk (below_blk hBY S1.out (blk_lt S1.out))
  have TG := Aside0.mk (SG.out.below hBY)
  have TB := Aside0.mk (below_then SB.out hBY)
  have hfl16 := fewR_length HD.out.n16 HD.out.n2 t2 t3
  have he1 := endL_length t2 t3 (fewR l t2 t3).2 (leastN (fewR l t2 t3).1 (bden l t2 t3)) (leastD (fewR l t2 t3).1 (bden l t2 t3)) hfl16
  obtain ⟨E1, hE1⟩ : ∃ E, E = endL t2 t3 (fewR l t2 t3).2 (leastN (fewR l t2 t3).1 (bden l t2 t3)) (leastD (fewR l t2 t3).1 (bden l t2 t3)) := ⟨_, rfl⟩
  rw [← hE1] at he1 ⊢
  have HE1 := Lib.hid hE1
  clear hE1 hfl16 hB7
  ((try simp only [Act.put, List.getElem_toArray, List.getElem_cons_succ, List.getElem_cons_zero, List.setIfInBounds_toArray, List.set_cons_succ, List.set_cons_zero]); refine plH _ _ hBY (fun plS => ?_); clear plH plK; refine oneY (i := 10) (fun plK plH => ?_); rw [if_pos (by rfl)]; (first | gi_big_move | go_big_op | go_simp))
  refine (most_calls g A c l p _ _ t1 t4 w7 (Kd.C_below HR.out TB.out) HD.out (by omega) (by omega) (by omega) (by omega) (fun x hx => by have := HT.out.lowAt_in x hx; omega) (fun x hx => by have := HT.out.highAt_in x hx; omega) (HT.out.bden_ne t1 t4) TG.out _ rfl 0 0).mono ?_
  rintro e w8 ⟨rfl, hB8⟩
  have hml := mostL_length (LowAt l l.length) (HighAt l l.length) (bwts l t1 t4) TG.out.l TG.out.h (bwts_length l t1 t4)
  have hmc := mostC_eq HD.out.n16 t1 t4
  rw [← hmc] at hml ⊢
  have he2 := endL_length t1 t4 (mostC l t1 t4) (leastN (dot (bwts l t1 t4) (mostC l t1 t4)) (bden l t1 t4)) (leastD (dot (bwts l t1 t4) (mostC l t1 t4)) (bden l t1 t4)) hml
  obtain ⟨E2, hE2⟩ : ∃ E, E = endL t1 t4 (mostC l t1 t4) (leastN (dot (bwts l t1 t4) (mostC l t1 t4)) (bden l t1 t4)) (leastD (dot (bwts l t1 t4) (mostC l t1 t4)) (bden l t1 t4)) := ⟨_, rfl⟩
  rw [← hE2] at he2 ⊢
  have HE2 := Lib.hid hE2
  clear hE2 hml hmc
  have hB8' : Below Y.heap.size Y w8 := below_then hBY hB8
  have U1 := Aside0.mk (below_blk hB8' S1.out (blk_lt S1.out))
  have UB := Aside0.mk (below_then SB.out hB8')
  have hz1 : (ints E1).size = 20 := by rw [ints_size, he1]
  have hz2 : (ints E2).size = 20 := by rw [ints_size, he2]
  have hst : (storeCells ⟨w.heap.size + 1, 0, none⟩ (ints (E1 ++ E2)).toList 0).run Try.prog w8 = .ok () (putSeg w8 (w.heap.size + 1) 0 (ints (E1 ++ E2)).toList) :=
   run_storeCells (P := Try.prog) (ints (E1 ++ E2)).toList w8 (w.heap.size + 1) 0 0 _ _ U1.out (by rw [Array.length_toList, ints_size, List.length_append, he1, he2, hz]; omega) (Ones_ints _)
  ((try simp only [Act.put, List.getElem_toArray, List.getElem_cons_succ, List.getElem_cons_zero, List.setIfInBounds_toArray, List.set_cons_succ, List.set_cons_zero]); refine plH _ _ hB8' (fun plS => ?_); clear plH plK; refine pureY (i := 11) (N := (some 71)) ?_; refine lastY (i := 12) (fun plK plH => ?_); rw [if_pos (by rfl)]; (first | gi_big_move | go_big_op | go_simp))
  clear hst hz1 hz2
  ((try simp only [Act.put, List.getElem_toArray, List.getElem_cons_succ, List.getElem_cons_zero, List.setIfInBounds_toArray, List.set_cons_succ, List.set_cons_zero]); refine plH _ _ ?_; clear plH plK; refine pureY (i := 13) (N := (some 7)) ?_; refine done_ (by kernel_rfl) ?_)
  clear plS
  go_wp2_with fail
  have hl40 : (ints (E1 ++ E2)).size = 40 := by rw [ints_size, List.length_append, he1, he2]
  have hfin := putSeg_block U1.out (l := (ints (E1 ++ E2)).toList) (by rw [Array.length_toList, hl40, hz])
  refine bodyPost_ret (results_arr2 rfl rfl isAggEE sizeOfEE (SegOk.mk' hfin 0 40 (by rw [List.size_toArray, Array.length_toList, hl40]; omega))) rfl ⟨?_, ?_⟩
  ·rw [seg_whole (n := 40) hfin (by rw [List.size_toArray, Array.length_toList, hl40])]
   have hE : endsE l p water level = 0 := by rw [HEE.out, if_neg (by omega)]
   have hL : endsL l p water level = E1 ++ E2 := by
    unfold endsL
    rw [if_pos hE, HE1.out, HE2.out]
    unfold endLow endHigh
    rw [hlow, HHI.out]
    rfl
   rw [hE, hL]; rfl
  exact putSeg_below _ _ _ _ _ _ (by omega) UB.out
 go_wp2_with fail
 obtain ⟨Y, hY⟩ : ∃ Y, X = Y := ⟨_, rfl⟩
 have S4 : Aside0 (Y.heap[b + 2]? = some (.cells (ints (endL m m Z 0 0)) 112 (0, 0))) := ⟨by rw [← hY]; exact R4.out⟩
 have YO : ∀ k, k ≠ b + 2 → ∀ {o : Obj}, X.heap[k]? = some o → Y.heap[k]? = some o := fun k hk o ho => by rw [← hY]; exact ho
 have SB : Aside0 (Below w.heap.size w Y) := ⟨by rw [← hY]; exact RB.out⟩
 have YSZ : Y.heap.size = b + 3 := by rw [← hY]; exact hXs
 have hlow : lowDips l p water level = (m, m) := by rw [HLO.out, if_neg (by omega)]
 rw [hY]
 clear hY z0 z1 f0 f1 x0 x1 y0 y1
 have S2 : Aside0 (Y.heap[b]? = some (.cells #[.int .i64 t1, .int .i64 t2] 43 (0, 0))) := Aside0.mk (YO b (by omega) R2.out)
 have S3 : Aside0 (Y.heap[b + 1]? = some (.cells #[.int .i64 t3, .int .i64 t4] 43 (0, 0))) := Aside0.mk (YO (b + 1) (by omega) R3.out)
 have S1 : Aside0 (Y.heap[w.heap.size + 1]? = some (.cells (ints (List.replicate 40 0)) 113 (0, 0))) := Aside0.mk (YO _ (by omega) R1.out)
 have SG : Aside0 (Gauge Y g A l.length c p (LowAt l l.length) (HighAt l l.length)) := Aside0.mk ⟨RG.out.l, RG.out.h, YO g (by omega) RG.out.b⟩
 have s1 := SegOk.mk' S4.out 0 20 (by simp [ints, endL, hZ16])
 have s2 := seg_whole (n := 20) S4.out (by simp [ints, endL, hZ16])
 have x0 : Y.cell? ⟨b, 0, none⟩ = some (.int .i64 t1) := blk_cell S2.out 0
 have y1 : Y.cell? ⟨b + 1, 1, none⟩ = some (.int .i64 t4) := blk_cell S3.out 1
 have hYs : Y.heap.size = b + 3 := YSZ
 clear R1 R2 R3 R4 RG RB YO hb3
 (refine start_ (n := 14) (S := fun w' => Below (World.heap _).size _ w') (ds := [12]) (List.toArray (false :: false :: false :: false :: false :: false :: false :: false :: false :: false :: false :: false :: false :: false :: [])) (by kernel_rfl) rfl rfl (belowDrew _) (fun plS => ?_); refine pureY (i := 0) (N := (some 60)) ?_; refine pureY (i := 3) (N := (some 63)) ?_; refine pureY (i := 4) (N := (some 64)) ?_; refine pureY (i := 6) (N := (some 66)) ?_; refine takeF (i := 1) (N := (some 61)) (hS := plS) (hy := by (intro w' hw'; replace hw' : Below (World.heap Y).size Y w' := hw'; have q0 := seg_below hw' s1 s2; have r0 := segOk_below hw' s1; have q1 := pw_cell_below hw' x0; have q2 := pw_cell_below hw' y1; exact yieldA)) (h := ?_); refine takeF (i := 5) (N := (some 65)) (hS := plS) (hy := by (intro w' hw'; replace hw' : Below (World.heap Y).size Y w' := hw'; have q0 := seg_below hw' s1 s2; have r0 := segOk_below hw' s1; have q1 := pw_cell_below hw' x0; have q2 := pw_cell_below hw' y1; exact yieldA)) (h := ?_); refine takeF (i := 7) (N := (some 67)) (hS := plS) (hy := by (intro w' hw'; replace hw' : Below (World.heap Y).size Y w' := hw'; have q0 := seg_below hw' s1 s2; have r0 := segOk_below hw' s1; have q1 := pw_cell_below hw' x0; have q2 := pw_cell_below hw' y1; exact yieldA)) (h := ?_); refine pureY (i := 8) (N := (some 68)) ?_; refine pureY (i := 9) (N := (some 69)) ?_; refine oneY (i := 2) (fun plK plH => ?_); rw [if_pos (by rfl)]; (first | gi_big_move | go_big_op | go_simp))
 have YB : Below w.heap.size w Y.drew := SB.out.drew
 refine (fewest_calls' g A c l p m m Y.drew (Kd.C_below HR.out YB) HT.out (by omega) (by omega) (by omega) (by omega) SG.out.drew Z hZ16).mono ?_
 rintro e w7 ⟨rfl, hB7⟩
 have hBY : Below Y.heap.size Y w7 := ((Below.refl _ Y).drew).trans hB7
 have T1 := Aside0.mk (below_blk hBY S1.out (blk_lt S1.out))
 have TG := Aside0.mk (SG.out.below hBY)
 have TB := Aside0.mk (below_then SB.out hBY)
 have hfl16 := fewR_length HD.out.n16 HD.out.n2 m m
 have he1 := endL_length m m (fewR l m m).2 (leastN (fewR l m m).1 (bden l m m)) (leastD (fewR l m m).1 (bden l m m)) hfl16
 obtain ⟨E1, hE1⟩ : ∃ E, E = endL m m (fewR l m m).2 (leastN (fewR l m m).1 (bden l m m)) (leastD (fewR l m m).1 (bden l m m)) := ⟨_, rfl⟩
 rw [← hE1] at he1 ⊢
 have HE1 := Lib.hid hE1
 clear hE1 hfl16 hB7
 ((try simp only [Act.put, List.getElem_toArray, List.getElem_cons_succ, List.getElem_cons_zero, List.setIfInBounds_toArray, List.set_cons_succ, List.set_cons_zero]); refine plH _ _ hBY (fun plS => ?_); clear plH plK; refine oneY (i := 10) (fun plK plH => ?_); rw [if_pos (by rfl)]; (first | gi_big_move | go_big_op | go_simp))
 refine (most_calls g A c l p _ _ t1 t4 w7 (Kd.C_below HR.out TB.out) HD.out (by omega) (by omega) (by omega) (by omega) (fun x hx => by have := HT.out.lowAt_in x hx; omega) (fun x hx => by have := HT.out.highAt_in x hx; omega) (HT.out.bden_ne t1 t4) TG.out _ rfl 0 0).mono ?_
 rintro e w8 ⟨rfl, hB8⟩
 have hml := mostL_length (LowAt l l.length) (HighAt l l.length) (bwts l t1 t4) TG.out.l TG.out.h (bwts_length l t1 t4)
 have hmc := mostC_eq HD.out.n16 t1 t4
 rw [← hmc] at hml ⊢
 have he2 := endL_length t1 t4 (mostC l t1 t4) (leastN (dot (bwts l t1 t4) (mostC l t1 t4)) (bden l t1 t4)) (leastD (dot (bwts l t1 t4) (mostC l t1 t4)) (bden l t1 t4)) hml
 obtain ⟨E2, hE2⟩ : ∃ E, E = endL t1 t4 (mostC l t1 t4) (leastN (dot (bwts l t1 t4) (mostC l t1 t4)) (bden l t1 t4)) (leastD (dot (bwts l t1 t4) (mostC l t1 t4)) (bden l t1 t4)) := ⟨_, rfl⟩
 rw [← hE2] at he2 ⊢
 have HE2 := Lib.hid hE2
 clear hE2 hml hmc
 have hB8' : Below Y.heap.size Y w8 := below_then hBY hB8
 have U1 := Aside0.mk (below_blk hB8' S1.out (blk_lt S1.out))
 have UB := Aside0.mk (below_then SB.out hB8')
 have hz1 : (ints E1).size = 20 := by rw [ints_size, he1]
 have hz2 : (ints E2).size = 20 := by rw [ints_size, he2]
 have hst : (storeCells ⟨w.heap.size + 1, 0, none⟩ (ints (E1 ++ E2)).toList 0).run Try.prog w8 = .ok () (putSeg w8 (w.heap.size + 1) 0 (ints (E1 ++ E2)).toList) :=
  run_storeCells (P := Try.prog) (ints (E1 ++ E2)).toList w8 (w.heap.size + 1) 0 0 _ _ U1.out (by rw [Array.length_toList, ints_size, List.length_append, he1, he2, hz]; omega) (Ones_ints _)
 ((try simp only [Act.put, List.getElem_toArray, List.getElem_cons_succ, List.getElem_cons_zero, List.setIfInBounds_toArray, List.set_cons_succ, List.set_cons_zero]); refine plH _ _ hB8' (fun plS => ?_); clear plH plK; refine pureY (i := 11) (N := (some 71)) ?_; refine lastY (i := 12) (fun plK plH => ?_); rw [if_pos (by rfl)]; (first | gi_big_move | go_big_op | go_simp))
 clear hst hz1 hz2
 ((try simp only [Act.put, List.getElem_toArray, List.getElem_cons_succ, List.getElem_cons_zero, List.setIfInBounds_toArray, List.set_cons_succ, List.set_cons_zero]); refine plH _ _ ?_; clear plH plK; refine pureY (i := 13) (N := (some 7)) ?_; refine done_ (by kernel_rfl) ?_)
 clear plS
 go_wp2_with fail
 have hl40 : (ints (E1 ++ E2)).size = 40 := by rw [ints_size, List.length_append, he1, he2]
 have hfin := putSeg_block U1.out (l := (ints (E1 ++ E2)).toList) (by rw [Array.length_toList, hl40, hz])
 refine bodyPost_ret (results_arr2 rfl rfl isAggEE sizeOfEE (SegOk.mk' hfin 0 40 (by rw [List.size_toArray, Array.length_toList, hl40]; omega))) rfl ⟨?_, ?_⟩
 ·rw [seg_whole (n := 40) hfin (by rw [List.size_toArray, Array.length_toList, hl40])]
  have hE : endsE l p water level = 0 := by rw [HEE.out, if_neg (by omega)]
  have hL : endsL l p water level = E1 ++ E2 := by
   unfold endsL
   rw [if_pos hE, HE1.out, HE2.out]
   unfold endLow endHigh
   rw [hlow, HHI.out]
   rfl
  rw [hE, hL]; rfl
 exact putSeg_below _ _ _ _ _ _ (by omega) UB.out
end Go.Proofs.Ytpkajhmchcbbhaa.P
end
section
namespace Go.Proofs.Ytpkajhmchcbbhaa.P
open Go.RowKit Go.Proofs.YtpkajhmchcbbhaaW.PrintWords Go.Proofs.YtpkajhmchcbbhaaW.PrintLast Go.Proofs.YtpkajhmchcbbhaaW.PrintMore
attribute [local go_sem ↓] exec_load112 exec_store112 sem_load112 sem_store112 exec_load113 exec_store113 sem_load113 sem_store113 exec_none113 sem_none113
attribute [local go_sem] load112_at store112_at load113_at store113_at SegOk_alloc seg_alloc SegOk_drew seg_drew SegOk_drewN seg_drewN ints_size Ones_ints store112_new store112_newD store113_new
theorem endsL_cells {l : List SRow} {p water level : Int} (h : endsE l p water level = 0) (h16 : l.length ≤ 16) (h2 : 2 ≤ l.length) :
  (ints (endsL l p water level))[18]? = some (.int .i64 (leastN (fewR l (lowDips l p water level).1 (lowDips l p water level).2).1 (bden l (lowDips l p water level).1 (lowDips l p water level).2))) ∧
  (ints (endsL l p water level))[19]? = some (.int .i64 (leastD (fewR l (lowDips l p water level).1 (lowDips l p water level).2).1 (bden l (lowDips l p water level).1 (lowDips l p water level).2))) ∧
  (ints (endsL l p water level))[38]? = some (.int .i64 (leastN (mostR l (highDips l p water level).1 (highDips l p water level).2).1 (bden l (highDips l p water level).1 (highDips l p water level).2))) ∧
  (ints (endsL l p water level))[39]? = some (.int .i64 (leastD (mostR l (highDips l p water level).1 (highDips l p water level).2).1 (bden l (highDips l p water level).1 (highDips l p water level).2))) := by
 have hl : (fewR l (lowDips l p water level).1 (lowDips l p water level).2).2.length = 16 := fewR_length h16 h2 _ _
 have hm : (mostR l (highDips l p water level).1 (highDips l p water level).2).2.length = 16 := by
  unfold mostR; rw [mostC_eq h16]; exact mostL_length _ _ _ (by simp [LowAt, padRow]) (by simp [HighAt, padRow]) (bwts_length l _ _)
 have e1 : (endLow l p water level).length = 20 := endL_length _ _ _ _ _ hl
 have key : ∀ (d0 d1 : Int) (c : List Int) (n m d0' d1' : Int) (c' : List Int) (n' m' : Int), c.length = 16 → c'.length = 16 →
   (ints (endL d0 d1 c n m ++ endL d0' d1' c' n' m'))[18]? = some (.int .i64 n) ∧ (ints (endL d0 d1 c n m ++ endL d0' d1' c' n' m'))[19]? = some (.int .i64 m) ∧ (ints (endL d0 d1 c n m ++ endL d0' d1' c' n' m'))[38]? = some (.int .i64 n') ∧ (ints (endL d0 d1 c n m ++ endL d0' d1' c' n' m'))[39]? = some (.int .i64 m') := by
  intro d0 d1 c n m d0' d1' c' n' m' hc hc'
  simp [ints, endL, List.getElem?_append, hc, hc']
 unfold endsL
 rw [if_pos h]
 exact key _ _ _ _ _ _ _ _ _ _ hl hm
theorem endsL_length {l : List SRow} {p water level : Int} (h : endsE l p water level = 0 → l.length ≤ 16 ∧ 2 ≤ l.length) : (endsL l p water level).length = 40 := by
 unfold endsL
 split
 ·rename_i h0
  obtain ⟨h16, h2⟩ := h h0
  have hl : (fewR l (lowDips l p water level).1 (lowDips l p water level).2).2.length = 16 := fewR_length h16 h2 _ _
  have hm : (mostR l (highDips l p water level).1 (highDips l p water level).2).2.length = 16 := by
   unfold mostR; rw [mostC_eq h16]; exact mostL_length _ _ _ (by simp [LowAt, padRow]) (by simp [HighAt, padRow]) (bwts_length l _ _)
  rw [List.length_append]
  have a := endL_length (lowDips l p water level).1 (lowDips l p water level).2 _ (leastN (fewR l (lowDips l p water level).1 (lowDips l p water level).2).1 (bden l (lowDips l p water level).1 (lowDips l p water level).2)) (leastD (fewR l (lowDips l p water level).1 (lowDips l p water level).2).1 (bden l (lowDips l p water level).1 (lowDips l p water level).2)) hl
  have b := endL_length (highDips l p water level).1 (highDips l p water level).2 _ (leastN (mostR l (highDips l p water level).1 (highDips l p water level).2).1 (bden l (highDips l p water level).1 (highDips l p water level).2)) (leastD (mostR l (highDips l p water level).1 (highDips l p water level).2).1 (bden l (highDips l p water level).1 (highDips l p water level).2)) hm
  show (endLow l p water level).length + (endHigh l p water level).length = 40
  unfold endLow endHigh
  omega
 simp
theorem endsE_tank {l : List SRow} {p water level : Int} (h : endsE l p water level = 0) : checkTank l p = 0 := by
 unfold endsE at h
 split at h
 ·rename_i h1; exact absurd h h1
 rename_i h1; exact (openE_in (by simpa using h1)).1
set_option maxRecDepth 100000 in
set_option maxHeartbeats 40000000 in
theorem chart_Net.calls (A0_0 : Option Addr) (c0_0 : Nat) (l0_0 : List SRow) (a0_1 : Int) (a1 : Int) (a2 : Int) (r1 : Int) (r2 : Int) (r3 : Int) (r4 : Int) (r5 : Int) (w : World) (hr0_0 : Kd.C kRow w A0_0 l0_0.length l0_0) (hc0_0 : l0_0.length ≤ c0_0) (h : chart_Net.f l0_0 a0_1 a1 a2 = some (r1, r2, r3, r4, r5)) :
  Calls Try.prog 30 #[.agg #[.slice A0_0 l0_0.length c0_0, .int .i64 a0_1], .int .i64 a1, .int .i64 a2] w fun e w' => e = .returned (.tuple #[.agg #[.int .i64 r1, .int .i64 r2, .int .i64 r3, .int .i64 r4], .int .i64 r5]) ∧ Below w.heap.size w w' := by
 have HR := Aside0.mk hr0_0
 have HC := Aside0.mk hc0_0
 have HE := Aside0.mk (Option.some.inj h)
 clear hr0_0 hc0_0 h
 have hu1 := Try.underlying24
 have hu2 := Try.underlying39
 have hu3 := Try.underlying48
 have hu7 := Try.underlying112
 have hu9 := Try.underlying113
 go_enter Try.func30, Try.ntmps30
 go_wp2_with fail
 obtain ⟨V0, hV0⟩ : ∃ V, (w.alloc (.cells #[.slice A0_0 l0_0.length c0_0, .int .i64 a0_1] 24)).alloc (.cells #[.int .i64 0, .int .i64 0, .int .i64 0, .int .i64 0] 48) = V := ⟨_, rfl⟩
 have hs0 : V0.heap.size = w.heap.size + 2 := by rw [← hV0]; simp
 have K1 : Aside0 (V0.heap[w.heap.size + 1]? = some (.cells #[.int .i64 0, .int .i64 0, .int .i64 0, .int .i64 0] 48 (0, 0))) := ⟨by rw [← hV0]; exact blk_new' (by simp)⟩
 have KB : Aside0 (Below w.heap.size w V0) := ⟨by rw [← hV0]; exact ((Below.refl _ _).alloc (Nat.le_refl _) _).alloc (by simp) _⟩
 rw [hV0]
 clear hV0
 refine (ends_calls A0_0 c0_0 l0_0 a0_1 a1 a2 V0 (Kd.C_below HR.out KB.out) HC.out).mono ?_
 rintro e w3 ⟨rfl, hB3⟩
 have M1 := Aside0.mk (below_blk hB3 K1.out (blk_lt K1.out))
 have MB := Aside0.mk (below_then KB.out hB3)
 have hs3 : w.heap.size + 2 ≤ w3.heap.size := by have := hB3.size; omega
 clear hB3 K1 KB hs0 V0
 have hLl := endsL_length (l := l0_0) (p := a0_1) (water := a1) (level := a2) (fun h => by
  have := checkTank_len (endsE_tank h); exact ⟨this.2, this.1⟩)
 have hLs : (ints (endsL l0_0 a0_1 a1 a2)).size = 40 := by rw [ints_size, hLl]
 have HCE : Aside0 (endsE l0_0 a0_1 a1 a2 = 0 → _) := ⟨fun h => by
  have h2 := checkTank_len (endsE_tank h)
  exact endsL_cells h h2.2 h2.1⟩
 obtain ⟨L, hL⟩ : ∃ L, L = endsL l0_0 a0_1 a1 a2 := ⟨_, rfl⟩
 obtain ⟨E, hE⟩ : ∃ E, E = endsE l0_0 a0_1 a1 a2 := ⟨_, rfl⟩
 rw [← hL] at hLl hLs HCE ⊢
 rw [← hE] at HCE ⊢
 have HL := Lib.hid hL
 have HEE := Lib.hid hE
 clear hL hE
 have hm1 := blk_lt M1.out
 have g0 : w3.cell? ⟨w.heap.size + 1, 0, none⟩ = some (.int .i64 0) := blk_cell M1.out 0
 have g1 : w3.cell? ⟨w.heap.size + 1, 1, none⟩ = some (.int .i64 0) := blk_cell M1.out 1
 have g2 : w3.cell? ⟨w.heap.size + 1, 2, none⟩ = some (.int .i64 0) := blk_cell M1.out 2
 have g3 : w3.cell? ⟨w.heap.size + 1, 3, none⟩ = some (.int .i64 0) := blk_cell M1.out 3
 have f0 := blk_frozen M1.out 0
 have f1 := blk_frozen M1.out 1
 have f2 := blk_frozen M1.out 2
 have f3 := blk_frozen M1.out 3
 have HCF := HCE.out
 rcases Decidable.em (E = 0) with h0 | h0
 ·obtain ⟨c18, c19, c38, c39⟩ := HCF h0
  have HN := Aside0.mk HE.out
  obtain ⟨n1, hn1⟩ : ∃ n, n = leastN (fewR l0_0 (lowDips l0_0 a0_1 a1 a2).1 (lowDips l0_0 a0_1 a1 a2).2).1 (bden l0_0 (lowDips l0_0 a0_1 a1 a2).1 (lowDips l0_0 a0_1 a1 a2).2) := ⟨_, rfl⟩
  obtain ⟨n2, hn2⟩ : ∃ n, n = leastD (fewR l0_0 (lowDips l0_0 a0_1 a1 a2).1 (lowDips l0_0 a0_1 a1 a2).2).1 (bden l0_0 (lowDips l0_0 a0_1 a1 a2).1 (lowDips l0_0 a0_1 a1 a2).2) := ⟨_, rfl⟩
  obtain ⟨n3, hn3⟩ : ∃ n, n = leastN (mostR l0_0 (highDips l0_0 a0_1 a1 a2).1 (highDips l0_0 a0_1 a1 a2).2).1 (bden l0_0 (highDips l0_0 a0_1 a1 a2).1 (highDips l0_0 a0_1 a1 a2).2) := ⟨_, rfl⟩
  obtain ⟨n4, hn4⟩ : ∃ n, n = leastD (mostR l0_0 (highDips l0_0 a0_1 a1 a2).1 (highDips l0_0 a0_1 a1 a2).2).1 (bden l0_0 (highDips l0_0 a0_1 a1 a2).1 (highDips l0_0 a0_1 a1 a2).2) := ⟨_, rfl⟩
  have he : (n1, n2, n3, n4, (0 : Int)) = (r1, r2, r3, r4, r5) := by
   rw [hn1, hn2, hn3, hn4, ← HN.out, if_neg (by rw [← HEE.out]; simpa using h0)]
  simp only [Prod.mk.injEq] at he
  obtain ⟨rfl, rfl, rfl, rfl, rfl⟩ := he
  rw [← hn1] at c18
  rw [← hn2] at c19
  rw [← hn3] at c38
  rw [← hn4] at c39
  subst h0
  obtain ⟨_, e18⟩ := Array.getElem?_eq_some_iff.1 c18
  obtain ⟨_, e19⟩ := Array.getElem?_eq_some_iff.1 c19
  obtain ⟨_, e38⟩ := Array.getElem?_eq_some_iff.1 c38
  obtain ⟨_, e39⟩ := Array.getElem?_eq_some_iff.1 c39
  clear hn1 hn2 hn3 hn4 HN HE HCF HCE HL HEE
  go_wp2_with fail
  have hf := blk_old (o := .cells (ints L) 113) (blk_put (blk_put (blk_put (blk_put M1.out 0 (.int .i64 n1) rfl) 1 (.int .i64 n2) rfl) 2 (.int .i64 n3) rfl) 3 (.int .i64 n4) rfl)
  refine bodyPost_ret (results_arr2 rfl rfl isAggS sizeOfS (SegOk.mk' hf 0 4 (by simp))) rfl ⟨?_, ?_⟩
  ·rw [seg_whole (n := 4) hf rfl]; rfl
  exact Below.alloc ((((MB.out.setCell (p := ⟨w.heap.size + 1, 0, none⟩) (Nat.le_succ _) _).setCell (p := ⟨w.heap.size + 1, 1, none⟩) (Nat.le_succ _) _).setCell (p := ⟨w.heap.size + 1, 2, none⟩) (Nat.le_succ _) _).setCell (p := ⟨w.heap.size + 1, 3, none⟩) (Nat.le_succ _) _) (by simp; omega) _
 obtain ⟨rfl, rfl, rfl, rfl, rfl⟩ : r1 = 0 ∧ r2 = 0 ∧ r3 = 0 ∧ r4 = 0 ∧ r5 = E := by
  have h1 := HE.out
  rw [← HEE.out, if_pos h0] at h1
  simp only [Prod.mk.injEq] at h1
  obtain ⟨a, b, c, d, e⟩ := h1
  exact ⟨a.symm, b.symm, c.symm, d.symm, e.symm⟩
 clear HE HCF HCE HL HEE
 go_wp2_with fail
 have hf := blk_old (o := .cells (ints L) 113) (blk_put (blk_put (blk_put (blk_put M1.out 0 (.int .i64 0) rfl) 1 (.int .i64 0) rfl) 2 (.int .i64 0) rfl) 3 (.int .i64 0) rfl)
 refine bodyPost_ret (results_arr2 rfl rfl isAggS sizeOfS (SegOk.mk' hf 0 4 (by simp))) rfl ⟨?_, ?_⟩
 ·rw [seg_whole (n := 4) hf rfl]; rfl
 exact Below.alloc ((((MB.out.setCell (p := ⟨w.heap.size + 1, 0, none⟩) (Nat.le_succ _) _).setCell (p := ⟨w.heap.size + 1, 1, none⟩) (Nat.le_succ _) _).setCell (p := ⟨w.heap.size + 1, 2, none⟩) (Nat.le_succ _) _).setCell (p := ⟨w.heap.size + 1, 3, none⟩) (Nat.le_succ _) _) (by simp; omega) _
end Go.Proofs.Ytpkajhmchcbbhaa.P
end
