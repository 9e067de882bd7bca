/- Part 12 of 44. -/
import Derived.Test.YtpkajhmchcbbhaaL0
import Derived.Test.YtpkajhmchcbbhaaL5
import Derived.Test.YtpkajhmchcbbhaaL11
set_option linter.unusedSimpArgs false
set_option linter.unusedVariables false
section
namespace Go.Proofs.Ytpkajhmchcbbhaa.P
open Go.RowKit Go.Proofs.YtpkajhmchcbbhaaW.PrintWords Go.Proofs.YtpkajhmchcbbhaaW.PrintLast Go.Proofs.YtpkajhmchcbbhaaW.PrintMore
attribute [local go_sem] max2_int min2_int max_two min_two max_three min_three max_four min_four
def forecourtlaw01_Tank.f  : Option ((List (S70)) × Int) := (forecourtlaw01_Row.f 0 0 0).bind fun bt746 => ((forecourtlaw01_Row.f 100 380 420).bind fun bt749 => ((forecourtlaw01_Row.f 200 400 900).bind fun bt752 => ((forecourtlaw01_Row.f 400 1900 2100).bind fun bt755 => (some ((([(⟨bt746.1, (⟨bt746.2.1, bt746.2.2⟩ : S43)⟩ : S70), (⟨bt749.1, (⟨bt749.2.1, bt749.2.2⟩ : S43)⟩ : S70), (⟨bt752.1, (⟨bt752.2.1, bt752.2.2⟩ : S43)⟩ : S70), (⟨bt755.1, (⟨bt755.2.1, bt755.2.2⟩ : S43)⟩ : S70)] : List (S70))), 0)))))
set_option maxHeartbeats 8000000 in
set_option maxRecDepth 100000 in
theorem forecourtlaw01_Tank.calls  (r1 : List (S70)) (r2 : Int) (w : World) (h : forecourtlaw01_Tank.f  = some (r1, r2)) :
  Calls Try.prog 51 #[] w fun e w' => ∃ v0_ : Value, e = .returned (.agg #[v0_, .int .i64 r2]) ∧ Kd.R k70 70 w' w.heap.size (fun _ => True) v0_ r1 ∧ Below w.heap.size w w' := by
 have hu24 := Try.underlying24
 have HB := Aside0.mk (Below.refl w.heap.size w)
 have H : ((forecourtlaw01_Row.f 0 0 0).bind fun bt746 => ((forecourtlaw01_Row.f 100 380 420).bind fun bt749 => ((forecourtlaw01_Row.f 200 400 900).bind fun bt752 => ((forecourtlaw01_Row.f 400 1900 2100).bind fun bt755 => (some ((([(⟨bt746.1, (⟨bt746.2.1, bt746.2.2⟩ : S43)⟩ : S70), (⟨bt749.1, (⟨bt749.2.1, bt749.2.2⟩ : S43)⟩ : S70), (⟨bt752.1, (⟨bt752.2.1, bt752.2.2⟩ : S43)⟩ : S70), (⟨bt755.1, (⟨bt755.2.1, bt755.2.2⟩ : S43)⟩ : S70)] : List (S70))), 0)))))) = some (r1, r2) := h
 clear h
 replace H := Option.bind_eq_some_iff.mp H
 obtain ⟨⟨t746, t747, t748⟩, A10, H⟩ := H
 replace H : ((forecourtlaw01_Row.f 100 380 420).bind fun bt749 => ((forecourtlaw01_Row.f 200 400 900).bind fun bt752 => ((forecourtlaw01_Row.f 400 1900 2100).bind fun bt755 => (some ((([(⟨t746, (⟨t747, t748⟩ : S43)⟩ : S70), (⟨bt749.1, (⟨bt749.2.1, bt749.2.2⟩ : S43)⟩ : S70), (⟨bt752.1, (⟨bt752.2.1, bt752.2.2⟩ : S43)⟩ : S70), (⟨bt755.1, (⟨bt755.2.1, bt755.2.2⟩ : S43)⟩ : S70)] : List (S70))), 0))))) = some (r1, r2) := H
 have A1 := Aside0.mk A10
 clear A10
 replace H := Option.bind_eq_some_iff.mp H
 obtain ⟨⟨t749, t750, t751⟩, A20, H⟩ := H
 replace H : ((forecourtlaw01_Row.f 200 400 900).bind fun bt752 => ((forecourtlaw01_Row.f 400 1900 2100).bind fun bt755 => (some ((([(⟨t746, (⟨t747, t748⟩ : S43)⟩ : S70), (⟨t749, (⟨t750, t751⟩ : S43)⟩ : S70), (⟨bt752.1, (⟨bt752.2.1, bt752.2.2⟩ : S43)⟩ : S70), (⟨bt755.1, (⟨bt755.2.1, bt755.2.2⟩ : S43)⟩ : S70)] : List (S70))), 0)))) = some (r1, r2) := H
 have A2 := Aside0.mk A20
 clear A20
 replace H := Option.bind_eq_some_iff.mp H
 obtain ⟨⟨t752, t753, t754⟩, A30, H⟩ := H
 replace H : ((forecourtlaw01_Row.f 400 1900 2100).bind fun bt755 => (some ((([(⟨t746, (⟨t747, t748⟩ : S43)⟩ : S70), (⟨t749, (⟨t750, t751⟩ : S43)⟩ : S70), (⟨t752, (⟨t753, t754⟩ : S43)⟩ : S70), (⟨bt755.1, (⟨bt755.2.1, bt755.2.2⟩ : S43)⟩ : S70)] : List (S70))), 0))) = some (r1, r2) := H
 have A3 := Aside0.mk A30
 clear A30
 replace H := Option.bind_eq_some_iff.mp H
 obtain ⟨⟨t755, t756, t757⟩, A40, H⟩ := H
 replace H : (some ((([(⟨t746, (⟨t747, t748⟩ : S43)⟩ : S70), (⟨t749, (⟨t750, t751⟩ : S43)⟩ : S70), (⟨t752, (⟨t753, t754⟩ : S43)⟩ : S70), (⟨t755, (⟨t756, t757⟩ : S43)⟩ : S70)] : List (S70))), 0)) = some (r1, r2) := H
 have A4 := Aside0.mk A40
 clear A40
 obtain ⟨y758, hy758⟩ : ∃ y_ : List (S70), y_ = (([(⟨t746, (⟨t747, t748⟩ : S43)⟩ : S70), (⟨t749, (⟨t750, t751⟩ : S43)⟩ : S70), (⟨t752, (⟨t753, t754⟩ : S43)⟩ : S70), (⟨t755, (⟨t756, t757⟩ : S43)⟩ : S70)] : List (S70))) := ⟨_, rfl⟩
 replace H : (some (y758, 0)) = some (r1, r2) := by first | (rw [hy758]; with_reducible exact H) | (have H2_ := (Option.bind_some _ _).symm.trans H; rw [hy758]; with_reducible exact H2_) | (have H2_ := (Option.bind_some _ _).symm.trans H; with_reducible exact H2_) | with_reducible exact H | (rw [hy758]; exact H) | exact H
 have Ny758 := Aside0.mk hy758
 clear hy758
 simp only [Option.some.injEq, Prod.mk.injEq] at H
 obtain ⟨rfl, rfl⟩ := H
 go_enter Try.func51, Try.ntmps51
 go_wp2_with (first | ((with_reducible refine gate_dst (N := 0) rfl ?_); refine box_event ?hg (N := 0) ?hd (cs := #[.slice none 0 0, .int .i64 0]) (t := 24) ?hr ?_; (case hd => rfl); (case hg => rfl); (case hr => first | (go_simp; done) | (go_simp; rfl)); intro gb745 hg w5 hbox hb; have n0_ := Aside0.mk (below_step ql3 hb); have n1_ := Aside0.mk (hbox); have n2_ := Aside0.mk ((by rw [hg]; exact (below_size ql3) : w.heap.size ≤ gb745)); have n3_ := Aside0.mk ((by rw [hg]; exact (below_size ql3) : w.heap.size ≤ gb745)); clear HB; have HB := n0_; have BK745 := n1_; have GW745 := n2_; have GE745 := n3_; clear n0_ n1_ n2_ n3_; clear hb hbox hg) | ((with_reducible refine gate_callee (f := 46) rfl ?_); refine goesL_ (some 1) rfl rfl Try.func46 (by kernel_rfl) rfl #[.int .i64 0, .int .i64 0, .int .i64 0] rfl ql2 ?_; (with_reducible refine (forecourtlaw01_Row.calls 0 0 0 t746 t747 t748 _ A1.out).mono ?_); rintro e w6 ⟨rfl, hb⟩; refine ⟨_, rfl, ?_⟩; have n0_ := Aside0.mk (blk_below (g := gb745) (o := .cells #[.slice none 0 0, .int .i64 0] 24 (0, 0)) (by exact BK745.out) hb); have n1_ := Aside0.mk (below_step ql3 hb); clear BK745; clear HB; have BK745 := n0_; have HB := n1_; clear n0_ n1_; (try clear hb); (try clear hb2); (try clear hk); (try clear hi)) | ((with_reducible refine gate_callee (f := 46) rfl ?_); refine goesL_ (some 2) rfl rfl Try.func46 (by kernel_rfl) rfl #[.int .i64 100, .int .i64 380, .int .i64 420] rfl ql2 ?_; (with_reducible refine (forecourtlaw01_Row.calls 100 380 420 t749 t750 t751 _ A2.out).mono ?_); rintro e w7 ⟨rfl, hb⟩; refine ⟨_, rfl, ?_⟩; have n0_ := Aside0.mk (blk_below (g := gb745) (o := .cells #[.slice none 0 0, .int .i64 0] 24 (0, 0)) (by exact BK745.out) hb); have n1_ := Aside0.mk (below_step ql3 hb); clear BK745; clear HB; have BK745 := n0_; have HB := n1_; clear n0_ n1_; (try clear hb); (try clear hb2); (try clear hk); (try clear hi)) | ((with_reducible refine gate_callee (f := 46) rfl ?_); refine goesL_ (some 3) rfl rfl Try.func46 (by kernel_rfl) rfl #[.int .i64 200, .int .i64 400, .int .i64 900] rfl ql2 ?_; (with_reducible refine (forecourtlaw01_Row.calls 200 400 900 t752 t753 t754 _ A3.out).mono ?_); rintro e w8 ⟨rfl, hb⟩; refine ⟨_, rfl, ?_⟩; have n0_ := Aside0.mk (blk_below (g := gb745) (o := .cells #[.slice none 0 0, .int .i64 0] 24 (0, 0)) (by exact BK745.out) hb); have n1_ := Aside0.mk (below_step ql3 hb); clear BK745; clear HB; have BK745 := n0_; have HB := n1_; clear n0_ n1_; (try clear hb); (try clear hb2); (try clear hk); (try clear hi)) | ((with_reducible refine gate_callee (f := 46) rfl ?_); refine goesL_ (some 4) rfl rfl Try.func46 (by kernel_rfl) rfl #[.int .i64 400, .int .i64 1900, .int .i64 2100] rfl ql2 ?_; (with_reducible refine (forecourtlaw01_Row.calls 400 1900 2100 t755 t756 t757 _ A4.out).mono ?_); rintro e w9 ⟨rfl, hb⟩; refine ⟨_, rfl, ?_⟩; have n0_ := Aside0.mk (blk_below (g := gb745) (o := .cells #[.slice none 0 0, .int .i64 0] 24 (0, 0)) (by exact BK745.out) hb); have n1_ := Aside0.mk (below_step ql3 hb); clear BK745; clear HB; have BK745 := n0_; have HB := n1_; clear n0_ n1_; (try clear hb); (try clear hb2); (try clear hk); (try clear hi)) | ((with_reducible refine gate_dst (N := 5) rfl ?_); refine Kd.R_lit k70 _ 70 ?hg (N := 5) ?hd (xs := ([(⟨t746, (⟨t747, t748⟩ : S43)⟩ : S70), (⟨t749, (⟨t750, t751⟩ : S43)⟩ : S70), (⟨t752, (⟨t753, t754⟩ : S43)⟩ : S70), (⟨t755, (⟨t756, t757⟩ : S43)⟩ : S70)] : List (S70))) (inner := [.int .i64 t746, .int .i64 t747, .int .i64 t748, .int .i64 t749, .int .i64 t750, .int .i64 t751, .int .i64 t752, .int .i64 t753, .int .i64 t754, .int .i64 t755, .int .i64 t756, .int .i64 t757]) (ok := fun _ => True) (okp := fun _ => True) ?hr ?hp (fun _ hk => hk) trivial (Below.refl _ _) (Nat.le_refl _) (by simp) ?_; (case hd => rfl); (case hg => rfl); (case hr => first | (go_simp; done) | (go_simp; rfl)); (case hp => exact (Reps.c3 (show Kd.M k70 _ _ _ (⟨t746, (⟨t747, t748⟩ : S43)⟩ : S70) [.int .i64 t746, .int .i64 t747, .int .i64 t748] from (k70_mkM _ _ _ (⟨t746, (⟨t747, t748⟩ : S43)⟩ : S70) )) (Reps.c3 (show Kd.M k70 _ _ _ (⟨t749, (⟨t750, t751⟩ : S43)⟩ : S70) [.int .i64 t749, .int .i64 t750, .int .i64 t751] from (k70_mkM _ _ _ (⟨t749, (⟨t750, t751⟩ : S43)⟩ : S70) )) (Reps.c3 (show Kd.M k70 _ _ _ (⟨t752, (⟨t753, t754⟩ : S43)⟩ : S70) [.int .i64 t752, .int .i64 t753, .int .i64 t754] from (k70_mkM _ _ _ (⟨t752, (⟨t753, t754⟩ : S43)⟩ : S70) )) (Reps.c3 (show Kd.M k70 _ _ _ (⟨t755, (⟨t756, t757⟩ : S43)⟩ : S70) [.int .i64 t755, .int .i64 t756, .int .i64 t757] from (k70_mkM _ _ _ (⟨t755, (⟨t756, t757⟩ : S43)⟩ : S70) )) (Reps.none _ _)))))); intro v759 w10 ho11 hb hg_ hnew_; clear hg_ hnew_; (first | rw [← Ny758.out] at ho11 | (simp only [Int.reduceToNat] at ho11; rw [← Ny758.out] at ho11)); have n0_ := Aside0.mk (Kd.R_lower ho11 (below_size ql3)); have n1_ := Aside0.mk (blk_below (g := gb745) (o := .cells #[.slice none 0 0, .int .i64 0] 24 (0, 0)) (by exact BK745.out) hb); have n2_ := Aside0.mk (below_step ql3 hb); clear BK745; clear HB; have HO760 := n0_; have BK745 := n1_; have HB := n2_; clear n0_ n1_ n2_; clear hb ho11; obtain ⟨Ao12, co12, eo12⟩ := Kd.R_slice HO760.out; subst eo12; have hcz13_0 : w10.cell? ⟨gb745, 0, none⟩ = some (.slice none 0 0) := (blk_cell BK745.out 0).trans rfl; have hcz13_1 : w10.cell? ⟨gb745, 1, none⟩ = some (.int .i64 0) := (blk_cell BK745.out 1).trans rfl; have hfz13_0 := blk_frozen BK745.out 0; have hfz13_1 := blk_frozen BK745.out 1))
 refine bodyPost_ret (results_cell_row rfl _ _ gb745 24 #[.slice Ao12 y758.length co12, .int .i64 0] (0, 0) _ rfl (by (skip); refine blk_put (cs := #[.slice Ao12 y758.length co12, .int .i64 0]) ?_ 1 _ rfl; (skip); refine blk_put (cs := #[.slice none 0 0, .int .i64 0]) ?_ 0 _ rfl; (skip); exact BK745.out) Try.underlying24 rfl (by kernel_rfl)) rfl ?_
 exact ⟨_, by first | rfl | (simp [errW_none, errW_some] <;> rfl) | (simp [*, errW_none, errW_some] <;> rfl), by (skip); exact Kd.R_mono (Kd.R_far (p := ⟨gb745, 1, none⟩) (Kd.R_far (p := ⟨gb745, 0, none⟩) (Kd.R_types HO760.out BK745.out (by decide)) (fun _ hk => hk.2) (.slice Ao12 y758.length co12)) (fun _ hk => hk.2) (.int .i64 0)) (fun _ hk => trivial), by (with_reducible refine below_set ?_ GE745.out; with_reducible refine below_set ?_ GE745.out; with_reducible exact HB.out)⟩
end Go.Proofs.Ytpkajhmchcbbhaa.P
end
section
namespace Go.Proofs.Ytpkajhmchcbbhaa.P
open Go.RowKit Go.Proofs.YtpkajhmchcbbhaaW.PrintWords Go.Proofs.YtpkajhmchcbbhaaW.PrintLast Go.Proofs.YtpkajhmchcbbhaaW.PrintMore
attribute [local go_sem] max2_int min2_int max_two min_two max_three min_three max_four min_four
def forecourtlaw01_dented.f  : Option ((List (S70)) × Int) := (forecourtlaw01_Tank.f).bind fun bt208 => ((forecourtlaw01_Row.f 100 950 1000).bind fun bt213 => (if 1 < (bt208.1.length : Int) then (some ((bt208.1.set (1 : Int).toNat (⟨bt213.1, (⟨bt213.2.1, bt213.2.2⟩ : S43)⟩ : S70)), bt208.2)) else (none)))
set_option maxHeartbeats 8000000 in
set_option maxRecDepth 100000 in
theorem forecourtlaw01_dented.calls  (r1 : List (S70)) (r2 : Int) (w : World) (h : forecourtlaw01_dented.f  = some (r1, r2)) :
  Calls Try.prog 53 #[] w fun e w' => ∃ v0_ : Value, e = .returned (.agg #[v0_, .int .i64 r2]) ∧ Kd.R k70 70 w' w.heap.size (fun _ => True) v0_ r1 ∧ Below w.heap.size w w' := by
 have hu24 := Try.underlying24
 have hu70 := Try.underlying70
 have HB := Aside0.mk (Below.refl w.heap.size w)
 have H : ((forecourtlaw01_Tank.f).bind fun bt208 => ((forecourtlaw01_Row.f 100 950 1000).bind fun bt213 => (if 1 < (bt208.1.length : Int) then (some ((bt208.1.set (1 : Int).toNat (⟨bt213.1, (⟨bt213.2.1, bt213.2.2⟩ : S43)⟩ : S70)), bt208.2)) else (none)))) = some (r1, r2) := h
 clear h
 replace H := Option.bind_eq_some_iff.mp H
 obtain ⟨⟨t208, t211⟩, A10, H⟩ := H
 replace H : ((forecourtlaw01_Row.f 100 950 1000).bind fun bt213 => (if 1 < (t208.length : Int) then (some ((t208.set (1 : Int).toNat (⟨bt213.1, (⟨bt213.2.1, bt213.2.2⟩ : S43)⟩ : S70)), t211)) else (none))) = some (r1, r2) := H
 have A1 := Aside0.mk A10
 clear A10
 replace H := Option.bind_eq_some_iff.mp H
 obtain ⟨⟨t213, t214, t215⟩, A20, H⟩ := H
 replace H : (if 1 < (t208.length : Int) then (some ((t208.set (1 : Int).toNat (⟨t213, (⟨t214, t215⟩ : S43)⟩ : S70)), t211)) else (none)) = some (r1, r2) := H
 have A2 := Aside0.mk A20
 clear A20
 by_cases c3 : 1 < (t208.length : Int)
 ·rw [if_pos c3] at H
  have c3b0 : decide (1 < (t208.length : Int)) = true := decide_eq_true c3
  have c3b1 : decide (1 < t208.length) = true := decide_eq_true (by omega)
  clear c3
  obtain ⟨y216, hy216⟩ : ∃ y_ : List (S70), y_ = (t208.set (1 : Int).toNat (⟨t213, (⟨t214, t215⟩ : S43)⟩ : S70)) := ⟨_, rfl⟩
  replace H : (some (y216, t211)) = some (r1, r2) := by first | (rw [hy216]; with_reducible exact H) | (have H2_ := (Option.bind_some _ _).symm.trans H; rw [hy216]; with_reducible exact H2_) | (have H2_ := (Option.bind_some _ _).symm.trans H; with_reducible exact H2_) | with_reducible exact H | (rw [hy216]; exact H) | exact H
  have Ny216 := Aside0.mk hy216
  clear hy216
  simp only [Option.some.injEq, Prod.mk.injEq] at H
  obtain ⟨rfl, rfl⟩ := H
  go_enter Try.func53, Try.ntmps53
  try go_wp2_with (first | ((with_reducible refine gate_dst (N := 0) rfl ?_); refine box_event ?hg (N := 0) ?hd (cs := #[.slice none 0 0, .int .i64 0]) (t := 24) ?hr ?_; (case hd => rfl); (case hg => rfl); (case hr => first | (go_simp; done) | (go_simp; rfl)); intro gb207 hg w5 hbox hb; have n0_ := Aside0.mk (below_step ql0 hb); have n1_ := Aside0.mk (hbox); have n2_ := Aside0.mk ((by rw [hg]; exact (below_size ql0) : w.heap.size ≤ gb207)); have n3_ := Aside0.mk ((by rw [hg]; exact (below_size ql0) : w.heap.size ≤ gb207)); clear HB; have HB := n0_; have BK207 := n1_; have GW207 := n2_; have GE207 := n3_; clear n0_ n1_ n2_ n3_; clear hb hbox hg) | ((with_reducible refine gate_callee (f := 51) rfl ?_); refine goesL_ (some 2) rfl rfl Try.func51 (by kernel_rfl) rfl #[] rfl ql2 ?_; (with_reducible refine (forecourtlaw01_Tank.calls  t208 t211 _ A1.out).mono ?_); rintro e w6 ⟨v209, rfl, ho0, hb⟩; refine ⟨_, rfl, ?_⟩; have n0_ := Aside0.mk (Kd.R_lower ho0 (below_size ql7)); have n1_ := Aside0.mk (blk_below (g := gb207) (o := .cells #[.slice none 0 0, .int .i64 0] 24 (0, 0)) ql17 hb); have n2_ := Aside0.mk (below_step ql7 hb); clear BK207; clear HB; have HO210 := n0_; have BK207 := n1_; have HB := n2_; clear n0_ n1_ n2_; (try clear hb); (try clear hb2); (try clear hk); (try clear hi); (try clear ho0)) | ((with_reducible refine gate_dst (N := 1) rfl ?_); refine box_event ?hg (N := 1) ?hd (cs := #[.slice none 0 0, .int .i64 0]) (t := 24) ?hr ?_; (case hd => rfl); (case hg => rfl); (case hr => first | (go_simp; done) | (go_simp; rfl)); intro gb212 hg w7 hbox hb; have n0_ := Aside0.mk (Kd.R_below (by (with_reducible repeat (first | apply Kd.R_alloc | apply Kd.R_drewN | apply Kd.R_drew)); exact HO210.out) hb); have n1_ := Aside0.mk (blk_below (g := gb207) (o := .cells #[.slice none 0 0, .int .i64 0] 24 (0, 0)) ql17 hb); have n2_ := Aside0.mk (below_step ql7 hb); have n3_ := Aside0.mk (hbox); have n4_ := Aside0.mk ((by rw [hg]; exact (below_size ql7) : w.heap.size ≤ gb212)); have n5_ := Aside0.mk ((by rw [hg]; exact (below_size ql7) : w.heap.size ≤ gb212)); have n6_ := Aside0.mk ((by rw [hg]; exact Nat.ne_of_lt (blk_lt (g := gb207) (o := .cells #[.slice none 0 0, .int .i64 0] 24 (0, 0)) ql17) : gb207 ≠ gb212)); have n7_ := Aside0.mk ((by rw [hg]; exact Nat.ne_of_gt (blk_lt (g := gb207) (o := .cells #[.slice none 0 0, .int .i64 0] 24 (0, 0)) ql17) : gb212 ≠ gb207)); clear HO210; clear BK207; clear HB; have HO210 := n0_; have BK207 := n1_; have HB := n2_; have BK212 := n3_; have GW212 := n4_; have GE212 := n5_; have NB207_212 := n6_; have NB212_207 := n7_; clear n0_ n1_ n2_ n3_ n4_ n5_ n6_ n7_; clear hb hbox hg; obtain ⟨Ao8, co8, eo8⟩ := Kd.R_slice HO210.out; subst eo8; have hnb9 := NB212_207.out; have hnc9 := NB207_212.out; have hcz10_0 : w7.cell? ⟨gb212, 0, none⟩ = some (.slice none 0 0) := (blk_cell BK212.out 0).trans rfl; have hcz10_1 : w7.cell? ⟨gb212, 1, none⟩ = some (.int .i64 0) := (blk_cell BK212.out 1).trans rfl; have hfz10_0 := blk_frozen BK212.out 0; have hfz10_1 := blk_frozen BK212.out 1))
  have n0_ : Aside0 (Kd.R k70 70 ((w7.setCell ⟨gb212, 0, none⟩ (.slice Ao8 t208.length co8)).setCell ⟨gb212, 1, none⟩ (.int .i64 t211)) w.heap.size (fun _ => True) (.slice Ao8 t208.length co8) t208) := ⟨by (with_reducible repeat (first | apply Kd.R_alloc | apply Kd.R_drewN | apply Kd.R_drew)); exact Kd.R_mono (Kd.R_far (p := ⟨gb212, 1, none⟩) (Kd.R_far (p := ⟨gb212, 0, none⟩) (Kd.R_types HO210.out BK212.out (by decide)) (fun _ hk => hk.2) (.slice Ao8 t208.length co8)) (fun _ hk => hk.2) (.int .i64 t211)) (fun _ hk => trivial)⟩
  have n1_ : Aside0 (((w7.setCell ⟨gb212, 0, none⟩ (.slice Ao8 t208.length co8)).setCell ⟨gb212, 1, none⟩ (.int .i64 t211)).heap[gb207]? = some (.cells #[.slice none 0 0, .int .i64 0] 24 (0, 0))) := ⟨by (with_reducible repeat (first | refine blk_drewN ?_ _ | refine blk_drew ?_ | refine blk_alloc ?_ _)); refine blk_far ?_ NB207_212.out _; (with_reducible repeat (first | refine blk_drewN ?_ _ | refine blk_drew ?_ | refine blk_alloc ?_ _)); refine blk_far ?_ NB207_212.out _; (with_reducible repeat (first | refine blk_drewN ?_ _ | refine blk_drew ?_ | refine blk_alloc ?_ _)); exact BK207.out⟩
  have n2_ : Aside0 (((w7.setCell ⟨gb212, 0, none⟩ (.slice Ao8 t208.length co8)).setCell ⟨gb212, 1, none⟩ (.int .i64 t211)).heap[gb212]? = some (.cells #[.slice Ao8 t208.length co8, .int .i64 t211] 24 (0, 0))) := ⟨by (with_reducible repeat (first | refine blk_drewN ?_ _ | refine blk_drew ?_ | refine blk_alloc ?_ _)); refine blk_put (cs := #[.slice Ao8 t208.length co8, .int .i64 0]) ?_ 1 _ rfl; (with_reducible repeat (first | refine blk_drewN ?_ _ | refine blk_drew ?_ | refine blk_alloc ?_ _)); refine blk_put (cs := #[.slice none 0 0, .int .i64 0]) ?_ 0 _ rfl; (with_reducible repeat (first | refine blk_drewN ?_ _ | refine blk_drew ?_ | refine blk_alloc ?_ _)); exact BK212.out⟩
  have n3_ : Aside0 (Below w.heap.size w ((w7.setCell ⟨gb212, 0, none⟩ (.slice Ao8 t208.length co8)).setCell ⟨gb212, 1, none⟩ (.int .i64 t211))) := ⟨by repeat (first | (with_reducible first | exact HB.out | apply below_alloc | apply pw_below_drewN | apply below_drew1 | refine below_set ?_ GE207.out | refine below_set ?_ GE212.out) | exact HB.out)⟩
  (try clear HO210)
  (try clear BK207)
  (try clear BK212)
  (try clear HB)
  generalize ((w7.setCell ⟨gb212, 0, none⟩ (.slice Ao8 t208.length co8)).setCell ⟨gb212, 1, none⟩ (.int .i64 t211)) = w11 at n0_ n1_ n2_ n3_ ⊢
  have HO210 := n0_
  have BK207 := n1_
  have BK212 := n2_
  have HB := n3_
  clear n0_ n1_ n2_ n3_
  have n0_ := Aside0.mk (Kd.R_drew HO210.out)
  have n1_ := Aside0.mk (blk_drew BK207.out)
  have n2_ := Aside0.mk (blk_drew BK212.out)
  have n3_ := Aside0.mk (below_drew1 HB.out)
  clear HO210 BK207 BK212 HB
  have HO210 := n0_
  have BK207 := n1_
  have BK212 := n2_
  have HB := n3_
  clear n0_ n1_ n2_ n3_
  refine start_ (n := 5) (S := fun w' => w'.cell? ⟨gb212, 0, none⟩ = some (.slice Ao8 t208.length co8) ∧ w'.cell? ⟨gb212, 1, none⟩ = some (.int .i64 t211)) (ds := [4]) #[false, false, false, false, false] (by kernel_rfl) rfl rfl ⟨(blk_cell BK212.out 0).trans rfl, (blk_cell BK212.out 1).trans rfl⟩ (fun hHeld => ?_)
  generalize w11.drew = w12 at HO210 BK207 BK212 HB hHeld ⊢
  refine pure_ (i := 0) (N := some 3) (v := ?_) (a' := ?_) #[true, false, false, false, false] rfl rfl (by kernel_rfl) (fun _ _ _ h => h) (Or.inl ⟨by rfl, ?_⟩) ?_ ?_
  rotate_left
  ·intro w'
   go_simp
   with_reducible rfl
  rotate_left
  ·simp only [Act.put, List.setIfInBounds_toArray, List.set_cons_zero, List.set_cons_succ, i64_w, i32_w]
   rfl
  refine take_ (i := 1) (N := some 4) (v := ?_) (a' := ?_) #[true, true, false, false, false] rfl rfl (by kernel_rfl) (fun _ _ _ h => h) (Or.inl ⟨by rfl, ?_⟩) hHeld ?_ ?_
  rotate_left
  ·rintro w' ⟨s0, s1⟩
   go_simp
   with_reducible rfl
  rotate_left
  ·simp only [Act.put, List.setIfInBounds_toArray, List.set_cons_zero, List.set_cons_succ, i64_w, i32_w]
   rfl
  refine one_ (i := 2) (N := some 5) #[true, true, true, false, false] rfl rfl (by kernel_rfl) (by decide) (fun K hK => ?_)
  refine goes_ Try.func46 (by kernel_rfl) rfl #[.int .i64 100, .int .i64 950, .int .i64 1000] (by rfl) rfl rfl ql2 ?_
  with_reducible refine (forecourtlaw01_Row.calls 100 950 1000 t213 t214 t215 _ A2.out).mono ?_
  rintro e w13 ⟨rfl, hb⟩
  refine ⟨_, rfl, ?_⟩
  have n0_ := Aside0.mk (Kd.R_below (by (with_reducible repeat (first | apply Kd.R_alloc | apply Kd.R_drewN | apply Kd.R_drew)); exact HO210.out) hb)
  have n1_ := Aside0.mk (blk_below (g := gb207) (o := .cells #[.slice none 0 0, .int .i64 0] 24 (0, 0)) ql17 hb)
  have n2_ := Aside0.mk (blk_below (g := gb212) (o := .cells #[.slice Ao8 t208.length co8, .int .i64 t211] 24 (0, 0)) (by (with_reducible repeat (first | refine blk_drewN ?_ _ | refine blk_drew ?_ | refine blk_alloc ?_ _)); exact BK212.out) hb)
  have n3_ := Aside0.mk (below_step (by repeat (first | (with_reducible first | exact HB.out | apply below_alloc | apply pw_below_drewN | apply below_drew1 | refine below_set ?_ GE207.out | refine below_set ?_ GE212.out) | exact HB.out)) hb)
  clear HO210 BK207 BK212 HB
  have HO210 := n0_
  have BK207 := n1_
  have BK212 := n2_
  have HB := n3_
  clear n0_ n1_ n2_ n3_
  (try clear hb)
  (try clear hb2)
  (try clear hk)
  (try clear hi)
  have p4 : 0 ≤ (1 : Int) := (by omega)
  have q4 : (1 : Int) < ((t208.length : Int) : Int) := of_decide_eq_true ql1
  have qi4 : (1 < t208.length) = True := eq_true (by omega)
  obtain ⟨go4, co4, eo4, gb4, gl4, cl4, HG4⟩ := Kd.R_form HO210.out (by omega)
  (first | cases eo4 | (injection eo4 with ea_ en_ ec_; (first | subst ea_ | (injection ea_ with ea_; subst ea_)); subst ec_; clear en_))
  have GB4 := Aside0.mk gb4
  have GG4 := Aside0.mk HG4
  clear gb4 gl4 HG4
  obtain ⟨ce4, hcl4, hM4, hcc4, hfr4⟩ := Kd.R_elem HO210.out z70 (1 : Int) p4 q4
  obtain rfl := k70_openM hM4
  have hx4_0 : World.cell? _ ⟨go4, (1 : Int).toNat * 3, none⟩ = some (.int .i64 ((rd_T70 t208 1).f0)) := hcc4 0 _ rfl
  have hx4_1 : World.cell? _ ⟨go4, (1 : Int).toNat * 3 + 1, none⟩ = some (.int .i64 ((rd_T70 t208 1).f1.f0)) := hcc4 1 _ rfl
  have hx4_2 : World.cell? _ ⟨go4, (1 : Int).toNat * 3 + 2, none⟩ = some (.int .i64 ((rd_T70 t208 1).f1.f1)) := hcc4 2 _ rfl
  have hf4_0 : World.frozen? _ ⟨go4, (1 : Int).toNat * 3, none⟩ = false := hfr4 0
  have hf4_1 : World.frozen? _ ⟨go4, (1 : Int).toNat * 3 + 1, none⟩ = false := hfr4 1
  have hf4_2 : World.frozen? _ ⟨go4, (1 : Int).toNat * 3 + 2, none⟩ = false := hfr4 2
  clear hcl4 hcc4 hfr4 hM4
  (try rw [show ((1 : Int)).toNat = 1 from rfl] at hx4_0)
  (try simp only [Nat.reduceMul, Nat.zero_mul, Nat.zero_add, Nat.reduceAdd] at hx4_0)
  (try rw [show ((1 : Int)).toNat = 1 from rfl] at hf4_0)
  (try simp only [Nat.reduceMul, Nat.zero_mul, Nat.zero_add, Nat.reduceAdd] at hf4_0)
  (try rw [show ((1 : Int)).toNat = 1 from rfl] at hx4_1)
  (try simp only [Nat.reduceMul, Nat.zero_mul, Nat.zero_add, Nat.reduceAdd] at hx4_1)
  (try rw [show ((1 : Int)).toNat = 1 from rfl] at hf4_1)
  (try simp only [Nat.reduceMul, Nat.zero_mul, Nat.zero_add, Nat.reduceAdd] at hf4_1)
  (try rw [show ((1 : Int)).toNat = 1 from rfl] at hx4_2)
  (try simp only [Nat.reduceMul, Nat.zero_mul, Nat.zero_add, Nat.reduceAdd] at hx4_2)
  (try rw [show ((1 : Int)).toNat = 1 from rfl] at hf4_2)
  (try simp only [Nat.reduceMul, Nat.zero_mul, Nat.zero_add, Nat.reduceAdd] at hf4_2)
  replace p4 := eq_true p4
  replace q4 := eq_true q4
  obtain ⟨ce14, hcl14, hM14, hcc14, hfr14⟩ := Kd.R_elem HO210.out z70 (1 : Int) (by omega) (by have h_ : (1 : Int) < ((t208.length : Int) : Int) := of_decide_eq_true ql1; first | exact h_ | (have e_ := (Kd.R_reads' HO210.out).1; omega) | simpa using h_)
  obtain rfl := k70_openM hM14
  have HP14 := (Kd.R_seg HO210.out (1 : Int) (by omega) (by have h_ : (1 : Int) < ((t208.length : Int) : Int) := of_decide_eq_true ql1; first | exact h_ | (have e_ := (Kd.R_reads' HO210.out).1; omega) | simpa using h_) (seg := [.int .i64 t213, .int .i64 t214, .int .i64 t215]) (j := 0) hcl14 hcc14 (show 3 ≤ 3 from by decide) (x' := (⟨t213, (⟨t214, t215⟩ : S43)⟩ : S70)) (k70_mkM _ _ _ (⟨t213, (⟨t214, t215⟩ : S43)⟩ : S70) ) (fun _ hk => hk)).1
  rw [← Ny216.out] at HP14
  have HQ14 := Aside0.mk HP14
  clear hcl14 hcc14 hfr14 hM14 HP14
  refine hK.out _ _ ⟨(blk_cell BK212.out 0).trans rfl, (blk_cell BK212.out 1).trans rfl⟩ (fun hHeld => ?_)
  clear hK K
  refine norm_ (a' := ?_) ?_ ?_
  rotate_left
  ·show Act.put _ (some 5) _ = _
   simp only [Act.put, List.setIfInBounds_toArray, List.set_cons_zero, List.set_cons_succ, i64_w, i32_w]
   rfl
  refine pure_ (i := 3) (N := some 6) (v := ?_) (a' := ?_) #[true, true, true, true, false] rfl rfl (by kernel_rfl) (fun _ _ _ h => h) (Or.inl ⟨by rfl, ?_⟩) ?_ ?_
  rotate_left
  ·intro w'
   go_simp
   with_reducible rfl
  rotate_left
  ·simp only [Act.put, List.setIfInBounds_toArray, List.set_cons_zero, List.set_cons_succ, i64_w, i32_w]
   rfl
  refine last_ (i := 4) (N := none) #[true, true, true, true, true] rfl rfl (by kernel_rfl) (by decide) (fun K hK => ?_)
  refine skip_ (w1 := ?_) (by rfl) rfl ?_ ?_
  rotate_left
  ·go_simp
   rfl
  refine hK.out _ _ ?_
  clear hK K
  refine done_ (by kernel_rfl) ?_
  have n0_ : Aside0 (Kd.R k70 70 (((w13.setCell ⟨go4, 3, none⟩ (.int .i64 t213)).setCell ⟨go4, 4, none⟩ (.int .i64 t214)).setCell ⟨go4, 5, none⟩ (.int .i64 t215)) w.heap.size (fun _ => True) (.slice (some ⟨go4, 0, none⟩) t208.length co8) y216) := ⟨by (with_reducible repeat (first | apply Kd.R_alloc | apply Kd.R_drewN | apply Kd.R_drew)); exact HQ14.out⟩
  have n1_ : Aside0 ((((w13.setCell ⟨go4, 3, none⟩ (.int .i64 t213)).setCell ⟨go4, 4, none⟩ (.int .i64 t214)).setCell ⟨go4, 5, none⟩ (.int .i64 t215)).heap[gb207]? = some (.cells #[.slice none 0 0, .int .i64 0] 24 (0, 0))) := ⟨by (with_reducible repeat (first | refine blk_drewN ?_ _ | refine blk_drew ?_ | refine blk_alloc ?_ _)); refine blk_far ?_ ql26 _; (with_reducible repeat (first | refine blk_drewN ?_ _ | refine blk_drew ?_ | refine blk_alloc ?_ _)); refine blk_far ?_ ql26 _; (with_reducible repeat (first | refine blk_drewN ?_ _ | refine blk_drew ?_ | refine blk_alloc ?_ _)); refine blk_far ?_ ql26 _; (with_reducible repeat (first | refine blk_drewN ?_ _ | refine blk_drew ?_ | refine blk_alloc ?_ _)); exact BK207.out⟩
  have n2_ : Aside0 ((((w13.setCell ⟨go4, 3, none⟩ (.int .i64 t213)).setCell ⟨go4, 4, none⟩ (.int .i64 t214)).setCell ⟨go4, 5, none⟩ (.int .i64 t215)).heap[gb212]? = some (.cells #[.slice (some ⟨go4, 0, none⟩) t208.length co8, .int .i64 t211] 24 (0, 0))) := ⟨by (with_reducible repeat (first | refine blk_drewN ?_ _ | refine blk_drew ?_ | refine blk_alloc ?_ _)); refine blk_far ?_ ql25 _; (with_reducible repeat (first | refine blk_drewN ?_ _ | refine blk_drew ?_ | refine blk_alloc ?_ _)); refine blk_far ?_ ql25 _; (with_reducible repeat (first | refine blk_drewN ?_ _ | refine blk_drew ?_ | refine blk_alloc ?_ _)); refine blk_far ?_ ql25 _; (with_reducible repeat (first | refine blk_drewN ?_ _ | refine blk_drew ?_ | refine blk_alloc ?_ _)); exact BK212.out⟩
  have n3_ : Aside0 (Below w.heap.size w (((w13.setCell ⟨go4, 3, none⟩ (.int .i64 t213)).setCell ⟨go4, 4, none⟩ (.int .i64 t214)).setCell ⟨go4, 5, none⟩ (.int .i64 t215))) := ⟨by repeat (first | (with_reducible first | exact HB.out | apply below_alloc | apply pw_below_drewN | apply below_drew1 | refine below_set ?_ GB4.out | refine below_set ?_ GB4.out | refine below_set ?_ GB4.out | refine below_set ?_ GE207.out | refine below_set ?_ GE212.out) | exact HB.out)⟩
  (try clear HO210)
  (try clear BK207)
  (try clear BK212)
  (try clear HB)
  generalize (((w13.setCell ⟨go4, 3, none⟩ (.int .i64 t213)).setCell ⟨go4, 4, none⟩ (.int .i64 t214)).setCell ⟨go4, 5, none⟩ (.int .i64 t215)) = w15 at n0_ n1_ n2_ n3_ ⊢
  have HO210 := n0_
  have BK207 := n1_
  have BK212 := n2_
  have HB := n3_
  clear n0_ n1_ n2_ n3_
  have hcz16_0 : w15.cell? ⟨gb212, 0, none⟩ = some (.slice (some ⟨go4, 0, none⟩) t208.length co8) := (blk_cell BK212.out 0).trans rfl
  have hcz16_1 : w15.cell? ⟨gb212, 1, none⟩ = some (.int .i64 t211) := (blk_cell BK212.out 1).trans rfl
  have hfz16_0 := blk_frozen BK212.out 0
  have hfz16_1 := blk_frozen BK212.out 1
  have hcz17_0 : w15.cell? ⟨gb207, 0, none⟩ = some (.slice none 0 0) := (blk_cell BK207.out 0).trans rfl
  have hcz17_1 : w15.cell? ⟨gb207, 1, none⟩ = some (.int .i64 0) := (blk_cell BK207.out 1).trans rfl
  have hfz17_0 := blk_frozen BK207.out 0
  have hfz17_1 := blk_frozen BK207.out 1
  try go_wp2
  refine bodyPost_ret (results_cell_row rfl _ _ gb207 24 #[.slice (some ⟨go4, 0, none⟩) t208.length co8, .int .i64 t211] (0, 0) _ rfl (by (with_reducible repeat (first | refine blk_drewN ?_ _ | refine blk_drew ?_ | refine blk_alloc ?_ _)); refine blk_put (cs := #[.slice (some ⟨go4, 0, none⟩) t208.length co8, .int .i64 0]) ?_ 1 _ rfl; (with_reducible repeat (first | refine blk_drewN ?_ _ | refine blk_drew ?_ | refine blk_alloc ?_ _)); refine blk_put (cs := #[.slice none 0 0, .int .i64 0]) ?_ 0 _ rfl; (with_reducible repeat (first | refine blk_drewN ?_ _ | refine blk_drew ?_ | refine blk_alloc ?_ _)); exact BK207.out) Try.underlying24 rfl (by kernel_rfl)) rfl ?_
  exact ⟨_, by first | rfl | (simp [errW_none, errW_some] <;> rfl) | (simp [*, errW_none, errW_some] <;> rfl), by (with_reducible repeat (first | apply Kd.R_alloc | apply Kd.R_drewN | apply Kd.R_drew)); exact Kd.R_mono (Kd.R_far (p := ⟨gb207, 1, none⟩) (Kd.R_far (p := ⟨gb207, 0, none⟩) (Kd.R_types HO210.out BK207.out (by decide)) (fun _ hk => hk.2) (.slice (some ⟨go4, 0, none⟩) t208.length co8)) (fun _ hk => hk.2) (.int .i64 t211)) (fun _ hk => trivial), by repeat (first | (with_reducible first | exact HB.out | apply below_alloc | apply pw_below_drewN | apply below_drew1 | refine below_set ?_ GE207.out | refine below_set ?_ GE212.out) | exact HB.out)⟩
 rw [if_neg c3] at H
 exact absurd H (by simp)
end Go.Proofs.Ytpkajhmchcbbhaa.P
end
section
namespace Go.Proofs.Ytpkajhmchcbbhaa.P
open Go.RowKit Go.Proofs.YtpkajhmchcbbhaaW.PrintWords Go.Proofs.YtpkajhmchcbbhaaW.PrintLast Go.Proofs.YtpkajhmchcbbhaaW.PrintMore
attribute [local go_sem] max2_int min2_int max_two min_two max_three min_three max_four min_four
def forecourtlaw01_of.f (a0 : Int) (a1 : Int) : Option (Int × Int) := some (a0, a1)
set_option maxHeartbeats 8000000 in
set_option maxRecDepth 100000 in
theorem forecourtlaw01_of.calls (a0 : Int) (a1 : Int) (r1 : Int) (r2 : Int) (w : World) (h : forecourtlaw01_of.f a0 a1 = some (r1, r2)) :
  Calls Try.prog 49 #[.int .i64 a0, .int .i64 a1] w fun e w' => e = .returned (.agg #[.int .i64 r1, .int .i64 r2]) ∧ Below w.heap.size w w' := by
 have hu39 := Try.underlying39
 have HB := Aside0.mk (Below.refl w.heap.size w)
 have H : (some (a0, a1)) = some (r1, r2) := h
 clear h
 simp only [Option.some.injEq, Prod.mk.injEq] at H
 obtain ⟨rfl, rfl⟩ := H
 go_enter Try.func49, Try.ntmps49
 go_wp2_with (first | ((with_reducible refine gate_dst (N := 4) rfl ?_); refine box_event ?hg (N := 4) ?hd (cs := #[.int .i64 0, .int .i64 0]) (t := 39) ?hr ?_; (case hd => rfl); (case hg => rfl); (case hr => first | (go_simp; done) | (go_simp; rfl)); intro gb642 hg w3 hbox hb; have n0_ := Aside0.mk (below_step ql0 hb); have n1_ := Aside0.mk (hbox); have n2_ := Aside0.mk ((by rw [hg]; exact (below_size ql0) : w.heap.size ≤ gb642)); have n3_ := Aside0.mk ((by rw [hg]; exact (below_size ql0) : w.heap.size ≤ gb642)); clear HB; have HB := n0_; have BK642 := n1_; have GW642 := n2_; have GE642 := n3_; clear n0_ n1_ n2_ n3_; clear hb hbox hg; have hcz4_0 : w3.cell? ⟨gb642, 0, none⟩ = some (.int .i64 0) := (blk_cell BK642.out 0).trans rfl; have hcz4_1 : w3.cell? ⟨gb642, 1, none⟩ = some (.int .i64 0) := (blk_cell BK642.out 1).trans rfl; have hfz4_0 := blk_frozen BK642.out 0; have hfz4_1 := blk_frozen BK642.out 1))
 refine bodyPost_ret (results_cell_row rfl _ _ gb642 39 #[.int .i64 a0, .int .i64 a1] (0, 0) _ rfl (by (with_reducible repeat (first | refine blk_drewN ?_ _ | refine blk_drew ?_ | refine blk_alloc ?_ _)); refine blk_put (cs := #[.int .i64 a0, .int .i64 0]) ?_ 1 _ rfl; (with_reducible repeat (first | refine blk_drewN ?_ _ | refine blk_drew ?_ | refine blk_alloc ?_ _)); refine blk_put (cs := #[.int .i64 0, .int .i64 0]) ?_ 0 _ rfl; (with_reducible repeat (first | refine blk_drewN ?_ _ | refine blk_drew ?_ | refine blk_alloc ?_ _)); exact BK642.out) Try.underlying39 rfl (by kernel_rfl)) rfl ?_
 exact ⟨by first | rfl | (simp [errW_none, errW_some] <;> rfl) | (simp [*, errW_none, errW_some] <;> rfl), by repeat (first | (with_reducible first | exact HB.out | apply below_alloc | apply pw_below_drewN | apply below_drew1 | refine below_set ?_ GE642.out) | exact HB.out)⟩
end Go.Proofs.Ytpkajhmchcbbhaa.P
end
section
namespace Go.Proofs.Ytpkajhmchcbbhaa.P
open Go.RowKit Go.Proofs.YtpkajhmchcbbhaaW.PrintWords Go.Proofs.YtpkajhmchcbbhaaW.PrintLast Go.Proofs.YtpkajhmchcbbhaaW.PrintMore
attribute [local go_sem] max2_int min2_int max_two min_two max_three min_three max_four min_four
theorem eqA48 (d : Nat) (w : World) (x0 y0 : Int) (x1 y1 : Int) (x2 y2 : Int) (x3 y3 : Int) :
  (Op.equalIn (d + 3) 48 (.agg #[.int .i64 x0, .int .i64 x1, .int .i64 x2, .int .i64 x3]) (.agg #[.int .i64 y0, .int .i64 y1, .int .i64 y2, .int .i64 y3])).run Try.prog w = .ok ((x0 == y0 && (x1 == y1)) && ((x2 == y2 && (x3 == y3)))) w := by
 refine eqA_of Try.underlying48 (by kernel_rfl) ?_
 refine eqf_cons (by rfl) (by go_simp) (by go_simp) (eqA39 (d + 0) w _ _ _ _) ?_
 exact eqf_last (by rfl) (by go_simp) (by go_simp) (eqA39 (d + 0) w _ _ _ _)
end Go.Proofs.Ytpkajhmchcbbhaa.P
end
