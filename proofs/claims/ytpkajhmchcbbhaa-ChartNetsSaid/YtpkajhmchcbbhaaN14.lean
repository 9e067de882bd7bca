/- Part 14 of 50. -/
import Derived.Test.YtpkajhmchcbbhaaN0
import Derived.Test.YtpkajhmchcbbhaaN5
import Derived.Test.YtpkajhmchcbbhaaN6
import Derived.Test.YtpkajhmchcbbhaaN7
import Derived.Test.YtpkajhmchcbbhaaN8
import Derived.Test.YtpkajhmchcbbhaaN11
import Derived.Test.YtpkajhmchcbbhaaN13
set_option linter.unusedSimpArgs false
set_option linter.unusedVariables false
section
namespace Go.Proofs.Ytpkajhmchcbbhaa.P
open Go.RowKit Go.Proofs.YtpkajhmchcbbhaaW.PrintWords Go.Proofs.YtpkajhmchcbbhaaW.PrintLast Go.Proofs.YtpkajhmchcbbhaaW.PrintMore
attribute [local go_sem] max2_int min2_int max_two min_two max_three min_three max_four min_four
def forecourtref01_NetError.j0 : Nat → Int → Int → Bool → List (S70) → Int → Option (Int)
 | 0, _, _, _, _, _ => none
 | k + 1, x1, x2, x21, x235000, x235001 => if x21 = true then (some 3) else ((forecourtref01_Clashes.f k x235000 x235001).bind fun t239 => (if t239 = true then (some 21) else ((forecourtref01_True.f x235000 x235001 x1).bind fun bt240 => ((forecourtref01_True.f x235000 x235001 x2).bind fun bt242 => (if bt240.1 > bt242.2 then (some 24) else (some 0))))))
def forecourtref01_NetError.f (k : Nat) (l0_0 : List (S70)) (a0_1 : Int) (a1 : Int) (a2 : Int) : Option (Int) := (forecourtref01_CheckTank.f k l0_0 a0_1).bind fun t235 => (if t235 = 0 then ((forecourtref01_Inside.f l0_0 a0_1 a1).bind fun t237 => (if t237 = true then ((forecourtref01_Inside.f l0_0 a0_1 a2).bind fun t238 => (forecourtref01_NetError.j0 k a1 a2 (!t238) l0_0 a0_1)) else (forecourtref01_NetError.j0 k a1 a2 true l0_0 a0_1))) else ((forecourtref01_CheckTank.f k l0_0 a0_1).bind fun t236 => (some t236)))
def forecourtref01_NetError.T7 : Bool × List (List Nat × List Nat) := (true, [([], []), ([], []), ([0, 1], [0, 1]), ([2], [2]), ([], []), ([], []), ([4, 5, 2], [4, 5]), ([6], [6]), ([3, 7], [3, 7])])
def forecourtref01_NetError.B7 : List Nat := [0, 0, 3, 7, 0, 0, 55, 119, 255]
theorem forecourtref01_NetError.tab7 : rtab .any (opsOf Try.f41 7) = forecourtref01_NetError.T7 := by kernel_rfl
theorem forecourtref01_NetError.bits7 : waitsOk forecourtref01_NetError.T7.2 forecourtref01_NetError.B7 = true := by kernel_rfl
set_option maxHeartbeats 8000000 in
set_option maxRecDepth 100000 in
theorem forecourtref01_NetError.calls (k : Nat) (A0_0 : Option Addr) (c0_0 : Nat) (l0_0 : List (S70)) (a0_1 : Int) (a1 : Int) (a2 : Int) (r : Int) (w : World) (hr0_0 : Kd.C k70 w A0_0 l0_0.length l0_0) (hc0_0 : l0_0.length ≤ c0_0) (h : forecourtref01_NetError.f k l0_0 a0_1 a1 a2 = some r) :
  Calls Try.prog 41 #[.agg #[.slice A0_0 l0_0.length c0_0, .int .i64 a0_1], .int .i64 a1, .int .i64 a2] w fun e w' => e = .returned (.int .i64 r) ∧ Below w.heap.size w w' := by
 have hu24 := Try.underlying24
 have hfd43_0 : ∀ (W : World) (v0 v1 : Value), (Instr.field 43 (.agg #[v0, v1]) 0).run Try.prog W = .ok (v0) W := fun W v0 v1 => by kernel_rfl
 have hfd43_1 : ∀ (W : World) (v0 v1 : Value), (Instr.field 43 (.agg #[v0, v1]) 1).run Try.prog W = .ok (v1) W := fun W v0 v1 => by kernel_rfl
 have HR0_0 := Aside0.mk hr0_0
 have HC0_0 := Aside0.mk hc0_0
 clear hr0_0 hc0_0
 have HB := Aside0.mk (Below.refl w.heap.size w)
 have H : ((forecourtref01_CheckTank.f k l0_0 a0_1).bind fun t235 => (if t235 = 0 then ((forecourtref01_Inside.f l0_0 a0_1 a1).bind fun t237 => (if t237 = true then ((forecourtref01_Inside.f l0_0 a0_1 a2).bind fun t238 => (forecourtref01_NetError.j0 k a1 a2 (!t238) l0_0 a0_1)) else (forecourtref01_NetError.j0 k a1 a2 true l0_0 a0_1))) else ((forecourtref01_CheckTank.f k l0_0 a0_1).bind fun t236 => (some t236)))) = some r := h
 clear h
 replace H := Option.bind_eq_some_iff.mp H
 obtain ⟨t235, A40, H⟩ := H
 replace H : (if t235 = 0 then ((forecourtref01_Inside.f l0_0 a0_1 a1).bind fun t237 => (if t237 = true then ((forecourtref01_Inside.f l0_0 a0_1 a2).bind fun t238 => (forecourtref01_NetError.j0 k a1 a2 (!t238) l0_0 a0_1)) else (forecourtref01_NetError.j0 k a1 a2 true l0_0 a0_1))) else ((forecourtref01_CheckTank.f k l0_0 a0_1).bind fun t236 => (some t236))) = some r := H
 have A4 := Aside0.mk A40
 clear A40
 by_cases c5 : t235 = 0
 ·rw [if_pos c5] at H
  have c5b0 : (t235 == 0) = true := beq_iff_eq.mpr c5
  have c5b1 : (t235 != 0) = false := bne_eq_false_iff_eq.mpr c5
  clear c5
  have HC6 := Aside0.mk H
  clear H
  go_enter Try.func41, Try.ntmps41
  go_upto_region 3 with (first | ((with_reducible refine gate_dst (N := 3) rfl ?_); refine box_event ?hg (N := 3) ?hd (cs := #[.slice A0_0 l0_0.length c0_0, .int .i64 a0_1]) (t := 24) ?hr ?_; (case hd => rfl); (case hg => rfl); (case hr => first | (go_simp; done) | (go_simp; rfl)); intro gb234 hg w7 hbox hb; have n0_ := Aside0.mk (below_step qn2 hb); have n1_ := Aside0.mk (hbox); have n2_ := Aside0.mk ((by rw [hg]; exact (below_size qn2) : w.heap.size ≤ gb234)); have n3_ := Aside0.mk ((by rw [hg]; exact (below_size qn2) : w.heap.size ≤ gb234)); clear HB; have HB := n0_; have BK234 := n1_; have GW234 := n2_; have GE234 := n3_; clear n0_ n1_ n2_ n3_; clear hb hbox hg; have hcz8_0 : w7.cell? ⟨gb234, 0, none⟩ = some (.slice A0_0 l0_0.length c0_0) := (blk_cell BK234.out 0).trans rfl; have hcz8_1 : w7.cell? ⟨gb234, 1, none⟩ = some (.int .i64 a0_1) := (blk_cell BK234.out 1).trans rfl; have hfz8_0 := blk_frozen BK234.out 0; have hfz8_1 := blk_frozen BK234.out 1) | ((with_reducible refine gate_callee (f := 22) rfl ?_); refine goesL_ (some 8) rfl rfl Try.func22 (by kernel_rfl) rfl #[.agg #[.slice A0_0 l0_0.length c0_0, .int .i64 a0_1]] rfl qn1 ?_; (with_reducible refine (forecourtref01_CheckTank.calls k _ _ l0_0 a0_1 t235 _ ?side1 ?side2 A4.out).mono ?_); (case side1 => (exact (Kd.C_below HR0_0.out HB.out))); (case side2 => exact HC0_0.out); rintro e w9 ⟨rfl, hb⟩; refine ⟨_, rfl, ?_⟩; have n0_ := Aside0.mk (blk_below (g := gb234) (o := .cells #[.slice A0_0 l0_0.length c0_0, .int .i64 a0_1] 24 (0, 0)) (by exact BK234.out) hb); have n1_ := Aside0.mk (below_step qn2 hb); clear BK234; clear HB; have BK234 := n0_; have HB := n1_; clear n0_ n1_; (try clear hb); (try clear hb2); (try clear hk); (try clear hi)))
  (try simp only [Act.put, List.setIfInBounds_toArray, List.set_cons_zero, List.set_cons_succ])
  go_cut [21] (fun v21 wc => ∃ (kq : Nat) (x21_5 : Bool), v21 = .bool x21_5 ∧ Aside0 (forecourtref01_NetError.j0 kq a1 a2 x21_5 l0_0 a0_1 = some r) ∧ Aside0 (kq ≤ k) ∧ Aside0 (wc.heap[gb234]? = some (.cells #[(.slice A0_0 l0_0.length c0_0), .int .i64 a0_1] 24 (0, 0))) ∧ Aside0 (Below w.heap.size w wc))
  case first =>
   have H := HC6.out
   clear HC6
   replace H := Option.bind_eq_some_iff.mp H
   obtain ⟨t237, A100, H⟩ := H
   replace H : (if t237 = true then ((forecourtref01_Inside.f l0_0 a0_1 a2).bind fun t238 => (forecourtref01_NetError.j0 k a1 a2 (!t238) l0_0 a0_1)) else (forecourtref01_NetError.j0 k a1 a2 true l0_0 a0_1)) = some r := H
   have A10 := Aside0.mk A100
   clear A100
   by_cases c11 : t237 = true
   ·subst c11
    have H1 : ((forecourtref01_Inside.f l0_0 a0_1 a2).bind fun t238 => (forecourtref01_NetError.j0 k a1 a2 (!t238) l0_0 a0_1)) = some r := by rw [if_pos rfl] at H; exact H
    clear H
    have H := H1
    clear H1
    replace H := Option.bind_eq_some_iff.mp H
    obtain ⟨t238, A120, H⟩ := H
    replace H : (forecourtref01_NetError.j0 k a1 a2 (!t238) l0_0 a0_1) = some r := H
    have A12 := Aside0.mk A120
    clear A120
    have H' := Aside0.mk H
    clear H
    have hcz13_0 : w9.cell? ⟨gb234, 0, none⟩ = some (.slice A0_0 l0_0.length c0_0) := (blk_cell BK234.out 0).trans rfl
    have hcz13_1 : w9.cell? ⟨gb234, 1, none⟩ = some (.int .i64 a0_1) := (blk_cell BK234.out 1).trans rfl
    have hfz13_0 := blk_frozen BK234.out 0
    have hfz13_1 := blk_frozen BK234.out 1
    go_wp2_with (first | ((with_reducible refine gate_callee (f := 48) rfl ?_); refine goesL_ (some 14) rfl rfl Try.func48 (by kernel_rfl) rfl #[.agg #[.slice A0_0 l0_0.length c0_0, .int .i64 a0_1], .int .i64 a1] rfl qn1 ?_; (with_reducible refine (forecourtref01_Inside.calls _ _ l0_0 a0_1 a1 true _ ?side1 ?side2 A10.out).mono ?_); (case side1 => (exact (Kd.C_below HR0_0.out HB.out))); (case side2 => exact HC0_0.out); rintro e w14 ⟨rfl, hb⟩; refine ⟨_, rfl, ?_⟩; have n0_ := Aside0.mk (blk_below (g := gb234) (o := .cells #[.slice A0_0 l0_0.length c0_0, .int .i64 a0_1] 24 (0, 0)) (by exact BK234.out) hb); have n1_ := Aside0.mk (below_step qn2 hb); clear BK234; clear HB; have BK234 := n0_; have HB := n1_; clear n0_ n1_; (try clear hb); (try clear hb2); (try clear hk); (try clear hi); have hcz15_0 : w14.cell? ⟨gb234, 0, none⟩ = some (.slice A0_0 l0_0.length c0_0) := (blk_cell BK234.out 0).trans rfl; have hcz15_1 : w14.cell? ⟨gb234, 1, none⟩ = some (.int .i64 a0_1) := (blk_cell BK234.out 1).trans rfl; have hfz15_0 := blk_frozen BK234.out 0; have hfz15_1 := blk_frozen BK234.out 1) | (go_at_call 48; (with_reducible refine (forecourtref01_Inside.calls _ _ l0_0 a0_1 a2 t238 _ ?side1 ?side2 A12.out).mono ?_); (case side1 => (exact (Kd.C_below HR0_0.out HB.out))); (case side2 => exact HC0_0.out); rintro e w16 ⟨rfl, hb⟩; have n0_ := Aside0.mk (blk_below (g := gb234) (o := .cells #[.slice A0_0 l0_0.length c0_0, .int .i64 a0_1] 24 (0, 0)) (by exact BK234.out) hb); have n1_ := Aside0.mk (below_step qn2 hb); clear BK234; clear HB; have BK234 := n0_; have HB := n1_; clear n0_ n1_; (try clear hb); (try clear hb2); (try clear hk); (try clear hi)))
    go_meet
    case rel => exact ⟨_, (!t238), qn5, H', ⟨by first | omega | exact Nat.le_refl _⟩, ⟨by (skip); exact BK234.out⟩, ⟨by (with_reducible exact HB.out)⟩⟩
   replace c11 := Bool.eq_false_iff.mpr c11
   subst c11
   have H1 : (forecourtref01_NetError.j0 k a1 a2 true l0_0 a0_1) = some r := by rw [if_neg (show ¬ (false = true) by decide)] at H; exact H
   clear H
   have H := H1
   clear H1
   have H' := Aside0.mk H
   clear H
   have hcz17_0 : w9.cell? ⟨gb234, 0, none⟩ = some (.slice A0_0 l0_0.length c0_0) := (blk_cell BK234.out 0).trans rfl
   have hcz17_1 : w9.cell? ⟨gb234, 1, none⟩ = some (.int .i64 a0_1) := (blk_cell BK234.out 1).trans rfl
   have hfz17_0 := blk_frozen BK234.out 0
   have hfz17_1 := blk_frozen BK234.out 1
   go_wp2_with (first | ((with_reducible refine gate_callee (f := 48) rfl ?_); refine goesL_ (some 14) rfl rfl Try.func48 (by kernel_rfl) rfl #[.agg #[.slice A0_0 l0_0.length c0_0, .int .i64 a0_1], .int .i64 a1] rfl qn1 ?_; (with_reducible refine (forecourtref01_Inside.calls _ _ l0_0 a0_1 a1 false _ ?side1 ?side2 A10.out).mono ?_); (case side1 => (exact (Kd.C_below HR0_0.out HB.out))); (case side2 => exact HC0_0.out); rintro e w18 ⟨rfl, hb⟩; refine ⟨_, rfl, ?_⟩; have n0_ := Aside0.mk (blk_below (g := gb234) (o := .cells #[.slice A0_0 l0_0.length c0_0, .int .i64 a0_1] 24 (0, 0)) (by exact BK234.out) hb); have n1_ := Aside0.mk (below_step qn2 hb); clear BK234; clear HB; have BK234 := n0_; have HB := n1_; clear n0_ n1_; (try clear hb); (try clear hb2); (try clear hk); (try clear hi)))
   go_meet
   case rel => exact ⟨_, (true), qn5, H', ⟨by first | omega | exact Nat.le_refl _⟩, ⟨by (skip); exact BK234.out⟩, ⟨by (with_reducible exact HB.out)⟩⟩
  case rest =>
   clear HC6
   try clear c1
   try clear c2
   try clear p2
   try clear c4
   try clear c5
   try clear c5b0
   try clear c5b1
   try clear c11
   try clear hcz13_0
   try clear hcz13_1
   try clear hcz15_0
   try clear hcz15_1
   try clear hcz17_0
   try clear hcz17_1
   try clear hcz8_0
   try clear hcz8_1
   try clear hfz13_0
   try clear hfz13_1
   try clear hfz15_0
   try clear hfz15_1
   try clear hfz17_0
   try clear hfz17_1
   try clear hfz8_0
   try clear hfz8_1
   obtain ⟨kq, x21_5, rfl, HA, HJ5, BK234, HB⟩ := hcut
   cases kq with
   | zero => exact absurd HA.out (by simp [forecourtref01_NetError.j0])
   | succ kj5 =>
    have H := HA.out
    clear HA
    simp only [forecourtref01_NetError.j0] at H
    by_cases c19 : x21_5 = true
    ·subst c19
     have H1 : (some 3) = some r := by rw [if_pos rfl] at H; exact H
     clear H
     have H := H1
     clear H1
     obtain rfl := Option.some.inj H
     go_wp2
     go_ret
     exact ⟨by first | rfl | (simp [errW_none, errW_some] <;> rfl) | (simp [*, errW_none, errW_some] <;> rfl), by (with_reducible exact HB.out)⟩
    replace c19 := Bool.eq_false_iff.mpr c19
    subst c19
    have H1 : ((forecourtref01_Clashes.f kj5 l0_0 a0_1).bind fun t239 => (if t239 = true then (some 21) else ((forecourtref01_True.f l0_0 a0_1 a1).bind fun bt240 => ((forecourtref01_True.f l0_0 a0_1 a2).bind fun bt242 => (if bt240.1 > bt242.2 then (some 24) else (some 0)))))) = some r := by rw [if_neg (show ¬ (false = true) by decide)] at H; exact H
    clear H
    have H := H1
    clear H1
    replace H := Option.bind_eq_some_iff.mp H
    obtain ⟨t239, A200, H⟩ := H
    replace H : (if t239 = true then (some 21) else ((forecourtref01_True.f l0_0 a0_1 a1).bind fun bt240 => ((forecourtref01_True.f l0_0 a0_1 a2).bind fun bt242 => (if bt240.1 > bt242.2 then (some 24) else (some 0))))) = some r := H
    have A20 := Aside0.mk A200
    clear A200
    by_cases c21 : t239 = true
    ·subst c21
     have H1 : (some 21) = some r := by rw [if_pos rfl] at H; exact H
     clear H
     have H := H1
     clear H1
     obtain rfl := Option.some.inj H
     have hcz22_0 : wc.cell? ⟨gb234, 0, none⟩ = some (.slice A0_0 l0_0.length c0_0) := (blk_cell BK234.out 0).trans rfl
     have hcz22_1 : wc.cell? ⟨gb234, 1, none⟩ = some (.int .i64 a0_1) := (blk_cell BK234.out 1).trans rfl
     have hfz22_0 := blk_frozen BK234.out 0
     have hfz22_1 := blk_frozen BK234.out 1
     go_wp2_with (first | ((with_reducible refine gate_callee (f := 56) rfl ?_); refine goesL_ (some 23) rfl rfl Try.func56 (by kernel_rfl) rfl #[.agg #[.slice A0_0 l0_0.length c0_0, .int .i64 a0_1]] rfl qn1 ?_; (with_reducible refine (forecourtref01_Clashes.calls kj5 _ _ l0_0 a0_1 true _ ?side1 ?side2 A20.out).mono ?_); (case side1 => (exact (Kd.C_below HR0_0.out HB.out))); (case side2 => exact HC0_0.out); rintro e w23 ⟨rfl, hb⟩; refine ⟨_, rfl, ?_⟩; have n0_ := Aside0.mk (blk_below (g := gb234) (o := .cells #[.slice A0_0 l0_0.length c0_0, .int .i64 a0_1] 24 (0, 0)) (by exact BK234.out) hb); have n1_ := Aside0.mk (below_step qn2 hb); clear BK234; clear HB; have BK234 := n0_; have HB := n1_; clear n0_ n1_; (try clear hb); (try clear hb2); (try clear hk); (try clear hi)))
     go_ret
     exact ⟨by first | rfl | (simp [errW_none, errW_some] <;> rfl) | (simp [*, errW_none, errW_some] <;> rfl), by (with_reducible exact HB.out)⟩
    replace c21 := Bool.eq_false_iff.mpr c21
    subst c21
    have H1 : ((forecourtref01_True.f l0_0 a0_1 a1).bind fun bt240 => ((forecourtref01_True.f l0_0 a0_1 a2).bind fun bt242 => (if bt240.1 > bt242.2 then (some 24) else (some 0)))) = some r := by rw [if_neg (show ¬ (false = true) by decide)] at H; exact H
    clear H
    have H := H1
    clear H1
    replace H := Option.bind_eq_some_iff.mp H
    obtain ⟨⟨t240, t241⟩, A240, H⟩ := H
    replace H : ((forecourtref01_True.f l0_0 a0_1 a2).bind fun bt242 => (if t240 > bt242.2 then (some 24) else (some 0))) = some r := H
    have A24 := Aside0.mk A240
    clear A240
    replace H := Option.bind_eq_some_iff.mp H
    obtain ⟨⟨t242, t243⟩, A250, H⟩ := H
    replace H : (if t240 > t243 then (some 24) else (some 0)) = some r := H
    have A25 := Aside0.mk A250
    clear A250
    by_cases c26 : t240 > t243
    ·rw [if_pos c26] at H
     have c26b0 : decide (t243 < t240) = true := decide_eq_true c26
     clear c26
     obtain rfl := Option.some.inj H
     have hcz27_0 : wc.cell? ⟨gb234, 0, none⟩ = some (.slice A0_0 l0_0.length c0_0) := (blk_cell BK234.out 0).trans rfl
     have hcz27_1 : wc.cell? ⟨gb234, 1, none⟩ = some (.int .i64 a0_1) := (blk_cell BK234.out 1).trans rfl
     have hfz27_0 := blk_frozen BK234.out 0
     have hfz27_1 := blk_frozen BK234.out 1
     try go_wp2_with (first | ((with_reducible refine gate_callee (f := 56) rfl ?_); refine goesL_ (some 23) rfl rfl Try.func56 (by kernel_rfl) rfl #[.agg #[.slice A0_0 l0_0.length c0_0, .int .i64 a0_1]] rfl qn1 ?_; (with_reducible refine (forecourtref01_Clashes.calls kj5 _ _ l0_0 a0_1 false _ ?side1 ?side2 A20.out).mono ?_); (case side1 => (exact (Kd.C_below HR0_0.out HB.out))); (case side2 => exact HC0_0.out); rintro e w28 ⟨rfl, hb⟩; refine ⟨_, rfl, ?_⟩; have n0_ := Aside0.mk (blk_below (g := gb234) (o := .cells #[.slice A0_0 l0_0.length c0_0, .int .i64 a0_1] 24 (0, 0)) (by exact BK234.out) hb); have n1_ := Aside0.mk (below_step qn2 hb); clear BK234; clear HB; have BK234 := n0_; have HB := n1_; clear n0_ n1_; (try clear hb); (try clear hb2); (try clear hk); (try clear hi)))
     have n0_ := Aside0.mk (blk_drew BK234.out)
     have n1_ := Aside0.mk (below_drew1 HB.out)
     clear BK234 HB
     have BK234 := n0_
     have HB := n1_
     clear n0_ n1_
     refine start_ (n := 9) (S := fun w' => w'.cell? ⟨gb234, 0, none⟩ = some (.slice A0_0 l0_0.length c0_0) ∧ w'.cell? ⟨gb234, 1, none⟩ = some (.int .i64 a0_1)) (ds := []) #[false, false, false, false, false, false, false, false, false] (by kernel_rfl) rfl rfl ⟨(blk_cell BK234.out 0).trans rfl, (blk_cell BK234.out 1).trans rfl⟩ (fun hHeld => ?_); refine with_tabW forecourtref01_NetError.tab7 forecourtref01_NetError.bits7 (fun HT_ HW_ => ?_)
     generalize w28.drew = w29 at BK234 HB hHeld ⊢
     refine pureT (i := 1) (N := some 25) HT_.out ?_
     refine pureT (i := 5) (N := some 29) HT_.out ?_
     refine takeT (i := 0) (N := some 24) HT_.out HW_.out hHeld (hy := by (rintro w' ⟨s0, s1⟩; go_simp; with_reducible rfl)) (h := ?_)
     refine takeT (i := 4) (N := some 28) HT_.out HW_.out hHeld (hy := by (rintro w' ⟨s0, s1⟩; go_simp; with_reducible rfl)) (h := ?_)
     refine one_ (i := 2) (N := some 26) #[true, true, true, false, true, true, false, false, false] rfl rfl (one_of HT_.out (by kernel_rfl)) (by decide) (fun K hK => ?_)
     refine goes_ Try.func42 (by kernel_rfl) rfl #[.agg #[.slice A0_0 l0_0.length c0_0, .int .i64 a0_1], .int .i64 a1] (by rfl) rfl rfl qn1 ?_
     with_reducible refine (forecourtref01_True.calls _ _ l0_0 a0_1 a1 t240 t241 _ ?side1 ?side2 A24.out).mono ?_
     (case side1 => (exact (Kd.C_below HR0_0.out HB.out)))
     (case side2 => exact HC0_0.out)
     rintro e w30 ⟨rfl, hb⟩
     refine ⟨_, rfl, ?_⟩
     have n0_ := Aside0.mk (blk_below (g := gb234) (o := .cells #[.slice A0_0 l0_0.length c0_0, .int .i64 a0_1] 24 (0, 0)) (by exact BK234.out) hb)
     have n1_ := Aside0.mk (below_step qn2 hb)
     clear BK234 HB
     have BK234 := n0_
     have HB := n1_
     clear n0_ n1_
     (try clear hb)
     refine hK.out _ _ ⟨(blk_cell BK234.out 0).trans rfl, (blk_cell BK234.out 1).trans rfl⟩ (fun hHeld => ?_)
     clear hK K
     refine norm_ (a' := ?_) ?_ ?_
     rotate_left
     ·show Act.put _ (some 26) _ = _
      simp only [Act.put, List.setIfInBounds_toArray, List.set_cons_zero, List.set_cons_succ, i64_w, i32_w]
      rfl
     refine pureT (i := 3) (N := some 27) HT_.out ?_
     refine one_ (i := 6) (N := some 30) #[true, true, true, true, true, true, true, false, false] rfl rfl (one_of HT_.out (by kernel_rfl)) (by decide) (fun K hK => ?_)
     refine goes_ Try.func42 (by kernel_rfl) rfl #[.agg #[.slice A0_0 l0_0.length c0_0, .int .i64 a0_1], .int .i64 a2] (by rfl) rfl rfl qn1 ?_
     with_reducible refine (forecourtref01_True.calls _ _ l0_0 a0_1 a2 t242 t243 _ ?side1 ?side2 A25.out).mono ?_
     (case side1 => (exact (Kd.C_below HR0_0.out HB.out)))
     (case side2 => exact HC0_0.out)
     rintro e w31 ⟨rfl, hb⟩
     refine ⟨_, rfl, ?_⟩
     have n0_ := Aside0.mk (blk_below (g := gb234) (o := .cells #[.slice A0_0 l0_0.length c0_0, .int .i64 a0_1] 24 (0, 0)) (by exact BK234.out) hb)
     have n1_ := Aside0.mk (below_step qn2 hb)
     clear BK234 HB
     have BK234 := n0_
     have HB := n1_
     clear n0_ n1_
     (try clear hb)
     refine hK.out _ _ ⟨(blk_cell BK234.out 0).trans rfl, (blk_cell BK234.out 1).trans rfl⟩ (fun hHeld => ?_)
     clear hK K
     refine norm_ (a' := ?_) ?_ ?_
     rotate_left
     ·show Act.put _ (some 30) _ = _
      simp only [Act.put, List.setIfInBounds_toArray, List.set_cons_zero, List.set_cons_succ, i64_w, i32_w]
      rfl
     refine pureT (i := 7) (N := some 31) HT_.out ?_
     refine pureT (i := 8) (N := some 32) HT_.out ?_
     refine done_ (done_of HT_.out (by kernel_rfl)) ?_
     try go_wp2
     go_ret
     exact ⟨by first | rfl | (simp [errW_none, errW_some] <;> rfl) | (simp [*, errW_none, errW_some] <;> rfl), by (with_reducible exact HB.out)⟩
    rw [if_neg c26] at H
    have c26b0 : decide (t243 < t240) = false := decide_eq_false c26
    clear c26
    obtain rfl := Option.some.inj H
    have hcz32_0 : wc.cell? ⟨gb234, 0, none⟩ = some (.slice A0_0 l0_0.length c0_0) := (blk_cell BK234.out 0).trans rfl
    have hcz32_1 : wc.cell? ⟨gb234, 1, none⟩ = some (.int .i64 a0_1) := (blk_cell BK234.out 1).trans rfl
    have hfz32_0 := blk_frozen BK234.out 0
    have hfz32_1 := blk_frozen BK234.out 1
    try go_wp2_with (first | ((with_reducible refine gate_callee (f := 56) rfl ?_); refine goesL_ (some 23) rfl rfl Try.func56 (by kernel_rfl) rfl #[.agg #[.slice A0_0 l0_0.length c0_0, .int .i64 a0_1]] rfl qn1 ?_; (with_reducible refine (forecourtref01_Clashes.calls kj5 _ _ l0_0 a0_1 false _ ?side1 ?side2 A20.out).mono ?_); (case side1 => (exact (Kd.C_below HR0_0.out HB.out))); (case side2 => exact HC0_0.out); rintro e w33 ⟨rfl, hb⟩; refine ⟨_, rfl, ?_⟩; have n0_ := Aside0.mk (blk_below (g := gb234) (o := .cells #[.slice A0_0 l0_0.length c0_0, .int .i64 a0_1] 24 (0, 0)) (by exact BK234.out) hb); have n1_ := Aside0.mk (below_step qn2 hb); clear BK234; clear HB; have BK234 := n0_; have HB := n1_; clear n0_ n1_; (try clear hb); (try clear hb2); (try clear hk); (try clear hi)))
    have n0_ := Aside0.mk (blk_drew BK234.out)
    have n1_ := Aside0.mk (below_drew1 HB.out)
    clear BK234 HB
    have BK234 := n0_
    have HB := n1_
    clear n0_ n1_
    refine start_ (n := 9) (S := fun w' => w'.cell? ⟨gb234, 0, none⟩ = some (.slice A0_0 l0_0.length c0_0) ∧ w'.cell? ⟨gb234, 1, none⟩ = some (.int .i64 a0_1)) (ds := []) #[false, false, false, false, false, false, false, false, false] (by kernel_rfl) rfl rfl ⟨(blk_cell BK234.out 0).trans rfl, (blk_cell BK234.out 1).trans rfl⟩ (fun hHeld => ?_); refine with_tabW forecourtref01_NetError.tab7 forecourtref01_NetError.bits7 (fun HT_ HW_ => ?_)
    generalize w33.drew = w34 at BK234 HB hHeld ⊢
    refine pureT (i := 1) (N := some 25) HT_.out ?_
    refine pureT (i := 5) (N := some 29) HT_.out ?_
    refine takeT (i := 0) (N := some 24) HT_.out HW_.out hHeld (hy := by (rintro w' ⟨s0, s1⟩; go_simp; with_reducible rfl)) (h := ?_)
    refine takeT (i := 4) (N := some 28) HT_.out HW_.out hHeld (hy := by (rintro w' ⟨s0, s1⟩; go_simp; with_reducible rfl)) (h := ?_)
    refine one_ (i := 2) (N := some 26) #[true, true, true, false, true, true, false, false, false] rfl rfl (one_of HT_.out (by kernel_rfl)) (by decide) (fun K hK => ?_)
    refine goes_ Try.func42 (by kernel_rfl) rfl #[.agg #[.slice A0_0 l0_0.length c0_0, .int .i64 a0_1], .int .i64 a1] (by rfl) rfl rfl qn1 ?_
    with_reducible refine (forecourtref01_True.calls _ _ l0_0 a0_1 a1 t240 t241 _ ?side1 ?side2 A24.out).mono ?_
    (case side1 => (exact (Kd.C_below HR0_0.out HB.out)))
    (case side2 => exact HC0_0.out)
    rintro e w35 ⟨rfl, hb⟩
    refine ⟨_, rfl, ?_⟩
    have n0_ := Aside0.mk (blk_below (g := gb234) (o := .cells #[.slice A0_0 l0_0.length c0_0, .int .i64 a0_1] 24 (0, 0)) (by exact BK234.out) hb)
    have n1_ := Aside0.mk (below_step qn2 hb)
    clear BK234 HB
    have BK234 := n0_
    have HB := n1_
    clear n0_ n1_
    (try clear hb)
    refine hK.out _ _ ⟨(blk_cell BK234.out 0).trans rfl, (blk_cell BK234.out 1).trans rfl⟩ (fun hHeld => ?_)
    clear hK K
    refine norm_ (a' := ?_) ?_ ?_
    rotate_left
    ·show Act.put _ (some 26) _ = _
     simp only [Act.put, List.setIfInBounds_toArray, List.set_cons_zero, List.set_cons_succ, i64_w, i32_w]
     rfl
    refine pureT (i := 3) (N := some 27) HT_.out ?_
    refine one_ (i := 6) (N := some 30) #[true, true, true, true, true, true, true, false, false] rfl rfl (one_of HT_.out (by kernel_rfl)) (by decide) (fun K hK => ?_)
    refine goes_ Try.func42 (by kernel_rfl) rfl #[.agg #[.slice A0_0 l0_0.length c0_0, .int .i64 a0_1], .int .i64 a2] (by rfl) rfl rfl qn1 ?_
    with_reducible refine (forecourtref01_True.calls _ _ l0_0 a0_1 a2 t242 t243 _ ?side1 ?side2 A25.out).mono ?_
    (case side1 => (exact (Kd.C_below HR0_0.out HB.out)))
    (case side2 => exact HC0_0.out)
    rintro e w36 ⟨rfl, hb⟩
    refine ⟨_, rfl, ?_⟩
    have n0_ := Aside0.mk (blk_below (g := gb234) (o := .cells #[.slice A0_0 l0_0.length c0_0, .int .i64 a0_1] 24 (0, 0)) (by exact BK234.out) hb)
    have n1_ := Aside0.mk (below_step qn2 hb)
    clear BK234 HB
    have BK234 := n0_
    have HB := n1_
    clear n0_ n1_
    (try clear hb)
    refine hK.out _ _ ⟨(blk_cell BK234.out 0).trans rfl, (blk_cell BK234.out 1).trans rfl⟩ (fun hHeld => ?_)
    clear hK K
    refine norm_ (a' := ?_) ?_ ?_
    rotate_left
    ·show Act.put _ (some 30) _ = _
     simp only [Act.put, List.setIfInBounds_toArray, List.set_cons_zero, List.set_cons_succ, i64_w, i32_w]
     rfl
    refine pureT (i := 7) (N := some 31) HT_.out ?_
    refine pureT (i := 8) (N := some 32) HT_.out ?_
    refine done_ (done_of HT_.out (by kernel_rfl)) ?_
    try go_wp2
    go_ret
    exact ⟨by first | rfl | (simp [errW_none, errW_some] <;> rfl) | (simp [*, errW_none, errW_some] <;> rfl), by (with_reducible exact HB.out)⟩
 rw [if_neg c5] at H
 have c5b0 : (t235 == 0) = false := beq_eq_false_iff_ne.mpr c5
 have c5b1 : (t235 != 0) = true := bne_iff_ne.mpr c5
 replace H := Option.bind_eq_some_iff.mp H
 obtain ⟨t236, A370, H⟩ := H
 replace H : (some t236) = some r := H
 have A37 := Aside0.mk A370
 clear A370
 have EA37 := Aside0.mk (Option.some.inj (A4.out.symm.trans A37.out))
 obtain rfl := Option.some.inj H
 go_enter Try.func41, Try.ntmps41
 go_wp2_with (first | ((with_reducible refine gate_dst (N := 3) rfl ?_); refine box_event ?hg (N := 3) ?hd (cs := #[.slice A0_0 l0_0.length c0_0, .int .i64 a0_1]) (t := 24) ?hr ?_; (case hd => rfl); (case hg => rfl); (case hr => first | (go_simp; done) | (go_simp; rfl)); intro gb234 hg w38 hbox hb; have n0_ := Aside0.mk (below_step qn2 hb); have n1_ := Aside0.mk (hbox); have n2_ := Aside0.mk ((by rw [hg]; exact (below_size qn2) : w.heap.size ≤ gb234)); have n3_ := Aside0.mk ((by rw [hg]; exact (below_size qn2) : w.heap.size ≤ gb234)); clear HB; have HB := n0_; have BK234 := n1_; have GW234 := n2_; have GE234 := n3_; clear n0_ n1_ n2_ n3_; clear hb hbox hg; have hcz39_0 : w38.cell? ⟨gb234, 0, none⟩ = some (.slice A0_0 l0_0.length c0_0) := (blk_cell BK234.out 0).trans rfl; have hcz39_1 : w38.cell? ⟨gb234, 1, none⟩ = some (.int .i64 a0_1) := (blk_cell BK234.out 1).trans rfl; have hfz39_0 := blk_frozen BK234.out 0; have hfz39_1 := blk_frozen BK234.out 1) | ((with_reducible refine gate_callee (f := 22) rfl ?_); refine goesL_ (some 8) rfl rfl Try.func22 (by kernel_rfl) rfl #[.agg #[.slice A0_0 l0_0.length c0_0, .int .i64 a0_1]] rfl qn1 ?_; (with_reducible refine (forecourtref01_CheckTank.calls k _ _ l0_0 a0_1 t235 _ ?side1 ?side2 A4.out).mono ?_); (case side1 => (exact (Kd.C_below HR0_0.out HB.out))); (case side2 => exact HC0_0.out); rintro e w40 ⟨rfl, hb⟩; refine ⟨_, rfl, ?_⟩; have n0_ := Aside0.mk (blk_below (g := gb234) (o := .cells #[.slice A0_0 l0_0.length c0_0, .int .i64 a0_1] 24 (0, 0)) (by exact BK234.out) hb); have n1_ := Aside0.mk (below_step qn2 hb); clear BK234; clear HB; have BK234 := n0_; have HB := n1_; clear n0_ n1_; (try clear hb); (try clear hb2); (try clear hk); (try clear hi); have hcz41_0 : w40.cell? ⟨gb234, 0, none⟩ = some (.slice A0_0 l0_0.length c0_0) := (blk_cell BK234.out 0).trans rfl; have hcz41_1 : w40.cell? ⟨gb234, 1, none⟩ = some (.int .i64 a0_1) := (blk_cell BK234.out 1).trans rfl; have hfz41_0 := blk_frozen BK234.out 0; have hfz41_1 := blk_frozen BK234.out 1) | ((with_reducible refine gate_callee (f := 22) rfl ?_); refine goesL_ (some 11) rfl rfl Try.func22 (by kernel_rfl) rfl #[.agg #[.slice A0_0 l0_0.length c0_0, .int .i64 a0_1]] rfl qn1 ?_; (with_reducible refine (forecourtref01_CheckTank.calls k _ _ l0_0 a0_1 t236 _ ?side1 ?side2 A37.out).mono ?_); (case side1 => (exact (Kd.C_below HR0_0.out HB.out))); (case side2 => exact HC0_0.out); rintro e w42 ⟨rfl, hb⟩; refine ⟨_, rfl, ?_⟩; have n0_ := Aside0.mk (blk_below (g := gb234) (o := .cells #[.slice A0_0 l0_0.length c0_0, .int .i64 a0_1] 24 (0, 0)) (by exact BK234.out) hb); have n1_ := Aside0.mk (below_step qn2 hb); clear BK234; clear HB; have BK234 := n0_; have HB := n1_; clear n0_ n1_; (try clear hb); (try clear hb2); (try clear hk); (try clear hi)))
 go_ret
 try (have d_ := EA37.out; clear EA37; subst d_)
 exact ⟨by first | rfl | (simp [errW_none, errW_some] <;> rfl) | (simp [*, errW_none, errW_some] <;> rfl), by (with_reducible exact HB.out)⟩
end Go.Proofs.Ytpkajhmchcbbhaa.P
end
