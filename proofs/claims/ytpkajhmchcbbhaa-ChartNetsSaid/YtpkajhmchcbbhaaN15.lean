/- Part 15 of 50. -/
import Derived.Test.YtpkajhmchcbbhaaN0
import Derived.Test.YtpkajhmchcbbhaaN5
import Derived.Test.YtpkajhmchcbbhaaN6
import Derived.Test.YtpkajhmchcbbhaaN9
set_option linter.unusedSimpArgs false
set_option linter.unusedVariables false
section
namespace Go.Proofs.Ytpkajhmchcbbhaa.P
open Go.RowKit Go.Proofs.YtpkajhmchcbbhaaW.PrintWords Go.Proofs.YtpkajhmchcbbhaaW.PrintLast Go.Proofs.YtpkajhmchcbbhaaW.PrintMore
attribute [local go_sem] max2_int min2_int max_two min_two max_three min_three max_four min_four
mutual
def forecourtref01_extremes.l0 : Nat → List (S43) → List (List Int) → Int → Option ((List (List Int)))
 | 0, _, _, _ => none
 | k + 1, x3, x4, x5 => if x5 ≤ (x3.length : Int) then (forecourtref01_extremes.l1 k x3 x4 x5 ([] : List Int) 0) else (forecourtref01_extremes.l2 k x3 x4 0)
def forecourtref01_extremes.l1 : Nat → List (S43) → List (List Int) → Int → List Int → Int → Option ((List (List Int)))
 | 0, _, _, _, _, _ => none
 | k + 1, x3, x4, x5, x6, x7 => if x7 < (x3.length : Int) then (if x7 < x5 then (if 0 ≤ x7 then (if x6.length < 17592186044416 then (forecourtref01_extremes.l1 k x3 x4 x5 (x6 ++ [(rd_T43 x3 x7).f0]) (wrap64 (x7 + 1))) else (none)) else (none)) else (if 0 ≤ x7 then (if x6.length < 17592186044416 then (forecourtref01_extremes.l1 k x3 x4 x5 (x6 ++ [(rd_T43 x3 x7).f1]) (wrap64 (x7 + 1))) else (none)) else (none))) else (if x4.length < 5864062014805 then (forecourtref01_extremes.l0 k x3 (x4 ++ [x6]) (wrap64 (x5 + 1))) else (none))
def forecourtref01_extremes.l2 : Nat → List (S43) → List (List Int) → Int → Option ((List (List Int)))
 | 0, _, _, _ => none
 | k + 1, x3, x4, x8 => if x8 < (wrap64 (2 * (x3.length : Int))) then (if 0 ≤ (wrap64 (Int.tdiv x8 2)) then (if (wrap64 (Int.tdiv x8 2)) < (x3.length : Int) then (if (Int.tmod x8 2) = 1 then (forecourtref01_extremes.j3 k x3 x4 x8 ((rd_T43 x3 (wrap64 (Int.tdiv x8 2))).f1)) else (forecourtref01_extremes.j3 k x3 x4 x8 ((rd_T43 x3 (wrap64 (Int.tdiv x8 2))).f0))) else (none)) else (none)) else (some x4)
def forecourtref01_extremes.j3 : Nat → List (S43) → List (List Int) → Int → Int → Option ((List (List Int)))
 | 0, _, _, _, _ => none
 | k + 1, x3, x4, x8, x9 => forecourtref01_extremes.l3 k x3 x4 x8 x9 ([] : List Int) 0
def forecourtref01_extremes.l3 : Nat → List (S43) → List (List Int) → Int → Int → List Int → Int → Option ((List (List Int)))
 | 0, _, _, _, _, _, _ => none
 | k + 1, x3, x4, x8, x9, x10, x11 => if x11 < (x3.length : Int) then (if 0 ≤ x11 then (if x10.length < 17592186044416 then (forecourtref01_extremes.l3 k x3 x4 x8 x9 (x10 ++ [mx ((rd_T43 x3 x11).f0) (mn ((rd_T43 x3 x11).f1) x9)]) (wrap64 (x11 + 1))) else (none)) else (none)) else (if x4.length < 5864062014805 then (forecourtref01_extremes.l2 k x3 (x4 ++ [x10]) (wrap64 (x8 + 1))) else (none))
end
def forecourtref01_extremes.f (k : Nat) (l0_0 : List (S70)) (a0_1 : Int) : Option ((List (List Int))) := (forecourtref01_tight.f k l0_0 a0_1).bind fun t245 => (forecourtref01_extremes.l0 k t245 ([] : List (List Int)) 0)
def forecourtref01_extremes.T24 : Bool × List (List Nat × List Nat) := (true, [([], []), ([], []), ([], []), ([1, 2], [1, 2]), ([3], [3]), ([4], [4]), ([], []), ([], []), ([6, 7], [6, 7]), ([8], [8]), ([9], [9]), ([], []), ([10, 11], [10, 11]), ([5, 12], [5, 12]), ([13], [13]), ([0, 14], [0, 14]), ([15, 15, 0, 1, 2, 3, 4, 5, 6, 7, 8, 9, 10, 11, 12, 13, 14, 15], [0, 15])])
def forecourtref01_extremes.B24 : List Nat := [0, 0, 0, 6, 14, 30, 0, 0, 192, 448, 960, 0, 4032, 8190, 16382, 32767, 65535]
theorem forecourtref01_extremes.tab24 : rtab .any (opsOf Try.f69 24) = forecourtref01_extremes.T24 := by kernel_rfl
theorem forecourtref01_extremes.bits24 : waitsOk forecourtref01_extremes.T24.2 forecourtref01_extremes.B24 = true := by kernel_rfl
set_option maxHeartbeats 8000000 in
set_option maxRecDepth 100000 in
theorem forecourtref01_extremes.calls (k : Nat) (A0_0 : Option Addr) (c0_0 : Nat) (l0_0 : List (S70)) (a0_1 : Int) (r : List (List Int)) (w : World) (hr0_0 : Kd.C k70 w A0_0 l0_0.length l0_0) (hc0_0 : l0_0.length ≤ c0_0) (h : forecourtref01_extremes.f k l0_0 a0_1 = some r) :
  Calls Try.prog 69 #[.agg #[.slice A0_0 l0_0.length c0_0, .int .i64 a0_1]] w fun e w' => ∃ v0_ : Value, e = .returned (v0_) ∧ Kd.S (Kd.slice 2 (Kd.int .i64)) 25 w' w.heap.size (fun _ => True) v0_ r ∧ Below w.heap.size w w' := by
 have hu24 := Try.underlying24
 have HR0_0 := Aside0.mk hr0_0
 have HC0_0 := Aside0.mk hc0_0
 clear hr0_0 hc0_0
 have HB := Aside0.mk (Below.refl w.heap.size w)
 have H : ((forecourtref01_tight.f k l0_0 a0_1).bind fun t245 => (forecourtref01_extremes.l0 k t245 ([] : List (List Int)) 0)) = some r := h
 clear h
 replace H := Option.bind_eq_some_iff.mp H
 obtain ⟨t245, A20, H⟩ := H
 replace H : (forecourtref01_extremes.l0 k t245 ([] : List (List Int)) 0) = some r := H
 have A2 := Aside0.mk A20
 clear A20
 have H' := Aside0.mk H
 clear H
 go_enter Try.func69, Try.ntmps69
 go_wp2_with (first | ((with_reducible refine gate_dst (N := 1) rfl ?_); refine box_event ?hg (N := 1) ?hd (cs := #[.slice A0_0 l0_0.length c0_0, .int .i64 a0_1]) (t := 24) ?hr ?_; (case hd => rfl); (case hg => rfl); (case hr => first | (go_simp; done) | (go_simp; rfl)); intro gb244 hg w3 hbox hb; have n0_ := Aside0.mk (below_step qn2 hb); have n1_ := Aside0.mk (hbox); have n2_ := Aside0.mk ((by rw [hg]; exact (below_size qn2) : w.heap.size ≤ gb244)); have n3_ := Aside0.mk ((by rw [hg]; exact (below_size qn2) : w.heap.size ≤ gb244)); clear HB; have HB := n0_; have BK244 := n1_; have GW244 := n2_; have GE244 := n3_; clear n0_ n1_ n2_ n3_; clear hb hbox hg; have hcz4_0 : w3.cell? ⟨gb244, 0, none⟩ = some (.slice A0_0 l0_0.length c0_0) := (blk_cell BK244.out 0).trans rfl; have hcz4_1 : w3.cell? ⟨gb244, 1, none⟩ = some (.int .i64 a0_1) := (blk_cell BK244.out 1).trans rfl; have hfz4_0 := blk_frozen BK244.out 0; have hfz4_1 := blk_frozen BK244.out 1) | ((with_reducible refine gate_callee (f := 57) rfl ?_); refine goesL_ (some 13) rfl rfl Try.func57 (by kernel_rfl) rfl #[.agg #[.slice A0_0 l0_0.length c0_0, .int .i64 a0_1]] rfl qn1 ?_; (with_reducible refine (forecourtref01_tight.calls k _ _ l0_0 a0_1 t245 _ ?side1 ?side2 A2.out).mono ?_); (case side1 => (exact (Kd.C_below HR0_0.out HB.out))); (case side2 => exact HC0_0.out); rintro e w5 ⟨v246, rfl, ho0, hb⟩; refine ⟨_, rfl, ?_⟩; have n0_ := Aside0.mk (Kd.R_lower ho0 (below_size qn2)); have n1_ := Aside0.mk (blk_below (g := gb244) (o := .cells #[.slice A0_0 l0_0.length c0_0, .int .i64 a0_1] 24 (0, 0)) (by exact BK244.out) hb); have n2_ := Aside0.mk (below_step qn2 hb); clear BK244; clear HB; have HO247 := n0_; have BK244 := n1_; have HB := n2_; clear n0_ n1_ n2_; (try clear hb); (try clear hb2); (try clear hk); (try clear hi); (try clear ho0)))
 go_loopg [4, 5] k (fun kq v4 v5 w' => ∃ (x4_1 : List (List Int)) (x5_1 : Int), v5 = .int .i64 x5_1 ∧ Aside0 (forecourtref01_extremes.l0 kq t245 x4_1 x5_1 = some r) ∧ Aside0 (kq ≤ k) ∧ Aside0 (Kd.R k43 43 w' w.heap.size (fun _ => True) v246 t245) ∧ Aside0 (Kd.S (Kd.slice 2 (Kd.int .i64)) 25 w' w.heap.size (fun _ => True) v4 x4_1) ∧ Aside0 (w'.heap[gb244]? = some (.cells #[(.slice A0_0 l0_0.length c0_0), .int .i64 a0_1] 24 (0, 0))) ∧ Aside0 (Below w.heap.size w w'))
 case atStart => exact ⟨(([] : List (List Int))), (0), qn5, H', ⟨Nat.le_refl _⟩, ⟨by (skip); exact HO247.out⟩, ⟨by first | exact Kd.S_nil _ _ _ _ _ | exact Kd.N_nil _ _ _ _ _ | exact Kd.V_nil _ _ _ _ _ | exact Kd.Q_nil _ _ _ _ _ | exact Kd.R_nil _ _ _ _ _⟩, ⟨by (skip); exact BK244.out⟩, ⟨by (with_reducible exact HB.out)⟩⟩
 case round =>
  clear H'
  try clear p2
  try clear c5
  try clear hcz4_0
  try clear hcz4_1
  try clear hfz4_0
  try clear hfz4_1
  obtain ⟨x4_1, x5_1, rfl, HA, HK1, HO_3, HO_4, BK244, HB⟩ := hrel
  cases gk with
  | zero => exact absurd HA.out (by simp [forecourtref01_extremes.l0])
  | succ k1 =>
   have H := HA.out
   clear HA
   simp only [forecourtref01_extremes.l0] at H
   by_cases c6 : x5_1 ≤ (t245.length : Int)
   ·rw [if_pos c6] at H
    have c6b0 : decide (x5_1 ≤ (t245.length : Int)) = true := decide_eq_true c6
    clear c6
    have H' := Aside0.mk H
    clear H
    obtain ⟨Ao7, co7, eo7⟩ := Kd.R_slice HO_3.out
    subst eo7
    go_wp2
    go_loopg [6, 7] k1 (fun kq v6 v7 w' => ∃ (x6_2 : List Int) (x7_2 : Int), v7 = .int .i64 x7_2 ∧ Aside0 (forecourtref01_extremes.l1 kq t245 x4_1 x5_1 x6_2 x7_2 = some r) ∧ Aside0 (kq ≤ k1) ∧ Aside0 (Kd.R k43 43 w' w.heap.size (fun _ => True) (.slice Ao7 t245.length co7) t245) ∧ Aside0 (Kd.S (Kd.slice 2 (Kd.int .i64)) 25 w' w.heap.size (fun k_ => some k_ ≠ (v6 : Value).ownBlock) u4 x4_1) ∧ Aside0 (Kd.R (Kd.int .i64) 2 w' w.heap.size (fun _ => True) v6 x6_2) ∧ Aside0 (w'.heap[gb244]? = some (.cells #[(.slice A0_0 l0_0.length c0_0), .int .i64 a0_1] 24 (0, 0))) ∧ Aside0 (Below w.heap.size w w'))
    case atStart => exact ⟨(([] : List Int)), (0), qn5, H', ⟨Nat.le_refl _⟩, ⟨by (skip); exact HO_3.out⟩, ⟨by (skip); exact Kd.S_mono HO_4.out (fun _ hk => (by simp [Value.ownBlock]))⟩, ⟨by first | exact Kd.R_nil _ _ _ _ _ | exact Kd.N_nil _ _ _ _ _ | exact Kd.V_nil _ _ _ _ _ | exact Kd.Q_nil _ _ _ _ _ | exact Kd.S_nil _ _ _ _ _⟩, ⟨by (skip); exact BK244.out⟩, ⟨by (with_reducible exact HB.out)⟩⟩
    case round =>
     clear H'
     try clear p2
     try clear c5
     try clear c6
     try clear c6b0
     try clear hcz4_0
     try clear hcz4_1
     try clear hfz4_0
     try clear hfz4_1
     try clear p2
     obtain ⟨x6_2, x7_2, rfl, HA, HK2, HO_3, HO_4, HO_6, BK244, HB⟩ := hrel
     cases gk with
     | zero => exact absurd HA.out (by simp [forecourtref01_extremes.l1])
     | succ k2 =>
      have H := HA.out
      clear HA
      simp only [forecourtref01_extremes.l1] at H
      by_cases c8 : x7_2 < (t245.length : Int)
      ·rw [if_pos c8] at H
       have c8b0 : decide (x7_2 < (t245.length : Int)) = true := decide_eq_true c8
       clear c8
       by_cases c9 : x7_2 < x5_1
       ·rw [if_pos c9] at H
        have c9b0 : decide (x7_2 < x5_1) = true := decide_eq_true c9
        clear c9
        by_cases c10 : 0 ≤ x7_2
        ·rw [if_pos c10] at H
         have c10b0 : decide (0 ≤ x7_2) = true := decide_eq_true c10
         clear c10
         by_cases c11 : x6_2.length < 17592186044416
         ·rw [if_pos c11] at H
          have LMc11 := Aside0.mk c11
          clear c11
          obtain ⟨y249, hy249⟩ : ∃ y_ : List Int, y_ = (x6_2 ++ [(rd_T43 t245 x7_2).f0]) := ⟨_, rfl⟩
          replace H : (forecourtref01_extremes.l1 k2 t245 x4_1 x5_1 y249 (wrap64 (x7_2 + 1))) = some r := by first | (rw [hy249]; with_reducible exact H) | (have H2_ := (Option.bind_some _ _).symm.trans H; rw [hy249]; with_reducible exact H2_) | (have H2_ := (Option.bind_some _ _).symm.trans H; with_reducible exact H2_) | with_reducible exact H | (rw [hy249]; exact H) | exact H
          have Ny249 := Aside0.mk hy249
          clear hy249
          have H' := Aside0.mk H
          clear H
          have p248 : 0 ≤ (x7_2 : Int) := of_decide_eq_true qn0
          have q248 : x7_2 < (t245.length : Int) := of_decide_eq_true qn0
          obtain ⟨ad248, e248, hx248_0, hx248_1⟩ := at_T43 (Kd.R_reads' HO_3.out).2.2 x7_2 p248 q248
          cases e248
          replace p248 := eq_true p248
          replace q248 := eq_true q248
          go_wp2_with (first | ((with_reducible refine gate_builtin (b := .append) (xs := #[.tmp 29, .tmp 35]) rfl ?_); at_builtin; refine Kd.R_append (Kd.int .i64) (w0 := w) w.heap.size rfl (.tmp 29) (.tmp 35) 25 2 (.int .i64 0) 8 rfl Try.underlying25 info2 rfl (by decide) (by omega) u6 x6_2 ((rd_T43 t245 x7_2).f0) [.int .i64 ((rd_T43 t245 x7_2).f0)] (fun _ => True) (fun _ => False) rfl rfl ?aP (fun _ hk => hk.elim) ?aF ?aO ?aB ?aS ?aL ?_; (case aP => exact rfl); (case aB => exact qn2); (case aF => exact (fun _ _ => trivial)); (case aO => exact (by exact HO_6.out)); (case aS => exact (below_size qn2)); (case aL => have := LMc11.out; omega); intro v250 w12 ho hb hg hat; rw [← Ny249.out] at ho; have n0_ := Aside0.mk (Kd.R_over' (by exact HO_3.out) (Kd.R_typed (by exact HO_6.out)) (by decide) hg); have n1_ := Aside0.mk (Kd.S_after (ok := (fun _ => True)) qn36 hg hat); have n2_ := Aside0.mk (blk_grown (g := gb244) (o := .cells #[.slice A0_0 l0_0.length c0_0, .int .i64 a0_1] 24 (0, 0)) (by exact BK244.out) hg (Kd.R_ne HO_6.out BK244.out (by decide))); have n3_ := Aside0.mk (hb); have n4_ := Aside0.mk (ho); clear HO_3; clear HO_4; clear BK244; clear HB; clear HO_6; have HO_3 := n0_; have HO_4 := n1_; have BK244 := n2_; have HB := n3_; have HO251 := n4_; clear n0_ n1_ n2_ n3_ n4_; clear ho hb hg hat))
          go_roundg k2
          case measure => have := HK1.out; have := HK2.out; omega
          case rel => exact ⟨(y249), (wrap64 (x7_2 + 1)), qn5, H', ⟨by have := HK1.out; have := HK2.out; omega⟩, ⟨by (skip); exact HO_3.out⟩, ⟨by (skip); exact Kd.S_mono HO_4.out (fun _ hk => hk.2)⟩, ⟨by (skip); exact HO251.out⟩, ⟨by (skip); exact BK244.out⟩, ⟨by (with_reducible exact HB.out)⟩⟩
         rw [if_neg c11] at H
         exact absurd H (by simp)
        rw [if_neg c10] at H
        exact absurd H (by simp)
       rw [if_neg c9] at H
       have c9b0 : decide (x7_2 < x5_1) = false := decide_eq_false c9
       clear c9
       by_cases c13 : 0 ≤ x7_2
       ·rw [if_pos c13] at H
        have c13b0 : decide (0 ≤ x7_2) = true := decide_eq_true c13
        clear c13
        by_cases c14 : x6_2.length < 17592186044416
        ·rw [if_pos c14] at H
         have LMc14 := Aside0.mk c14
         clear c14
         obtain ⟨y253, hy253⟩ : ∃ y_ : List Int, y_ = (x6_2 ++ [(rd_T43 t245 x7_2).f1]) := ⟨_, rfl⟩
         replace H : (forecourtref01_extremes.l1 k2 t245 x4_1 x5_1 y253 (wrap64 (x7_2 + 1))) = some r := by first | (rw [hy253]; with_reducible exact H) | (have H2_ := (Option.bind_some _ _).symm.trans H; rw [hy253]; with_reducible exact H2_) | (have H2_ := (Option.bind_some _ _).symm.trans H; with_reducible exact H2_) | with_reducible exact H | (rw [hy253]; exact H) | exact H
         have Ny253 := Aside0.mk hy253
         clear hy253
         have H' := Aside0.mk H
         clear H
         have p252 : 0 ≤ (x7_2 : Int) := of_decide_eq_true qn0
         have q252 : x7_2 < (t245.length : Int) := of_decide_eq_true qn0
         obtain ⟨ad252, e252, hx252_0, hx252_1⟩ := at_T43 (Kd.R_reads' HO_3.out).2.2 x7_2 p252 q252
         cases e252
         replace p252 := eq_true p252
         replace q252 := eq_true q252
         go_wp2_with (first | ((with_reducible refine gate_builtin (b := .append) (xs := #[.tmp 37, .tmp 43]) rfl ?_); at_builtin; refine Kd.R_append (Kd.int .i64) (w0 := w) w.heap.size rfl (.tmp 37) (.tmp 43) 25 2 (.int .i64 0) 8 rfl Try.underlying25 info2 rfl (by decide) (by omega) u6 x6_2 ((rd_T43 t245 x7_2).f1) [.int .i64 ((rd_T43 t245 x7_2).f1)] (fun _ => True) (fun _ => False) rfl rfl ?aP (fun _ hk => hk.elim) ?aF ?aO ?aB ?aS ?aL ?_; (case aP => exact rfl); (case aB => exact qn2); (case aF => exact (fun _ _ => trivial)); (case aO => exact (by exact HO_6.out)); (case aS => exact (below_size qn2)); (case aL => have := LMc14.out; omega); intro v254 w15 ho hb hg hat; rw [← Ny253.out] at ho; have n0_ := Aside0.mk (Kd.R_over' (by exact HO_3.out) (Kd.R_typed (by exact HO_6.out)) (by decide) hg); have n1_ := Aside0.mk (Kd.S_after (ok := (fun _ => True)) qn36 hg hat); have n2_ := Aside0.mk (blk_grown (g := gb244) (o := .cells #[.slice A0_0 l0_0.length c0_0, .int .i64 a0_1] 24 (0, 0)) (by exact BK244.out) hg (Kd.R_ne HO_6.out BK244.out (by decide))); have n3_ := Aside0.mk (hb); have n4_ := Aside0.mk (ho); clear HO_3; clear HO_4; clear BK244; clear HB; clear HO_6; have HO_3 := n0_; have HO_4 := n1_; have BK244 := n2_; have HB := n3_; have HO255 := n4_; clear n0_ n1_ n2_ n3_ n4_; clear ho hb hg hat))
         go_roundg k2
         case measure => have := HK1.out; have := HK2.out; omega
         case rel => exact ⟨(y253), (wrap64 (x7_2 + 1)), qn5, H', ⟨by have := HK1.out; have := HK2.out; omega⟩, ⟨by (skip); exact HO_3.out⟩, ⟨by (skip); exact Kd.S_mono HO_4.out (fun _ hk => hk.2)⟩, ⟨by (skip); exact HO255.out⟩, ⟨by (skip); exact BK244.out⟩, ⟨by (with_reducible exact HB.out)⟩⟩
        rw [if_neg c14] at H
        exact absurd H (by simp)
       rw [if_neg c13] at H
       exact absurd H (by simp)
      rw [if_neg c8] at H
      have c8b0 : decide (x7_2 < (t245.length : Int)) = false := decide_eq_false c8
      clear c8
      by_cases c16 : x4_1.length < 5864062014805
      ·rw [if_pos c16] at H
       have LMc16 := Aside0.mk c16
       clear c16
       obtain ⟨y256, hy256⟩ : ∃ y_ : List (List Int), y_ = (x4_1 ++ [x6_2]) := ⟨_, rfl⟩
       replace H : (forecourtref01_extremes.l0 k2 t245 y256 (wrap64 (x5_1 + 1))) = some r := by first | (rw [hy256]; with_reducible exact H) | (have H2_ := (Option.bind_some _ _).symm.trans H; rw [hy256]; with_reducible exact H2_) | (have H2_ := (Option.bind_some _ _).symm.trans H; with_reducible exact H2_) | with_reducible exact H | (rw [hy256]; exact H) | exact H
       have Ny256 := Aside0.mk hy256
       clear hy256
       have H' := Aside0.mk H
       clear H
       obtain ⟨Ao18, co18, eo18⟩ := Kd.R_slice HO_6.out
       subst eo18
       go_wp2_with (first | ((with_reducible refine gate_builtin (b := .append) (xs := #[.tmp 45, .tmp 47]) rfl ?_); at_builtin; refine Kd.S_append (Kd.slice 2 (Kd.int .i64)) (w0 := w) w.heap.size rfl (.tmp 45) (.tmp 47) 116 25 (.slice none 0 0) 24 rfl Try.underlying116 info25 rfl (by decide) (by omega) u4 x4_1 x6_2 [.slice Ao18 x6_2.length co18] (fun _ => True) (fun k_ => some k_ = (.slice Ao18 x6_2.length co18 : Value).ownBlock) rfl rfl ?aP (fun k_ hk_ => ((Kd.R_mono (ok' := fun k_ => ((fun _ => True)) k_ ∧ some k_ ≠ (u4 : Value).ownBlock) (Kd.R_apart' (HO_6.out) (Kd.S_typed HO_4.out) (by decide)) (fun k_ hk => ⟨trivial, hk.2⟩))).1 k_ hk_.symm) ?aF ?aO ?aB ?aS ?aL ?_; (case aP => exact Kd.M_row (Kd.R_mono (Kd.R_tight rfl (Kd.R_mono (ok' := fun k_ => ((fun _ => True)) k_ ∧ some k_ ≠ (u4 : Value).ownBlock) (Kd.R_apart' (HO_6.out) (Kd.S_typed HO_4.out) (by decide)) (fun k_ hk => ⟨trivial, hk.2⟩))) (fun _ h_ => h_))); (case aB => exact qn2); (case aF => exact (fun _ _ => trivial)); (case aO => exact (by exact Kd.S_mono HO_4.out (fun k_ hk => ⟨trivial, fun e_ => hk e_⟩))); (case aS => exact (below_size qn2)); (case aL => have := LMc16.out; omega); intro v257 w17 ho hb hg hat; rw [← Ny256.out] at ho; have n0_ := Aside0.mk (Kd.R_over' (by exact HO_3.out) (Kd.S_typed (by exact HO_4.out)) (by decide) hg); have n1_ := Aside0.mk (blk_grown (g := gb244) (o := .cells #[.slice A0_0 l0_0.length c0_0, .int .i64 a0_1] 24 (0, 0)) (by exact BK244.out) hg (Kd.S_ne HO_4.out BK244.out (by decide))); have n2_ := Aside0.mk (hb); have n3_ := Aside0.mk (ho); clear HO_3; clear BK244; clear HB; clear HO_4; clear HO_6; have HO_3 := n0_; have BK244 := n1_; have HB := n2_; have HO258 := n3_; clear n0_ n1_ n2_ n3_; clear ho hb hg hat))
       go_roundg k2
       case measure => have := HK1.out; have := HK2.out; omega
       case rel => exact ⟨(y256), (wrap64 (x5_1 + 1)), qn5, H', ⟨by have := HK1.out; have := HK2.out; omega⟩, ⟨by (skip); exact HO_3.out⟩, ⟨by (skip); exact HO258.out⟩, ⟨by (skip); exact BK244.out⟩, ⟨by (with_reducible exact HB.out)⟩⟩
      rw [if_neg c16] at H
      exact absurd H (by simp)
   rw [if_neg c6] at H
   have c6b0 : decide (x5_1 ≤ (t245.length : Int)) = false := decide_eq_false c6
   clear c6
   have H' := Aside0.mk H
   clear H
   obtain ⟨Ao19, co19, eo19⟩ := Kd.R_slice HO_3.out
   subst eo19
   go_wp2
   go_loopg [4, 8] k1 (fun kq v4 v8 w' => ∃ (x4_2 : List (List Int)) (x8_2 : Int), v8 = .int .i64 x8_2 ∧ Aside0 (forecourtref01_extremes.l2 kq t245 x4_2 x8_2 = some r) ∧ Aside0 (kq ≤ k1) ∧ Aside0 (Kd.R k43 43 w' w.heap.size (fun _ => True) (.slice Ao19 t245.length co19) t245) ∧ Aside0 (Kd.S (Kd.slice 2 (Kd.int .i64)) 25 w' w.heap.size (fun _ => True) v4 x4_2) ∧ Aside0 (w'.heap[gb244]? = some (.cells #[(.slice A0_0 l0_0.length c0_0), .int .i64 a0_1] 24 (0, 0))) ∧ Aside0 (Below w.heap.size w w'))
   case atStart => exact ⟨(x4_1), (0), qn5, H', ⟨Nat.le_refl _⟩, ⟨by (skip); exact HO_3.out⟩, ⟨by (skip); exact HO_4.out⟩, ⟨by (skip); exact BK244.out⟩, ⟨by (with_reducible exact HB.out)⟩⟩
   case round =>
    clear H'
    try clear c1
    try clear p2
    try clear q2
    try clear hx2
    try clear c5
    try clear c6
    try clear c6b0
    try clear p6
    try clear c8
    try clear c8b0
    try clear c9
    try clear c9b0
    try clear c10
    try clear c10b0
    try clear c11
    try clear c13
    try clear c13b0
    try clear c14
    try clear c16
    try clear hcz4_0
    try clear hcz4_1
    try clear hfz4_0
    try clear hfz4_1
    try clear hx248_0
    try clear hx248_1
    try clear hx252_0
    try clear hx252_1
    try clear p2
    try clear p248
    try clear p252
    try clear q248
    try clear q252
    obtain ⟨x4_2, x8_2, rfl, HA, HK2, HO_3, HO_4, BK244, HB⟩ := hrel
    cases gk with
    | zero => exact absurd HA.out (by simp [forecourtref01_extremes.l2])
    | succ k2 =>
     have H := HA.out
     clear HA
     simp only [forecourtref01_extremes.l2] at H
     by_cases c20 : x8_2 < (wrap64 (2 * (t245.length : Int)))
     ·rw [if_pos c20] at H
      have c20b0 : decide (x8_2 < (wrap64 (2 * (t245.length : Int)))) = true := decide_eq_true c20
      clear c20
      obtain ⟨ji21, hji21⟩ : ∃ j_ : Int, (wrap64 (Int.tdiv x8_2 2)) = j_ := ⟨_, rfl⟩
      replace H : (if 0 ≤ (ji21) then (if (ji21) < (t245.length : Int) then (if (Int.tmod x8_2 2) = 1 then (forecourtref01_extremes.j3 k2 t245 x4_2 x8_2 ((rd_T43 t245 (ji21)).f1)) else (forecourtref01_extremes.j3 k2 t245 x4_2 x8_2 ((rd_T43 t245 (ji21)).f0))) else (none)) else (none)) = some r := by first | (rw [hji21] at H; exact H) | (simp only [hji21] at H ⊢; exact H)
      have hji21w : (IntKind.i64.wrap (Int.tdiv x8_2 2)) = ji21 := (i64_w _).trans hji21
      by_cases c22 : 0 ≤ (ji21)
      ·rw [if_pos c22] at H
       have c22b0 : decide (0 ≤ (ji21)) = true := decide_eq_true c22
       clear c22
       by_cases c23 : (ji21) < (t245.length : Int)
       ·rw [if_pos c23] at H
        have c23b0 : decide ((ji21) < (t245.length : Int)) = true := decide_eq_true c23
        clear c23
        have HC24 := Aside0.mk H
        clear H
        have p259 : 0 ≤ ((ji21) : Int) := of_decide_eq_true qn0
        have q259 : (ji21) < (t245.length : Int) := of_decide_eq_true qn0
        obtain ⟨ad259, e259, hx259_0, hx259_1⟩ := at_T43 (Kd.R_reads' HO_3.out).2.2 (ji21) p259 q259
        cases e259
        replace p259 := eq_true p259
        replace q259 := eq_true q259
        go_upto_if 64 with (fail)
        go_cut [9] (fun v9 wc => ∃ (kq : Nat) (x9_23 : Int), v9 = .int .i64 x9_23 ∧ Aside0 (forecourtref01_extremes.j3 kq t245 x4_2 x8_2 x9_23 = some r) ∧ Aside0 (kq ≤ k2) ∧ Aside0 (Kd.R k43 43 wc w.heap.size (fun _ => True) (.slice (some ad259) t245.length co19) t245) ∧ Aside0 (Kd.S (Kd.slice 2 (Kd.int .i64)) 25 wc w.heap.size (fun _ => True) u4 x4_2) ∧ Aside0 (wc.heap[gb244]? = some (.cells #[(.slice A0_0 l0_0.length c0_0), .int .i64 a0_1] 24 (0, 0))) ∧ Aside0 (Below w.heap.size w wc))
        case first =>
         have H := HC24.out
         clear HC24
         by_cases c25 : (Int.tmod x8_2 2) = 1
         ·rw [if_pos c25] at H
          have c25b0 : ((Int.tmod x8_2 2) == 1) = true := beq_iff_eq.mpr c25
          have c25b1 : ((Int.tmod x8_2 2) != 1) = false := bne_eq_false_iff_eq.mpr c25
          clear c25
          (first | rw [c25b0] | (simp only [i64_w, i32_w]; rw [c25b0]) | skip)
          have H' := Aside0.mk H
          clear H
          have p260 : 0 ≤ ((ji21) : Int) := of_decide_eq_true qn0
          have q260 : (ji21) < (t245.length : Int) := of_decide_eq_true qn0
          obtain ⟨ad260, e260, hx260_0, hx260_1⟩ := at_T43 (Kd.R_reads' HO_3.out).2.2 (ji21) p260 q260
          obtain rfl : ad259 = ad260 := (by injection e260)
          replace p260 := eq_true p260
          replace q260 := eq_true q260
          go_wp2
          go_meet
          case rel => exact ⟨_, ((rd_T43 t245 (ji21)).f1), (by first | rfl | (simp; done) | (simp only [← hji21] <;> (first | rfl | simp)) | (simp [*]; done)), H', ⟨by have := HK1.out; have := HK2.out; first | omega | exact Nat.le_refl _⟩, ⟨by (skip); exact HO_3.out⟩, ⟨by (skip); exact HO_4.out⟩, ⟨by (skip); exact BK244.out⟩, ⟨by (with_reducible exact HB.out)⟩⟩
         rw [if_neg c25] at H
         have c25b0 : ((Int.tmod x8_2 2) == 1) = false := beq_eq_false_iff_ne.mpr c25
         have c25b1 : ((Int.tmod x8_2 2) != 1) = true := bne_iff_ne.mpr c25
         (first | rw [c25b0] | (simp only [i64_w, i32_w]; rw [c25b0]) | skip)
         have H' := Aside0.mk H
         clear H
         go_wp2
         go_meet
         case rel => exact ⟨_, ((rd_T43 t245 (ji21)).f0), (by first | rfl | (simp; done) | (simp only [← hji21] <;> (first | rfl | simp)) | (simp [*]; done)), H', ⟨by have := HK1.out; have := HK2.out; first | omega | exact Nat.le_refl _⟩, ⟨by (skip); exact HO_3.out⟩, ⟨by (skip); exact HO_4.out⟩, ⟨by (skip); exact BK244.out⟩, ⟨by (with_reducible exact HB.out)⟩⟩
        case rest =>
         clear HC24
         try clear c1
         try clear c2
         try clear p2
         try clear q2
         try clear hx2
         try clear c5
         try clear c6
         try clear c6b0
         try clear p6
         try clear c8
         try clear c8b0
         try clear c9
         try clear c9b0
         try clear c10
         try clear c10b0
         try clear c11
         try clear c13
         try clear c13b0
         try clear c14
         try clear c16
         try clear c20
         try clear c20b0
         try clear c22
         try clear c22b0
         try clear c23
         try clear c23b0
         try clear p24
         try clear q24
         try clear hx24
         try clear c25
         try clear c25b0
         try clear c25b1
         try clear p25
         try clear q25
         try clear hx25
         try clear hcz4_0
         try clear hcz4_1
         try clear hfz4_0
         try clear hfz4_1
         try clear hx248_0
         try clear hx248_1
         try clear hx252_0
         try clear hx252_1
         try clear hx259_0
         try clear hx259_1
         try clear hx260_0
         try clear hx260_1
         try clear p2
         try clear p248
         try clear p252
         try clear p259
         try clear p260
         try clear p6
         try clear q2
         try clear q248
         try clear q252
         try clear q259
         try clear q260
         obtain ⟨kq, x9_23, rfl, HA, HJ23, HO_3, HO_4, BK244, HB⟩ := hcut
         cases kq with
         | zero => exact absurd HA.out (by simp [forecourtref01_extremes.j3])
         | succ kj23 =>
          have H := HA.out
          clear HA
          simp only [forecourtref01_extremes.j3] at H
          have H' := Aside0.mk H
          clear H
          go_wp2
          go_loopg [10, 11] kj23 (fun kq v10 v11 w' => ∃ (x10_4 : List Int) (x11_4 : Int), v11 = .int .i64 x11_4 ∧ Aside0 (forecourtref01_extremes.l3 kq t245 x4_2 x8_2 x9_23 x10_4 x11_4 = some r) ∧ Aside0 (kq ≤ kj23) ∧ Aside0 (Kd.R k43 43 w' w.heap.size (fun _ => True) (.slice (some ad259) t245.length co19) t245) ∧ Aside0 (Kd.S (Kd.slice 2 (Kd.int .i64)) 25 w' w.heap.size (fun k_ => some k_ ≠ (v10 : Value).ownBlock) u4 x4_2) ∧ Aside0 (Kd.R (Kd.int .i64) 2 w' w.heap.size (fun _ => True) v10 x10_4) ∧ Aside0 (w'.heap[gb244]? = some (.cells #[(.slice A0_0 l0_0.length c0_0), .int .i64 a0_1] 24 (0, 0))) ∧ Aside0 (Below w.heap.size w w'))
          case atStart => exact ⟨(([] : List Int)), (0), qn5, H', ⟨Nat.le_refl _⟩, ⟨by (skip); exact HO_3.out⟩, ⟨by (skip); exact Kd.S_mono HO_4.out (fun _ hk => (by simp [Value.ownBlock]))⟩, ⟨by first | exact Kd.R_nil _ _ _ _ _ | exact Kd.N_nil _ _ _ _ _ | exact Kd.V_nil _ _ _ _ _ | exact Kd.Q_nil _ _ _ _ _ | exact Kd.S_nil _ _ _ _ _⟩, ⟨by (skip); exact BK244.out⟩, ⟨by (with_reducible exact HB.out)⟩⟩
          case round =>
           clear H'
           try clear c1
           try clear c2
           try clear p2
           try clear q2
           try clear hx2
           try clear c5
           try clear c6
           try clear c6b0
           try clear p6
           try clear c8
           try clear c8b0
           try clear c9
           try clear c9b0
           try clear c10
           try clear c10b0
           try clear c11
           try clear c13
           try clear c13b0
           try clear c14
           try clear c16
           try clear c20
           try clear c20b0
           try clear c22
           try clear c22b0
           try clear c23
           try clear c23b0
           try clear p24
           try clear q24
           try clear hx24
           try clear c25
           try clear c25b0
           try clear c25b1
           try clear p25
           try clear q25
           try clear hx25
           try clear hcz4_0
           try clear hcz4_1
           try clear hfz4_0
           try clear hfz4_1
           try clear hx248_0
           try clear hx248_1
           try clear hx252_0
           try clear hx252_1
           try clear hx259_0
           try clear hx259_1
           try clear hx260_0
           try clear hx260_1
           try clear p2
           try clear p24
           try clear p248
           try clear p25
           try clear p252
           try clear p259
           try clear p260
           try clear p6
           try clear q2
           try clear q24
           try clear q248
           try clear q25
           try clear q252
           try clear q259
           try clear q260
           obtain ⟨x10_4, x11_4, rfl, HA, HK4, HO_3, HO_4, HO_10, BK244, HB⟩ := hrel
           cases gk with
           | zero => exact absurd HA.out (by simp [forecourtref01_extremes.l3])
           | succ k4 =>
            have H := HA.out
            clear HA
            simp only [forecourtref01_extremes.l3] at H
            by_cases c26 : x11_4 < (t245.length : Int)
            ·rw [if_pos c26] at H
             have c26b0 : decide (x11_4 < (t245.length : Int)) = true := decide_eq_true c26
             clear c26
             by_cases c27 : 0 ≤ x11_4
             ·rw [if_pos c27] at H
              have c27b0 : decide (0 ≤ x11_4) = true := decide_eq_true c27
              clear c27
              obtain ⟨ji28, hji28⟩ : ∃ j_ : Int, (mn ((rd_T43 t245 x11_4).f1) x9_23) = j_ := ⟨_, rfl⟩
              replace H : (if x10_4.length < 17592186044416 then (forecourtref01_extremes.l3 k4 t245 x4_2 x8_2 x9_23 (x10_4 ++ [mx ((rd_T43 t245 x11_4).f0) (ji28)]) (wrap64 (x11_4 + 1))) else (none)) = some r := by first | (rw [hji28] at H; exact H) | (simp only [hji28] at H ⊢; exact H)
              have hji28_ : (if x9_23 < ((rd_T43 t245 x11_4).f1) then x9_23 else ((rd_T43 t245 x11_4).f1)) = ji28 := hji28
              obtain ⟨ji29, hji29⟩ : ∃ j_ : Int, (mx ((rd_T43 t245 x11_4).f0) (ji28)) = j_ := ⟨_, rfl⟩
              replace H : (if x10_4.length < 17592186044416 then (forecourtref01_extremes.l3 k4 t245 x4_2 x8_2 x9_23 (x10_4 ++ [ji29]) (wrap64 (x11_4 + 1))) else (none)) = some r := by first | (rw [hji29] at H; exact H) | (simp only [hji29] at H ⊢; exact H)
              have hji29_ : (if ((rd_T43 t245 x11_4).f0) < (ji28) then (ji28) else ((rd_T43 t245 x11_4).f0)) = ji29 := hji29
              by_cases c30 : x10_4.length < 17592186044416
              ·rw [if_pos c30] at H
               have LMc30 := Aside0.mk c30
               clear c30
               obtain ⟨y263, hy263⟩ : ∃ y_ : List Int, y_ = (x10_4 ++ [ji29]) := ⟨_, rfl⟩
               replace H : (forecourtref01_extremes.l3 k4 t245 x4_2 x8_2 x9_23 y263 (wrap64 (x11_4 + 1))) = some r := by first | (rw [hy263]; with_reducible exact H) | (have H2_ := (Option.bind_some _ _).symm.trans H; rw [hy263]; with_reducible exact H2_) | (have H2_ := (Option.bind_some _ _).symm.trans H; with_reducible exact H2_) | with_reducible exact H | (rw [hy263]; exact H) | exact H
               have Ny263 := Aside0.mk hy263
               clear hy263
               have H' := Aside0.mk H
               clear H
               try go_wp2
               have n0_ := Aside0.mk (Kd.R_drew HO_3.out)
               have n1_ := Aside0.mk (Kd.S_drew HO_4.out)
               have n2_ := Aside0.mk (Kd.R_drew HO_10.out)
               have n3_ := Aside0.mk (blk_drew BK244.out)
               have n4_ := Aside0.mk (below_drew1 HB.out)
               clear HO_3 HO_4 HO_10 BK244 HB
               have HO_3 := n0_
               have HO_4 := n1_
               have HO_10 := n2_
               have BK244 := n3_
               have HB := n4_
               clear n0_ n1_ n2_ n3_ n4_
               have p261 : 0 ≤ (x11_4 : Int) := of_decide_eq_true qn0
               have q261 : x11_4 < (t245.length : Int) := of_decide_eq_true qn0
               obtain ⟨ad261, e261, hx261_0, hx261_1⟩ := at_T43 (Kd.R_reads' HO_3.out).2.2 x11_4 p261 q261
               obtain rfl : ad259 = ad261 := (by injection e261)
               replace p261 := eq_true p261
               replace q261 := eq_true q261
               have p262 : 0 ≤ (x11_4 : Int) := of_decide_eq_true qn0
               have q262 : x11_4 < (t245.length : Int) := of_decide_eq_true qn0
               obtain ⟨ad262, e262, hx262_0, hx262_1⟩ := at_T43 (Kd.R_reads' HO_3.out).2.2 x11_4 p262 q262
               obtain rfl : ad259 = ad262 := (by injection e262)
               replace p262 := eq_true p262
               replace q262 := eq_true q262
               refine start_ (n := 17) (S := fun w' => w'.cell? (ad259.add ((x11_4).toNat * 2)) = some (.int .i64 ((rd_T43 t245 x11_4).f0)) ∧ w'.cell? ⟨(ad259.add ((x11_4).toNat * 2)).block, (ad259.add ((x11_4).toNat * 2)).off + 1, none⟩ = some (.int .i64 ((rd_T43 t245 x11_4).f1)) ∧ w'.cell? (ad259.add ((x11_4).toNat * 2)) = some (.int .i64 ((rd_T43 t245 x11_4).f0)) ∧ w'.cell? ⟨(ad259.add ((x11_4).toNat * 2)).block, (ad259.add ((x11_4).toNat * 2)).off + 1, none⟩ = some (.int .i64 ((rd_T43 t245 x11_4).f1))) (ds := [14, 15]) #[false, false, false, false, false, false, false, false, false, false, false, false, false, false, false, false, false] (by kernel_rfl) rfl rfl ⟨hx261_0, hx261_1, hx262_0, hx262_1⟩ (fun hHeld => ?_); refine with_tabW forecourtref01_extremes.tab24 forecourtref01_extremes.bits24 (fun HT_ HW_ => ?_)
               generalize wr.drew = w31 at HO_3 HO_4 HO_10 BK244 HB hx261_0 hx261_1 hx262_0 hx262_1 hHeld ⊢
               refine pureT (i := 0) (N := some 77) HT_.out ?_
               refine pureT (i := 1) (N := some 78) HT_.out ?_
               refine pureT (i := 2) (N := some 79) HT_.out ?_
               refine pureT (i := 3) (N := some 80) HT_.out ?_
               refine pureT (i := 4) (N := some 81) HT_.out ?_
               refine pureT (i := 6) (N := some 83) HT_.out ?_
               refine pureT (i := 7) (N := some 84) HT_.out ?_
               refine pureT (i := 8) (N := some 85) HT_.out ?_
               refine pureT (i := 9) (N := some 86) HT_.out ?_
               refine pureT (i := 11) (N := some 88) HT_.out ?_
               refine takeT (i := 5) (N := some 82) HT_.out HW_.out hHeld (hy := by (rintro w' ⟨s0, s1, s2, s3⟩; go_simp; with_reducible rfl)) (h := ?_)
               refine takeT (i := 10) (N := some 87) HT_.out HW_.out hHeld (hy := by (rintro w' ⟨s0, s1, s2, s3⟩; go_simp; with_reducible rfl)) (h := ?_)
               refine pureT (i := 12) (N := some 89) HT_.out ?_
               refine pureT (i := 13) (N := some 90) HT_.out ?_
               refine last_ (i := 14) (N := some 91) #[true, true, true, true, true, true, true, true, true, true, true, true, true, true, true, false, false] rfl rfl (one_of HT_.out (by kernel_rfl)) (by decide) (fun K hK => ?_)
               refine value_ (w1 := ?_) (v := ?_) (by rfl) rfl ?_ ?_
               rotate_left 2
               ·go_simp
                constructor
                ·rfl
                rfl
               refine hK.out _ _ ?_
               clear hK K
               refine norm_ (a' := ?_) ?_ ?_
               rotate_left
               ·show Act.put _ (some 91) _ = _
                simp only [Act.put, List.setIfInBounds_toArray, List.set_cons_zero, List.set_cons_succ, i64_w, i32_w]
                rfl
               refine last_ (i := 15) (N := some 92) #[true, true, true, true, true, true, true, true, true, true, true, true, true, true, true, true, false] rfl rfl (one_of HT_.out (by kernel_rfl)) (by decide) (fun K hK => ?_)
               refine Kd.R_append_step (Kd.int .i64) (w0 := w) w.heap.size (by rfl) (.tmp 77) (.tmp 91) 25 2 (.int .i64 0) 8 rfl Try.underlying25 info2 rfl (by decide) (by omega) u10 x10_4 ji29 [.int .i64 ji29] (fun _ => True) (fun _ => False) rfl rfl ?aP (fun _ hk => hk.elim) ?aF ?aO ?aB ?aS ?aL ?_
               (case aP => exact rfl)
               (case aB => exact qn2)
               (case aF => exact (fun _ _ => trivial))
               (case aO => exact (by exact HO_10.out))
               (case aS => exact (below_size qn2))
               (case aL => have := LMc30.out; omega)
               intro v264 w32 ho hb hg hat
               rw [← Ny263.out] at ho
               have n0_ := Aside0.mk (Kd.R_over' (by exact HO_3.out) (Kd.R_typed (by exact HO_10.out)) (by decide) hg)
               have n1_ := Aside0.mk (Kd.S_after (ok := (fun _ => True)) qn36 hg hat)
               have n2_ := Aside0.mk (blk_grown (g := gb244) (o := .cells #[.slice A0_0 l0_0.length c0_0, .int .i64 a0_1] 24 (0, 0)) (by exact BK244.out) hg (Kd.R_ne HO_10.out BK244.out (by decide)))
               have n3_ := Aside0.mk (hb)
               have n4_ := Aside0.mk (ho)
               clear HO_3 HO_4 BK244 HB HO_10
               have HO_3 := n0_
               have HO_4 := n1_
               have BK244 := n2_
               have HB := n3_
               have HO265 := n4_
               clear n0_ n1_ n2_ n3_ n4_ ho hb hg hat
               refine hK.out _ _ ?_
               clear hK K
               refine norm_ (a' := ?_) ?_ ?_
               rotate_left
               ·show Act.put _ (some 92) _ = _
                simp only [Act.put, List.setIfInBounds_toArray, List.set_cons_zero, List.set_cons_succ, i64_w, i32_w]
                rfl
               refine pureT (i := 16) (N := some 10) HT_.out ?_
               refine done_ (done_of HT_.out (by kernel_rfl)) ?_
               try go_wp2
               go_roundg k4
               case measure => have := HK1.out; have := HK2.out; have := HJ23.out; have := HK4.out; omega
               case rel => exact ⟨(y263), (wrap64 (x11_4 + 1)), qn5, H', ⟨by have := HK1.out; have := HK2.out; have := HJ23.out; have := HK4.out; omega⟩, ⟨by (skip); exact HO_3.out⟩, ⟨by (skip); exact Kd.S_mono HO_4.out (fun _ hk => hk.2)⟩, ⟨by (skip); exact HO265.out⟩, ⟨by (skip); exact BK244.out⟩, ⟨by (with_reducible exact HB.out)⟩⟩
              rw [if_neg c30] at H
              exact absurd H (by simp)
             rw [if_neg c27] at H
             exact absurd H (by simp)
            rw [if_neg c26] at H
            have c26b0 : decide (x11_4 < (t245.length : Int)) = false := decide_eq_false c26
            clear c26
            by_cases c33 : x4_2.length < 5864062014805
            ·rw [if_pos c33] at H
             have LMc33 := Aside0.mk c33
             clear c33
             obtain ⟨y266, hy266⟩ : ∃ y_ : List (List Int), y_ = (x4_2 ++ [x10_4]) := ⟨_, rfl⟩
             replace H : (forecourtref01_extremes.l2 k4 t245 y266 (wrap64 (x8_2 + 1))) = some r := by first | (rw [hy266]; with_reducible exact H) | (have H2_ := (Option.bind_some _ _).symm.trans H; rw [hy266]; with_reducible exact H2_) | (have H2_ := (Option.bind_some _ _).symm.trans H; with_reducible exact H2_) | with_reducible exact H | (rw [hy266]; exact H) | exact H
             have Ny266 := Aside0.mk hy266
             clear hy266
             have H' := Aside0.mk H
             clear H
             obtain ⟨Ao35, co35, eo35⟩ := Kd.R_slice HO_10.out
             subst eo35
             go_wp2_with (first | ((with_reducible refine gate_builtin (b := .append) (xs := #[.tmp 93, .tmp 95]) rfl ?_); at_builtin; refine Kd.S_append (Kd.slice 2 (Kd.int .i64)) (w0 := w) w.heap.size rfl (.tmp 93) (.tmp 95) 116 25 (.slice none 0 0) 24 rfl Try.underlying116 info25 rfl (by decide) (by omega) u4 x4_2 x10_4 [.slice Ao35 x10_4.length co35] (fun _ => True) (fun k_ => some k_ = (.slice Ao35 x10_4.length co35 : Value).ownBlock) rfl rfl ?aP (fun k_ hk_ => ((Kd.R_mono (ok' := fun k_ => ((fun _ => True)) k_ ∧ some k_ ≠ (u4 : Value).ownBlock) (Kd.R_apart' (HO_10.out) (Kd.S_typed HO_4.out) (by decide)) (fun k_ hk => ⟨trivial, hk.2⟩))).1 k_ hk_.symm) ?aF ?aO ?aB ?aS ?aL ?_; (case aP => exact Kd.M_row (Kd.R_mono (Kd.R_tight rfl (Kd.R_mono (ok' := fun k_ => ((fun _ => True)) k_ ∧ some k_ ≠ (u4 : Value).ownBlock) (Kd.R_apart' (HO_10.out) (Kd.S_typed HO_4.out) (by decide)) (fun k_ hk => ⟨trivial, hk.2⟩))) (fun _ h_ => h_))); (case aB => exact qn2); (case aF => exact (fun _ _ => trivial)); (case aO => exact (by exact Kd.S_mono HO_4.out (fun k_ hk => ⟨trivial, fun e_ => hk e_⟩))); (case aS => exact (below_size qn2)); (case aL => have := LMc33.out; omega); intro v267 w34 ho hb hg hat; rw [← Ny266.out] at ho; have n0_ := Aside0.mk (Kd.R_over' (by exact HO_3.out) (Kd.S_typed (by exact HO_4.out)) (by decide) hg); have n1_ := Aside0.mk (blk_grown (g := gb244) (o := .cells #[.slice A0_0 l0_0.length c0_0, .int .i64 a0_1] 24 (0, 0)) (by exact BK244.out) hg (Kd.S_ne HO_4.out BK244.out (by decide))); have n2_ := Aside0.mk (hb); have n3_ := Aside0.mk (ho); clear HO_3; clear BK244; clear HB; clear HO_4; clear HO_10; have HO_3 := n0_; have BK244 := n1_; have HB := n2_; have HO268 := n3_; clear n0_ n1_ n2_ n3_; clear ho hb hg hat))
             go_roundg k4
             case measure => have := HK1.out; have := HK2.out; have := HJ23.out; have := HK4.out; omega
             case rel => exact ⟨(y266), (wrap64 (x8_2 + 1)), qn5, H', ⟨by have := HK1.out; have := HK2.out; have := HJ23.out; have := HK4.out; omega⟩, ⟨by (skip); exact HO_3.out⟩, ⟨by (skip); exact HO268.out⟩, ⟨by (skip); exact BK244.out⟩, ⟨by (with_reducible exact HB.out)⟩⟩
            rw [if_neg c33] at H
            exact absurd H (by simp)
       rw [if_neg c23] at H
       exact absurd H (by simp)
      rw [if_neg c22] at H
      exact absurd H (by simp)
     rw [if_neg c20] at H
     have c20b0 : decide (x8_2 < (wrap64 (2 * (t245.length : Int)))) = false := decide_eq_false c20
     clear c20
     obtain rfl := Option.some.inj H
     go_wp2
     go_ret
     exact ⟨_, by first | rfl | (simp [errW_none, errW_some] <;> rfl) | (simp [*, errW_none, errW_some] <;> rfl), by (skip); exact HO_4.out, by (with_reducible exact HB.out)⟩
end Go.Proofs.Ytpkajhmchcbbhaa.P
end
