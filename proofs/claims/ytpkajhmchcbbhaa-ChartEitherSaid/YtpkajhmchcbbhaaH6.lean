/- Part 6 of 38. -/
import Derived.Test.YtpkajhmchcbbhaaH0
import Derived.Test.YtpkajhmchcbbhaaH5
import Derived.Test.YtpkajhmchcbbhaaH4
set_option linter.unusedSimpArgs false
set_option linter.unusedVariables false
section
namespace Go.Proofs.Ytpkajhmchcbbhaa.P
open Go.RowKit Go.Proofs.YtpkajhmchcbbhaaW.PrintWords Go.Proofs.YtpkajhmchcbbhaaW.PrintLast Go.Proofs.YtpkajhmchcbbhaaW.PrintMore
attribute [local go_sem] max2_int min2_int max_two min_two max_three min_three max_four min_four
def forecourtlaw01_dented.f  : Option ((List (S70)) × Int) := (forecourtlaw01_Tank.f).bind fun bt208 => ((forecourtlaw01_Row.f 100 950 1000).bind fun bt213 => (if 1 < (bt208.1.length : Int) then (some ((bt208.1.set (1 : Int).toNat (⟨bt213.1, (⟨bt213.2.1, bt213.2.2⟩ : S43)⟩ : S70)), bt208.2)) else (none)))
set_option maxHeartbeats 8000000 in
set_option maxRecDepth 100000 in
theorem forecourtlaw01_dented.calls  (r1 : List (S70)) (r2 : Int) (w : World) (h : forecourtlaw01_dented.f  = some (r1, r2)) :
  Calls Try.prog 53 #[] w fun e w' => ∃ v0_ : Value, e = .returned (.agg #[v0_, .int .i64 r2]) ∧ Kd.R k70 70 w' w.heap.size (fun _ => True) v0_ r1 ∧ Below w.heap.size w w' := by
 have hu24 := Try.underlying24
 have hu70 := Try.underlying70
 have HB := Aside0.mk (Below.refl w.heap.size w)
 have H : ((forecourtlaw01_Tank.f).bind fun bt208 => ((forecourtlaw01_Row.f 100 950 1000).bind fun bt213 => (if 1 < (bt208.1.length : Int) then (some ((bt208.1.set (1 : Int).toNat (⟨bt213.1, (⟨bt213.2.1, bt213.2.2⟩ : S43)⟩ : S70)), bt208.2)) else (none)))) = some (r1, r2) := h
 clear h
 replace H := Option.bind_eq_some_iff.mp H
 obtain ⟨⟨t208, t211⟩, A10, H⟩ := H
 replace H : ((forecourtlaw01_Row.f 100 950 1000).bind fun bt213 => (if 1 < (t208.length : Int) then (some ((t208.set (1 : Int).toNat (⟨bt213.1, (⟨bt213.2.1, bt213.2.2⟩ : S43)⟩ : S70)), t211)) else (none))) = some (r1, r2) := H
 have A1 := Aside0.mk A10
 clear A10
 replace H := Option.bind_eq_some_iff.mp H
 obtain ⟨⟨t213, t214, t215⟩, A20, H⟩ := H
 replace H : (if 1 < (t208.length : Int) then (some ((t208.set (1 : Int).toNat (⟨t213, (⟨t214, t215⟩ : S43)⟩ : S70)), t211)) else (none)) = some (r1, r2) := H
 have A2 := Aside0.mk A20
 clear A20
 by_cases c3 : 1 < (t208.length : Int)
 ·rw [if_pos c3] at H
  have c3b0 : decide (1 < (t208.length : Int)) = true := decide_eq_true c3
  have c3b1 : decide (1 < t208.length) = true := decide_eq_true (by omega)
  clear c3
  obtain ⟨y216, hy216⟩ : ∃ y_ : List (S70), y_ = (t208.set (1 : Int).toNat (⟨t213, (⟨t214, t215⟩ : S43)⟩ : S70)) := ⟨_, rfl⟩
  replace H : (some (y216, t211)) = some (r1, r2) := by first | (rw [hy216]; with_reducible exact H) | (have H2_ := (Option.bind_some _ _).symm.trans H; rw [hy216]; with_reducible exact H2_) | (have H2_ := (Option.bind_some _ _).symm.trans H; with_reducible exact H2_) | with_reducible exact H | (rw [hy216]; exact H) | exact H
  have Ny216 := Aside0.mk hy216
  clear hy216
  simp only [Option.some.injEq, Prod.mk.injEq] at H
  obtain ⟨rfl, rfl⟩ := H
  go_enter Try.func53, Try.ntmps53
  try go_wp2_with (first | ((with_reducible refine gate_dst (N := 0) rfl ?_); refine box_event ?hg (N := 0) ?hd (cs := #[.slice none 0 0, .int .i64 0]) (t := 24) ?hr ?_; (case hd => rfl); (case hg => rfl); (case hr => first | (go_simp; done) | (go_simp; rfl)); intro gb207 hg w5 hbox hb; have n0_ := Aside0.mk (below_step qh0 hb); have n1_ := Aside0.mk (hbox); have n2_ := Aside0.mk ((by rw [hg]; exact (below_size qh0) : w.heap.size ≤ gb207)); have n3_ := Aside0.mk ((by rw [hg]; exact (below_size qh0) : w.heap.size ≤ gb207)); clear HB; have HB := n0_; have BK207 := n1_; have GW207 := n2_; have GE207 := n3_; clear n0_ n1_ n2_ n3_; clear hb hbox hg) | ((with_reducible refine gate_callee (f := 51) rfl ?_); refine goesL_ (some 2) rfl rfl Try.func51 (by kernel_rfl) rfl #[] rfl qh3 ?_; (with_reducible refine (forecourtlaw01_Tank.calls  t208 t211 _ A1.out).mono ?_); rintro e w6 ⟨v209, rfl, ho0, hb⟩; refine ⟨_, rfl, ?_⟩; have n0_ := Aside0.mk (Kd.R_lower ho0 (below_size qh7)); have n1_ := Aside0.mk (blk_below (g := gb207) (o := .cells #[.slice none 0 0, .int .i64 0] 24 (0, 0)) qh17 hb); have n2_ := Aside0.mk (below_step qh7 hb); clear BK207; clear HB; have HO210 := n0_; have BK207 := n1_; have HB := n2_; clear n0_ n1_ n2_; (try clear hb); (try clear hb2); (try clear hk); (try clear hi); (try clear ho0)) | ((with_reducible refine gate_dst (N := 1) rfl ?_); refine box_event ?hg (N := 1) ?hd (cs := #[.slice none 0 0, .int .i64 0]) (t := 24) ?hr ?_; (case hd => rfl); (case hg => rfl); (case hr => first | (go_simp; done) | (go_simp; rfl)); intro gb212 hg w7 hbox hb; have n0_ := Aside0.mk (Kd.R_below (by (with_reducible repeat (first | apply Kd.R_alloc | apply Kd.R_drewN | apply Kd.R_drew)); exact HO210.out) hb); have n1_ := Aside0.mk (blk_below (g := gb207) (o := .cells #[.slice none 0 0, .int .i64 0] 24 (0, 0)) qh17 hb); have n2_ := Aside0.mk (below_step qh7 hb); have n3_ := Aside0.mk (hbox); have n4_ := Aside0.mk ((by rw [hg]; exact (below_size qh7) : w.heap.size ≤ gb212)); have n5_ := Aside0.mk ((by rw [hg]; exact (below_size qh7) : w.heap.size ≤ gb212)); have n6_ := Aside0.mk ((by rw [hg]; exact Nat.ne_of_lt (blk_lt (g := gb207) (o := .cells #[.slice none 0 0, .int .i64 0] 24 (0, 0)) qh17) : gb207 ≠ gb212)); have n7_ := Aside0.mk ((by rw [hg]; exact Nat.ne_of_gt (blk_lt (g := gb207) (o := .cells #[.slice none 0 0, .int .i64 0] 24 (0, 0)) qh17) : gb212 ≠ gb207)); clear HO210; clear BK207; clear HB; have HO210 := n0_; have BK207 := n1_; have HB := n2_; have BK212 := n3_; have GW212 := n4_; have GE212 := n5_; have NB207_212 := n6_; have NB212_207 := n7_; clear n0_ n1_ n2_ n3_ n4_ n5_ n6_ n7_; clear hb hbox hg; obtain ⟨Ao8, co8, eo8⟩ := Kd.R_slice HO210.out; subst eo8; have hnb9 := NB212_207.out; have hnc9 := NB207_212.out; have hcz10_0 : w7.cell? ⟨gb212, 0, none⟩ = some (.slice none 0 0) := (blk_cell BK212.out 0).trans rfl; have hcz10_1 : w7.cell? ⟨gb212, 1, none⟩ = some (.int .i64 0) := (blk_cell BK212.out 1).trans rfl; have hfz10_0 := blk_frozen BK212.out 0; have hfz10_1 := blk_frozen BK212.out 1))
  have n0_ : Aside0 (Kd.R k70 70 ((w7.setCell ⟨gb212, 0, none⟩ (.slice Ao8 t208.length co8)).setCell ⟨gb212, 1, none⟩ (.int .i64 t211)) w.heap.size (fun _ => True) (.slice Ao8 t208.length co8) t208) := ⟨by (with_reducible repeat (first | apply Kd.R_alloc | apply Kd.R_drewN | apply Kd.R_drew)); exact Kd.R_mono (Kd.R_far (p := ⟨gb212, 1, none⟩) (Kd.R_far (p := ⟨gb212, 0, none⟩) (Kd.R_types HO210.out BK212.out (by decide)) (fun _ hk => hk.2) (.slice Ao8 t208.length co8)) (fun _ hk => hk.2) (.int .i64 t211)) (fun _ hk => trivial)⟩
  have n1_ : Aside0 (((w7.setCell ⟨gb212, 0, none⟩ (.slice Ao8 t208.length co8)).setCell ⟨gb212, 1, none⟩ (.int .i64 t211)).heap[gb207]? = some (.cells #[.slice none 0 0, .int .i64 0] 24 (0, 0))) := ⟨by (with_reducible repeat (first | refine blk_drewN ?_ _ | refine blk_drew ?_ | refine blk_alloc ?_ _)); refine blk_far ?_ NB207_212.out _; (with_reducible repeat (first | refine blk_drewN ?_ _ | refine blk_drew ?_ | refine blk_alloc ?_ _)); refine blk_far ?_ NB207_212.out _; (with_reducible repeat (first | refine blk_drewN ?_ _ | refine blk_drew ?_ | refine blk_alloc ?_ _)); exact BK207.out⟩
  have n2_ : Aside0 (((w7.setCell ⟨gb212, 0, none⟩ (.slice Ao8 t208.length co8)).setCell ⟨gb212, 1, none⟩ (.int .i64 t211)).heap[gb212]? = some (.cells #[.slice Ao8 t208.length co8, .int .i64 t211] 24 (0, 0))) := ⟨by (with_reducible repeat (first | refine blk_drewN ?_ _ | refine blk_drew ?_ | refine blk_alloc ?_ _)); refine blk_put (cs := #[.slice Ao8 t208.length co8, .int .i64 0]) ?_ 1 _ rfl; (with_reducible repeat (first | refine blk_drewN ?_ _ | refine blk_drew ?_ | refine blk_alloc ?_ _)); refine blk_put (cs := #[.slice none 0 0, .int .i64 0]) ?_ 0 _ rfl; (with_reducible repeat (first | refine blk_drewN ?_ _ | refine blk_drew ?_ | refine blk_alloc ?_ _)); exact BK212.out⟩
  have n3_ : Aside0 (Below w.heap.size w ((w7.setCell ⟨gb212, 0, none⟩ (.slice Ao8 t208.length co8)).setCell ⟨gb212, 1, none⟩ (.int .i64 t211))) := ⟨by repeat (first | (with_reducible first | exact HB.out | apply below_alloc | apply pw_below_drewN | apply below_drew1 | refine below_set ?_ GE207.out | refine below_set ?_ GE212.out) | exact HB.out)⟩
  (try clear HO210)
  (try clear BK207)
  (try clear BK212)
  (try clear HB)
  generalize ((w7.setCell ⟨gb212, 0, none⟩ (.slice Ao8 t208.length co8)).setCell ⟨gb212, 1, none⟩ (.int .i64 t211)) = w11 at n0_ n1_ n2_ n3_ ⊢
  have HO210 := n0_
  have BK207 := n1_
  have BK212 := n2_
  have HB := n3_
  clear n0_ n1_ n2_ n3_
  have n0_ := Aside0.mk (Kd.R_drew HO210.out)
  have n1_ := Aside0.mk (blk_drew BK207.out)
  have n2_ := Aside0.mk (blk_drew BK212.out)
  have n3_ := Aside0.mk (below_drew1 HB.out)
  clear HO210 BK207 BK212 HB
  have HO210 := n0_
  have BK207 := n1_
  have BK212 := n2_
  have HB := n3_
  clear n0_ n1_ n2_ n3_
  refine start_ (n := 5) (S := fun w' => w'.cell? ⟨gb212, 0, none⟩ = some (.slice Ao8 t208.length co8) ∧ w'.cell? ⟨gb212, 1, none⟩ = some (.int .i64 t211)) (ds := [4]) #[false, false, false, false, false] (by kernel_rfl) rfl rfl ⟨(blk_cell BK212.out 0).trans rfl, (blk_cell BK212.out 1).trans rfl⟩ (fun hHeld => ?_)
  generalize w11.drew = w12 at HO210 BK207 BK212 HB hHeld ⊢
  refine pure_ (i := 0) (N := some 3) (v := ?_) (a' := ?_) #[true, false, false, false, false] rfl rfl (by kernel_rfl) (fun _ _ _ h => h) (Or.inl ⟨by rfl, ?_⟩) ?_ ?_
  rotate_left
  ·intro w'
   go_simp
   with_reducible rfl
  rotate_left
  ·simp only [Act.put, List.setIfInBounds_toArray, List.set_cons_zero, List.set_cons_succ, i64_w, i32_w]
   rfl
  refine take_ (i := 1) (N := some 4) (v := ?_) (a' := ?_) #[true, true, false, false, false] rfl rfl (by kernel_rfl) (fun _ _ _ h => h) (Or.inl ⟨by rfl, ?_⟩) hHeld ?_ ?_
  rotate_left
  ·rintro w' ⟨s0, s1⟩
   go_simp
   with_reducible rfl
  rotate_left
  ·simp only [Act.put, List.setIfInBounds_toArray, List.set_cons_zero, List.set_cons_succ, i64_w, i32_w]
   rfl
  refine one_ (i := 2) (N := some 5) #[true, true, true, false, false] rfl rfl (by kernel_rfl) (by decide) (fun K hK => ?_)
  refine goes_ Try.func46 (by kernel_rfl) rfl #[.int .i64 100, .int .i64 950, .int .i64 1000] (by rfl) rfl rfl qh3 ?_
  with_reducible refine (forecourtlaw01_Row.calls 100 950 1000 t213 t214 t215 _ A2.out).mono ?_
  rintro e w13 ⟨rfl, hb⟩
  refine ⟨_, rfl, ?_⟩
  have n0_ := Aside0.mk (Kd.R_below (by (with_reducible repeat (first | apply Kd.R_alloc | apply Kd.R_drewN | apply Kd.R_drew)); exact HO210.out) hb)
  have n1_ := Aside0.mk (blk_below (g := gb207) (o := .cells #[.slice none 0 0, .int .i64 0] 24 (0, 0)) qh17 hb)
  have n2_ := Aside0.mk (blk_below (g := gb212) (o := .cells #[.slice Ao8 t208.length co8, .int .i64 t211] 24 (0, 0)) (by (with_reducible repeat (first | refine blk_drewN ?_ _ | refine blk_drew ?_ | refine blk_alloc ?_ _)); exact BK212.out) hb)
  have n3_ := Aside0.mk (below_step (by repeat (first | (with_reducible first | exact HB.out | apply below_alloc | apply pw_below_drewN | apply below_drew1 | refine below_set ?_ GE207.out | refine below_set ?_ GE212.out) | exact HB.out)) hb)
  clear HO210 BK207 BK212 HB
  have HO210 := n0_
  have BK207 := n1_
  have BK212 := n2_
  have HB := n3_
  clear n0_ n1_ n2_ n3_
  (try clear hb)
  (try clear hb2)
  (try clear hk)
  (try clear hi)
  have p4 : 0 ≤ (1 : Int) := (by omega)
  have q4 : (1 : Int) < ((t208.length : Int) : Int) := of_decide_eq_true qh1
  have qi4 : (1 < t208.length) = True := eq_true (by omega)
  obtain ⟨go4, co4, eo4, gb4, gl4, cl4, HG4⟩ := Kd.R_form HO210.out (by omega)
  (first | cases eo4 | (injection eo4 with ea_ en_ ec_; (first | subst ea_ | (injection ea_ with ea_; subst ea_)); subst ec_; clear en_))
  have GB4 := Aside0.mk gb4
  have GG4 := Aside0.mk HG4
  clear gb4 gl4 HG4
  obtain ⟨ce4, hcl4, hM4, hcc4, hfr4⟩ := Kd.R_elem HO210.out z70 (1 : Int) p4 q4
  obtain rfl := k70_openM hM4
  have hx4_0 : World.cell? _ ⟨go4, (1 : Int).toNat * 3, none⟩ = some (.int .i64 ((rd_T70 t208 1).f0)) := hcc4 0 _ rfl
  have hx4_1 : World.cell? _ ⟨go4, (1 : Int).toNat * 3 + 1, none⟩ = some (.int .i64 ((rd_T70 t208 1).f1.f0)) := hcc4 1 _ rfl
  have hx4_2 : World.cell? _ ⟨go4, (1 : Int).toNat * 3 + 2, none⟩ = some (.int .i64 ((rd_T70 t208 1).f1.f1)) := hcc4 2 _ rfl
  have hf4_0 : World.frozen? _ ⟨go4, (1 : Int).toNat * 3, none⟩ = false := hfr4 0
  have hf4_1 : World.frozen? _ ⟨go4, (1 : Int).toNat * 3 + 1, none⟩ = false := hfr4 1
  have hf4_2 : World.frozen? _ ⟨go4, (1 : Int).toNat * 3 + 2, none⟩ = false := hfr4 2
  clear hcl4 hcc4 hfr4 hM4
  (try rw [show ((1 : Int)).toNat = 1 from rfl] at hx4_0)
  (try simp only [Nat.reduceMul, Nat.zero_mul, Nat.zero_add, Nat.reduceAdd] at hx4_0)
  (try rw [show ((1 : Int)).toNat = 1 from rfl] at hf4_0)
  (try simp only [Nat.reduceMul, Nat.zero_mul, Nat.zero_add, Nat.reduceAdd] at hf4_0)
  (try rw [show ((1 : Int)).toNat = 1 from rfl] at hx4_1)
  (try simp only [Nat.reduceMul, Nat.zero_mul, Nat.zero_add, Nat.reduceAdd] at hx4_1)
  (try rw [show ((1 : Int)).toNat = 1 from rfl] at hf4_1)
  (try simp only [Nat.reduceMul, Nat.zero_mul, Nat.zero_add, Nat.reduceAdd] at hf4_1)
  (try rw [show ((1 : Int)).toNat = 1 from rfl] at hx4_2)
  (try simp only [Nat.reduceMul, Nat.zero_mul, Nat.zero_add, Nat.reduceAdd] at hx4_2)
  (try rw [show ((1 : Int)).toNat = 1 from rfl] at hf4_2)
  (try simp only [Nat.reduceMul, Nat.zero_mul, Nat.zero_add, Nat.reduceAdd] at hf4_2)
  replace p4 := eq_true p4
  replace q4 := eq_true q4
  obtain ⟨ce14, hcl14, hM14, hcc14, hfr14⟩ := Kd.R_elem HO210.out z70 (1 : Int) (by omega) (by have h_ : (1 : Int) < ((t208.length : Int) : Int) := of_decide_eq_true qh1; first | exact h_ | (have e_ := (Kd.R_reads' HO210.out).1; omega) | simpa using h_)
  obtain rfl := k70_openM hM14
  have HP14 := (Kd.R_seg HO210.out (1 : Int) (by omega) (by have h_ : (1 : Int) < ((t208.length : Int) : Int) := of_decide_eq_true qh1; first | exact h_ | (have e_ := (Kd.R_reads' HO210.out).1; omega) | simpa using h_) (seg := [.int .i64 t213, .int .i64 t214, .int .i64 t215]) (j := 0) hcl14 hcc14 (show 3 ≤ 3 from by decide) (x' := (⟨t213, (⟨t214, t215⟩ : S43)⟩ : S70)) (k70_mkM _ _ _ (⟨t213, (⟨t214, t215⟩ : S43)⟩ : S70) ) (fun _ hk => hk)).1
  rw [← Ny216.out] at HP14
  have HQ14 := Aside0.mk HP14
  clear hcl14 hcc14 hfr14 hM14 HP14
  refine hK.out _ _ ⟨(blk_cell BK212.out 0).trans rfl, (blk_cell BK212.out 1).trans rfl⟩ (fun hHeld => ?_)
  clear hK K
  refine norm_ (a' := ?_) ?_ ?_
  rotate_left
  ·show Act.put _ (some 5) _ = _
   simp only [Act.put, List.setIfInBounds_toArray, List.set_cons_zero, List.set_cons_succ, i64_w, i32_w]
   rfl
  refine pure_ (i := 3) (N := some 6) (v := ?_) (a' := ?_) #[true, true, true, true, false] rfl rfl (by kernel_rfl) (fun _ _ _ h => h) (Or.inl ⟨by rfl, ?_⟩) ?_ ?_
  rotate_left
  ·intro w'
   go_simp
   with_reducible rfl
  rotate_left
  ·simp only [Act.put, List.setIfInBounds_toArray, List.set_cons_zero, List.set_cons_succ, i64_w, i32_w]
   rfl
  refine last_ (i := 4) (N := none) #[true, true, true, true, true] rfl rfl (by kernel_rfl) (by decide) (fun K hK => ?_)
  refine skip_ (w1 := ?_) (by rfl) rfl ?_ ?_
  rotate_left
  ·go_simp
   rfl
  refine hK.out _ _ ?_
  clear hK K
  refine done_ (by kernel_rfl) ?_
  have n0_ : Aside0 (Kd.R k70 70 (((w13.setCell ⟨go4, 3, none⟩ (.int .i64 t213)).setCell ⟨go4, 4, none⟩ (.int .i64 t214)).setCell ⟨go4, 5, none⟩ (.int .i64 t215)) w.heap.size (fun _ => True) (.slice (some ⟨go4, 0, none⟩) t208.length co8) y216) := ⟨by (with_reducible repeat (first | apply Kd.R_alloc | apply Kd.R_drewN | apply Kd.R_drew)); exact HQ14.out⟩
  have n1_ : Aside0 ((((w13.setCell ⟨go4, 3, none⟩ (.int .i64 t213)).setCell ⟨go4, 4, none⟩ (.int .i64 t214)).setCell ⟨go4, 5, none⟩ (.int .i64 t215)).heap[gb207]? = some (.cells #[.slice none 0 0, .int .i64 0] 24 (0, 0))) := ⟨by (with_reducible repeat (first | refine blk_drewN ?_ _ | refine blk_drew ?_ | refine blk_alloc ?_ _)); refine blk_far ?_ qh26 _; (with_reducible repeat (first | refine blk_drewN ?_ _ | refine blk_drew ?_ | refine blk_alloc ?_ _)); refine blk_far ?_ qh26 _; (with_reducible repeat (first | refine blk_drewN ?_ _ | refine blk_drew ?_ | refine blk_alloc ?_ _)); refine blk_far ?_ qh26 _; (with_reducible repeat (first | refine blk_drewN ?_ _ | refine blk_drew ?_ | refine blk_alloc ?_ _)); exact BK207.out⟩
  have n2_ : Aside0 ((((w13.setCell ⟨go4, 3, none⟩ (.int .i64 t213)).setCell ⟨go4, 4, none⟩ (.int .i64 t214)).setCell ⟨go4, 5, none⟩ (.int .i64 t215)).heap[gb212]? = some (.cells #[.slice (some ⟨go4, 0, none⟩) t208.length co8, .int .i64 t211] 24 (0, 0))) := ⟨by (with_reducible repeat (first | refine blk_drewN ?_ _ | refine blk_drew ?_ | refine blk_alloc ?_ _)); refine blk_far ?_ qh25 _; (with_reducible repeat (first | refine blk_drewN ?_ _ | refine blk_drew ?_ | refine blk_alloc ?_ _)); refine blk_far ?_ qh25 _; (with_reducible repeat (first | refine blk_drewN ?_ _ | refine blk_drew ?_ | refine blk_alloc ?_ _)); refine blk_far ?_ qh25 _; (with_reducible repeat (first | refine blk_drewN ?_ _ | refine blk_drew ?_ | refine blk_alloc ?_ _)); exact BK212.out⟩
  have n3_ : Aside0 (Below w.heap.size w (((w13.setCell ⟨go4, 3, none⟩ (.int .i64 t213)).setCell ⟨go4, 4, none⟩ (.int .i64 t214)).setCell ⟨go4, 5, none⟩ (.int .i64 t215))) := ⟨by repeat (first | (with_reducible first | exact HB.out | apply below_alloc | apply pw_below_drewN | apply below_drew1 | refine below_set ?_ GB4.out | refine below_set ?_ GB4.out | refine below_set ?_ GB4.out | refine below_set ?_ GE207.out | refine below_set ?_ GE212.out) | exact HB.out)⟩
  (try clear HO210)
  (try clear BK207)
  (try clear BK212)
  (try clear HB)
  generalize (((w13.setCell ⟨go4, 3, none⟩ (.int .i64 t213)).setCell ⟨go4, 4, none⟩ (.int .i64 t214)).setCell ⟨go4, 5, none⟩ (.int .i64 t215)) = w15 at n0_ n1_ n2_ n3_ ⊢
  have HO210 := n0_
  have BK207 := n1_
  have BK212 := n2_
  have HB := n3_
  clear n0_ n1_ n2_ n3_
  have hcz16_0 : w15.cell? ⟨gb212, 0, none⟩ = some (.slice (some ⟨go4, 0, none⟩) t208.length co8) := (blk_cell BK212.out 0).trans rfl
  have hcz16_1 : w15.cell? ⟨gb212, 1, none⟩ = some (.int .i64 t211) := (blk_cell BK212.out 1).trans rfl
  have hfz16_0 := blk_frozen BK212.out 0
  have hfz16_1 := blk_frozen BK212.out 1
  have hcz17_0 : w15.cell? ⟨gb207, 0, none⟩ = some (.slice none 0 0) := (blk_cell BK207.out 0).trans rfl
  have hcz17_1 : w15.cell? ⟨gb207, 1, none⟩ = some (.int .i64 0) := (blk_cell BK207.out 1).trans rfl
  have hfz17_0 := blk_frozen BK207.out 0
  have hfz17_1 := blk_frozen BK207.out 1
  try go_wp2
  refine bodyPost_ret (results_cell_row rfl _ _ gb207 24 #[.slice (some ⟨go4, 0, none⟩) t208.length co8, .int .i64 t211] (0, 0) _ rfl (by (with_reducible repeat (first | refine blk_drewN ?_ _ | refine blk_drew ?_ | refine blk_alloc ?_ _)); refine blk_put (cs := #[.slice (some ⟨go4, 0, none⟩) t208.length co8, .int .i64 0]) ?_ 1 _ rfl; (with_reducible repeat (first | refine blk_drewN ?_ _ | refine blk_drew ?_ | refine blk_alloc ?_ _)); refine blk_put (cs := #[.slice none 0 0, .int .i64 0]) ?_ 0 _ rfl; (with_reducible repeat (first | refine blk_drewN ?_ _ | refine blk_drew ?_ | refine blk_alloc ?_ _)); exact BK207.out) Try.underlying24 rfl (by kernel_rfl)) rfl ?_
  exact ⟨_, by first | rfl | (simp [errW_none, errW_some] <;> rfl) | (simp [*, errW_none, errW_some] <;> rfl), by (with_reducible repeat (first | apply Kd.R_alloc | apply Kd.R_drewN | apply Kd.R_drew)); exact Kd.R_mono (Kd.R_far (p := ⟨gb207, 1, none⟩) (Kd.R_far (p := ⟨gb207, 0, none⟩) (Kd.R_types HO210.out BK207.out (by decide)) (fun _ hk => hk.2) (.slice (some ⟨go4, 0, none⟩) t208.length co8)) (fun _ hk => hk.2) (.int .i64 t211)) (fun _ hk => trivial), by repeat (first | (with_reducible first | exact HB.out | apply below_alloc | apply pw_below_drewN | apply below_drew1 | refine below_set ?_ GE207.out | refine below_set ?_ GE212.out) | exact HB.out)⟩
 rw [if_neg c3] at H
 exact absurd H (by simp)
end Go.Proofs.Ytpkajhmchcbbhaa.P
end
section
namespace Go.Proofs.Ytpkajhmchcbbhaa.P
open Go.RowKit Go.Proofs.YtpkajhmchcbbhaaW.PrintWords Go.Proofs.YtpkajhmchcbbhaaW.PrintLast Go.Proofs.YtpkajhmchcbbhaaW.PrintMore
attribute [local go_sem] max2_int min2_int max_two min_two max_three min_three max_four min_four
theorem eqA43 (d : Nat) (w : World) (x0 y0 : Int) (x1 y1 : Int) :
  (Op.equalIn (d + 2) 43 (.agg #[.int .i64 x0, .int .i64 x1]) (.agg #[.int .i64 y0, .int .i64 y1])).run Try.prog w = .ok (x0 == y0 && (x1 == y1)) w := by
 refine eqA_of Try.underlying43 (by kernel_rfl) ?_
 refine eqf_cons (by rfl) (by go_simp; rfl) (by go_simp; rfl) (by go_simp) ?_
 exact eqf_last (by rfl) (by go_simp; rfl) (by go_simp; rfl) (by go_simp)
end Go.Proofs.Ytpkajhmchcbbhaa.P
end
section
namespace Go.Proofs.Ytpkajhmchcbbhaa.P
open Go.RowKit Go.Proofs.YtpkajhmchcbbhaaW.PrintWords Go.Proofs.YtpkajhmchcbbhaaW.PrintLast Go.Proofs.YtpkajhmchcbbhaaW.PrintMore
attribute [local go_sem] max2_int min2_int max_two min_two max_three min_three max_four min_four
attribute [local go_sem high] eqA43
def forecourtlaw01_ranges.l0 : Nat → List (S43) → List (S43) → Int → Option (Bool)
 | 0, _, _, _ => none
 | k + 1, x0, x1, x5 => if x5 < (x0.length : Int) then (if 0 ≤ x5 then (if x5 < (x1.length : Int) then (if (!(((rd_T43 x0 x5).f0) == ((rd_T43 x1 x5).f0)) || (!(((rd_T43 x0 x5).f1) == ((rd_T43 x1 x5).f1)))) = true then (some false) else (forecourtlaw01_ranges.l0 k x0 x1 (wrap64 (x5 + 1)))) else (none)) else (none)) else (some true)
def forecourtlaw01_ranges.f (k : Nat) (l0 : List (S43)) (l1 : List (S43)) : Option (Bool) := if (l0.length : Int) = (l1.length : Int) then (forecourtlaw01_ranges.l0 k l0 l1 0) else (some false)
set_option maxHeartbeats 8000000 in
set_option maxRecDepth 100000 in
theorem forecourtlaw01_ranges.calls (k : Nat) (A0 : Option Addr) (c0 : Nat) (l0 : List (S43)) (A1 : Option Addr) (c1 : Nat) (l1 : List (S43)) (r : Bool) (w : World) (hr0 : Kd.C k43 w A0 l0.length l0) (hc0 : l0.length ≤ c0) (hr1 : Kd.C k43 w A1 l1.length l1) (hc1 : l1.length ≤ c1) (h : forecourtlaw01_ranges.f k l0 l1 = some r) :
  Calls Try.prog 25 #[.slice A0 l0.length c0, .slice A1 l1.length c1] w fun e w' => e = .returned (.bool r) ∧ Drawn0 w w' := by
 have hu43 := Try.underlying43
 have HR0 := Aside0.mk hr0
 have HC0 := Aside0.mk hc0
 clear hr0 hc0
 have HR1 := Aside0.mk hr1
 have HC1 := Aside0.mk hc1
 clear hr1 hc1
 have H : (if (l0.length : Int) = (l1.length : Int) then (forecourtlaw01_ranges.l0 k l0 l1 0) else (some false)) = some r := h
 clear h
 by_cases c3 : (l0.length : Int) = (l1.length : Int)
 ·rw [if_pos c3] at H
  have c3b0 : ((l0.length : Int) == (l1.length : Int)) = true := beq_iff_eq.mpr c3
  have c3b1 : ((l0.length : Int) != (l1.length : Int)) = false := bne_eq_false_iff_eq.mpr c3
  have c3b2 : (l0.length == l1.length) = true := by first | simpa using c3 | (simp at c3 ⊢; omega)
  clear c3
  have H' := Aside0.mk H
  clear H
  go_enter Try.func25, Try.ntmps25
  go_wp2
  repeat (go_quiet (fail); try go_wp2)
  go_loopg [5] k (fun kq v5 w' => ∃ (x5_1 : Int), v5 = .int .i64 x5_1 ∧ Aside0 (forecourtlaw01_ranges.l0 kq l0 l1 x5_1 = some r) ∧ Aside0 (kq ≤ k) ∧ Drawn0 w w')
  case atStart => exact ⟨(0), qh4, H', ⟨Nat.le_refl _⟩, by repeat (first | exact Drawn0.refl _ | apply Drawn0.step)⟩
  case round =>
   clear H'
   try clear c1
   try clear c2
   try clear p2
   try clear c3
   try clear c3b0
   try clear c3b1
   try clear c3b2
   obtain ⟨x5_1, rfl, HA, HK1, ⟨m1, rfl⟩⟩ := hrel
   cases gk with
   | zero => exact absurd HA.out (by simp [forecourtlaw01_ranges.l0])
   | succ k1 =>
    have H := HA.out
    clear HA
    simp only [forecourtlaw01_ranges.l0] at H
    by_cases c4 : x5_1 < (l0.length : Int)
    ·rw [if_pos c4] at H
     have c4b0 : decide (x5_1 < (l0.length : Int)) = true := decide_eq_true c4
     clear c4
     by_cases c5 : 0 ≤ x5_1
     ·rw [if_pos c5] at H
      have c5b0 : decide (0 ≤ x5_1) = true := decide_eq_true c5
      clear c5
      by_cases c6 : x5_1 < (l1.length : Int)
      ·rw [if_pos c6] at H
       have c6b0 : decide (x5_1 < (l1.length : Int)) = true := decide_eq_true c6
       clear c6
       by_cases c7 : (!(((rd_T43 l0 x5_1).f0) == ((rd_T43 l1 x5_1).f0)) || (!(((rd_T43 l0 x5_1).f1) == ((rd_T43 l1 x5_1).f1)))) = true
       ·rw [if_pos c7] at H
        have c7b0 : (!(((rd_T43 l0 x5_1).f0) == ((rd_T43 l1 x5_1).f0)) || (!(((rd_T43 l0 x5_1).f1) == ((rd_T43 l1 x5_1).f1)))) = true := c7
        clear c7
        obtain rfl := Option.some.inj H
        have p152 : 0 ≤ (x5_1 : Int) := of_decide_eq_true qh1
        have q152 : x5_1 < (l0.length : Int) := of_decide_eq_true qh1
        obtain ⟨ad152, e152, hx152_0, hx152_1⟩ := at_T43 HR0.out x5_1 p152 q152
        cases e152
        replace p152 := eq_true p152
        replace q152 := eq_true q152
        have p153 : 0 ≤ (x5_1 : Int) := of_decide_eq_true qh1
        have q153 : x5_1 < (l1.length : Int) := of_decide_eq_true qh1
        obtain ⟨ad153, e153, hx153_0, hx153_1⟩ := at_T43 HR1.out x5_1 p153 q153
        cases e153
        replace p153 := eq_true p153
        replace q153 := eq_true q153
        go_wp2
        repeat (go_quiet (fail); try go_wp2)
        go_ret
        exact ⟨by first | rfl | (simp; done) | (simp [*]; done), by repeat (first | exact Drawn0.refl _ | apply Drawn0.step)⟩
       rw [if_neg c7] at H
       have c7b0 : (!(((rd_T43 l0 x5_1).f0) == ((rd_T43 l1 x5_1).f0)) || (!(((rd_T43 l0 x5_1).f1) == ((rd_T43 l1 x5_1).f1)))) = false := by simpa using c7
       clear c7
       have H' := Aside0.mk H
       clear H
       have p152 : 0 ≤ (x5_1 : Int) := of_decide_eq_true qh1
       have q152 : x5_1 < (l0.length : Int) := of_decide_eq_true qh1
       obtain ⟨ad152, e152, hx152_0, hx152_1⟩ := at_T43 HR0.out x5_1 p152 q152
       cases e152
       replace p152 := eq_true p152
       replace q152 := eq_true q152
       have p153 : 0 ≤ (x5_1 : Int) := of_decide_eq_true qh1
       have q153 : x5_1 < (l1.length : Int) := of_decide_eq_true qh1
       obtain ⟨ad153, e153, hx153_0, hx153_1⟩ := at_T43 HR1.out x5_1 p153 q153
       cases e153
       replace p153 := eq_true p153
       replace q153 := eq_true q153
       go_wp2
       repeat (go_quiet (fail); try go_wp2)
       go_roundg k1
       case measure => have := HK1.out; omega
       case rel => exact ⟨(wrap64 (x5_1 + 1)), qh4, H', ⟨by have := HK1.out; omega⟩, by repeat (first | exact Drawn0.refl _ | apply Drawn0.step)⟩
      rw [if_neg c6] at H
      exact absurd H (by simp)
     rw [if_neg c5] at H
     exact absurd H (by simp)
    rw [if_neg c4] at H
    have c4b0 : decide (x5_1 < (l0.length : Int)) = false := decide_eq_false c4
    clear c4
    obtain rfl := Option.some.inj H
    go_wp2
    repeat (go_quiet (fail); try go_wp2)
    go_ret
    exact ⟨by first | rfl | (simp; done) | (simp [*]; done), by repeat (first | exact Drawn0.refl _ | apply Drawn0.step)⟩
 rw [if_neg c3] at H
 have c3b0 : ((l0.length : Int) == (l1.length : Int)) = false := beq_eq_false_iff_ne.mpr c3
 have c3b1 : ((l0.length : Int) != (l1.length : Int)) = true := bne_iff_ne.mpr c3
 have c3b2 : (l0.length == l1.length) = false := by first | simpa using c3 | (simp at c3 ⊢; omega)
 obtain rfl := Option.some.inj H
 go_enter Try.func25, Try.ntmps25
 go_wp2
 repeat (go_quiet (fail); try go_wp2)
 go_ret
 exact ⟨by first | rfl | (simp; done) | (simp [*]; done), by repeat (first | exact Drawn0.refl _ | apply Drawn0.step)⟩
end Go.Proofs.Ytpkajhmchcbbhaa.P
end
section
namespace Go.Proofs.Ytpkajhmchcbbhaa.P
open Go.RowKit Go.Proofs.YtpkajhmchcbbhaaW.PrintWords Go.Proofs.YtpkajhmchcbbhaaW.PrintLast Go.Proofs.YtpkajhmchcbbhaaW.PrintMore
attribute [local go_sem] max2_int min2_int max_two min_two max_three min_three max_four min_four
def forecourtref01_True.f (l0_0 : List (S70)) (a0_1 : Int) (a1 : Int) : Option (Int × Int) := if 0 < (l0_0.length : Int) then (if 0 ≤ (wrap64 ((l0_0.length : Int) - 1)) then (if (wrap64 ((l0_0.length : Int) - 1)) < (l0_0.length : Int) then (some (mx ((rd_T70 l0_0 0).f0) (wrap64 (a1 - a0_1)), mn ((rd_T70 l0_0 (wrap64 ((l0_0.length : Int) - 1))).f0) (wrap64 (a1 + a0_1)))) else (none)) else (none)) else (none)
def forecourtref01_True.T1 : Bool × List (List Nat × List Nat) := (true, [([], []), ([0], [0]), ([1], [1]), ([2], [2]), ([3], [3]), ([], []), ([], []), ([6], [6]), ([5, 7], [5, 7]), ([4, 8], [4, 8]), ([], []), ([10], [10]), ([], []), ([12], [12]), ([13], [13]), ([14], [14]), ([11, 15], [11, 15]), ([16], [16]), ([17], [17]), ([], []), ([], []), ([20], [20]), ([19, 21], [19, 21]), ([18, 22], [18, 22]), ([9, 23], [9, 23]), ([24, 0, 1, 2, 3, 4, 5, 6, 7, 8, 9, 10, 11, 12, 13, 14, 15, 16, 17, 18, 19, 20, 21, 22, 23, 24], [24])])
def forecourtref01_True.B1 : List Nat := [0, 1, 3, 7, 15, 0, 0, 64, 224, 511, 0, 1024, 0, 4096, 12288, 28672, 64512, 130048, 261120, 0, 0, 1048576, 3670016, 8387584, 16777215, 33554431]
theorem forecourtref01_True.tab1 : rtab .any (opsOf Try.f42 1) = forecourtref01_True.T1 := by kernel_rfl
theorem forecourtref01_True.bits1 : waitsOk forecourtref01_True.T1.2 forecourtref01_True.B1 = true := by kernel_rfl
set_option maxHeartbeats 8000000 in
set_option maxRecDepth 100000 in
theorem forecourtref01_True.calls (A0_0 : Option Addr) (c0_0 : Nat) (l0_0 : List (S70)) (a0_1 : Int) (a1 : Int) (r1 : Int) (r2 : Int) (w : World) (hr0_0 : Kd.C k70 w A0_0 l0_0.length l0_0) (hc0_0 : l0_0.length ≤ c0_0) (h : forecourtref01_True.f l0_0 a0_1 a1 = some (r1, r2)) :
  Calls Try.prog 42 #[.agg #[.slice A0_0 l0_0.length c0_0, .int .i64 a0_1], .int .i64 a1] w fun e w' => e = .returned (.agg #[.int .i64 r1, .int .i64 r2]) ∧ Below w.heap.size w w' := by
 have hu24 := Try.underlying24
 have hu43 := Try.underlying43
 have HR0_0 := Aside0.mk hr0_0
 have HC0_0 := Aside0.mk hc0_0
 clear hr0_0 hc0_0
 have HB := Aside0.mk (Below.refl w.heap.size w)
 have H : (if 0 < (l0_0.length : Int) then (if 0 ≤ (wrap64 ((l0_0.length : Int) - 1)) then (if (wrap64 ((l0_0.length : Int) - 1)) < (l0_0.length : Int) then (some (mx ((rd_T70 l0_0 0).f0) (wrap64 (a1 - a0_1)), mn ((rd_T70 l0_0 (wrap64 ((l0_0.length : Int) - 1))).f0) (wrap64 (a1 + a0_1)))) else (none)) else (none)) else (none)) = some (r1, r2) := h
 clear h
 by_cases c3 : 0 < (l0_0.length : Int)
 ·rw [if_pos c3] at H
  have c3b0 : decide (0 < (l0_0.length : Int)) = true := decide_eq_true c3
  have c3b1 : decide (0 < l0_0.length) = true := decide_eq_true (by omega)
  clear c3
  obtain ⟨ji4, hji4⟩ : ∃ j_ : Int, (mx ((rd_T70 l0_0 0).f0) (wrap64 (a1 - a0_1))) = j_ := ⟨_, rfl⟩
  replace H : (if 0 ≤ (wrap64 ((l0_0.length : Int) - 1)) then (if (wrap64 ((l0_0.length : Int) - 1)) < (l0_0.length : Int) then (some (ji4, mn ((rd_T70 l0_0 (wrap64 ((l0_0.length : Int) - 1))).f0) (wrap64 (a1 + a0_1)))) else (none)) else (none)) = some (r1, r2) := by first | (rw [hji4] at H; exact H) | (simp only [hji4] at H ⊢; exact H)
  have hji4_ : (if ((rd_T70 l0_0 0).f0) < (wrap64 (a1 - a0_1)) then (wrap64 (a1 - a0_1)) else ((rd_T70 l0_0 0).f0)) = ji4 := hji4
  obtain ⟨ji5, hji5⟩ : ∃ j_ : Int, (wrap64 ((l0_0.length : Int) - 1)) = j_ := ⟨_, rfl⟩
  replace H : (if 0 ≤ (ji5) then (if (ji5) < (l0_0.length : Int) then (some (ji4, mn ((rd_T70 l0_0 (ji5)).f0) (wrap64 (a1 + a0_1)))) else (none)) else (none)) = some (r1, r2) := by first | (rw [hji5] at H; exact H) | (simp only [hji5] at H ⊢; exact H)
  have hji5w : (IntKind.i64.wrap ((l0_0.length : Int) - 1)) = ji5 := (i64_w _).trans hji5
  by_cases c6 : 0 ≤ (ji5)
  ·rw [if_pos c6] at H
   have c6b0 : decide (0 ≤ (ji5)) = true := decide_eq_true c6
   clear c6
   by_cases c7 : (ji5) < (l0_0.length : Int)
   ·rw [if_pos c7] at H
    have c7b0 : decide ((ji5) < (l0_0.length : Int)) = true := decide_eq_true c7
    clear c7
    obtain ⟨ji8, hji8⟩ : ∃ j_ : Int, (mn ((rd_T70 l0_0 (ji5)).f0) (wrap64 (a1 + a0_1))) = j_ := ⟨_, rfl⟩
    replace H : (some (ji4, ji8)) = some (r1, r2) := by first | (rw [hji8] at H; exact H) | (simp only [hji8] at H ⊢; exact H)
    have hji8_ : (if (wrap64 (a1 + a0_1)) < ((rd_T70 l0_0 (ji5)).f0) then (wrap64 (a1 + a0_1)) else ((rd_T70 l0_0 (ji5)).f0)) = ji8 := hji8
    simp only [Option.some.injEq, Prod.mk.injEq] at H
    obtain ⟨rfl, rfl⟩ := H
    go_enter Try.func42, Try.ntmps42
    try go_wp2_with (first | ((with_reducible refine gate_dst (N := 2) rfl ?_); refine box_event ?hg (N := 2) ?hd (cs := #[.slice A0_0 l0_0.length c0_0, .int .i64 a0_1]) (t := 24) ?hr ?_; (case hd => rfl); (case hg => rfl); (case hr => first | (go_simp; done) | (go_simp; rfl)); intro gb230 hg w9 hbox hb; have n0_ := Aside0.mk (below_step qh2 hb); have n1_ := Aside0.mk (hbox); have n2_ := Aside0.mk ((by rw [hg]; exact (below_size qh2) : w.heap.size ≤ gb230)); have n3_ := Aside0.mk ((by rw [hg]; exact (below_size qh2) : w.heap.size ≤ gb230)); clear HB; have HB := n0_; have BK230 := n1_; have GW230 := n2_; have GE230 := n3_; clear n0_ n1_ n2_ n3_; clear hb hbox hg) | ((with_reducible refine gate_dst (N := 4) rfl ?_); refine box_event ?hg (N := 4) ?hd (cs := #[.int .i64 0, .int .i64 0]) (t := 43) ?hr ?_; (case hd => rfl); (case hg => rfl); (case hr => first | (go_simp; done) | (go_simp; rfl)); intro gb231 hg w10 hbox hb; have n0_ := Aside0.mk (blk_below (g := gb230) (o := .cells #[.slice A0_0 l0_0.length c0_0, .int .i64 a0_1] 24 (0, 0)) (by exact BK230.out) hb); have n1_ := Aside0.mk (below_step qh2 hb); have n2_ := Aside0.mk (hbox); have n3_ := Aside0.mk ((by rw [hg]; exact (below_size qh2) : w.heap.size ≤ gb231)); have n4_ := Aside0.mk ((by rw [hg]; exact (below_size qh2) : w.heap.size ≤ gb231)); have n5_ := Aside0.mk ((by rw [hg]; exact Nat.ne_of_lt (blk_lt (g := gb230) (o := .cells #[.slice A0_0 l0_0.length c0_0, .int .i64 a0_1] 24 (0, 0)) (by exact BK230.out)) : gb230 ≠ gb231)); have n6_ := Aside0.mk ((by rw [hg]; exact Nat.ne_of_gt (blk_lt (g := gb230) (o := .cells #[.slice A0_0 l0_0.length c0_0, .int .i64 a0_1] 24 (0, 0)) (by exact BK230.out)) : gb231 ≠ gb230)); clear BK230; clear HB; have BK230 := n0_; have HB := n1_; have BK231 := n2_; have GW231 := n3_; have GE231 := n4_; have NB230_231 := n5_; have NB231_230 := n6_; clear n0_ n1_ n2_ n3_ n4_ n5_ n6_; clear hb hbox hg))
    have n0_ := Aside0.mk (blk_drew BK230.out)
    have n1_ := Aside0.mk (blk_drew BK231.out)
    have n2_ := Aside0.mk (below_drew1 HB.out)
    clear BK230 BK231 HB
    have BK230 := n0_
    have BK231 := n1_
    have HB := n2_
    clear n0_ n1_ n2_
    have p232 : 0 ≤ (0 : Int) := (by omega)
    have q232 : 0 < (l0_0.length : Int) := of_decide_eq_true qh1
    obtain ⟨ad232, e232, hx232_0, hx232_1, hx232_2⟩ := at_T70 HR0_0.out 0 p232 q232
    have hw232_2 := hx232_2
    (try rw [show ((0 : Int)).toNat = 0 from rfl] at hw232_2)
    (try rw [show 0 * 3 = 0 from rfl] at hw232_2)
    (try rw [Addr.add_zero'] at hw232_2)
    have hw232_1 := hx232_1
    (try rw [show ((0 : Int)).toNat = 0 from rfl] at hw232_1)
    (try rw [show 0 * 3 = 0 from rfl] at hw232_1)
    (try rw [Addr.add_zero'] at hw232_1)
    have hw232_0 := hx232_0
    (try rw [show ((0 : Int)).toNat = 0 from rfl] at hw232_0)
    (try rw [show 0 * 3 = 0 from rfl] at hw232_0)
    (try rw [Addr.add_zero'] at hw232_0)
    cases e232
    have qi232 : (0 < l0_0.length) = True := eq_true (by omega)
    (try rw [show ((0 : Int)).toNat = 0 from rfl] at hx232_0)
    (try rw [show 0 * 3 = 0 from rfl] at hx232_0)
    (try rw [Addr.add_zero'] at hx232_0)
    (try rw [show ((0 : Int)).toNat = 0 from rfl] at hx232_1)
    (try rw [show 0 * 3 = 0 from rfl] at hx232_1)
    (try rw [Addr.add_zero'] at hx232_1)
    (try rw [show ((0 : Int)).toNat = 0 from rfl] at hx232_2)
    (try rw [show 0 * 3 = 0 from rfl] at hx232_2)
    (try rw [Addr.add_zero'] at hx232_2)
    replace hx232_0 := (HB.out.cell (World.block_lt_of_cell? w _ hx232_0)).trans hx232_0
    replace hx232_1 := (HB.out.cell (World.block_lt_of_cell? w _ hx232_1)).trans hx232_1
    replace hx232_2 := (HB.out.cell (World.block_lt_of_cell? w _ hx232_2)).trans hx232_2
    replace p232 := eq_true p232
    replace q232 := eq_true q232
    have p233 : 0 ≤ ((ji5) : Int) := of_decide_eq_true qh1
    have q233 : (ji5) < (l0_0.length : Int) := of_decide_eq_true qh1
    obtain ⟨ad233, e233, hx233_0, hx233_1, hx233_2⟩ := at_T70 HR0_0.out (ji5) p233 q233
    have hw233_2 := hx233_2
    have hw233_1 := hx233_1
    have hw233_0 := hx233_0
    obtain rfl : ad232 = ad233 := (by injection e233)
    replace hx233_0 := (HB.out.cell (World.block_lt_of_cell? w _ hx233_0)).trans hx233_0
    replace hx233_1 := (HB.out.cell (World.block_lt_of_cell? w _ hx233_1)).trans hx233_1
    replace hx233_2 := (HB.out.cell (World.block_lt_of_cell? w _ hx233_2)).trans hx233_2
    replace p233 := eq_true p233
    replace q233 := eq_true q233
    refine start_ (n := 26) (S := fun w' => w'.cell? ⟨gb230, 0, none⟩ = some (.slice (some ad232) l0_0.length c0_0) ∧ w'.cell? ⟨gb230, 1, none⟩ = some (.int .i64 a0_1) ∧ w'.cell? ad232 = some (.int .i64 ((rd_T70 l0_0 0).f0)) ∧ w'.cell? ⟨ad232.block, ad232.off + 1, none⟩ = some (.int .i64 ((rd_T70 l0_0 0).f1.f0)) ∧ w'.cell? ⟨ad232.block, ad232.off + 2, none⟩ = some (.int .i64 ((rd_T70 l0_0 0).f1.f1)) ∧ w'.cell? (ad232.add (((ji5)).toNat * 3)) = some (.int .i64 ((rd_T70 l0_0 (ji5)).f0)) ∧ w'.cell? ⟨(ad232.add (((ji5)).toNat * 3)).block, (ad232.add (((ji5)).toNat * 3)).off + 1, none⟩ = some (.int .i64 ((rd_T70 l0_0 (ji5)).f1.f0)) ∧ w'.cell? ⟨(ad232.add (((ji5)).toNat * 3)).block, (ad232.add (((ji5)).toNat * 3)).off + 2, none⟩ = some (.int .i64 ((rd_T70 l0_0 (ji5)).f1.f1))) (ds := []) #[false, false, false, false, false, false, false, false, false, false, false, false, false, false, false, false, false, false, false, false, false, false, false, false, false, false] (by kernel_rfl) rfl rfl ⟨(blk_cell BK230.out 0).trans rfl, (blk_cell BK230.out 1).trans rfl, ((HB.out.cell (World.block_lt_of_cell? w _ hw232_0)).trans hw232_0), ((HB.out.cell (World.block_lt_of_cell? w _ hw232_1)).trans hw232_1), ((HB.out.cell (World.block_lt_of_cell? w _ hw232_2)).trans hw232_2), ((HB.out.cell (World.block_lt_of_cell? w _ hw233_0)).trans hw233_0), ((HB.out.cell (World.block_lt_of_cell? w _ hw233_1)).trans hw233_1), ((HB.out.cell (World.block_lt_of_cell? w _ hw233_2)).trans hw233_2)⟩ (fun hHeld => ?_); refine with_tabW forecourtref01_True.tab1 forecourtref01_True.bits1 (fun HT_ HW_ => ?_)
    generalize w10.drew = w11 at BK230 BK231 HB hx232_0 hx232_1 hx232_2 hx233_0 hx233_1 hx233_2 hHeld ⊢
    refine pureT (i := 0) (N := some 5) HT_.out ?_
    refine pureT (i := 5) (N := some 10) HT_.out ?_
    refine pureT (i := 6) (N := some 11) HT_.out ?_
    refine pureT (i := 10) (N := some 15) HT_.out ?_
    refine pureT (i := 12) (N := some 17) HT_.out ?_
    refine pureT (i := 19) (N := some 24) HT_.out ?_
    refine pureT (i := 20) (N := some 25) HT_.out ?_
    refine takeT (i := 1) (N := some 6) HT_.out HW_.out hHeld (hy := by (rintro w' ⟨s0, s1, s2, s3, s4, s5, s6, s7⟩; go_simp; with_reducible rfl)) (h := ?_)
    refine pureT (i := 2) (N := some 7) HT_.out ?_
    refine pureT (i := 3) (N := some 8) HT_.out ?_
    refine takeT (i := 4) (N := some 9) HT_.out HW_.out hHeld (hy := by (rintro w' ⟨s0, s1, s2, s3, s4, s5, s6, s7⟩; go_simp; with_reducible rfl)) (h := ?_)
    refine takeT (i := 7) (N := some 12) HT_.out HW_.out hHeld (hy := by (rintro w' ⟨s0, s1, s2, s3, s4, s5, s6, s7⟩; go_simp; with_reducible rfl)) (h := ?_)
    refine pureT (i := 8) (N := some 13) HT_.out ?_
    refine pureT (i := 9) (N := some 14) HT_.out ?_
    refine takeT (i := 11) (N := some 16) HT_.out HW_.out hHeld (hy := by (rintro w' ⟨s0, s1, s2, s3, s4, s5, s6, s7⟩; go_simp; with_reducible rfl)) (h := ?_)
    refine takeT (i := 13) (N := some 18) HT_.out HW_.out hHeld (hy := by (rintro w' ⟨s0, s1, s2, s3, s4, s5, s6, s7⟩; go_simp; with_reducible rfl)) (h := ?_)
    refine pureT (i := 14) (N := some 19) HT_.out ?_
    refine pureT (i := 15) (N := some 20) HT_.out ?_
    refine pureT (i := 16) (N := some 21) HT_.out ?_
    refine pureT (i := 17) (N := some 22) HT_.out ?_
    refine takeT (i := 18) (N := some 23) HT_.out HW_.out hHeld (hy := by (rintro w' ⟨s0, s1, s2, s3, s4, s5, s6, s7⟩; go_simp; with_reducible rfl)) (h := ?_)
    refine takeT (i := 21) (N := some 26) HT_.out HW_.out hHeld (hy := by (rintro w' ⟨s0, s1, s2, s3, s4, s5, s6, s7⟩; go_simp; with_reducible rfl)) (h := ?_)
    refine pureT (i := 22) (N := some 27) HT_.out ?_
    refine pureT (i := 23) (N := some 28) HT_.out ?_
    refine pureT (i := 24) (N := some 29) HT_.out ?_
    refine one_ (i := 25) (N := none) #[true, true, true, true, true, true, true, true, true, true, true, true, true, true, true, true, true, true, true, true, true, true, true, true, true, true] rfl rfl (one_of HT_.out (by kernel_rfl)) (by decide) (fun K hK => ?_)
    have hs12 : w11.cell? ⟨gb231, 0, none⟩ = some (.int .i64 0) := (blk_cell BK231.out 0).trans rfl
    have hfs12 := blk_frozen BK231.out 0
    have hns12_0 := NB230_231.out
    have hms12_0 := NB231_230.out
    have hs13 : w11.cell? ⟨gb231, 1, none⟩ = some (.int .i64 0) := (blk_cell BK231.out 1).trans rfl
    have hfs13 := blk_frozen BK231.out 1
    have hns13_0 := NB230_231.out
    have hms13_0 := NB231_230.out
    refine skip_ (w1 := ?_) (by rfl) rfl ?_ ?_
    rotate_left
    ·go_simp
     rfl
    refine hK.out _ _ ⟨((cell_far (p := ⟨gb231, _, none⟩) NB230_231.out _).trans (((cell_far (p := ⟨gb231, _, none⟩) NB230_231.out _).trans (hHeld.1)))), ((cell_far (p := ⟨gb231, _, none⟩) NB230_231.out _).trans (((cell_far (p := ⟨gb231, _, none⟩) NB230_231.out _).trans (hHeld.2.1)))), ((cell_far (p := ⟨gb231, _, none⟩) qh35 _).trans (((cell_far (p := ⟨gb231, _, none⟩) qh35 _).trans (hHeld.2.2.1)))), ((cell_far (p := ⟨gb231, _, none⟩) qh36 _).trans (((cell_far (p := ⟨gb231, _, none⟩) qh36 _).trans (hHeld.2.2.2.1)))), ((cell_far (p := ⟨gb231, _, none⟩) qh37 _).trans (((cell_far (p := ⟨gb231, _, none⟩) qh37 _).trans (hHeld.2.2.2.2.1)))), ((cell_far (p := ⟨gb231, _, none⟩) qh38 _).trans (((cell_far (p := ⟨gb231, _, none⟩) qh38 _).trans (hHeld.2.2.2.2.2.1)))), ((cell_far (p := ⟨gb231, _, none⟩) qh39 _).trans (((cell_far (p := ⟨gb231, _, none⟩) qh39 _).trans (hHeld.2.2.2.2.2.2.1)))), ((cell_far (p := ⟨gb231, _, none⟩) qh40 _).trans (((cell_far (p := ⟨gb231, _, none⟩) qh40 _).trans (hHeld.2.2.2.2.2.2.2))))⟩ (fun hHeld => ?_)
    clear hK K
    refine done_ (done_of HT_.out (by kernel_rfl)) ?_
    try go_wp2
    refine bodyPost_ret (results_cell_row rfl _ _ gb231 43 #[.int .i64 ji4, .int .i64 ji8] (0, 0) _ rfl (by (skip); refine blk_put (cs := #[.int .i64 ji4, .int .i64 0]) ?_ 1 _ rfl; (skip); refine blk_put (cs := #[.int .i64 0, .int .i64 0]) ?_ 0 _ rfl; (skip); exact BK231.out) Try.underlying43 rfl (by kernel_rfl)) rfl ?_
    exact ⟨by first | rfl | (simp [errW_none, errW_some] <;> rfl) | (simp only [← hji4, ← hji5, ← hji8]; first | rfl | (simp [errW_none, errW_some] <;> rfl)) | (simp [*, errW_none, errW_some] <;> rfl), by (with_reducible refine below_set ?_ GE231.out; with_reducible refine below_set ?_ GE231.out; with_reducible exact HB.out)⟩
   rw [if_neg c7] at H
   exact absurd H (by simp)
  rw [if_neg c6] at H
  exact absurd H (by simp)
 rw [if_neg c3] at H
 exact absurd H (by simp)
end Go.Proofs.Ytpkajhmchcbbhaa.P
end
