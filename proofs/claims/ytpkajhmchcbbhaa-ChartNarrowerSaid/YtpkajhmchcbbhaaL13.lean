/- Part 13 of 44. -/
import Derived.Test.YtpkajhmchcbbhaaL0
import Derived.Test.YtpkajhmchcbbhaaL5
import Derived.WalkKit
import Derived.WalkLawsBesides
import Derived.Deep.LoopGhost
import Derived.Deep.QuietTactic
import Derived.BigQuiet
import Derived.Lib.Hide
import Derived.Outline
set_option linter.unusedSimpArgs false
set_option linter.unusedVariables false
section
namespace Go.Proofs.Ytpkajhmchcbbhaa.P
open Go.RowKit Go.Proofs.YtpkajhmchcbbhaaW.PrintWords Go.Proofs.YtpkajhmchcbbhaaW.PrintLast Go.Proofs.YtpkajhmchcbbhaaW.PrintMore
theorem idxF_at {α : Type} (p : α → Bool) (l : List α) (k : Nat) (d : α) (hk : k < l.length) (hno : ∀ j, j < k → p (l.getD j d) = false) (hp : p (l.getD k d) = true) : idxF p l = k := by
 induction l generalizing k with
 | nil => simp at hk
 | cons x l ih =>
  cases k with
  | zero =>
   have : p x = true := by simpa using hp
   simp [idxF, this]
  | succ k =>
   have h0 : p x = false := by simpa using hno 0 (by omega)
   have := ih k (by simpa using hk) (fun j hj => by simpa using hno (j + 1) (by omega)) (by simpa using hp)
   simp [idxF, h0, this]
   intro h; omega
theorem idxF_no {α : Type} (p : α → Bool) (l : List α) (d : α) (hno : ∀ j, j < l.length → p (l.getD j d) = false) : idxF p l = -1 := by
 induction l with
 | nil => rfl
 | cons x l ih =>
  have h0 : p x = false := by simpa using hno 0 (by simp)
  have := ih (fun j hj => by simpa using hno (j + 1) (by simpa using hj))
  simp [idxF, h0, this]
theorem idxF_any {α : Type} (p : α → Bool) (l : List α) : decide (0 ≤ idxF p l) = l.any p := by
 induction l with
 | nil => rfl
 | cons x l ih =>
  cases h0 : p x with
  | true => simp [idxF, h0]
  | false =>
   have hi : -1 ≤ idxF p l := by
    clear ih
    induction l with
    | nil => simp [idxF]
    | cons y l ih2 => simp only [idxF]; split <;> (try split) <;> omega
   simp only [List.any_cons, h0, Bool.false_or, ← ih, idxF]
   by_cases h : idxF p l < 0
   ·simp [h]
   have : 0 ≤ idxF p l := by omega
   have h2 : 0 ≤ idxF p l + 1 := by omega
   simp [h, this, h2]
theorem upto_succ {p : Nat → Prop} {k : Nat} (h : ∀ j, j < k → p j) (hk : p k) : ∀ j, j < k + 1 → p j := fun j hj => by
 rcases Nat.lt_succ_iff_lt_or_eq.mp hj with h1 | rfl
 ·exact h j h1
 exact hk
theorem ret_int {k : IntKind} {a b : Int} (h : a = b) : Ending.returned (.int k a) = .returned (.int k b) := by rw [h]
theorem ret_bool {a b : Bool} (h : a = b) : Ending.returned (.bool a) = .returned (.bool b) := by rw [h]
def Box64 (w : World) (b : Nat) (n : Int) : Prop := w.heap[b]? = some (.cells #[.int .i64 n] 2 (0, 0))
theorem blk_of_below {w w1 : World} {b : Nat} {o : Obj} (h : w.heap[b]? = some o) (hb : Below w.heap.size w w1) : w1.heap[b]? = some o := (hb.block b (Array.getElem?_eq_some_iff.1 h).1).trans h
theorem blk_new (w : World) (o : Obj) : (w.alloc o).heap[w.heap.size]? = some o := by
 show (w.heap.push o)[w.heap.size]? = _
 rw [Array.getElem?_push, if_pos rfl]
theorem blk_new' {w : World} {o : Obj} {n : Nat} (h : n = w.heap.size) : (w.alloc o).heap[n]? = some o := by rw [h]; exact blk_new w o
theorem blk_old {w : World} {o o' : Obj} {n : Nat} (h : w.heap[n]? = some o') : (w.alloc o).heap[n]? = some o' := (Below.heap_alloc _ _ _ (Array.getElem?_eq_some_iff.1 h).1).trans h
theorem not_any_not {α : Type} (p : α → Bool) (l : List α) : (!l.any fun x => !p x) = l.all p := by
 induction l with
 | nil => rfl
 | cons x l ih => simp only [List.any_cons, List.all_cons, Bool.not_or, Bool.not_not, ih]
theorem blk_lt {w : World} {b : Nat} {o : Obj} (h : w.heap[b]? = some o) : b < w.heap.size := (Array.getElem?_eq_some_iff.1 h).1
theorem below_then {w w1 w2 : World} (h : Below w.heap.size w w1) (h2 : Below w1.heap.size w1 w2) : Below w.heap.size w w2 := h.trans (h2.mono h.size)
theorem C_blk {w : World} {g t : Nat} {cs : Array Value} {l : List Int} (h : w.heap[g]? = some (.cells cs t (0, 0))) (hl : l.length ≤ 9223372036854775807) (hc : ∀ (i : Nat) (x : Int), l[i]? = some x → cs[i]? = some (Value.int .i64 x)) : Kd.C (Kd.int .i64) w (some ⟨g, 0, none⟩) l.length l := by
 refine ⟨rfl, hl, fun _ => ⟨_, rfl, fun j x hj => ⟨[Value.int .i64 x], rfl, rfl, fun i u hu => ?_⟩⟩⟩
 have hi : i = 0 := by
  have := (List.getElem?_eq_some_iff.1 hu).1
  simp at this; exact this
 subst hi
 have hu' : u = .int .i64 x := by simpa using hu.symm
 subst hu'
 rw [add_plain]
 show w.cell? ⟨g, j * 1 + 0, none⟩ = _
 rw [Nat.mul_one, Nat.add_zero, blk_cell h]
 exact hc j x hj
def ints (l : List Int) : Array Value := (l.map (Value.int .i64)).toArray
theorem C_arr {w : World} {g t : Nat} {l : List Int} (h : w.heap[g]? = some (.cells (ints l) t (0, 0))) (hl : l.length ≤ 9223372036854775807) : Kd.C (Kd.int .i64) w (some ⟨g, 0, none⟩) l.length l :=
 C_blk h hl (fun i x hx => by simp [ints, hx])
end Go.Proofs.Ytpkajhmchcbbhaa.P
end
section
namespace Go.Proofs.Ytpkajhmchcbbhaa.P
open Go.RowKit Go.Proofs.YtpkajhmchcbbhaaW.PrintWords Go.Proofs.YtpkajhmchcbbhaaW.PrintLast Go.Proofs.YtpkajhmchcbbhaaW.PrintMore
set_option maxHeartbeats 400000 in
theorem within1_calls (n lo hi : Int) (b c : Nat) (w : World) (hb : Box64 w b lo) (hc : Box64 w c hi) :
  Calls Try.prog 78 #[.int .i64 n, .pointer (some ⟨b, 0, none⟩), .pointer (some ⟨c, 0, none⟩)] w fun e w' => e = .returned (.bool (!inB lo hi n)) ∧ w = w' := by
 have h1 := cell_of_one hb
 have h2 := cell_of_one hc
 by_cases h : n < lo
 ·go_enter Try.func78, Try.ntmps78
  go_wp2
  go_ret
  exact ⟨by simp [inB, h], rfl⟩
 have h' : decide (n < lo) = false := by simpa using h
 go_enter Try.func78, Try.ntmps78
 go_wp2
 go_ret
 exact ⟨by simp [inB, h'], rfl⟩
def PredInt (w : World) (g : FuncId) (lb : Array Value) (p : Int → Bool) : Prop :=
 ∀ W n, Below w.heap.size w W → Calls Try.prog g (#[.int .i64 n] ++ lb) W (fun e W' => e = .returned (.bool (p n)) ∧ Below W.heap.size W W')
set_option maxHeartbeats 400000 in
theorem indexFunc64 (A : Option Addr) (l : List Int) (c : Nat) (g : Nat) (lb : Array Value) (p : Int → Bool) (w : World) (hr : Kd.C (Kd.int .i64) w A l.length l) (hp : PredInt w g lb p)
  (eg : ∀ args w, (callFunc g args).run Try.prog w = .ok (.enter g args) w) :
  Calls Try.prog 85 #[.slice A l.length c, .func (.func g) #[] lb] w fun e w' => e = .returned (.int .i64 (idxF p l)) ∧ Below w.heap.size w w' := by
 have hm : l.length ≤ 9223372036854775807 := hr.2.1
 have HR := Aside0.mk hr
 have HP := Aside0.mk hp
 clear hr hp
 go_enter Try.func85, Try.ntmps85
 go_wp2
 go_loopw [5, 8] (fun _ v8 w' => ∃ k : Nat, k ≤ l.length ∧ v8 = .int .i64 k ∧ (∀ j, j < k → p (l.getD j 0) = false) ∧ Below w.heap.size w w') (fun _ v8 _ => l.length - (intOf v8).toNat)
 case atStart => exact ⟨0, Nat.zero_le _, rfl, fun j hj => absurd hj (by omega), Below.refl _ _⟩
 case round =>
  obtain ⟨k, hk, rfl, hno, hB⟩ := hrel
  have HN := Aside0.mk hno
  clear hno
  by_cases hlt : k < l.length
  ·have hc := HR.out
   obtain ⟨ad, rfl, _⟩ := hc.2.2 (by omega)
   have hcell := pw_cell_below hB (Kd.foot_int hc (k : Int) (by omega) (by omega))
   rw [Int.toNat_natCast] at hcell
   clear hc
   by_cases hpk : p (rd l k) = true
   ·have HPK := Lib.hid hpk
    clear hpk
    go_wp2_with fail
    refine (HP.out _ _ hB).mono ?_
    rintro e w2 ⟨rfl, hb2⟩
    rw [HPK.out]
    have hB2 := hB.trans (hb2.mono hB.size)
    go_wp2
    go_ret
    exact ⟨ret_int (idxF_at p l k 0 hlt HN.out (by simpa [rd] using HPK.out)).symm, hB2⟩
   have HPK := Lib.hid (Bool.eq_false_iff.mpr hpk)
   clear hpk
   go_wp2_with fail
   refine (HP.out _ _ hB).mono ?_
   rintro e w2 ⟨rfl, hb2⟩
   rw [HPK.out]
   have hB2 := hB.trans (hb2.mono hB.size)
   go_wp2
   go_roundw
   case rel => exact ⟨k + 1, by omega, by go_num, upto_succ HN.out (by simpa [rd] using HPK.out), hB2⟩
   case measure => simp [intOf]; omega
  have hd : decide (k < l.length) = false := by simpa using hlt
  go_wp2
  go_ret
  exact ⟨ret_int (idxF_no p l 0 (fun j hj => HN.out j (by omega))).symm, hB⟩
set_option maxHeartbeats 400000 in
theorem containsFunc64 (A : Option Addr) (l : List Int) (c : Nat) (g : Nat) (lb : Array Value) (p : Int → Bool) (w : World) (hr : Kd.C (Kd.int .i64) w A l.length l) (hp : PredInt w g lb p)
  (eg : ∀ args w, (callFunc g args).run Try.prog w = .ok (.enter g args) w) :
  Calls Try.prog 77 #[.slice A l.length c, .func (.func g) #[] lb] w fun e w' => e = .returned (.bool (l.any p)) ∧ Below w.heap.size w w' := by
 have HI := Aside0.mk (indexFunc64 A l c g lb p w hr hp eg)
 clear hr hp
 go_enter Try.func77, Try.ntmps77
 go_wp2_with fail
 refine HI.out.mono ?_
 rintro e w1 ⟨rfl, hB⟩
 go_wp2
 go_ret
 exact ⟨ret_bool (idxF_any p l), hB⟩
set_option maxHeartbeats 400000 in
theorem chart_within.calls (a0 : Int) (a1 : Int) (A2 : Option Addr) (c2 : Nat) (l2 : List Int) (r : Bool) (w : World) (hr2 : Kd.C (Kd.int .i64) w A2 l2.length l2) (_hc2 : l2.length ≤ c2) (h : chart_within.f a0 a1 l2 = some r) :
  Calls Try.prog 58 #[.int .i64 a0, .int .i64 a1, .slice A2 l2.length c2] w fun e w' => e = .returned (.bool r) ∧ Below w.heap.size w w' := by
 have hr := Option.some.inj h
 have HR := Aside0.mk hr
 have HC := Aside0.mk hr2
 clear h hr hr2 _hc2
 go_enter Try.func58, Try.ntmps58
 go_wp2_with fail
 have hb2 : Below w.heap.size w ((w.alloc (.cells #[.int .i64 a0] 2)).alloc (.cells #[.int .i64 a1] 2)) := ((Below.refl _ _).alloc (Nat.le_refl _) _).alloc (by simp) _
 refine (containsFunc64 A2 l2 c2 78 #[.pointer (some ⟨w.heap.size, 0, none⟩), .pointer (some ⟨w.heap.size + 1, 0, none⟩)] (fun n => !inB a0 a1 n) _ (Kd.C_below HC.out hb2) ?_ (enters_ Try.func78 (by kernel_rfl) rfl)).mono ?_
 ·intro W n hW
  have h1 : Box64 W w.heap.size a0 := (hW.block _ (by simp; omega)).trans (blk_old (blk_new _ _))
  have h2 : Box64 W (w.heap.size + 1) a1 := (hW.block _ (by simp)).trans (blk_new' (by simp))
  refine (within1_calls n a0 a1 _ _ W h1 h2).mono ?_
  rintro e W' ⟨rfl, rfl⟩
  exact ⟨rfl, Below.refl _ _⟩
 rintro e w1 ⟨rfl, hB⟩
 have hB2 := below_then hb2 hB
 go_wp2
 go_ret
 exact ⟨ret_bool (by rw [← HR.out]; exact not_any_not _ _), hB2⟩
end Go.Proofs.Ytpkajhmchcbbhaa.P
end
section
namespace Go.Proofs.Ytpkajhmchcbbhaa.P
open Go.RowKit Go.Proofs.YtpkajhmchcbbhaaW.PrintWords Go.Proofs.YtpkajhmchcbbhaaW.PrintLast Go.Proofs.YtpkajhmchcbbhaaW.PrintMore
attribute [local go_sem] max2_int min2_int max_two min_two max_three min_three max_four min_four
def chart_isRange.f (a0_0 : Int) (a0_1 : Int) (a1 : Int) (a2 : Int) : Option (Bool) := (chart_within.f a1 a2 (([a0_0, a0_1] : List Int))).bind fun t348 => (if t348 = true then (some (decide (a0_0 ≤ a0_1))) else (some false))
set_option maxHeartbeats 8000000 in
set_option maxRecDepth 100000 in
theorem chart_isRange.calls (a0_0 : Int) (a0_1 : Int) (a1 : Int) (a2 : Int) (r : Bool) (w : World) (h : chart_isRange.f a0_0 a0_1 a1 a2 = some r) :
  Calls Try.prog 61 #[.agg #[.int .i64 a0_0, .int .i64 a0_1], .int .i64 a1, .int .i64 a2] w fun e w' => e = .returned (.bool r) ∧ Below w.heap.size w w' := by
 have hu43 := Try.underlying43
 have HB := Aside0.mk (Below.refl w.heap.size w)
 have H : ((chart_within.f a1 a2 (([a0_0, a0_1] : List Int))).bind fun t348 => (if t348 = true then (some (decide (a0_0 ≤ a0_1))) else (some false))) = some r := h
 clear h
 obtain ⟨y345, hy345⟩ : ∃ y_ : List Int, y_ = (([a0_0, a0_1] : List Int)) := ⟨_, rfl⟩
 replace H : ((chart_within.f a1 a2 y345).bind fun t348 => (if t348 = true then (some (decide (a0_0 ≤ a0_1))) else (some false))) = some r := by first | (rw [hy345]; with_reducible exact H) | (have H2_ := (Option.bind_some _ _).symm.trans H; rw [hy345]; with_reducible exact H2_) | (have H2_ := (Option.bind_some _ _).symm.trans H; with_reducible exact H2_) | with_reducible exact H | (rw [hy345]; exact H) | exact H
 have Ny345 := Aside0.mk hy345
 clear hy345
 replace H := Option.bind_eq_some_iff.mp H
 obtain ⟨t348, A40, H⟩ := H
 replace H : (if t348 = true then (some (decide (a0_0 ≤ a0_1))) else (some false)) = some r := H
 have A4 := Aside0.mk A40
 clear A40
 by_cases c5 : t348 = true
 ·subst c5
  have H1 : (some (decide (a0_0 ≤ a0_1))) = some r := by rw [if_pos rfl] at H; exact H
  clear H
  have H := H1
  clear H1
  obtain rfl := Option.some.inj H
  go_enter Try.func61, Try.ntmps61
  go_wp2_with (first | ((with_reducible refine gate_dst (N := 3) rfl ?_); refine box_event ?hg (N := 3) ?hd (cs := #[.int .i64 a0_0, .int .i64 a0_1]) (t := 43) ?hr ?_; (case hd => rfl); (case hg => rfl); (case hr => first | (go_simp; done) | (go_simp; rfl)); intro gb344 hg w6 hbox hb; have n0_ := Aside0.mk (below_step ql0 hb); have n1_ := Aside0.mk (hbox); have n2_ := Aside0.mk ((by rw [hg]; exact (below_size ql0) : w.heap.size ≤ gb344)); have n3_ := Aside0.mk ((by rw [hg]; exact (below_size ql0) : w.heap.size ≤ gb344)); clear HB; have HB := n0_; have BK344 := n1_; have GW344 := n2_; have GE344 := n3_; clear n0_ n1_ n2_ n3_; clear hb hbox hg; have hcz7_0 : w6.cell? ⟨gb344, 0, none⟩ = some (.int .i64 a0_0) := (blk_cell BK344.out 0).trans rfl; have hcz7_1 : w6.cell? ⟨gb344, 1, none⟩ = some (.int .i64 a0_1) := (blk_cell BK344.out 1).trans rfl; have hfz7_0 := blk_frozen BK344.out 0; have hfz7_1 := blk_frozen BK344.out 1) | ((with_reducible refine gate_dst (N := 13) rfl ?_); refine Kd.R_lit (Kd.int .i64) _ 2 ?hg (N := 13) ?hd (xs := ([a0_0, a0_1] : List Int)) (inner := [.int .i64 a0_0, .int .i64 a0_1]) (ok := fun _ => True) (okp := fun _ => True) ?hr ?hp (fun _ hk => hk) trivial (Below.refl _ _) (Nat.le_refl _) (by simp) ?_; (case hd => rfl); (case hg => rfl); (case hr => first | (go_simp; done) | (go_simp; rfl)); (case hp => exact (Reps.one (show Kd.M (Kd.int .i64) _ _ _ a0_0 [.int .i64 a0_0] from rfl) (Reps.one (show Kd.M (Kd.int .i64) _ _ _ a0_1 [.int .i64 a0_1] from rfl) (Reps.none _ _)))); intro v346 w8 ho9 hb hg_ hnew_; clear hg_ hnew_; (first | rw [← Ny345.out] at ho9 | (simp only [Int.reduceToNat] at ho9; rw [← Ny345.out] at ho9)); have n0_ := Aside0.mk (Kd.R_lower ho9 (below_size ql5)); have n1_ := Aside0.mk (blk_below (g := gb344) (o := .cells #[.int .i64 a0_0, .int .i64 a0_1] 43 (0, 0)) ql20 hb); have n2_ := Aside0.mk (below_step ql5 hb); clear BK344; clear HB; have HO347 := n0_; have BK344 := n1_; have HB := n2_; clear n0_ n1_ n2_; clear hb ho9; obtain ⟨Ao10, co10, eo10⟩ := Kd.R_slice HO347.out; subst eo10) | ((with_reducible refine gate_callee (f := 58) rfl ?_); refine goesL_ (some 14) rfl rfl Try.func58 (by kernel_rfl) rfl #[.int .i64 a1, .int .i64 a2, .slice Ao10 y345.length co10] rfl ql2 ?_; (with_reducible refine (chart_within.calls a1 a2 _ _ y345 true _ ?side1 ?side2 A4.out).mono ?_); (case side1 => repeat (first | exact (Kd.R_reads' HO347.out).2.2 | (with_reducible refine Kd.C_alloc ?_ _) | (with_reducible refine Kd.C_drewN ?_ _) | (with_reducible refine Kd.C_drew ?_))); (case side2 => exact (Kd.R_reads' HO347.out).2.1); rintro e w11 ⟨rfl, hb⟩; refine ⟨_, rfl, ?_⟩; have n0_ := Aside0.mk (Kd.R_below (by (with_reducible repeat (first | apply Kd.R_alloc | apply Kd.R_drewN | apply Kd.R_drew)); exact HO347.out) hb); have n1_ := Aside0.mk (blk_below (g := gb344) (o := .cells #[.int .i64 a0_0, .int .i64 a0_1] 43 (0, 0)) ql20 hb); have n2_ := Aside0.mk (below_step ql5 hb); clear HO347; clear BK344; clear HB; have HO347 := n0_; have BK344 := n1_; have HB := n2_; clear n0_ n1_ n2_; (try clear hb); (try clear hb2); (try clear hk); (try clear hi); have hcz12_0 : w11.cell? ⟨gb344, 0, none⟩ = some (.int .i64 a0_0) := (blk_cell BK344.out 0).trans rfl; have hcz12_1 : w11.cell? ⟨gb344, 1, none⟩ = some (.int .i64 a0_1) := (blk_cell BK344.out 1).trans rfl; have hfz12_0 := blk_frozen BK344.out 0; have hfz12_1 := blk_frozen BK344.out 1))
  go_ret
  exact ⟨by first | rfl | (simp [errW_none, errW_some] <;> rfl) | (simp [*, errW_none, errW_some] <;> rfl), by repeat (first | (with_reducible first | exact HB.out | apply below_alloc | apply pw_below_drewN | apply below_drew1 | refine below_set ?_ GE344.out) | exact HB.out)⟩
 replace c5 := Bool.eq_false_iff.mpr c5
 subst c5
 have H1 : (some false) = some r := by rw [if_neg (show ¬ (false = true) by decide)] at H; exact H
 clear H
 have H := H1
 clear H1
 obtain rfl := Option.some.inj H
 go_enter Try.func61, Try.ntmps61
 go_wp2_with (first | ((with_reducible refine gate_dst (N := 3) rfl ?_); refine box_event ?hg (N := 3) ?hd (cs := #[.int .i64 a0_0, .int .i64 a0_1]) (t := 43) ?hr ?_; (case hd => rfl); (case hg => rfl); (case hr => first | (go_simp; done) | (go_simp; rfl)); intro gb344 hg w13 hbox hb; have n0_ := Aside0.mk (below_step ql0 hb); have n1_ := Aside0.mk (hbox); have n2_ := Aside0.mk ((by rw [hg]; exact (below_size ql0) : w.heap.size ≤ gb344)); have n3_ := Aside0.mk ((by rw [hg]; exact (below_size ql0) : w.heap.size ≤ gb344)); clear HB; have HB := n0_; have BK344 := n1_; have GW344 := n2_; have GE344 := n3_; clear n0_ n1_ n2_ n3_; clear hb hbox hg; have hcz14_0 : w13.cell? ⟨gb344, 0, none⟩ = some (.int .i64 a0_0) := (blk_cell BK344.out 0).trans rfl; have hcz14_1 : w13.cell? ⟨gb344, 1, none⟩ = some (.int .i64 a0_1) := (blk_cell BK344.out 1).trans rfl; have hfz14_0 := blk_frozen BK344.out 0; have hfz14_1 := blk_frozen BK344.out 1) | ((with_reducible refine gate_dst (N := 13) rfl ?_); refine Kd.R_lit (Kd.int .i64) _ 2 ?hg (N := 13) ?hd (xs := ([a0_0, a0_1] : List Int)) (inner := [.int .i64 a0_0, .int .i64 a0_1]) (ok := fun _ => True) (okp := fun _ => True) ?hr ?hp (fun _ hk => hk) trivial (Below.refl _ _) (Nat.le_refl _) (by simp) ?_; (case hd => rfl); (case hg => rfl); (case hr => first | (go_simp; done) | (go_simp; rfl)); (case hp => exact (Reps.one (show Kd.M (Kd.int .i64) _ _ _ a0_0 [.int .i64 a0_0] from rfl) (Reps.one (show Kd.M (Kd.int .i64) _ _ _ a0_1 [.int .i64 a0_1] from rfl) (Reps.none _ _)))); intro v346 w15 ho16 hb hg_ hnew_; clear hg_ hnew_; (first | rw [← Ny345.out] at ho16 | (simp only [Int.reduceToNat] at ho16; rw [← Ny345.out] at ho16)); have n0_ := Aside0.mk (Kd.R_lower ho16 (below_size ql5)); have n1_ := Aside0.mk (blk_below (g := gb344) (o := .cells #[.int .i64 a0_0, .int .i64 a0_1] 43 (0, 0)) ql20 hb); have n2_ := Aside0.mk (below_step ql5 hb); clear BK344; clear HB; have HO347 := n0_; have BK344 := n1_; have HB := n2_; clear n0_ n1_ n2_; clear hb ho16; obtain ⟨Ao17, co17, eo17⟩ := Kd.R_slice HO347.out; subst eo17) | ((with_reducible refine gate_callee (f := 58) rfl ?_); refine goesL_ (some 14) rfl rfl Try.func58 (by kernel_rfl) rfl #[.int .i64 a1, .int .i64 a2, .slice Ao17 y345.length co17] rfl ql2 ?_; (with_reducible refine (chart_within.calls a1 a2 _ _ y345 false _ ?side1 ?side2 A4.out).mono ?_); (case side1 => repeat (first | exact (Kd.R_reads' HO347.out).2.2 | (with_reducible refine Kd.C_alloc ?_ _) | (with_reducible refine Kd.C_drewN ?_ _) | (with_reducible refine Kd.C_drew ?_))); (case side2 => exact (Kd.R_reads' HO347.out).2.1); rintro e w18 ⟨rfl, hb⟩; refine ⟨_, rfl, ?_⟩; have n0_ := Aside0.mk (Kd.R_below (by (with_reducible repeat (first | apply Kd.R_alloc | apply Kd.R_drewN | apply Kd.R_drew)); exact HO347.out) hb); have n1_ := Aside0.mk (blk_below (g := gb344) (o := .cells #[.int .i64 a0_0, .int .i64 a0_1] 43 (0, 0)) ql20 hb); have n2_ := Aside0.mk (below_step ql5 hb); clear HO347; clear BK344; clear HB; have HO347 := n0_; have BK344 := n1_; have HB := n2_; clear n0_ n1_ n2_; (try clear hb); (try clear hb2); (try clear hk); (try clear hi)))
 go_ret
 exact ⟨by first | rfl | (simp [errW_none, errW_some] <;> rfl) | (simp [*, errW_none, errW_some] <;> rfl), by repeat (first | (with_reducible first | exact HB.out | apply below_alloc | apply pw_below_drewN | apply below_drew1 | refine below_set ?_ GE344.out) | exact HB.out)⟩
end Go.Proofs.Ytpkajhmchcbbhaa.P
end
section
namespace Go.Proofs.Ytpkajhmchcbbhaa.P
open Go.RowKit Go.Proofs.YtpkajhmchcbbhaaW.PrintWords Go.Proofs.YtpkajhmchcbbhaaW.PrintLast Go.Proofs.YtpkajhmchcbbhaaW.PrintMore
def rowV (r : SRow) : Value := .agg #[.int .i64 r.f0, .int .i64 r.f1.f0, .int .i64 r.f1.f1]
theorem row_cells {w : World} {A : Option Addr} {l : List SRow} (h : Kd.C kRow w A l.length l) (k : Nat) (hk : k < l.length) :
  ∃ ad, A = some ad ∧ w.cell? (ad.add (k * 3)) = some (.int .i64 (l.getD k zRow).f0) ∧ w.cell? ⟨(ad.add (k * 3)).block, (ad.add (k * 3)).off + 1, none⟩ = some (.int .i64 (l.getD k zRow).f1.f0) ∧ w.cell? ⟨(ad.add (k * 3)).block, (ad.add (k * 3)).off + 2, none⟩ = some (.int .i64 (l.getD k zRow).f1.f1) := by
 have := at_T70 h (k : Int) (by omega) (by omega)
 simpa [rd_T70] using this
set_option maxHeartbeats 400000 in
theorem checkTank1_calls (r : SRow) (w : World) :
  Calls Try.prog 60 #[rowV r] w fun e w' => e = .returned (.bool (!litresOk r)) ∧ Below w.heap.size w w' := by
 have hf : chart_isRange.f r.f1.f0 r.f1.f1 0 100000 = some (litresOk r) := by
  unfold chart_isRange.f chart_within.f litresOk
  simp only [Option.bind_some, List.all_cons, List.all_nil, Bool.and_true]
  cases inB 0 100000 r.f1.f0 && inB 0 100000 r.f1.f1 <;> simp
 have HF := Aside0.mk hf
 clear hf
 unfold rowV
 go_enter Try.func60, Try.ntmps60
 go_wp2_with fail
 refine (chart_isRange.calls r.f1.f0 r.f1.f1 0 100000 (litresOk r) _ HF.out).mono ?_
 rintro e w1 ⟨rfl, hB⟩
 have hB2 := below_then ((Below.refl w.heap.size w).alloc (Nat.le_refl _) _) hB
 go_wp2
 go_ret
 exact ⟨rfl, hB2⟩
def PredRow (w : World) (g : FuncId) (lb : Array Value) (p : SRow → Bool) : Prop :=
 ∀ W r, Below w.heap.size w W → Calls Try.prog g (#[rowV r] ++ lb) W (fun e W' => e = .returned (.bool (p r)) ∧ Below W.heap.size W W')
set_option maxHeartbeats 400000 in
theorem indexFuncRow (A : Option Addr) (l : List SRow) (c : Nat) (g : Nat) (lb : Array Value) (p : SRow → Bool) (w : World) (hr : Kd.C kRow w A l.length l) (hp : PredRow w g lb p)
  (eg : ∀ args w, (callFunc g args).run Try.prog w = .ok (.enter g args) w) :
  Calls Try.prog 79 #[.slice A l.length c, .func (.func g) #[] lb] w fun e w' => e = .returned (.int .i64 (idxF p l)) ∧ Below w.heap.size w w' := by
 have hm : l.length ≤ 9223372036854775807 := hr.2.1
 have HR := Aside0.mk hr
 have HP := Aside0.mk hp
 clear hr hp
 have hu := Try.underlying70
 go_enter Try.func79, Try.ntmps79
 go_wp2
 go_loopw [5, 8] (fun _ v8 w' => ∃ k : Nat, k ≤ l.length ∧ v8 = .int .i64 k ∧ (∀ j, j < k → p (l.getD j zRow) = false) ∧ Below w.heap.size w w') (fun _ v8 _ => l.length - (intOf v8).toNat)
 case atStart => exact ⟨0, Nat.zero_le _, rfl, fun j hj => absurd hj (by omega), Below.refl _ _⟩
 case round =>
  obtain ⟨k, hk, rfl, hno, hB⟩ := hrel
  have HN := Aside0.mk hno
  clear hno
  by_cases hlt : k < l.length
  ·obtain ⟨ad, rfl, h0, h1, h2⟩ := row_cells HR.out k hlt
   replace h0 := pw_cell_below hB h0
   replace h1 := pw_cell_below hB h1
   replace h2 := pw_cell_below hB h2
   obtain ⟨r, hrd⟩ : ∃ r, r = l.getD k zRow := ⟨_, rfl⟩
   rw [← hrd] at h0 h1 h2
   have HRD := Lib.hid hrd
   clear hrd
   by_cases hpk : p r = true
   ·have HPK := Lib.hid hpk
    clear hpk
    go_wp2_with fail
    refine (HP.out _ r hB).mono ?_
    rintro e w2 ⟨rfl, hb2⟩
    rw [HPK.out]
    have hB2 := hB.trans (hb2.mono hB.size)
    go_wp2
    go_ret
    exact ⟨ret_int (idxF_at p l k zRow hlt HN.out (by rw [← HRD.out]; exact HPK.out)).symm, hB2⟩
   have HPK := Lib.hid (Bool.eq_false_iff.mpr hpk)
   clear hpk
   go_wp2_with fail
   refine (HP.out _ r hB).mono ?_
   rintro e w2 ⟨rfl, hb2⟩
   rw [HPK.out]
   have hB2 := hB.trans (hb2.mono hB.size)
   go_wp2
   go_roundw
   case rel => exact ⟨k + 1, by omega, by go_num, upto_succ HN.out (by rw [← HRD.out]; exact HPK.out), hB2⟩
   case measure => simp [intOf]; omega
  have hd : decide (k < l.length) = false := by simpa using hlt
  go_wp2
  go_ret
  exact ⟨ret_int (idxF_no p l zRow (fun j hj => HN.out j (by omega))).symm, hB⟩
set_option maxHeartbeats 400000 in
theorem containsFuncRow (A : Option Addr) (l : List SRow) (c : Nat) (g : Nat) (lb : Array Value) (p : SRow → Bool) (w : World) (hr : Kd.C kRow w A l.length l) (hp : PredRow w g lb p)
  (eg : ∀ args w, (callFunc g args).run Try.prog w = .ok (.enter g args) w) :
  Calls Try.prog 59 #[.slice A l.length c, .func (.func g) #[] lb] w fun e w' => e = .returned (.bool (l.any p)) ∧ Below w.heap.size w w' := by
 have HI := Aside0.mk (indexFuncRow A l c g lb p w hr hp eg)
 clear hr hp
 go_enter Try.func59, Try.ntmps59
 go_wp2_with fail
 refine HI.out.mono ?_
 rintro e w1 ⟨rfl, hB⟩
 go_wp2
 go_ret
 exact ⟨ret_bool (idxF_any p l), hB⟩
theorem drop_row (l : List SRow) (k : Nat) (h : k < l.length) : l.drop k = l.getD k zRow :: l.drop (k + 1) := by
 rw [List.drop_eq_getElem_cons h, List.getD_eq_getElem?_getD, List.getElem?_eq_getElem h]; rfl
end Go.Proofs.Ytpkajhmchcbbhaa.P
end
section
namespace Go.Proofs.Ytpkajhmchcbbhaa.P
open Go.RowKit Go.Proofs.YtpkajhmchcbbhaaW.PrintWords Go.Proofs.YtpkajhmchcbbhaaW.PrintLast Go.Proofs.YtpkajhmchcbbhaaW.PrintMore
set_option maxHeartbeats 1000000 in
set_option maxRecDepth 100000 in
theorem chart_CheckTank.calls (A0_0 : Option Addr) (c0_0 : Nat) (l0_0 : List SRow) (a0_1 : Int) (r : Int) (w : World) (hr0_0 : Kd.C kRow w A0_0 l0_0.length l0_0) (_hc0_0 : l0_0.length ≤ c0_0) (h : chart_CheckTank.f l0_0 a0_1 = some r) :
  Calls Try.prog 21 #[.agg #[.slice A0_0 l0_0.length c0_0, .int .i64 a0_1]] w fun e w' => e = .returned (.int .i64 r) ∧ Below w.heap.size w w' := by
 have hm : l0_0.length ≤ 9223372036854775807 := hr0_0.2.1
 have HE := Aside0.mk (Option.some.inj h)
 have HR := Aside0.mk hr0_0
 clear h hr0_0 _hc0_0
 have hu1 := Try.underlying24
 have hu2 := Try.underlying70
 by_cases h2 : l0_0.length < 2
 ·have b1 : decide (l0_0.length < 2) = true := by simpa using h2
  have b1' : decide ((l0_0.length : Int) < 2) = true := decide_eq_true (by omega)
  go_enter Try.func21, Try.ntmps21
  go_wp2
  go_ret
  exact ⟨ret_int (by rw [← HE.out]; unfold checkTank; rw [if_pos (.inl h2)]), (Below.refl _ _).alloc (Nat.le_refl _) _⟩
 have b1 : decide (l0_0.length < 2) = false := by simpa using h2
 have b1' : decide ((l0_0.length : Int) < 2) = false := decide_eq_false (by omega)
 by_cases h16 : 16 < l0_0.length
 ·have b2 : decide (16 < l0_0.length) = true := by simpa using h16
  have b2' : decide (16 < (l0_0.length : Int)) = true := decide_eq_true (by omega)
  go_enter Try.func21, Try.ntmps21
  go_wp2
  go_ret
  exact ⟨ret_int (by rw [← HE.out]; unfold checkTank; rw [if_pos (.inr h16)]), (Below.refl _ _).alloc (Nat.le_refl _) _⟩
 have b2 : decide (16 < l0_0.length) = false := by simpa using h16
 have b2' : decide (16 < (l0_0.length : Int)) = false := decide_eq_false (by omega)
 have HN := Aside0.mk (show ¬ (l0_0.length < 2 ∨ 16 < l0_0.length) by omega)
 have h16' : l0_0.length ≤ 16 := by omega
 go_enter Try.func21, Try.ntmps21
 go_wp2
 go_loopw [3, 19] (fun v3 v19 w' => ∃ (k : Nat) (last : Int), k ≤ l0_0.length ∧ v19 = .int .i64 k ∧ v3 = .int .i64 last ∧ Aside0 (dipsOk (-1) l0_0 = dipsOk last (l0_0.drop k)) ∧ Below (w.heap.size + 1) (w.alloc (.cells #[.slice A0_0 l0_0.length c0_0, .int .i64 a0_1] 24)) w') (fun _ v19 _ => l0_0.length - (intOf v19).toNat)
 case atStart => exact ⟨0, -1, Nat.zero_le _, rfl, rfl, ⟨by simp⟩, Below.refl _ _⟩
 case round =>
  obtain ⟨k, last, hk, rfl, rfl, HD, hB⟩ := hrel
  have hBw : Below w.heap.size w wr := ((Below.refl w.heap.size w).alloc (Nat.le_refl _) _).trans (hB.mono (by omega))
  by_cases hlt : k < l0_0.length
  ·obtain ⟨ad, rfl, c0, c1, c2⟩ := row_cells HR.out k hlt
   replace c0 := pw_cell_below hBw c0
   replace c1 := pw_cell_below hBw c1
   replace c2 := pw_cell_below hBw c2
   have HD2 := Aside0.mk (HD.out.trans (by rw [drop_row l0_0 k hlt]; rfl : _ = (!(decide ((l0_0.getD k zRow).f0 ≤ last) || decide (4000 < (l0_0.getD k zRow).f0)) && dipsOk (l0_0.getD k zRow).f0 (l0_0.drop (k + 1)))))
   clear HD
   obtain ⟨q, hq⟩ : ∃ q, q = l0_0.getD k zRow := ⟨_, rfl⟩
   rw [← hq] at c0 c1 c2 HD2
   clear hq
   by_cases t1 : q.f0 ≤ last
   ·have t1b := decide_eq_true t1
    go_wp2
    go_ret
    exact ⟨ret_int (by rw [← HE.out]; unfold checkTank; rw [if_neg HN.out, if_pos (by rw [HD2.out, t1b]; rfl)]), hBw.alloc (by have := hB.size; simp at this; omega) _⟩
   have t1b := decide_eq_false t1
   by_cases t2 : 4000 < q.f0
   ·have t2b := decide_eq_true t2
    go_wp2
    go_ret
    exact ⟨ret_int (by rw [← HE.out]; unfold checkTank; rw [if_neg HN.out, if_pos (by rw [HD2.out, t1b, t2b]; rfl)]), hBw.alloc (by have := hB.size; simp at this; omega) _⟩
   have t2b := decide_eq_false t2
   go_wp2
   go_roundw
   case rel => exact ⟨k + 1, q.f0, by omega, by go_num, rfl, ⟨by rw [HD2.out, t1b, t2b]; rfl⟩, hB.alloc (by have := hB.size; simp at this; omega) _⟩
   case measure => simp [intOf]; omega
  have hd : decide (k < l0_0.length) = false := by simpa using hlt
  have HD2 := Aside0.mk (show dipsOk (-1) l0_0 = true by rw [HD.out, List.drop_eq_nil_of_le (by omega)]; rfl)
  clear HD
  have hbk : wr.heap[w.heap.size]? = some (.cells #[.slice A0_0 l0_0.length c0_0, .int .i64 a0_1] 24 (0, 0)) := (hB.block _ (by omega)).trans (blk_new _ _)
  have hc0 := blk_cell hbk 0
  have hc1 := blk_cell hbk 1
  go_wp2_with fail
  refine (chart_within.calls 0 50 (some ⟨wr.heap.size, 0, none⟩) 1 [a0_1] (inB 0 50 a0_1) _ (C_arr (l := [a0_1]) (blk_new _ _) (by simp)) (by simp) (by simp [chart_within.f])).mono ?_
  rintro e w2 ⟨rfl, hB2⟩
  have hsz : w.heap.size + 1 ≤ wr.heap.size := by have := hB.size; simpa using this
  have hBx := (hB.alloc (by omega) (.cells #[.int .i64 a0_1] 2)).trans (hB2.mono (by simp; omega))
  have hBy : Below w.heap.size w w2 := ((Below.refl w.heap.size w).alloc (Nat.le_refl _) _).trans (hBx.mono (by omega))
  have hbk2 : w2.heap[w.heap.size]? = some (.cells #[.slice A0_0 l0_0.length c0_0, .int .i64 a0_1] 24 (0, 0)) := (hBx.block _ (by omega)).trans (blk_new _ _)
  have hd0 := blk_cell hbk2 0
  have hd1 := blk_cell hbk2 1
  clear hc0 hc1 hbk hbk2 hB hB2 hBw
  by_cases hp : inB 0 50 a0_1 = false
  ·have HP := Aside0.mk hp
   rw [hp]
   clear hp
   go_wp2
   go_ret
   exact ⟨ret_int (by rw [← HE.out]; unfold checkTank; rw [if_neg HN.out, if_neg (by rw [HD2.out]; simp), if_pos HP.out]), hBy⟩
  have HP := Aside0.mk hp
  replace hp := Bool.not_eq_false _ |>.mp hp
  rw [hp]
  clear hp
  go_wp2_with fail
  refine (containsFuncRow A0_0 l0_0 c0_0 60 #[] (fun r => !litresOk r) _ (Kd.C_below HR.out hBy) (fun W r _ => by simpa using checkTank1_calls r W) (enters_ Try.func60 (by kernel_rfl) rfl)).mono ?_
  rintro e w3 ⟨rfl, hB3⟩
  have hBz := below_then hBy hB3
  by_cases hl : (l0_0.any fun r => !litresOk r) = true
  ·have HL := Aside0.mk hl
   rw [hl]
   clear hl
   go_wp2
   go_ret
   exact ⟨ret_int (by rw [← HE.out]; unfold checkTank; rw [if_neg HN.out, if_neg (by rw [HD2.out]; simp), if_neg HP.out, if_pos HL.out]), hBz⟩
  have HL := Aside0.mk hl
  rw [Bool.eq_false_iff.mpr hl]
  clear hl
  go_wp2
  go_ret
  exact ⟨ret_int (by rw [← HE.out]; unfold checkTank; rw [if_neg HN.out, if_neg (by rw [HD2.out]; simp), if_neg HP.out, if_neg HL.out]), hBz⟩
end Go.Proofs.Ytpkajhmchcbbhaa.P
end
