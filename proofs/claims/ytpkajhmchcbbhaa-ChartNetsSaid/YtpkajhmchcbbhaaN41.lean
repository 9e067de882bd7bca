/- Part 41 of 50. -/
import Derived.Test.YtpkajhmchcbbhaaN40
set_option linter.unusedSimpArgs false
set_option linter.unusedVariables false
section
namespace Go.Proofs.Ytpkajhmchcbbhaa.P
open Go.RowKit Go.Proofs.YtpkajhmchcbbhaaW.PrintWords Go.Proofs.YtpkajhmchcbbhaaW.PrintLast Go.Proofs.YtpkajhmchcbbhaaW.PrintMore
theorem true_f {l : List SRow} {p : Int} (hT : TankOk l p) (d : Int) (h0 : firstD l ≤ d) (h1 : d ≤ lastD l) : forecourtref01_True.f l p d = some (trueLo l p d, trueHi l p d) := by
 have hn := hT.n2
 have h16 := hT.n16
 have hf := hT.first_last
 have hp := hT.p0
 have hp1 := hT.p1
 unfold forecourtref01_True.f trueLo trueHi
 have e0 : rd_T70 l 0 = l.getD 0 zRow := rfl
 have e1 : wrap64 ((l.length : Int) - 1) = ((l.length - 1 : Nat) : Int) := by unfold wrap64; omega
 rw [if_pos (by omega), e0, e1, rdR_nat, if_pos (by omega), if_pos (by omega), wrap_id (x := d - p) (by omega), wrap_id (x := d + p) (by omega)]
 rfl
theorem netError_ev (l : List SRow) (p water level : Int) (hn : l.length ≤ 1000) : Ev (fun k => forecourtref01_NetError.f k l p water level) (endsE l p water level) := by
 refine Ev.bind (refCheckTank_ev l p hn) ?_
 unfold endsE
 by_cases h : checkTank l p = 0
 ·have hT := tankOk_of h
  have hT2 := hT.n2
  simp only [if_pos h]
  have eo : openE l p [water, level] = if ([water, level].all fun d => inB (firstD l) (lastD l) d) = false then 3 else if tightOk l then 0 else 21 := by
   unfold openE; rw [if_neg (by simp [h])]
  refine Ev.bind (a := inB (firstD l) (lastD l) water) (by rw [inside_ev l p water (by omega) hn]; exact Ev.now _) ?_
  cases hw : inB (firstD l) (lastD l) water with
  | false =>
   simp only [Bool.false_eq_true, if_false]
   have e : ([water, level].all fun d => inB (firstD l) (lastD l) d) = false := by simp [hw]
   rw [if_pos e] at eo
   rw [eo, if_pos (show (3 : Int) ≠ 0 by omega)]
   exact Ev.step (f := fun _ => some 3) (fun k => by simp only [forecourtref01_NetError.j0, if_true]) (Ev.now _)
  | true =>
   simp only [if_true]
   refine Ev.bind (a := inB (firstD l) (lastD l) level) (by rw [inside_ev l p level (by omega) hn]; exact Ev.now _) ?_
   cases hl : inB (firstD l) (lastD l) level with
   | false =>
    have e : ([water, level].all fun d => inB (firstD l) (lastD l) d) = false := by simp [hw, hl]
    rw [if_pos e] at eo
    rw [eo, if_pos (show (3 : Int) ≠ 0 by omega)]
    exact Ev.step (f := fun _ => some 3) (fun k => by simp only [forecourtref01_NetError.j0, Bool.not_false, if_true]) (Ev.now _)
   | true =>
    have e : ¬ ([water, level].all fun d => inB (firstD l) (lastD l) d) = false := by simp [hw, hl]
    rw [if_neg e] at eo
    obtain ⟨w0, w1⟩ := (inB_iff _ _ _).1 hw
    obtain ⟨l0, l1⟩ := (inB_iff _ _ _).1 hl
    refine Ev.step (fun k => by simp only [forecourtref01_NetError.j0, Bool.not_true, Bool.false_eq_true, if_false]; exact rfl) ?_
    refine Ev.bind (refClashes_ev l p hn) ?_
    rw [clashes_of h]
    cases ht : tightOk l with
    | false =>
     rw [ht] at eo
     simp only [Bool.not_false, if_true]
     rw [if_neg (by simp)] at eo
     rw [eo, if_pos (show (21 : Int) ≠ 0 by omega)]
     exact Ev.now _
    | true =>
     rw [ht, if_pos rfl] at eo
     simp only [Bool.not_true, Bool.false_eq_true, if_false]
     refine Ev.bind (a := (trueLo l p water, trueHi l p water)) (by rw [true_f hT water w0 w1]; exact Ev.now _) (Ev.bind (a := (trueLo l p level, trueHi l p level)) (by rw [true_f hT level l0 l1]; exact Ev.now _) ?_)
     rw [eo, if_neg (show ¬ (0 : Int) ≠ 0 by simp)]
     by_cases hc : trueHi l p level < trueLo l p water
     ·simp only [if_pos (show trueLo l p water > trueHi l p level from hc), if_pos hc]; exact Ev.now _
     simp only [if_neg (show ¬ trueLo l p water > trueHi l p level from hc), if_neg hc]; exact Ev.now _
 have eo : openE l p [water, level] = checkTank l p := by unfold openE; rw [if_pos h]
 simp only [if_neg h]
 rw [eo, if_pos h]
 exact Ev.bind (refCheckTank_ev l p hn) (Ev.now _)
theorem rdL_nat (L : List (List Int)) (i : Nat) : rd_L7 L (i : Int) = L.getD i [] := by simp [rd_L7]
theorem getD_mem {L : List (List Int)} {i : Nat} (h : i < L.length) : L.getD i [] ∈ L := by
 rw [List.getD_eq_getElem?_getD, List.getElem?_eq_getElem h]; exact List.getElem_mem _
theorem extL_length (l : List SRow) : (extL l).length = l.length + 1 + 2 * l.length := by simp [extL]
def maxF (f : List Int → Int) : List (List Int) → Int → Int
 | [], m => m
 | c :: L, m => maxF f L (mx m (f c))
theorem maxF_spec (f : List Int → Int) (L : List (List Int)) : ∀ m, m ≤ maxF f L m ∧ (∀ c, c ∈ L → f c ≤ maxF f L m) ∧ (maxF f L m = m ∨ ∃ c, c ∈ L ∧ maxF f L m = f c) := by
 induction L with
 | nil => intro m; exact ⟨Int.le_refl _, fun c hc => (by cases hc), .inl rfl⟩
 | cons c L ih =>
  intro m
  obtain ⟨h1, h2, h3⟩ := ih (mx m (f c))
  have g1 : m ≤ mx m (f c) := by unfold mx; split <;> omega
  have g2 : f c ≤ mx m (f c) := mx_right
  rw [maxF]
  refine ⟨by omega, fun x hx => ?_, ?_⟩
  ·rcases List.mem_cons.1 hx with rfl | hx
   ·omega
   exact h2 x hx
  rcases h3 with h3 | ⟨x, hx, e⟩
  ·rw [h3]
   unfold mx
   split
   ·exact .inr ⟨c, List.mem_cons_self, rfl⟩
   exact .inl rfl
  exact .inr ⟨x, List.mem_cons_of_mem _ hx, e⟩
def minF (f : List Int → Int) : List (List Int) → Int → Int
 | [], m => m
 | c :: L, m => minF f L (if m < 0 then f c else if f c < m then f c else m)
theorem minF_spec (f : List Int → Int) (L : List (List Int)) (hf : ∀ c, c ∈ L → 0 ≤ f c) : ∀ m, (0 ≤ m → 0 ≤ minF f L m ∧ minF f L m ≤ m) ∧ (∀ c, c ∈ L → 0 ≤ minF f L m ∧ minF f L m ≤ f c) ∧ (minF f L m = m ∨ ∃ c, c ∈ L ∧ minF f L m = f c) := by
 induction L with
 | nil => intro m; exact ⟨fun h => ⟨h, Int.le_refl _⟩, fun c hc => (by cases hc), .inl rfl⟩
 | cons c L ih =>
  intro m
  have hc := hf c List.mem_cons_self
  obtain ⟨h1, h2, h3⟩ := ih (fun x hx => hf x (List.mem_cons_of_mem _ hx)) (if m < 0 then f c else if f c < m then f c else m)
  have g0 : 0 ≤ (if m < 0 then f c else if f c < m then f c else m) := by (repeat' split) <;> omega
  have g1 : (if m < 0 then f c else if f c < m then f c else m) ≤ f c := by (repeat' split) <;> omega
  have g2 : 0 ≤ m → (if m < 0 then f c else if f c < m then f c else m) ≤ m := by intro h; (repeat' split) <;> omega
  obtain ⟨k1, k2⟩ := h1 g0
  rw [minF]
  refine ⟨fun h => ⟨k1, Int.le_trans k2 (g2 h)⟩, fun x hx => ?_, ?_⟩
  ·rcases List.mem_cons.1 hx with rfl | hx
   ·exact ⟨k1, Int.le_trans k2 g1⟩
   exact h2 x hx
  rcases h3 with h3 | ⟨x, hx, e⟩
  ·rw [h3]
   by_cases hm : m < 0
   ·rw [if_pos hm]; exact .inr ⟨c, List.mem_cons_self, rfl⟩
   rw [if_neg hm]
   by_cases hm2 : f c < m
   ·rw [if_pos hm2]; exact .inr ⟨c, List.mem_cons_self, rfl⟩
   rw [if_neg hm2]; exact .inl rfl
  exact .inr ⟨x, List.mem_cons_of_mem _ hx, e⟩
theorem drop_ll (L : List (List Int)) (i : Nat) (h : i < L.length) : L.drop i = L.getD i [] :: L.drop (i + 1) := by
 rw [List.drop_eq_getElem_cons h, List.getD_eq_getElem?_getD, List.getElem?_eq_getElem h]; rfl
theorem net_l1 (l : List SRow) (p : Int) (L : List (List Int)) (hL : L.length ≤ 1000) (a0 a1 b0 b1 hi1 hi2 : Int) (f : List Int → Int) (D : Int) (hb : ∀ c, c ∈ L → Ev (fun k => forecourtref01_between.f k l p c a1 b0) (f c, D))
  (M : Int) (hfin : Ev (fun k => forecourtref01_Fraction.f k M D) (leastN M D, leastD M D)) (d : Nat) : ∀ (i : Nat) (m : Int), i + d = L.length → minF f (L.drop i) m = M →
  Ev (fun k => forecourtref01_Net.l1 k L D m i l p a0 a1 b0 b1 0 1 hi1 hi2) (leastN M D, leastD M D, hi1, hi2, 0) := by
 induction d with
 | zero =>
  intro i m hi hm
  rw [List.drop_eq_nil_of_le (by omega), minF] at hm
  subst hm
  exact Ev.step (fun k => by simp only [forecourtref01_Net.l1]; rw [if_neg (by omega)]) (Ev.bind hfin (Ev.now _))
 | succ d ih =>
  intro i m hi hm
  have hc : L.getD i [] ∈ L := getD_mem (by omega)
  rw [drop_ll L i (by omega), minF] at hm
  have h2 := ih (i + 1) _ (by omega) hm
  refine Ev.step (fun k => by simp only [forecourtref01_Net.l1]; rw [if_pos (by omega), if_pos (by omega), rdL_nat, wrap_nat i (by omega)]) (Ev.bind (hb _ hc) ?_)
  by_cases h0 : m < 0
  ·simp only [if_pos h0] at h2 ⊢; exact h2
  simp only [if_neg h0] at h2 ⊢
  by_cases h1 : f (L.getD i []) < m
  ·simp only [if_pos h1] at h2 ⊢; exact h2
  simp only [if_neg h1] at h2 ⊢; exact h2
theorem net_l1_first (l : List SRow) (p : Int) (L : List (List Int)) (h0 : 0 < L.length) (hL : L.length ≤ 1000) (a0 a1 b0 b1 hi1 hi2 den : Int) (f : List Int → Int) (D : Int) (hb : ∀ c, c ∈ L → Ev (fun k => forecourtref01_between.f k l p c a1 b0) (f c, D))
  (hfin : Ev (fun k => forecourtref01_Fraction.f k (minF f L (-1)) D) (leastN (minF f L (-1)) D, leastD (minF f L (-1)) D)) :
  Ev (fun k => forecourtref01_Net.l1 k L den (-1) 0 l p a0 a1 b0 b1 0 1 hi1 hi2) (leastN (minF f L (-1)) D, leastD (minF f L (-1)) D, hi1, hi2, 0) := by
 have hc : L.getD 0 [] ∈ L := getD_mem h0
 have e : L = L.getD 0 [] :: L.drop 1 := by have := drop_ll L 0 h0; rwa [List.drop_zero] at this
 have hm : minF f (L.drop 1) (f (L.getD 0 [])) = minF f L (-1) := by
  conv => rhs; rw [e]
  rw [minF, if_pos (by omega)]
 have h2 := net_l1 l p L hL a0 a1 b0 b1 hi1 hi2 f D hb _ hfin (L.length - 1) 1 _ (by omega) hm
 have e0 : rd_L7 L 0 = L.getD 0 [] := rfl
 have e1 : wrap64 (0 + 1) = ((1 : Nat) : Int) := by unfold wrap64; omega
 refine Ev.step (fun k => by simp only [forecourtref01_Net.l1]; rw [if_pos (by omega), if_pos (by omega), e0, e1]) (Ev.bind (hb _ hc) ?_)
 simp only [if_pos (show (-1 : Int) < 0 by omega)]
 exact h2
theorem net_l0 (l : List SRow) (p : Int) (L : List (List Int)) (hL : L.length ≤ 1000) (a0 a1 b0 b1 : Int) (f : List Int → Int) (D : Int) (hb : ∀ c, c ∈ L → Ev (fun k => forecourtref01_between.f k l p c a0 b1) (f c, D))
  (M : Int) (R : Int × Int × Int × Int × Int) (hfin : Ev (fun k => (forecourtref01_Fraction.f k M D).bind fun r => if a1 < b0 then forecourtref01_Net.l1 k L D (-1) 0 l p a0 a1 b0 b1 0 1 r.1 r.2 else some (0, 1, r.1, r.2, 0)) R) (d : Nat) : ∀ (i : Nat) (m den : Int), i + d = L.length → (den = D ∨ i < L.length) → maxF f (L.drop i) m = M →
  Ev (fun k => forecourtref01_Net.l0 k L m den i l p a0 a1 b0 b1) R := by
 induction d with
 | zero =>
  intro i m den hi hden hm
  obtain rfl : den = D := by rcases hden with h | h; exact h; omega
  rw [List.drop_eq_nil_of_le (by omega), maxF] at hm
  subst hm
  exact Ev.step (fun k => by simp only [forecourtref01_Net.l0]; rw [if_neg (by omega)]) hfin
 | succ d ih =>
  intro i m den hi _ hm
  have hc : L.getD i [] ∈ L := getD_mem (by omega)
  rw [drop_ll L i (by omega), maxF] at hm
  have h2 := ih (i + 1) _ D (by omega) (.inl rfl) hm
  exact Ev.step (fun k => by simp only [forecourtref01_Net.l0]; rw [if_pos (by omega), if_pos (by omega), rdL_nat, wrap_nat i (by omega)]) (Ev.bind (hb _ hc) h2)
structure Asked (l : List SRow) (p water level : Int) : Prop where
 tank : TankOk l p
 check : checkTank l p = 0
 tight : tightOk l = true
 w0 : firstD l ≤ water
 w1 : water ≤ lastD l
 l0 : firstD l ≤ level
 l1 : level ≤ lastD l
 order : trueLo l p water ≤ trueHi l p level
theorem asked_of {l : List SRow} {p water level : Int} (h : endsE l p water level = 0) : Asked l p water level := by
 unfold endsE at h
 by_cases ho : openE l p [water, level] = 0
 ·rw [if_neg (by simp [ho])] at h
  have hord : ¬ trueHi l p level < trueLo l p water := by
   intro hc
   rw [if_pos hc] at h
   cases h
  unfold openE at ho
  by_cases hc : checkTank l p = 0
  ·rw [if_neg (by simp [hc])] at ho
   by_cases ha : ([water, level].all fun d => inB (firstD l) (lastD l) d) = true
   ·rw [if_neg (by rw [ha]; simp)] at ho
    have ht : tightOk l = true := by
     cases ht : tightOk l with
     | true => rfl
     | false => rw [ht] at ho; cases ho
    simp only [List.all_cons, List.all_nil, Bool.and_true, Bool.and_eq_true] at ha
    obtain ⟨g1, g2⟩ := (inB_iff _ _ _).1 ha.1
    obtain ⟨g3, g4⟩ := (inB_iff _ _ _).1 ha.2
    exact ⟨tankOk_of hc, hc, ht, g1, g2, g3, g4, by omega⟩
   rw [if_pos (by simpa using ha)] at ho; cases ho
  rw [if_pos hc] at ho; exact absurd ho hc
 rw [if_pos ho] at h; exact absurd h ho
section
variable {l : List SRow} {p water level : Int}
theorem Asked.dips (h : Asked l p water level) : firstD l ≤ trueLo l p water ∧ trueLo l p water ≤ water ∧ water ≤ trueHi l p water ∧ trueHi l p water ≤ lastD l ∧ firstD l ≤ trueLo l p level ∧ trueLo l p level ≤ level ∧ level ≤ trueHi l p level ∧ trueHi l p level ≤ lastD l := by
 obtain ⟨a, b, c, d⟩ := h.tank.true_in water h.w0 h.w1
 obtain ⟨e, f, g, i⟩ := h.tank.true_in level h.l0 h.l1
 exact ⟨a, b, c, d, e, f, g, i⟩
theorem bden_pos {l : List SRow} {p : Int} (hT : TankOk l p) (d0 d1 : Int) : 1 ≤ bden l d0 d1 := by
 have h1 := hT.wden_pos d0
 have := Int.mul_le_mul_of_nonneg_left (hT.wden_pos d1) (show 0 ≤ wden l d0 by omega)
 unfold bden; omega
theorem most_all (hT : TankOk l p) (ht : tightOk l = true) {d0 d1 : Int} (h0 : firstD l ≤ d0) (h01 : d0 ≤ d1) (h1 : d1 ≤ lastD l) :
  ∃ s, s ≤ l.length ∧ (mostR l d0 d1).1 = wsum l.length (bwF l d0 d1) (fun i => (thrL l s).getD i 0) ∧ (∀ i, i < l.length → (mostC l d0 d1).getD i 0 = (thrL l s).getD i 0) ∧
   (∀ c, Chart l c → wsum l.length (bwF l d0 d1) (fun i => c.getD i 0) ≤ (mostR l d0 d1).1) ∧ 0 ≤ (mostR l d0 d1).1 := by
 have h16 := hT.n16
 have h2 := hT.n2
 obtain ⟨s, hS, hsl, hget⟩ := mostC_step hT h0 h01 h1
 have hg : ∀ i, i < l.length → (mostC l d0 d1).getD i 0 = (thrL l s).getD i 0 := fun i hi => by
  rw [hget i hi]; unfold thrL; rw [range_getD _ _ _ hi]
 have e : (mostR l d0 d1).1 = wsum l.length (bwF l d0 d1) (fun i => (thrL l s).getD i 0) := by
  unfold mostR
  simp only
  rw [dot_bw hT d0 d1 _ (by rw [mostC_length h16]; exact h16) (by rw [mostC_length h16]; exact Nat.le_refl _)]
  exact wsum_congr hg
 have e2 : wsum l.length (bwF l d0 d1) (fun i => (thrL l s).getD i 0) = wsum l.length (bwF l d0 d1) (fun i => if i < s then lowN l i else highN l i) := wsum_congr fun i hi => by unfold thrL; rw [range_getD _ _ _ hi]
 refine ⟨s, hsl, e, hg, fun c hc => ?_, ?_⟩
 ·rw [e, e2]
  exact wsum_most hS hc.inn
 rw [e]
 exact wsum_nonneg hS (extL_chart (by omega) ht _ (thr_mem l s hsl)).up
theorem few_all (hT : TankOk l p) (ht : tightOk l = true) {d0 d1 : Int} (h0 : firstD l ≤ d0) (h01 : d0 ≤ d1) (h1 : d1 ≤ lastD l) :
  ∃ u, u ∈ cands l l.length ∧ (fewR l d0 d1).2 = nearC l u ∧ (fewR l d0 d1).1 = wsum l.length (bwF l d0 d1) (fun i => (nearL' l u).getD i 0) ∧ (∀ i, i < l.length → (nearC l u).getD i 0 = (nearL' l u).getD i 0) ∧
   (∀ c, Chart l c → (fewR l d0 d1).1 ≤ wsum l.length (bwF l d0 d1) (fun i => c.getD i 0)) ∧ 0 ≤ (fewR l d0 d1).1 := by
 have h16 := hT.n16
 have h2 := hT.n2
 obtain ⟨s, hS, _⟩ := bw_signs hT h0 h01 h1
 obtain ⟨u, hu, e, hmin⟩ := fewR_spec (by omega : 1 ≤ l.length) d0 d1
 have hg : ∀ v i, i < l.length → (nearC l v).getD i 0 = (nearL' l v).getD i 0 := fun v i hi => by
  rw [nearC_get h16 v i hi]; unfold nearL'; rw [range_getD _ _ _ hi]
 have hd : ∀ v, dot (bwts l d0 d1) (nearC l v) = wsum l.length (bwF l d0 d1) (fun i => (nearL' l v).getD i 0) := fun v => by
  rw [dot_bw hT d0 d1 _ (by rw [nearC_length h16]; exact h16) (by rw [nearC_length h16]; exact Nat.le_refl _)]
  exact wsum_congr (hg v)
 have e1 : (fewR l d0 d1).1 = wsum l.length (bwF l d0 d1) (fun i => (nearL' l u).getD i 0) := by rw [e]; exact hd u
 refine ⟨u, hu, by rw [e], e1, hg u, fun c hc => ?_, ?_⟩
 ·obtain ⟨v, hv, hle⟩ := wsum_least hS (tube (by omega) ht) (by omega) (cands l l.length) (fun i hi => ⟨(mem_cands _ _ _).2 ⟨i, hi, .inl rfl⟩, (mem_cands _ _ _).2 ⟨i, hi, .inr rfl⟩⟩) hc.inn hc.up
  have h3 := hmin v hv
  rw [hd u, hd v] at h3
  rw [e1]
  have h4 : wsum l.length (bwF l d0 d1) (fun i => (nearL' l v).getD i 0) = wsum l.length (bwF l d0 d1) (nearF (lowN l) (highN l) v) := wsum_congr fun i hi => by unfold nearL'; rw [range_getD _ _ _ hi]
  omega
 rw [e1]
 exact wsum_nonneg hS (extL_chart (by omega) ht _ (near_mem l u hu)).up
theorem few_same (hT : TankOk l p) (ht : tightOk l = true) {d : Int} (h0 : firstD l ≤ d) (h1 : d ≤ lastD l) : leastN (fewR l d d).1 (bden l d d) = 0 ∧ leastD (fewR l d d).1 (bden l d d) = 1 := by
 have h16 := hT.n16
 obtain ⟨u, _, _, e, _, _, _⟩ := few_all hT ht h0 (Int.le_refl d) h1
 have hz : (fewR l d d).1 = 0 := by
  rw [e]
  unfold wsum
  rw [sumN_congr (g := fun _ => 0) (fun i hi => by unfold bwF; rw [bw_at l d d i (by omega), Int.sub_self, Int.zero_mul]), sumN_zero]
 rw [hz]
 obtain ⟨e1, e2⟩ := frac_eq (Int.le_refl 0) (bden_pos hT d d) (Int.le_refl 0) (Int.le_refl 1) (by simp : (0 : Int) * 1 = 0 * bden l d d)
 rw [e1, e2]
 have h3 := leastN_nat 0 1
 have h4 := leastD_nat 0 1
 exact ⟨by simpa using h3, by simpa using h4⟩
theorem refNet_ev (l : List SRow) (p water level : Int) (hn : l.length ≤ 1000) : ∃ r, chart_Net.f l p water level = some r ∧ Ev (fun k => forecourtref01_Net.f k l p water level) r := by
 refine ⟨_, rfl, Ev.bind (netError_ev l p water level hn) ?_⟩
 by_cases he : endsE l p water level = 0
 ·have hA := asked_of he
  have hT := hA.tank
  have h2 := hT.n2
  have h16 := hT.n16
  obtain ⟨t1, t2, t3, t4, t5, t6, t7, t8⟩ := hA.dips
  have hord := hA.order
  rw [if_neg (by simp [he])]
  simp only [if_pos he]
  refine Ev.bind (a := (trueLo l p water, trueHi l p water)) (by rw [true_f hT water hA.w0 hA.w1]; exact Ev.now _) (Ev.bind (a := (trueLo l p level, trueHi l p level)) (by rw [true_f hT level hA.l0 hA.l1]; exact Ev.now _) (Ev.bind (extremes_ev l p hn) ?_))
  have hlen : (extL l).length ≤ 1000 := by rw [extL_length]; omega
  have hch := extL_chart (l := l) (by omega) hA.tight

  obtain ⟨i, j, hpi, hpj, hD1, hD2, hall⟩ := between_all hT (trueLo l p water) (trueHi l p level) p t1 hord t8
  obtain ⟨s, hsl, hm1, hm2, hm3, hm4⟩ := most_all hT hA.tight t1 hord t8
  obtain ⟨x1, x2, x3⟩ := maxF_spec (betwN l i j (trueLo l p water) (trueHi l p level)) (extL l) 0
  have hbp := bden_pos hT (trueLo l p water) (trueHi l p level)
  have hbest := hall _ (hch _ (thr_mem l s hsl))
  have hM : maxF (betwN l i j (trueLo l p water) (trueHi l p level)) (extL l) 0 = betwN l i j (trueLo l p water) (trueHi l p level) (thrL l s) := by
   have g1 := x2 _ (thr_mem l s hsl)
   refine Int.le_antisymm ?_ g1
   rcases x3 with x3 | ⟨c, hc, x3⟩
   ·rw [x3]; exact hbest.2.2.1
   rw [x3]
   have hcc := hall c (hch c hc)
   have k1 := hm3 c (hch c hc)
   rw [hm1] at k1
   have k2 := Int.mul_le_mul_of_nonneg_right k1 (show 0 ≤ betwD l i j by omega)
   rw [hcc.2.1, hbest.2.1] at k2
   exact Int.le_of_mul_le_mul_right k2 (by omega)
  have hfrac := frac_eq hm4 hbp hbest.2.2.1 hD1 (by rw [hm1]; exact hbest.2.1)
  refine net_l0 l p (extL l) hlen _ _ _ _ _ (betwD l i j) (fun c hc => (hall c (hch c hc)).1) _ _ ?_ (extL l).length 0 0 1 (by omega) (.inr (by rw [extL_length]; omega)) (by rw [List.drop_zero])
  rw [hM]
  refine Ev.bind (fraction_ev _ _ (by have := hbest.2.2; omega) (by omega) (by omega)) ?_
  have hhi : highDips l p water level = (trueLo l p water, trueHi l p level) := rfl
  rw [hhi]
  simp only
  rw [hfrac.1, hfrac.2]
  by_cases hlt : trueHi l p water < trueLo l p level
  ·
   have hlo : lowDips l p water level = (trueHi l p water, trueLo l p level) := by unfold lowDips; rw [if_pos hlt]
   rw [hlo]
   simp only [if_pos hlt]
   obtain ⟨i', j', _, _, D1, D2, hall'⟩ := between_all hT (trueHi l p water) (trueLo l p level) p (by omega) (by omega) (by omega)
   obtain ⟨u, hu, _, f1, _, f2, f3⟩ := few_all hT hA.tight (show firstD l ≤ trueHi l p water by omega) (show trueHi l p water ≤ trueLo l p level by omega) (by omega)
   have hnn : ∀ c, c ∈ extL l → 0 ≤ betwN l i' j' (trueHi l p water) (trueLo l p level) c := fun c hc => (hall' c (hch c hc)).2.2.1
   obtain ⟨_, y2, y3⟩ := minF_spec (betwN l i' j' (trueHi l p water) (trueLo l p level)) (extL l) hnn (-1)
   have hne := near_mem l u hu
   have hbu := hall' _ (hch _ hne)
   have hbp' := bden_pos hT (trueHi l p water) (trueLo l p level)
   have hmin : ∃ c, c ∈ extL l ∧ minF (betwN l i' j' (trueHi l p water) (trueLo l p level)) (extL l) (-1) = betwN l i' j' (trueHi l p water) (trueLo l p level) c := by
    rcases y3 with y3 | y3
    ·have := (y2 _ hne).1; omega
    exact y3
   obtain ⟨c, hc, ec⟩ := hmin
   have hbc := hall' c (hch c hc)
   have heq : (fewR l (trueHi l p water) (trueLo l p level)).1 * betwD l i' j' = minF (betwN l i' j' (trueHi l p water) (trueLo l p level)) (extL l) (-1) * bden l (trueHi l p water) (trueLo l p level) := by
    refine Int.le_antisymm ?_ ?_
    ·rw [ec, ← hbc.2.1]
     exact Int.mul_le_mul_of_nonneg_right (f2 c (hch c hc)) (by omega)
    rw [f1, hbu.2.1]
    exact Int.mul_le_mul_of_nonneg_right (y2 _ hne).2 (by omega)
   have hmm : 0 ≤ minF (betwN l i' j' (trueHi l p water) (trueLo l p level)) (extL l) (-1) ∧ minF (betwN l i' j' (trueHi l p water) (trueLo l p level)) (extL l) (-1) ≤ 3200000000000 := by rw [ec]; exact hbc.2.2
   have hfr := frac_eq f3 hbp' hmm.1 D1 heq
   rw [hfr.1, hfr.2]
   exact net_l1_first l p (extL l) (by rw [extL_length]; omega) hlen _ _ _ _ _ _ _ _ (betwD l i' j') (fun c hc => (hall' c (hch c hc)).1) (fraction_ev _ _ (by omega) (by omega) (by omega))
  have hlo : lowDips l p water level = (mx (trueLo l p water) (trueLo l p level), mx (trueLo l p water) (trueLo l p level)) := by unfold lowDips; rw [if_neg hlt]
  have hx1 : firstD l ≤ mx (trueLo l p water) (trueLo l p level) := by unfold mx; split <;> omega
  have hx2 : mx (trueLo l p water) (trueLo l p level) ≤ lastD l := by unfold mx; split <;> omega
  obtain ⟨z1, z2⟩ := few_same hT hA.tight hx1 hx2
  rw [hlo]
  simp only [if_neg hlt]
  rw [z1, z2]
  exact Ev.now _
 rw [if_pos he]
 simp only [if_neg he]
 exact Ev.bind (netError_ev l p water level hn) (Ev.now _)
end
end Go.Proofs.Ytpkajhmchcbbhaa.P
end
