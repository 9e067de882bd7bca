/- Part 17 of 44. -/
import Derived.Test.YtpkajhmchcbbhaaL16
import Derived.Test.YtpkajhmchcbbhaaL13
import Derived.Test.YtpkajhmchcbbhaaL14
import Derived.BigRegionIn
set_option linter.unusedSimpArgs false
set_option linter.unusedVariables false
section
namespace Go.Proofs.Ytpkajhmchcbbhaa.P
open Go Go.BigFrame Go.RowKit Go.Proofs.YtpkajhmchcbbhaaW.PrintWords Go.Proofs.YtpkajhmchcbbhaaW.PrintLast Go.Proofs.YtpkajhmchcbbhaaW.PrintMore
def noDefer (ops : Array Oper) : Bool := ops.all fun o => match o.op with
 | .defer _ => false
 | _ => true
theorem noDefer_spec {ops : Array Oper} (h : noDefer ops = true) (j : Nat) (o : Oper) (ho : ops[j]? = some o) (c : Call) : o.op ≠ .defer c := fun e => by
 unfold noDefer at h
 rw [Array.all_eq_true] at h
 obtain ⟨hj, hx⟩ := Array.getElem?_eq_some_iff.1 ho
 have := h j hj
 rw [hx, e] at this
 cases this
end Go.Proofs.Ytpkajhmchcbbhaa.P
end
section
namespace Go.Proofs.Ytpkajhmchcbbhaa.P
open Go Go.BigFrame Go.RowKit Go.Proofs.YtpkajhmchcbbhaaW.PrintWords Go.Proofs.YtpkajhmchcbbhaaW.PrintLast Go.Proofs.YtpkajhmchcbbhaaW.PrintMore
theorem wpAnyIn_of_wpAny {n : Nat} (ro : Option Nat) {P : Program} {md : Region.Mode} {ops : Array Oper} {Q : Exit → Act → World → Prop} (hnd : noDefer ops = true) (hno : ¬ LetsOut Q) : ∀ (fuel : Nat) (listed : Array Bool) (a : Act) (w : World),
  wpAny P md ops Q fuel listed a w → wpAnyIn { Fence.wide with round := ro } n P md ops Q fuel listed a w := by
 intro fuel
 induction fuel with
 | zero => exact fun _ _ _ h => h
 | succ fuel ih =>
  intro listed a w h
  refine ⟨h.1, fun i hi => ?_⟩
  have h2 := wpOp_mono (fun a w => ih (listed.setIfInBounds i true) a w) (h.2 i hi)
  unfold wpOp at h2
  unfold wpOpIn
  cases ho : ops[i]? with
  | none => rw [ho] at h2; exact h2
  | some o =>
   rw [ho] at h2
   simp only at h2 ⊢
   split
   ·rename_i hw
    rw [if_pos hw] at h2
    rcases h2 with h2 | ⟨_, h2⟩
    ·unfold Oper.wpIn
     rw [Oper.semAt_eq _ _ _ (noDefer_spec hnd i o ho)]
     refine ⟨fun _ _ => trivial, ?_⟩
     unfold Oper.wp at h2
     generalize (execOp a.eval o).run P w = r at h2 ⊢
     cases r with
     | ok x w' =>
      cases x <;> simp only [Oper.upon, Oper.uponIn] at h2 ⊢
      case value => exact h2
      case skip => exact h2
      case defer => exact h2
      case enter => exact ⟨fun h => by simp [Fence.wide] at h, callsIn_wide.2 h2⟩
      case row =>
       refine ⟨fun h => by simp [Fence.wide] at h, fun c cs _ => ?_⟩
       obtain ⟨v, w2, r, s⟩ := h2 c cs
       exact ⟨v, w2, r, stepsIn_wide.2 s⟩
     | halt x w' => cases x <;> simp only [Oper.upon, Oper.uponIn] at h2 ⊢ <;> exact h2
    exact absurd h2 hno
   rename_i hw
   rw [if_neg hw] at h2
   exact ⟨fun _ _ => trivial, h2⟩
theorem startR_ {l n : Nat} {P : Program} {ops : Array Oper} {Q : Exit → Act → World → Prop} {S : World → Prop} {ds : List Nat} {id k : Nat} {a : Act} {w : World} (ls : Array Bool) (hm : P.follows .mixedOrders = true) (hnd : noDefer ops = true) (hno : ¬ LetsOut Q) (hk : ops.size = k)
  (hl : Array.replicate k false = ls) (hS : S w.drew) (h : S w.drew → wpAnyLast P .any ops Q S ds k ls a w.drew) : (Code.region id ops true).wpIn (Fence.wide.inRound l) n P Q a w := by
 subst hk
 subst hl
 exact wpIn_region_any hm (wpAnyIn_of_wpAny (some l) hnd hno _ _ _ _ (wpAny_of_last _ _ _ _ (h hS)))
theorem startW_ {n : Nat} {P : Program} {ops : Array Oper} {Q : Exit → Act → World → Prop} {S : World → Prop} {ds : List Nat} {id k : Nat} {a : Act} {w : World} (ls : Array Bool) (hm : P.follows .mixedOrders = true) (hnd : noDefer ops = true) (hno : ¬ LetsOut Q) (hk : ops.size = k)
  (hl : Array.replicate k false = ls) (hS : S w.drew) (h : S w.drew → wpAnyLast P .any ops Q S ds k ls a w.drew) : (Code.region id ops true).wpIn Fence.wide n P Q a w := by
 subst hk
 subst hl
 exact wpIn_region_any hm (wpAnyIn_of_wpAny none hnd hno _ _ _ _ (wpAny_of_last _ _ _ _ (h hS)))
def calm (Q : Exit → Act → World → Prop) : Exit → Act → World → Prop
 | .panic _, _, _ => False
 | .outgrown, _, _ => False
 | e, a, w => Q e a w
theorem calm_le {Q : Exit → Act → World → Prop} : ∀ e a w, calm Q e a w → Q e a w := fun e a w h => by cases e <;> first | exact h | exact h.elim
theorem calm_in {Q : Exit → Act → World → Prop} : ¬ LetsOut (calm Q) := by rintro ⟨_, _, h⟩; exact h
theorem calm_normal {Q : Exit → Act → World → Prop} {a : Act} {w : World} : calm Q .normal a w = Q .normal a w := rfl
theorem belowDrew (w : World) : Below w.heap.size w w.drew := (Below.refl _ _).drew
theorem segOk_below {w w1 : World} (h : Below w.heap.size w w1) {g k n : Nat} (hs : SegOk w g k n) : SegOk w1 g k n := by
 rw [SegOk_same (h.block g hs.lt)]; exact hs
theorem seg_below {w w1 : World} (h : Below w.heap.size w w1) {g k n : Nat} (hs : SegOk w g k n) {x : Array Value} (e : seg w g k n = x) : seg w1 g k n = x := by
 rw [seg_same (h.block g hs.lt)]; exact e
end Go.Proofs.Ytpkajhmchcbbhaa.P
end
section
namespace Go.Proofs.Ytpkajhmchcbbhaa.P
open Go Go.BigFrame Go.RowKit Go.Proofs.YtpkajhmchcbbhaaW.PrintWords Go.Proofs.YtpkajhmchcbbhaaW.PrintLast Go.Proofs.YtpkajhmchcbbhaaW.PrintMore
section
variable {P : Program} {md : Region.Mode} {ops : Array Oper} {Q : Exit → Act → World → Prop} {S : World → Prop} {ds : List Nat}
theorem at_ (l0 : Array Bool) {fuel : Nat} {l : Array Bool} {a : Act} {w : World} (_hl : l = l0) (h : wpAnyLast P md ops Q S ds fuel l a w) : wpAnyLast P md ops Q S ds fuel l a w := h
theorem yieldA {p : Prop} (h : p := by ((try simp only [List.getElem_toArray, List.getElem_cons_zero, List.getElem_cons_succ]); (try go_simp); (try simp only [↓IntWalk.iteOmega]); (try go_ints); (first | done | with_reducible rfl | rfl))) : p := h
theorem pureY {i : Nat} {N : Option Tmp} {oi : Oper} {v : Value} {fuel : Nat} {l l' : Array Bool} {a a' : Act} {w : World} (h : wpAnyLast P md ops Q S ds fuel l' a' w)
  (hi : ops[i]? = some oi := by rfl) (hN : oi.dst = N := by rfl) (hl : l.setIfInBounds i true = l' := by (simp only [List.setIfInBounds_toArray, List.set_cons_zero, List.set_cons_succ]; rfl))
  (hc : anyB md ops l l' i = true := by kernel_rfl) (hQ : ∀ c a w, Q (.panic c) (a.put oi.dst v) w → Q (.panic c) a w := by exact fun _ _ _ h => h)
  (hw : Region.wanted oi (yielded ops a.tmps) = true := by rfl)
  (hy : ∀ w', (execOp a.eval oi).run P w' = .ok (.value v) w' := by (intro w'; (try simp only [List.getElem_toArray, List.getElem_cons_zero, List.getElem_cons_succ]); (try go_simp); (try simp only [↓IntWalk.iteOmega]); (try go_ints); (first | done | with_reducible rfl | rfl)))
  (ha : a.put N v = a' := by (simp only [Act.put, List.setIfInBounds_toArray, List.set_cons_zero, List.set_cons_succ]; rfl)) : wpAnyLast P md ops Q S ds (fuel + 1) l a w := by
 subst hl
 exact pure_ _ hi hN hc hQ (Or.inl ⟨hw, hy⟩) ha h
theorem takeE {i : Nat} {N : Option Tmp} {oi : Oper} {v : Value} {fuel : Nat} {l l' : Array Bool} {a a' : Act} {w : World} (h : wpAnyLast P md ops Q (fun w' => w' = w) ds fuel l' a' w)
  (hi : ops[i]? = some oi := by rfl) (hN : oi.dst = N := by rfl) (hl : l.setIfInBounds i true = l' := by (simp only [List.setIfInBounds_toArray, List.set_cons_zero, List.set_cons_succ]; rfl))
  (hc : takeB md ops ds l l' i = true := by kernel_rfl) (hQ : ∀ c a w, Q (.panic c) (a.put oi.dst v) w → Q (.panic c) a w := by exact fun _ _ _ h => h)
  (hw : Region.wanted oi (yielded ops a.tmps) = true := by rfl)
  (hy : ∀ w', w' = w → (execOp a.eval oi).run P w' = .ok (.value v) w' := by (intro w' hw'; obtain rfl := hw'; (try simp only [List.getElem_toArray, List.getElem_cons_zero, List.getElem_cons_succ]); (try go_simp); (try simp only [↓IntWalk.iteOmega]); (try go_ints); (first | done | with_reducible rfl | rfl)))
  (ha : a.put N v = a' := by (simp only [Act.put, List.setIfInBounds_toArray, List.set_cons_zero, List.set_cons_succ]; rfl)) : wpAnyLast P md ops Q (fun w' => w' = w) ds (fuel + 1) l a w := by
 subst hl
 exact take_ _ hi hN hc hQ (Or.inl ⟨hw, hy⟩) rfl ha h
theorem takeF {i : Nat} {N : Option Tmp} {oi : Oper} {v : Value} {fuel : Nat} {l l' : Array Bool} {a a' : Act} {w : World} (hS : S w)
  (hi : ops[i]? = some oi := by rfl) (hN : oi.dst = N := by rfl) (hl : l.setIfInBounds i true = l' := by (simp only [List.setIfInBounds_toArray, List.set_cons_zero, List.set_cons_succ]; rfl))
  (hc : takeB md ops ds l l' i = true := by kernel_rfl) (hQ : ∀ c a w, Q (.panic c) (a.put oi.dst v) w → Q (.panic c) a w := by exact fun _ _ _ h => h)
  (hw : Region.wanted oi (yielded ops a.tmps) = true := by rfl)
  (hy : ∀ w', S w' → (execOp a.eval oi).run P w' = .ok (.value v) w')
  (ha : a.put N v = a' := by (simp only [Act.put, List.setIfInBounds_toArray, List.set_cons_zero, List.set_cons_succ]; rfl)) (h : wpAnyLast P md ops Q S ds fuel l' a' w) : wpAnyLast P md ops Q S ds (fuel + 1) l a w := by
 subst hl
 exact take_ _ hi hN hc hQ (Or.inl ⟨hw, hy⟩) hS ha h
theorem oneY {i : Nat} {N : Option Tmp} {oi : Oper} {fuel : Nat} {l l' : Array Bool} {a : Act} {w : World}
  (h : ∀ K : Act → World → Prop, Shut (∀ a' w', S w' → (S w' → wpAnyLast P md ops Q S ds fuel l' a' w') → K a' w') → if Region.wanted oi (yielded ops a.tmps) = true then Oper.wp P oi a w K Q else K (a.put N undef) w)
  (hi : ops[i]? = some oi := by rfl) (hN : oi.dst = N := by rfl) (hl : l.setIfInBounds i true = l' := by (simp only [List.setIfInBounds_toArray, List.set_cons_zero, List.set_cons_succ]; rfl))
  (hc : readyB md ops l l' i = true := by kernel_rfl) (hd : i ∉ ds := by decide) : wpAnyLast P md ops Q S ds (fuel + 1) l a w := by
 subst hl
 exact one_ _ hi hN hc hd h
theorem lastY {i : Nat} {N : Option Tmp} {oi : Oper} {fuel : Nat} {l l' : Array Bool} {a : Act} {w : World}
  (h : ∀ K : Act → World → Prop, Shut (∀ a' w', wpAnyLast P md ops Q S ds fuel l' a' w' → K a' w') → if Region.wanted oi (yielded ops a.tmps) = true then Oper.wp P oi a w K Q else K (a.put N undef) w)
  (hi : ops[i]? = some oi := by rfl) (hN : oi.dst = N := by rfl) (hl : l.setIfInBounds i true = l' := by (simp only [List.setIfInBounds_toArray, List.set_cons_zero, List.set_cons_succ]; rfl))
  (hc : readyB md ops l l' i = true := by kernel_rfl) (hd : i ∈ ds := by decide) : wpAnyLast P md ops Q S ds (fuel + 1) l a w := by
 subst hl
 exact last_ _ hi hN hc hd h
end
end Go.Proofs.Ytpkajhmchcbbhaa.P
end
section
namespace Go.Proofs.Ytpkajhmchcbbhaa.P
open Go.RowKit Go.Proofs.YtpkajhmchcbbhaaW.PrintWords Go.Proofs.YtpkajhmchcbbhaaW.PrintLast Go.Proofs.YtpkajhmchcbbhaaW.PrintMore
theorem grow_blk {W W' : World} {row : Option Nat} {b : Nat} {cs : Array Value} {t : TypeId} {s : Nat × Nat} (h : W.heap[b]? = some (Obj.cells cs t s)) (hg : W.grownBy W' row)
  (hr : ∀ r, row = some r → ∃ o : Obj, W.heap[r]? = some o ∧ o.isCells = false) : W'.heap[b]? = some (Obj.cells cs t s) :=
 (hg.block b (blk_lt h) (fun e => by
  obtain ⟨o, ho, hc⟩ := hr b e.symm
  rw [h] at ho
  injection ho with ho
  subst ho
  simp [Obj.isCells] at hc)).trans h
structure Marks (W : World) (ds : List Nat) : Prop where
 blk : ∀ D, D ∈ ds → W.heap[D]? = some (.deferred (some []))
 nd : ds.Nodup
theorem Marks.nil (W : World) : Marks W [] := ⟨fun _ h => by simp at h, List.nodup_nil⟩
theorem Marks.alloc {W : World} {ds : List Nat} (h : Marks W ds) (o : Obj) : Marks (W.alloc o) ds := ⟨fun D hD => blk_old (h.blk D hD), h.nd⟩
theorem Marks.drew {W : World} {ds : List Nat} (h : Marks W ds) : Marks W.drew ds := ⟨fun D hD => h.blk D hD, h.nd⟩
theorem Marks.lt {W : World} {ds : List Nat} (h : Marks W ds) (D : Nat) (hD : D ∈ ds) : D < W.heap.size := blk_lt (h.blk D hD)
theorem Marks.ne {W : World} {ds : List Nat} (h : Marks W ds) {b : Nat} {cs : Array Value} {t : TypeId} {s : Nat × Nat} (hb : W.heap[b]? = some (Obj.cells cs t s)) : b ∉ ds := fun hm => by
 rw [h.blk b hm] at hb
 cases hb
theorem Marks.setCell {W : World} {ds : List Nat} (h : Marks W ds) {a : Addr} {cs : Array Value} {t : TypeId} {s : Nat × Nat} (hb : W.heap[a.block]? = some (Obj.cells cs t s)) (v : Value) : Marks (W.setCell a v) ds :=
 ⟨fun D hD => (Below.heap_setCell _ _ _ _ (fun e => h.ne hb (e ▸ hD))).trans (h.blk D hD), h.nd⟩
theorem Marks.grown {W W' : World} {ds : List Nat} {row : Option Nat} (h : Marks W ds) (hg : W.grownBy W' row) (hr : ∀ r, row = some r → r ∉ ds) : Marks W' ds :=
 ⟨fun D hD => (hg.block D (h.lt D hD) (fun e => hr D e.symm hD)).trans (h.blk D hD), h.nd⟩
theorem Marks.cons {W : World} {ds : List Nat} (h : Marks W ds) {D : Nat} (hD : W.heap[D]? = some (.deferred (some []))) (hn : D ∉ ds) : Marks W (D :: ds) :=
 ⟨fun E hE => by
  rcases List.mem_cons.1 hE with rfl | hE
  ·exact hD
  exact h.blk E hE, List.nodup_cons.2 ⟨hn, h.nd⟩⟩
structure But (ds : List Nat) (W W' : World) : Prop where
 os : W'.os = W.os
 tape : W'.tape = W.tape
 output : W'.output = W.output
 size : W.heap.size ≤ W'.heap.size
 block : ∀ k, k < W.heap.size → k ∉ ds → W'.heap[k]? = W.heap[k]?
theorem But.refl (ds : List Nat) (W : World) : But ds W W := ⟨rfl, rfl, rfl, Nat.le_refl _, fun _ _ _ => rfl⟩
theorem But.trans {ds : List Nat} {A B C : World} (h : But ds A B) (k : But ds B C) : But ds A C :=
 ⟨k.os.trans h.os, k.tape.trans h.tape, k.output.trans h.output, Nat.le_trans h.size k.size, fun i hi hn => (k.block i (Nat.lt_of_lt_of_le hi h.size) hn).trans (h.block i hi hn)⟩
theorem But.more {ds es : List Nat} {A B C : World} (h : But ds A B) (k : But es B C) (he : ∀ d, d ∈ es → A.heap.size ≤ d) : But ds A C :=
 ⟨k.os.trans h.os, k.tape.trans h.tape, k.output.trans h.output, Nat.le_trans h.size k.size, fun i hi hn => (k.block i (Nat.lt_of_lt_of_le hi h.size) (fun m => by have := he i m; omega)).trans (h.block i hi hn)⟩
theorem But.alloc {ds : List Nat} {A B : World} (h : But ds A B) (o : Obj) : But ds A (B.alloc o) :=
 h.trans ⟨rfl, rfl, rfl, by simp, fun k hk _ => Below.heap_alloc _ _ _ hk⟩
theorem But.drew {ds : List Nat} {A B : World} (h : But ds A B) : But ds A B.drew := h.trans ⟨rfl, rfl, rfl, Nat.le_refl _, fun _ _ _ => rfl⟩
theorem But.grown {ds : List Nat} {A B C : World} {row : Option Nat} (h : But ds A B) (hg : B.grownBy C row) (hr : ∀ r, row = some r → r ∈ ds ∨ A.heap.size ≤ r) : But ds A C :=
 ⟨hg.os.trans h.os, hg.tape.trans h.tape, hg.output.trans h.output, Nat.le_trans h.size hg.size, fun k hk hn =>
  (hg.block k (Nat.lt_of_lt_of_le hk h.size) (fun e => (hr k e.symm).elim hn (by omega))).trans (h.block k hk hn)⟩
theorem But.setCell {ds : List Nat} {A B : World} (h : But ds A B) (a : Addr) (v : Value) (ha : a.block ∈ ds ∨ A.heap.size ≤ a.block) : But ds A (B.setCell a v) := by
 have hb := Below.setCell (Below.refl 0 B) (p := a) (Nat.zero_le _) v
 exact ⟨hb.os.trans h.os, hb.tape.trans h.tape, hb.output.trans h.output, Nat.le_trans h.size hb.size, fun k hk hn =>
  (Below.heap_setCell B a v k (fun e => ha.elim (fun m => hn (by rw [e]; exact m)) (fun m => by rw [← e] at m; omega))).trans (h.block k hk hn)⟩
theorem But.below {ds : List Nat} {A B : World} (h : But ds A B) (n : Nat) (hn : n ≤ A.heap.size) (hd : ∀ d, d ∈ ds → n ≤ d) : Below n A B :=
 ⟨h.os, h.tape, h.output, h.size, fun k hk => h.block k (by omega) (fun m => by have := hd k m; omega)⟩
theorem But.nil {A B : World} (h : But [] A B) : Below A.heap.size A B := h.below _ (Nat.le_refl _) (fun _ m => by simp at m)
theorem Below.but {A B : World} (h : Below A.heap.size A B) (ds : List Nat) : But ds A B := ⟨h.os, h.tape, h.output, h.size, fun k hk _ => h.block k hk⟩
theorem ownBlk {β : Type} {B b : Nat} {t : TypeId} {s : Nat × Nat} (f : β → Array Value) : OwnFrom B (fun (x : β) W => W.heap[b]? = some (Obj.cells (f x) t s)) :=
 fun _ _ _ _ hs hg hr => grow_blk hs hg (fun r e => (hr r e).2)
theorem ownGauge {β : Type} {B g : Nat} {A : Option Addr} {n c : Nat} {p : Int} (f h : β → List Int) : OwnFrom B (fun (x : β) W => Gauge W g A n c p (f x) (h x)) :=
 fun _ _ _ _ hs hg hr => ⟨hs.l, hs.h, grow_blk hs.b hg (fun r e => (hr r e).2)⟩
theorem ownBut {β : Type} {B : Nat} {ds : List Nat} {w : World} (h : w.heap.size ≤ B) : OwnFrom B (fun (_ : β) W => But ds w W) :=
 fun _ _ _ _ hs hg hr => hs.grown hg (fun r e => .inr (Nat.le_trans h (hr r e).1))
theorem ownProp {β : Type} {B : Nat} (p : β → Prop) : OwnFrom B (fun (x : β) (_ : World) => p x) := fun _ _ _ _ hs _ _ => hs
def mkD (D : Nat) : Deferred := { target := .collected D, args := #[] }
theorem leaves_marks {F : Fence} {n : Nat} {P : Program} {fn : Func} {tmps : Array Value} {R : Ending → World → Prop} : ∀ (ds : List Nat) (W : World), Marks W ds →
  (∀ W' : World, But ds W W' → (∀ (b : Nat) (cs : Array Value) (t : TypeId) (s : Nat × Nat), W.heap[b]? = some (Obj.cells cs t s) → W'.heap[b]? = some (Obj.cells cs t s)) → LeavesIn F n P fn tmps R [] .returning W') → LeavesInM F n P fn tmps R (ds.map mkD) .returning W := by
 intro ds
 induction ds with
 | nil => exact fun W _ h => h W (But.refl _ _) (fun _ _ _ _ h => h)
 | cons D ds ih =>
  intro W hm h
  have hD := hm.blk D (by simp)
  have hg := grownBy_putObj' W D (.deferred none)
  have hn : D ∉ ds := (List.nodup_cons.1 hm.nd).1
  refine ⟨by simp, .inl ⟨_, _, rfl, run_takeDeferred hD, ?_⟩⟩
  refine ih _ ((⟨fun E hE => hm.blk E (by simp [hE]), (List.nodup_cons.1 hm.nd).2⟩ : Marks W ds).grown hg (fun r e => by cases e; exact hn)) ?_
  intro W' hb hc
  have hg' : But (D :: ds) W (W.putObj D (.deferred none)) := (But.refl _ _).grown hg (fun r e => by cases e; exact .inl (by simp))
  refine h W' ⟨hb.os.trans hg'.os, hb.tape.trans hg'.tape, hb.output.trans hg'.output, Nat.le_trans hg'.size hb.size, fun k hk hnm => (hb.block k (Nat.lt_of_lt_of_le hk hg'.size) (fun m => hnm (by simp [m]))).trans (hg'.block k hk hnm)⟩ ?_
  intro b cs t s hbk
  exact hc b cs t s (grow_blk hbk hg (fun r e => by cases e; exact ⟨_, hD, rfl⟩))
end Go.Proofs.Ytpkajhmchcbbhaa.P
end
section
namespace Go.Proofs.Ytpkajhmchcbbhaa.P
open Go.RowKit Go.Proofs.YtpkajhmchcbbhaaW.PrintWords Go.Proofs.YtpkajhmchcbbhaaW.PrintLast Go.Proofs.YtpkajhmchcbbhaaW.PrintMore
theorem max2_mx (k k' : IntKind) (x y : Int) : Builtin.max2 (.int k x) (.int k' y) = pure (.int k (mx x y)) := max2_int k k' x y
theorem min2_mn (k k' : IntKind) (x y : Int) : Builtin.min2 (.int k x) (.int k' y) = pure (.int k (mn x y)) := min2_int k k' x y
theorem zlit : (#[Value.int IntKind.i64 0, Value.int IntKind.i64 0, Value.int IntKind.i64 0, Value.int IntKind.i64 0, Value.int IntKind.i64 0, Value.int IntKind.i64 0, Value.int IntKind.i64 0, Value.int IntKind.i64 0, Value.int IntKind.i64 0, Value.int IntKind.i64 0, Value.int IntKind.i64 0, Value.int IntKind.i64 0, Value.int IntKind.i64 0, Value.int IntKind.i64 0, Value.int IntKind.i64 0, Value.int IntKind.i64 0] : Array Value) = ints (List.replicate 16 0) := rfl
theorem addr_add0 (a : Addr) : a.add 0 = a := by
 unfold Addr.add
 cases a with
 | mk b o s => cases s <;> simp_all
theorem ints_all (l : List Int) {n : Nat} (h : l.length ≤ n) : (ints l).extract 0 n = ints l := by
 apply Array.ext'
 simp only [ints, List.extract_toArray, List.extract_eq_take_drop, List.drop_zero, Nat.sub_zero]
 rw [List.take_of_length_le (by simpa using h)]
theorem ints_set (l : List Int) (i : Nat) (v : Int) : (ints l).setIfInBounds i (.int .i64 v) = ints (l.set i v) := by
 unfold ints
 rw [List.setIfInBounds_toArray, ← List.map_set]
theorem ints_getD (l : List Int) (i : Nat) (h : i < l.length) : (ints l)[i]? = some (.int .i64 (l.getD i 0)) := by
 simp [ints, List.getD_eq_getElem?_getD, h]
theorem zeros_get (n j : Nat) (h : j < n) : (ints (List.replicate n 0))[j]? = some (.int .i64 0) := by
 rw [ints_getD _ _ (by simpa using h)]; simp [List.getD_eq_getElem?_getD, h]
section
variable {P : Program}
theorem run_loadVar_arr (ty n : Nat) (ha : ∀ w, (isAgg ty).run P w = .ok true w) (hs : ∀ w, (sizeOf ty).run P w = .ok n w) (w : World) (g k : Nat) (h : SegOk w g k n) : (loadVar ty ⟨g, k, none⟩).run P w = .ok (.agg (seg w g k n)) w := by
 obtain ⟨cs, t, hb, hn⟩ := h
 have hl : (loadCells ⟨g, k, none⟩ n).run P w = .ok (seg w g k n) w := by
  have := run_loadCells (P := P) w ⟨g, k, none⟩ n (fun j => cs.getD (k + j) undef) (fun j hj => by
   have hadd : (⟨g, k, none⟩ : Addr).add j = ⟨g, k + j, none⟩ := by unfold Addr.add; split <;> simp_all
   rw [hadd, blk_cell hb]
   simp [Array.getD, show k + j < cs.size by omega])
  rw [this, seg_of hb]
  congr 1
  apply Array.ext
  ·simp; omega
  intro i h1 h2
  have hi : i < n := by simpa using h1
  simp [Array.getD, show k + i < cs.size by omega]
 simp only [loadVar, Sem.run_bind, Sem.run_pure, Result.andThen_ok, ha, hs, hl, if_true]
theorem results_arr1 {fn : Func} {tmps : Array Value} {w : World} {a ty n g k : Nat} (hr : fn.results = #[.cell a ty]) (hp : tmps.getD a undef = .pointer (some ⟨g, k, none⟩)) (ha : ∀ w, (isAgg ty).run P w = .ok true w) (hs : ∀ w, (sizeOf ty).run P w = .ok n w) (h : SegOk w g k n) :
  (results fn tmps).run P w = .ok (.agg (seg w g k n)) w := by
 have hp' : tmps[a]?.getD undef = .pointer (some ⟨g, k, none⟩) := by simpa using hp
 simp [results, hr, hp', asAddr, run_loadVar_arr ty n ha hs w g k h]
theorem results_arr2 {fn : Func} {tmps : Array Value} {w : World} {a b ty n g k : Nat} (hr : fn.results = #[.cell a ty, .tmp b]) (hp : tmps.getD a undef = .pointer (some ⟨g, k, none⟩)) (ha : ∀ w, (isAgg ty).run P w = .ok true w) (hs : ∀ w, (sizeOf ty).run P w = .ok n w) (h : SegOk w g k n) :
  (results fn tmps).run P w = .ok (.tuple #[.agg (seg w g k n), tmps.getD b undef]) w := by
 have hp' : tmps[a]?.getD undef = .pointer (some ⟨g, k, none⟩) := by simpa using hp
 simp [results, hr, hp', asAddr, run_loadVar_arr ty n ha hs w g k h]
end
theorem putSeg_block {w : World} {g t : Nat} {cs : Array Value} {l : List Value} (h : w.heap[g]? = some (.cells cs t (0, 0))) (hl : l.length = cs.size) : (putSeg w g 0 l).heap[g]? = some (.cells l.toArray t (0, 0)) := by
 rw [putSeg_heap l w g 0 cs t h, splice_all l cs hl]
theorem seg_whole {w : World} {g t n : Nat} {cs : Array Value} (h : w.heap[g]? = some (.cells cs t (0, 0))) (hn : cs.size = n) : seg w g 0 n = cs := by
 rw [seg_of h, Nat.zero_add, ← hn, Array.extract_size]
theorem isAggR : ∀ w, (isAgg 43).run Try.prog w = .ok true w := fun w => by kernel_rfl
theorem sizeOfR : ∀ w, (sizeOf 43).run Try.prog w = .ok 2 w := fun w => by kernel_rfl
theorem put2 {W : World} {b t : Nat} {u v : Value} (x y : Value) (h : W.heap[b]? = some (.cells #[u, v] t (0, 0))) : ((W.setCell ⟨b, 0, none⟩ x).setCell ⟨b, 1, none⟩ y).heap[b]? = some (.cells #[x, y] t (0, 0)) := blk_put (blk_put h 0 x rfl) 1 y rfl
theorem put2_below {w W : World} {b : Nat} (x y : Value) (hB : Below w.heap.size w W) (hb : w.heap.size ≤ b) : Below w.heap.size w ((W.setCell ⟨b, 0, none⟩ x).setCell ⟨b, 1, none⟩ y) := (hB.setCell (p := ⟨b, 0, none⟩) hb x).setCell (p := ⟨b, 1, none⟩) hb y
theorem isAggQ : ∀ w, (isAgg 39).run Try.prog w = .ok true w := fun w => by kernel_rfl
theorem sizeOfQ : ∀ w, (sizeOf 39).run Try.prog w = .ok 2 w := fun w => by kernel_rfl
theorem isAgg2 : ∀ w, (isAgg 51).run Try.prog w = .ok true w := fun w => by kernel_rfl
theorem sizeOf2 : ∀ w, (sizeOf 51).run Try.prog w = .ok 2 w := fun w => by kernel_rfl
theorem isAggS : ∀ w, (isAgg 48).run Try.prog w = .ok true w := fun w => by kernel_rfl
theorem sizeOfS : ∀ w, (sizeOf 48).run Try.prog w = .ok 4 w := fun w => by kernel_rfl
theorem isAggEE : ∀ w, (isAgg 113).run Try.prog w = .ok true w := fun w => by kernel_rfl
theorem sizeOfEE : ∀ w, (sizeOf 113).run Try.prog w = .ok 40 w := fun w => by kernel_rfl
theorem isAggE : ∀ w, (isAgg 112).run Try.prog w = .ok true w := fun w => by kernel_rfl
theorem sizeOfE : ∀ w, (sizeOf 112).run Try.prog w = .ok 20 w := fun w => by kernel_rfl
theorem isAgg16 : ∀ w, (isAgg 97).run Try.prog w = .ok true w := fun w => by kernel_rfl
theorem sizeOf16 : ∀ w, (sizeOf 97).run Try.prog w = .ok 16 w := fun w => by kernel_rfl
theorem below_blk {n : Nat} {A B : World} (h : Below n A B) {b : Nat} {o : Obj} (hb : A.heap[b]? = some o) (hn : b < n) : B.heap[b]? = some o := (h.block b hn).trans hb
end Go.Proofs.Ytpkajhmchcbbhaa.P
end
section
namespace Go.Proofs.Ytpkajhmchcbbhaa.P
open Go.RowKit Go.Proofs.YtpkajhmchcbbhaaW.PrintWords Go.Proofs.YtpkajhmchcbbhaaW.PrintLast Go.Proofs.YtpkajhmchcbbhaaW.PrintMore
attribute [local go_sem ↓] exec_load97 exec_store97 sem_load97 sem_store97
attribute [local go_sem] load97_at store97_at SegOk_alloc seg_alloc SegOk_drew seg_drew SegOk_drewN seg_drewN ints_size Ones_ints
structure DipOk (l : List SRow) : Prop where
 n2 : 2 ≤ l.length
 n16 : l.length ≤ 16
 lo : ∀ i, i < l.length → 0 ≤ dipN l i
 hi : ∀ i, i < l.length → dipN l i ≤ 4000
theorem posA_stop (l : List SRow) (dip : Int) (f k : Nat) (h : ¬ (k < l.length - 1 ∧ dipN l k < dip)) : posA l dip f k = k := by
 cases f with
 | zero => rfl
 | succ f => rw [posA, if_neg h]
theorem posA_step (l : List SRow) (dip : Int) (f k : Nat) (h : k < l.length - 1 ∧ dipN l k < dip) : posA l dip (f + 1) k = posA l dip f (k + 1) := by rw [posA, if_pos h]
theorem wts_length (l : List SRow) (dip : Int) : (wts l dip).length = 16 := by simp [wts]
set_option maxRecDepth 100000 in
set_option maxHeartbeats 4000000 in
theorem weigh_calls (g : Nat) (A : Option Addr) (c : Nat) (l : List SRow) (p : Int) (lo hi : List Int) (dip : Int) (w : World) (hr : Kd.C kRow w A l.length l) (hD : DipOk l) (hd0 : -100000 ≤ dip) (hd1 : dip ≤ 100000)
  (hg : Gauge w g A l.length c p lo hi) :
  Calls Try.prog 64 #[.pointer (some ⟨g, 0, none⟩), .int .i64 dip] w fun e w' => e = .returned (.tuple #[.agg (ints (wts l dip)), .int .i64 (wden l dip)]) ∧ Below w.heap.size w w' := by
 have HR := Aside0.mk hr
 have HG := Aside0.mk hg
 have HDD := Aside0.mk hD
 have hc0 := hg.c0
 have hgl := hg.lt
 have n2 := hD.n2
 have n16 := hD.n16
 clear hr hg hD
 have hu1 := Try.underlying24
 have hu2 := Try.underlying70
 have hu3 := Try.underlying99
 have hu5 := Try.underlying97
 go_enter Try.func64, Try.ntmps64
 go_wp2_with fail
 go_loopw [6] (fun i wr => ∃ k f : Nat, i = .int .i64 k ∧ 1 ≤ k ∧ k ≤ l.length - 1 ∧ l.length ≤ f + k ∧ posA l dip f k = pos l dip ∧ Below (w.heap.size + 1) (w.alloc (.cells (ints (List.replicate 16 0)) 97)) wr) (fun i _ => l.length - (intOf i).toNat)
 case atStart => exact ⟨1, l.length, rfl, Nat.le_refl _, by omega, by omega, rfl, Below.refl _ _⟩
 case round =>
  obtain ⟨k, f, rfl, hk1, hkn, hf, hpos, hB⟩ := hrel
  have hBw : Below w.heap.size w wr := ((Below.refl w.heap.size w).alloc (Nat.le_refl _) _).trans (hB.mono (by omega))
  have hg := HG.out.below hBw
  have hc0 := hg.c0
  have HPOS := Lib.hid hpos
  have HZR := Aside0.mk (below_blk hB (blk_new w _) (by omega))
  have hsz : w.heap.size + 1 ≤ wr.heap.size := by have := hB.size; simpa using this
  have HB0 := Aside0.mk hB
  have HB := Aside0.mk hBw
  clear hpos hB hBw
  obtain ⟨ad, rfl, c0, c1, c2⟩ := row_cells HR.out k (by omega)
  replace c0 := pw_cell_below HB.out c0
  clear c1 c2
  obtain ⟨d, hd⟩ : ∃ d, d = (l.getD k zRow).f0 := ⟨_, rfl⟩
  rw [← hd] at c0
  have HDK := Lib.hid (show dipN l k = d from hd.symm)
  clear hd hg
  have i1 : (k : Int) < l.length := by omega
  by_cases hst : k < l.length - 1 ∧ d < dip
  ·have i2 : (k : Int) < (l.length : Int) - 1 := by omega
   have i3 : d < dip := hst.2
   go_wp2
   go_roundw
   case rel =>
    refine ⟨k + 1, f - 1, by simp, by omega, by omega, by omega, ?_, ?_⟩
    ·rw [← HPOS.out]
     obtain ⟨f', rfl⟩ : ∃ f', f = f' + 1 := ⟨f - 1, by omega⟩
     rw [posA_step _ _ _ _ (by rw [HDK.out]; exact hst), Nat.add_sub_cancel]
    exact HB0.out
   case measure => simp [intOf]; omega
  have HK := Lib.hid (show pos l dip = k by rw [← HPOS.out, posA_stop]; rw [HDK.out]; exact hst)
  have hcs : ((k : Int) < (l.length : Int) - 1 ∧ ¬ d < dip) ∨ ¬ (k : Int) < (l.length : Int) - 1 := by omega
  clear hst
  rcases hcs with ⟨i2, i3⟩ | i2 <;> go_wp2
  all_goals
   obtain ⟨W1, hW1⟩ : ∃ W1, wr.alloc (.cells #[Value.int IntKind.i64 0, Value.int IntKind.i64 0, Value.int IntKind.i64 0, Value.int IntKind.i64 0, Value.int IntKind.i64 0, Value.int IntKind.i64 0, Value.int IntKind.i64 0, Value.int IntKind.i64 0, Value.int IntKind.i64 0, Value.int IntKind.i64 0, Value.int IntKind.i64 0, Value.int IntKind.i64 0, Value.int IntKind.i64 0, Value.int IntKind.i64 0, Value.int IntKind.i64 0, Value.int IntKind.i64 0] 97) = W1 := ⟨_, rfl⟩
   rw [hW1]
   have HB1 : Aside0 (Below w.heap.size w W1) := ⟨by rw [← hW1]; exact HB.out.alloc HB.out.size _⟩
   have HZ : Aside0 (W1.heap[wr.heap.size]? = some (.cells (ints (List.replicate 16 0)) 97 (0, 0))) := ⟨by rw [← hW1]; exact blk_new _ _⟩
   have HZ1 : Aside0 (W1.heap[w.heap.size]? = some (.cells (ints (List.replicate 16 0)) 97 (0, 0))) := ⟨by rw [← hW1]; exact blk_old HZR.out⟩
   clear hW1
   have hne : w.heap.size ≠ wr.heap.size := by omega
   have hc0 := (HG.out.below HB1.out).c0
   obtain ⟨j, rfl⟩ : ∃ j, k = j + 1 := ⟨k - 1, by omega⟩
   obtain ⟨ad', had, c0', c1, c2⟩ := row_cells HR.out j (by omega)
   obtain rfl := Option.some.inj had
   obtain ⟨ad'', had, c0, c1, c2⟩ := row_cells HR.out (j + 1) (by omega)
   obtain rfl := Option.some.inj had
   clear had c1 c2
   replace c0 := pw_cell_below HB1.out c0
   replace c0' := pw_cell_below HB1.out c0'
   obtain ⟨b, hb⟩ : ∃ b, b = (l.getD (j + 1) zRow).f0 := ⟨_, rfl⟩
   obtain ⟨a', ha⟩ : ∃ a', a' = (l.getD j zRow).f0 := ⟨_, rfl⟩
   rw [← hb] at c0
   rw [← ha] at c0'
   have b0 : 0 ≤ b := by rw [hb]; exact HDD.out.lo (j + 1) (by omega)
   have b1 : b ≤ 4000 := by rw [hb]; exact HDD.out.hi (j + 1) (by omega)
   have a0 : 0 ≤ a' := by rw [ha]; exact HDD.out.lo j (by omega)
   have a1 : a' ≤ 4000 := by rw [ha]; exact HDD.out.hi j (by omega)
   have hz0 := (blk_cell HZ.out j).trans (zeros_get 16 j (by omega))
   have hz1 := (blk_cell HZ.out (j + 1)).trans (zeros_get 16 (j + 1) (by omega))
   have hzf0 := blk_frozen HZ.out j
   have hzf1 := blk_frozen HZ.out (j + 1)
   have HBB := Lib.hid hb
   have HAA := Lib.hid ha
   have HNE := Lib.hid hne
   clear hb ha hsz hne
   (refine start_ (n := 21) (S := fun w' => w' = _) (ds := []) (List.toArray (false :: false :: false :: false :: false :: false :: false :: false :: false :: false :: false :: false :: false :: false :: false :: false :: false :: false :: false :: false :: false :: [])) (by kernel_rfl) rfl rfl rfl (fun plS => ?_); clear plS; refine pureY (i := 0) (N := (some 34)) ?_; refine pureY (i := 1) (N := (some 35)) ?_; refine pureY (i := 2) (N := (some 36)) ?_; refine pureY (i := 3) (N := (some 37)) ?_; refine pureY (i := 5) (N := (some 39)) ?_; refine pureY (i := 6) (N := (some 40)) ?_; refine pureY (i := 10) (N := (some 44)) ?_; refine pureY (i := 11) (N := (some 45)) ?_; refine pureY (i := 12) (N := (some 46)) ?_; refine pureY (i := 13) (N := (some 47)) ?_; refine pureY (i := 15) (N := (some 49)) ?_; refine takeE (i := 4) (N := (some 38)) ?_; refine pureY (i := 7) (N := (some 41)) ?_; refine pureY (i := 8) (N := (some 42)) ?_; refine takeE (i := 9) (N := (some 43)) ?_; refine pureY (i := 19) (N := (some 8)) ?_; refine takeE (i := 14) (N := (some 48)) ?_; refine pureY (i := 16) (N := (some 50)) ?_; refine pureY (i := 17) (N := (some 51)) ?_; refine takeE (i := 18) (N := (some 52)) ?_; refine pureY (i := 20) (N := (some 9)) ?_; refine done_ (by kernel_rfl) ?_)
   have hblk := blk_put (blk_put HZ.out j (.int .i64 (b - dip)) rfl) (j + 1) (.int .i64 (dip - a')) rfl
   have hblk0 := (Below.heap_setCell (W1.setCell ⟨wr.heap.size, j, none⟩ (.int .i64 (b - dip))) ⟨wr.heap.size, j + 1, none⟩ (.int .i64 (dip - a')) w.heap.size HNE.out).trans ((Below.heap_setCell W1 ⟨wr.heap.size, j, none⟩ (.int .i64 (b - dip)) w.heap.size HNE.out).trans HZ1.out)
   have hS3 := SegOk.mk' hblk 0 16 (by simp [ints])
   have hV3 := seg_of hblk 0 16
   have hS4 := SegOk.mk' hblk0 0 16 (by simp [ints])
   have HBLK0 := Aside0.mk hblk0
   have hB3 := (HB1.out.setCell (p := ⟨wr.heap.size, j, none⟩) (by have := HB.out.size; exact this) (.int .i64 (b - dip))).setCell (p := ⟨wr.heap.size, j + 1, none⟩) (by have := HB.out.size; exact this) (.int .i64 (dip - a'))
   have HB3 := Aside0.mk hB3
   have hx : ((((ints (List.replicate 16 0)).setIfInBounds j (Value.int IntKind.i64 (b - dip))).setIfInBounds (j + 1) (Value.int IntKind.i64 (dip - a'))).extract 0 (0 + 16)) = ints (wts l dip) := by
    rw [ints_set, ints_set, ints_all _ (by simp)]
    unfold wts
    rw [HK.out, Nat.add_sub_cancel]
    have h1 : dipN l (j + 1) = b := HBB.out.symm
    have h2 : dipN l j = a' := HAA.out.symm
    rw [h1, h2]
   rw [hx] at hV3
   have hwl := wts_length l dip
   clear hblk hblk0 hB3 hx
   go_wp2
   have hfin := putSeg_block (w := ((W1.setCell ⟨wr.heap.size, j, none⟩ (.int .i64 (b - dip))).setCell ⟨wr.heap.size, j + 1, none⟩ (.int .i64 (dip - a'))).drew) HBLK0.out (l := (ints (wts l dip)).toList) (by simp [ints, hwl])
   refine bodyPost_ret (results_arr2 rfl rfl isAgg16 sizeOf16 (SegOk.mk' hfin 0 16 (by simp [ints, hwl]))) rfl ⟨?_, ?_⟩
   ·rw [seg_whole hfin (by simp [ints, hwl])]
    have h1 : dipN l (j + 1) = b := HBB.out.symm
    have h2 : dipN l j = a' := HAA.out.symm
    simp [wden, HK.out, h1, h2]
   exact putSeg_below _ _ _ _ _ _ (Nat.le_refl _) HB3.out.drew
end Go.Proofs.Ytpkajhmchcbbhaa.P
end
section
namespace Go.Proofs.Ytpkajhmchcbbhaa.P
open Go.RowKit Go.Proofs.YtpkajhmchcbbhaaW.PrintWords Go.Proofs.YtpkajhmchcbbhaaW.PrintLast Go.Proofs.YtpkajhmchcbbhaaW.PrintMore
attribute [local go_sem ↓] exec_load97 exec_store97 sem_load97 sem_store97
attribute [local go_sem] load97_at store97_at SegOk_alloc seg_alloc SegOk_drew seg_drew SegOk_drewN seg_drewN ints_size Ones_ints store97_new store97_newD
theorem DipOk.pos {l : List SRow} (h : DipOk l) (dip : Int) : 1 ≤ pos l dip ∧ pos l dip < l.length := by
 have key : ∀ f i, 1 ≤ i → i < l.length → 1 ≤ posA l dip f i ∧ posA l dip f i < l.length := by
  intro f
  induction f with
  | zero => intro i h1 h2; exact ⟨h1, h2⟩
  | succ f ih =>
   intro i h1 h2
   unfold posA
   split
   ·rename_i hc; exact ih (i + 1) (by omega) (by omega)
   exact ⟨h1, h2⟩
 exact key _ 1 (Nat.le_refl _) (by have := h.n2; omega)
theorem wts_get {l : List SRow} (h : DipOk l) (dip : Int) (i : Nat) (hi : i < 16) : (wts l dip).getD i 0 = if i = pos l dip then dip - dipN l (pos l dip - 1) else if i = pos l dip - 1 then dipN l (pos l dip) - dip else 0 := by
 have hp := h.pos dip
 have h16 := h.n16
 unfold wts
 simp only [List.getD_eq_getElem?_getD, List.getElem?_set, List.length_set, List.length_replicate, List.getElem?_replicate]
 by_cases h1 : i = pos l dip
 ·subst h1; simp [hi]
 by_cases h2 : i = pos l dip - 1
 ·have h3 : pos l dip ≠ i := fun e => h1 e.symm
  rw [if_neg h1, if_pos h2, if_neg h3, if_pos h2.symm, if_pos (by omega)]; rfl
 have h3 : pos l dip ≠ i := fun e => h1 e.symm
 have h4 : pos l dip - 1 ≠ i := fun e => h2 e.symm
 rw [if_neg h1, if_neg h2, if_neg h3, if_neg h4, if_pos hi]; rfl
theorem wts_within {l : List SRow} (h : DipOk l) (dip : Int) (h0 : 0 ≤ dip) (h1 : dip ≤ 4000) (i : Nat) (hi : i < 16) : -4000 ≤ (wts l dip).getD i 0 ∧ (wts l dip).getD i 0 ≤ 4000 := by
 have hp := h.pos dip
 have a1 := h.lo (pos l dip) hp.2
 have a2 := h.hi (pos l dip) hp.2
 have a3 := h.lo (pos l dip - 1) (by omega)
 have a4 := h.hi (pos l dip - 1) (by omega)
 rw [wts_get h dip i hi]
 split
 ·omega
 split <;> omega
theorem wden_within {l : List SRow} (h : DipOk l) (dip : Int) : -4000 ≤ wden l dip ∧ wden l dip ≤ 4000 := by
 have hp := h.pos dip
 have a1 := h.lo (pos l dip) hp.2
 have a2 := h.hi (pos l dip) hp.2
 have a3 := h.lo (pos l dip - 1) (by omega)
 have a4 := h.hi (pos l dip - 1) (by omega)
 unfold wden
 omega
theorem mul_4000 {x y : Int} (hx : -4000 ≤ x ∧ x ≤ 4000) (hy : -4000 ≤ y ∧ y ≤ 4000) : -16000000 ≤ x * y ∧ x * y ≤ 16000000 := by
 have a1 : 0 ≤ (4000 - x) * (4000 - y) := Int.mul_nonneg (by omega) (by omega)
 have a2 : 0 ≤ (4000 + x) * (4000 + y) := Int.mul_nonneg (by omega) (by omega)
 have a3 : 0 ≤ (4000 - x) * (4000 + y) := Int.mul_nonneg (by omega) (by omega)
 have a4 : 0 ≤ (4000 + x) * (4000 - y) := Int.mul_nonneg (by omega) (by omega)
 simp only [Int.sub_mul, Int.mul_sub, Int.add_mul, Int.mul_add] at a1 a2 a3 a4
 omega
def bw (x y : List Int) (a b : Int) (k : Nat) : List Int := (List.range 16).map fun i => if i < k then y.getD i 0 * a - x.getD i 0 * b else y.getD i 0
theorem bw_length (x y : List Int) (a b : Int) (k : Nat) : (bw x y a b k).length = 16 := by simp [bw]
theorem bw_get (x y : List Int) (a b : Int) (k i : Nat) (hi : i < 16) : (bw x y a b k).getD i 0 = if i < k then y.getD i 0 * a - x.getD i 0 * b else y.getD i 0 := by
 simp [bw, List.getD_eq_getElem?_getD, hi]
theorem bw_set (x y : List Int) (a b : Int) (k : Nat) (_hk : k < 16) : (bw x y a b k).set k (y.getD k 0 * a - x.getD k 0 * b) = bw x y a b (k + 1) := by
 apply List.ext_getElem
 ·simp [bw]
 intro i h1 h2
 simp only [List.getElem_set, bw, List.getElem_map, List.getElem_range]
 by_cases e : k = i
 ·subst e; simp
 rw [if_neg e]
 by_cases h : i < k
 ·rw [if_pos h, if_pos (by omega)]
 rw [if_neg h, if_neg (by omega)]
theorem bw_start (x y : List Int) (a b : Int) (hy : y.length = 16) : bw x y a b 0 = y := by
 apply List.ext_getElem
 ·simp [bw, hy]
 intro i h1 h2
 simp [bw, List.getD_eq_getElem?_getD, h2]
theorem bw_end (l : List SRow) (d0 d1 : Int) : bw (wts l d0) (wts l d1) (wden l d0) (wden l d1) 16 = bwts l d0 d1 := by
 apply List.ext_getElem
 ·simp [bw, bwts, wts_length]
 intro i h1 h2
 have h16 : i < 16 := by simpa [bw] using h1
 have e0 : i < (wts l d0).length := by rw [wts_length]; exact h16
 have e1 : i < (wts l d1).length := by rw [wts_length]; exact h16
 simp [bw, bwts, List.getD_eq_getElem?_getD, h16, e0, e1]
set_option maxRecDepth 100000 in
set_option maxHeartbeats 4000000 in
theorem between_calls (g : Nat) (A : Option Addr) (c : Nat) (l : List SRow) (p : Int) (lo hi : List Int) (d0 d1 : Int) (w : World) (hr : Kd.C kRow w A l.length l) (hD : DipOk l) (h0 : 0 ≤ d0) (h1 : d0 ≤ 4000) (h2 : 0 ≤ d1) (h3 : d1 ≤ 4000)
  (hg : Gauge w g A l.length c p lo hi) :
  Calls Try.prog 86 #[.pointer (some ⟨g, 0, none⟩), .agg #[.int .i64 d0, .int .i64 d1]] w fun e w' => e = .returned (.tuple #[.agg (ints (bwts l d0 d1)), .int .i64 (bden l d0 d1)]) ∧ Below w.heap.size w w' := by
 have HR := Aside0.mk hr
 have HG := Aside0.mk hg
 have HDD := Aside0.mk hD
 have hgl := hg.lt
 clear hr hg hD
 have hu5 := Try.underlying97
 have hu6 := Try.underlying51
 have hW0 := wts_length l d0
 have hW1 := wts_length l d1
 go_enter Try.func86, Try.ntmps86
 go_wp2_with fail
 obtain ⟨V0, hV0⟩ : ∃ V, (w.alloc (.cells #[.int .i64 d0, .int .i64 d1] 51)).alloc (.cells (ints (List.replicate 16 0)) 97) = V := ⟨_, rfl⟩
 have hBa : Below w.heap.size w V0 := by rw [← hV0]; exact ((Below.refl _ _).alloc (Nat.le_refl _) _).alloc (by simp) _
 have hs0 : V0.heap.size = w.heap.size + 2 := by rw [← hV0]; simp
 have k0 : V0.heap[w.heap.size]? = some (.cells #[.int .i64 d0, .int .i64 d1] 51 (0, 0)) := by rw [← hV0]; exact blk_old (blk_new _ _)
 have k1 : V0.heap[w.heap.size + 1]? = some (.cells (ints (List.replicate 16 0)) 97 (0, 0)) := by rw [← hV0]; exact blk_new' (by simp)
 refine (weigh_calls g A c l p lo hi d0 _ (Kd.C_below HR.out (by rw [← hV0] at hBa; exact hBa)) HDD.out (by omega) (by omega) (HG.out.below (by rw [← hV0] at hBa; exact hBa))).mono ?_
 rintro e w1 ⟨rfl, hB1⟩
 have hB1' : Below V0.heap.size V0 w1 := by rw [← hV0]; exact hB1
 have m0 := below_blk hB1' k0 (by omega)
 have m1 := below_blk hB1' k1 (by omega)
 have hBb := below_then hBa hB1'
 have hs1 : w.heap.size + 2 ≤ w1.heap.size := by have := hB1'.size; omega
 have M0 := Aside0.mk m0
 have M1 := Aside0.mk m1
 have HBb := Aside0.mk hBb
 have hd1 : w1.cell? ⟨w.heap.size, 1, none⟩ = some (.int .i64 d1) := blk_cell m0 1
 have hlt1 : w.heap.size < w1.heap.size := by omega
 clear hV0 k0 k1 hBa hB1 hB1' hs0 m0 m1 hBb V0
 go_wp2_with fail
 have hBc := HBb.out.alloc HBb.out.size (.cells (ints (wts l d0)) 97)
 refine (weigh_calls g A c l p lo hi d1 _ (Kd.C_below HR.out hBc) HDD.out (by omega) (by omega) (HG.out.below hBc)).mono ?_
 rintro e w2 ⟨rfl, hB2⟩
 have M1b : Aside0 (w2.heap[w.heap.size + 1]? = some (.cells (ints (List.replicate 16 0)) 97 (0, 0))) := ⟨below_blk hB2 (blk_old M1.out) (by simp; omega)⟩
 have M2 : Aside0 (w2.heap[w1.heap.size]? = some (.cells (ints (wts l d0)) 97 (0, 0))) := ⟨below_blk hB2 (blk_new _ _) (by simp)⟩
 have HB2 : Aside0 (Below w.heap.size w w2) := ⟨below_then hBc hB2⟩
 have hs2 : w1.heap.size + 1 ≤ w2.heap.size := by have := hB2.size; simpa using this
 obtain ⟨gw, hgw⟩ : ∃ gw, gw = w1.heap.size := ⟨_, rfl⟩
 rw [← hgw] at M2 hs2 ⊢
 have hgw2 : w.heap.size + 2 ≤ gw := by omega
 clear hBc hB2 HBb M0 M1 hd1 hs1 hgw hlt1
 go_wp2_with fail
 obtain ⟨V0, hV0⟩ : ∃ V, w2.alloc (.cells (ints (wts l d1)) 97) = V := ⟨_, rfl⟩
 have N1 : Aside0 (V0.heap[w.heap.size + 1]? = some (.cells (ints (List.replicate 16 0)) 97 (0, 0))) := ⟨by rw [← hV0]; exact blk_old M1b.out⟩
 have N2 : Aside0 (V0.heap[gw]? = some (.cells (ints (wts l d0)) 97 (0, 0))) := ⟨by rw [← hV0]; exact blk_old M2.out⟩
 have N3 : Aside0 (V0.heap[w2.heap.size]? = some (.cells (ints (wts l d1)) 97 (0, 0))) := ⟨by rw [← hV0]; exact blk_new _ _⟩
 have NB : Aside0 (Below w.heap.size w V0) := ⟨by rw [← hV0]; exact HB2.out.alloc HB2.out.size _⟩
 try rw [hV0]
 obtain ⟨gl, hgl2⟩ : ∃ gl, gl = w2.heap.size := ⟨_, rfl⟩
 rw [← hgl2] at N3 hs2 ⊢
 clear hV0 M1b M2 HB2 hgl2 w1 w2
 have hwd0 := wden_within HDD.out d0
 have hwd1 := wden_within HDD.out d1
 have hwt0 := fun i (hi : i < 16) => wts_within HDD.out d0 h0 h1 i hi
 have hwt1 := fun i (hi : i < 16) => wts_within HDD.out d1 h2 h3 i hi
 have HBD := Lib.hid (show bden l d0 d1 = wden l d0 * wden l d1 from rfl)
 have HBE := Lib.hid (bw_end l d0 d1)
 have HBS := Lib.hid (bw_start (wts l d0) (wts l d1) (wden l d0) (wden l d1) hW1)
 obtain ⟨x, hx⟩ : ∃ x, x = wts l d0 := ⟨_, rfl⟩
 obtain ⟨y, hy⟩ : ∃ y, y = wts l d1 := ⟨_, rfl⟩
 obtain ⟨a, ha⟩ : ∃ a, a = wden l d0 := ⟨_, rfl⟩
 obtain ⟨b, hb⟩ : ∃ b, b = wden l d1 := ⟨_, rfl⟩
 rw [← hx, ← hy, ← ha, ← hb] at HBE HBS
 rw [← ha, ← hb] at HBD
 rw [← hx] at N2 hwt0 hW0
 rw [← hy] at N3 hwt1 hW1
 rw [← ha] at hwd0
 rw [← hb] at hwd1
 try simp only [← hx, ← hy, ← ha, ← hb]
 have HT0 := Aside0.mk hwt0
 have HT1 := Aside0.mk hwt1
 obtain ⟨q1, q2⟩ := hwd0
 obtain ⟨q3, q4⟩ := hwd1
 clear hx hy ha hb hwt0 hwt1
 go_loopw [25] (fun v25 w' => ∃ k : Nat, k ≤ 16 ∧ v25 = .int .i64 k ∧ w'.heap[w.heap.size + 1]? = some (.cells (ints (List.replicate 16 0)) 97 (0, 0)) ∧ w'.heap[gw]? = some (.cells (ints x) 97 (0, 0)) ∧
  w'.heap[gl]? = some (.cells (ints (bw x y a b k)) 97 (0, 0)) ∧ Below w.heap.size w w') (fun v25 _ => 16 - (intOf v25).toNat)
 case atStart => exact ⟨0, Nat.zero_le _, rfl, N1.out, N2.out, by rw [HBS.out]; exact N3.out, NB.out⟩
 case round =>
  obtain ⟨k, hk, rfl, p1, p2, p3, hB⟩ := hrel
  have P1 := Aside0.mk p1
  have P2 := Aside0.mk p2
  have P3 := Aside0.mk p3
  have HB := Aside0.mk hB
  clear p1 p2 p3 hB N1 N2 N3 NB
  by_cases hlt : k < 16
  ·have c1 := (blk_cell P2.out k).trans (ints_getD x k (by omega))
   have c2 := (blk_cell P3.out k).trans (ints_getD _ k (by rw [bw_length]; exact hlt))
   rw [bw_get _ _ _ _ _ _ hlt, if_neg (Nat.lt_irrefl k)] at c2
   have f2 := blk_frozen P3.out k
   obtain ⟨t1, t2⟩ := HT0.out k hlt
   obtain ⟨t3, t4⟩ := HT1.out k hlt
   have HST := Lib.hid (bw_set x y a b k hlt)
   obtain ⟨u, hu⟩ : ∃ u, u = x.getD k 0 := ⟨_, rfl⟩
   obtain ⟨v, hv⟩ : ∃ v, v = y.getD k 0 := ⟨_, rfl⟩
   rw [← hu] at c1 t1 t2 HST
   rw [← hv] at c2 t3 t4 HST
   clear hu hv
   obtain ⟨s1, s2⟩ := mul_4000 (x := v) (y := a) ⟨t3, t4⟩ ⟨q1, q2⟩
   obtain ⟨s3, s4⟩ := mul_4000 (x := u) (y := b) ⟨t1, t2⟩ ⟨q3, q4⟩
   have k1 : (k : Int) < 16 := by omega
   go_wp2_with fail
   (refine start_ (n := 14) (S := fun w' => w' = _) (ds := [13]) (List.toArray (false :: false :: false :: false :: false :: false :: false :: false :: false :: false :: false :: false :: false :: false :: [])) (by kernel_rfl) rfl rfl rfl (fun plS => ?_); clear plS; refine pureY (i := 0) (N := (some 28)) ?_; refine pureY (i := 1) (N := (some 29)) ?_; refine pureY (i := 2) (N := (some 30)) ?_; refine pureY (i := 4) (N := (some 32)) ?_; refine pureY (i := 6) (N := (some 34)) ?_; refine pureY (i := 7) (N := (some 35)) ?_; refine pureY (i := 9) (N := (some 37)) ?_; refine takeE (i := 3) (N := (some 31)) ?_; refine pureY (i := 5) (N := (some 33)) ?_; refine takeE (i := 8) (N := (some 36)) ?_; refine pureY (i := 10) (N := (some 38)) ?_; refine pureY (i := 11) (N := (some 39)) ?_; refine pureY (i := 12) (N := (some 40)) ?_; refine lastY (i := 13) (fun plK plH => ?_); rw [if_pos (by rfl)]; (first | gi_big_move | go_big_op | go_simp))
   ((try simp only [Act.put, List.getElem_toArray, List.getElem_cons_succ, List.getElem_cons_zero, List.setIfInBounds_toArray, List.set_cons_succ, List.set_cons_zero]); refine plH _ _ ?_; clear plH plK; refine done_ (by kernel_rfl) ?_)
   go_wp2
   go_roundw
   case rel =>
    have hb3 := blk_put P3.out k (.int .i64 (v * a - u * b)) (ints_set _ _ _)
    rw [HST.out] at hb3
    have hne1 : w.heap.size + 1 ≠ gl := by omega
    have hne2 : gw ≠ gl := by omega
    exact ⟨k + 1, by omega, by go_num, (Below.heap_setCell _ ⟨gl, k, none⟩ _ _ hne1).trans P1.out, (Below.heap_setCell _ ⟨gl, k, none⟩ _ _ hne2).trans P2.out, hb3, (HB.out.setCell (p := ⟨gl, k, none⟩) (by show w.heap.size ≤ gl; omega) _).drew⟩
   case measure => simp [intOf]; omega
  obtain rfl : k = 16 := by omega
  have hS3 := SegOk.mk' P3.out 0 16 (by simp [ints, bw_length])
  have hV3 := seg_whole (n := 16) P3.out (by simp [ints, bw_length])
  have hS1 := SegOk.mk' P1.out 0 16 (by simp [ints])
  rw [HBE.out] at hV3
  have hbl : (bwts l d0 d1).length = 16 := by rw [← HBE.out]; exact bw_length _ _ _ _ _
  obtain ⟨s1, s2⟩ := mul_4000 (x := a) (y := b) ⟨q1, q2⟩ ⟨q3, q4⟩
  go_wp2_with fail
  skip
  go_wp2
  have hfin := putSeg_block P1.out (l := (ints (bwts l d0 d1)).toList) (by simp [ints, hbl])
  refine bodyPost_ret (results_arr2 rfl rfl isAgg16 sizeOf16 (SegOk.mk' hfin 0 16 (by simp [ints, hbl]))) rfl ⟨?_, ?_⟩
  ·rw [seg_whole (n := 16) hfin (by simp [ints, hbl]), HBD.out]
   simp
  exact putSeg_below _ _ _ _ _ _ (by omega) HB.out
end Go.Proofs.Ytpkajhmchcbbhaa.P
end
section
namespace Go.Proofs.Ytpkajhmchcbbhaa.P
open Go.RowKit Go.Proofs.YtpkajhmchcbbhaaW.PrintWords Go.Proofs.YtpkajhmchcbbhaaW.PrintLast Go.Proofs.YtpkajhmchcbbhaaW.PrintMore
theorem inB_iff (lo hi n : Int) : inB lo hi n = true ↔ lo ≤ n ∧ n ≤ hi := by
 unfold inB
 by_cases h1 : n < lo <;> by_cases h2 : hi < n <;> simp [h1, h2] <;> omega
structure TankOk (l : List SRow) (p : Int) : Prop where
 n2 : 2 ≤ l.length
 n16 : l.length ≤ 16
 d0 : 0 ≤ dipN l 0
 up : ∀ i, i + 1 < l.length → dipN l i < dipN l (i + 1)
 top : ∀ i, i < l.length → dipN l i ≤ 4000
 lit : ∀ i, i < l.length → 0 ≤ loR l i ∧ loR l i ≤ hiR l i ∧ hiR l i ≤ 100000
 p0 : 0 ≤ p
 p1 : p ≤ 50
theorem dipsOk_spec (l : List SRow) : ∀ (last : Int), dipsOk last l = true → (∀ i, i < l.length → last < dipN l i ∧ dipN l i ≤ 4000) ∧ (∀ i, i + 1 < l.length → dipN l i < dipN l (i + 1)) := by
 induction l with
 | nil => intro last _; exact ⟨fun i hi => by simp at hi, fun i hi => by simp at hi⟩
 | cons r l ih =>
  intro last h
  simp only [dipsOk, Bool.and_eq_true, Bool.not_eq_true', Bool.or_eq_false_iff, decide_eq_false_iff_not, Int.not_le, Int.not_lt] at h
  obtain ⟨⟨h1, h2⟩, h3⟩ := h
  obtain ⟨i1, i2⟩ := ih _ h3
  constructor
  ·intro i hi
   cases i with
   | zero => exact ⟨h1, h2⟩
   | succ i =>
    have := i1 i (by simpa using hi)
    have e : dipN (r :: l) (i + 1) = dipN l i := rfl
    rw [e]
    exact ⟨by omega, this.2⟩
  intro i hi
  cases i with
  | zero =>
   have := i1 0 (by simpa using hi)
   exact this.1
  | succ i => exact i2 i (by simpa using hi)
theorem tankOk_of {l : List SRow} {p : Int} (h : checkTank l p = 0) : TankOk l p := by
 unfold checkTank at h
 split at h
 ·cases h
 rename_i h1
 split at h
 ·cases h
 rename_i h2
 split at h
 ·cases h
 rename_i h3
 split at h
 ·cases h
 rename_i h4
 obtain ⟨a, b⟩ := dipsOk_spec l (-1) (by simpa using h2)
 have hp := (inB_iff 0 50 p).1 (by simpa using h3)
 refine ⟨by omega, by omega, by have := (a 0 (by omega)).1; omega, b, fun i hi => (a i hi).2, fun i hi => ?_, hp.1, hp.2⟩
 have h5 : litresOk (l.getD i zRow) = true := by
  have : ∀ x, x ∈ l → litresOk x = true := by
   intro x hx
   have := h4
   simp only [List.any_eq_true, not_exists, not_and] at this
   have := this x hx
   simpa using this
  refine this _ ?_
  rw [List.getD_eq_getElem?_getD, List.getElem?_eq_getElem hi]
  exact List.getElem_mem _
 unfold litresOk at h5
 simp only [Bool.and_eq_true, decide_eq_true_eq] at h5
 have h6 := (inB_iff _ _ _).1 h5.1.1
 have h7 := (inB_iff _ _ _).1 h5.1.2
 exact ⟨h6.1, h5.2, h7.2⟩
namespace TankOk
variable {l : List SRow} {p : Int} (h : TankOk l p)
include h
theorem mono (i k : Nat) (hi : i < l.length) (hk : k ≤ i) : dipN l k ≤ dipN l i ∧ (k < i → dipN l k < dipN l i) := by
  induction i with
  | zero => obtain rfl : k = 0 := by omega
            exact ⟨Int.le_refl _, fun h => by omega⟩
  | succ i ih =>
    have h1 := h.up i (by omega)
    by_cases e : k = i + 1
    · subst e; exact ⟨Int.le_refl _, fun h => by omega⟩
    have := ih (by omega) (by omega)
    exact ⟨by omega, fun _ => by omega⟩
theorem low (i : Nat) (hi : i < l.length) : 0 ≤ dipN l i := by
 have := (h.mono i 0 hi (Nat.zero_le _)).1
 have := h.d0
 omega
theorem dipOk : DipOk l := ⟨h.n2, h.n16, h.low, h.top⟩
theorem wden_pos (dip : Int) : 1 ≤ wden l dip := by
 have hp := h.dipOk.pos dip
 have := h.up (pos l dip - 1) (by omega)
 unfold wden
 rw [show pos l dip - 1 + 1 = pos l dip from by omega] at this
 omega
theorem bden_ne (d0 d1 : Int) : bden l d0 d1 ≠ 0 := by
 unfold bden
 have h1 := h.wden_pos d0
 have h2 := h.wden_pos d1
 intro e
 rcases Int.mul_eq_zero.1 e with e | e <;> omega
theorem lowN_in (i : Nat) (hi : i < l.length) : 0 ≤ lowN l i ∧ lowN l i ≤ 100000 ∧ loR l i ≤ lowN l i := by
 induction i with
 | zero => have := h.lit 0 hi; simp only [lowN]; omega
 | succ i ih =>
  have h1 := ih (by omega)
  have h2 := h.lit (i + 1) hi
  simp only [lowN]
  unfold mx
  split <;> omega
theorem highR_in (j : Nat) (hj : j < l.length) : 0 ≤ highR l j ∧ highR l j ≤ 100000 := by
 induction j with
 | zero => have := h.lit (l.length - 1) (by omega); simp only [highR]; omega
 | succ j ih =>
  have h1 := ih (by omega)
  have h2 := h.lit (l.length - 1 - (j + 1)) (by omega)
  simp only [highR]
  unfold mn
  split <;> omega
theorem highN_in (i : Nat) (hi : i < l.length) : 0 ≤ highN l i ∧ highN l i ≤ 100000 := h.highR_in _ (by omega)
theorem lowAt_in : ∀ x, x ∈ LowAt l l.length → 0 ≤ x ∧ x ≤ 100000 := by
 intro x hx
 simp only [LowAt, padRow, List.mem_map, List.mem_range] at hx
 obtain ⟨i, hi, rfl⟩ := hx
 split
 ·rename_i h1
  have := h.lowN_in i h1
  exact ⟨this.1, this.2.1⟩
 omega
theorem highAt_in : ∀ x, x ∈ HighAt l l.length → 0 ≤ x ∧ x ≤ 100000 := by
 intro x hx
 simp only [HighAt, padRow, List.mem_map, List.mem_range] at hx
 obtain ⟨i, hi, rfl⟩ := hx
 split
 ·rename_i h1
  rw [if_pos (by omega)]
  exact h.highN_in i h1
 omega
theorem true_in (dip : Int) (h0 : firstD l ≤ dip) (h1 : dip ≤ lastD l) : firstD l ≤ trueLo l p dip ∧ trueLo l p dip ≤ dip ∧ dip ≤ trueHi l p dip ∧ trueHi l p dip ≤ lastD l := by
 have := h.p0
 unfold trueLo trueHi mx mn
 refine ⟨?_, ?_, ?_, ?_⟩ <;> split <;> omega
theorem first_last : 0 ≤ firstD l ∧ firstD l ≤ lastD l ∧ lastD l ≤ 4000 := by
 have := h.n2
 exact ⟨h.d0, (h.mono (l.length - 1) 0 (by omega) (by omega)).1, h.top _ (by omega)⟩
end TankOk
theorem C_none (w : World) : Kd.C (Kd.int .i64) w none 0 [] := ⟨rfl, by simp, fun h => absurd h (by simp)⟩
end Go.Proofs.Ytpkajhmchcbbhaa.P
end
section
namespace Go.Proofs.Ytpkajhmchcbbhaa.P
open Go.RowKit Go.Proofs.YtpkajhmchcbbhaaW.PrintWords Go.Proofs.YtpkajhmchcbbhaaW.PrintLast Go.Proofs.YtpkajhmchcbbhaaW.PrintMore
theorem drop_int (l : List Int) (k : Nat) (h : k < l.length) : l.drop k = l.getD k 0 :: l.drop (k + 1) := by
 rw [List.drop_eq_getElem_cons h, List.getD_eq_getElem?_getD, List.getElem?_eq_getElem h]; rfl
theorem rdR_nat (l : List SRow) (i : Nat) : rd_T70 l (i : Int) = l.getD i zRow := by simp [rd_T70]
theorem rd_nat (l : List Int) (i : Nat) : rd l (i : Int) = l.getD i 0 := by simp [rd]
theorem wrap_nat (i : Nat) (h : i ≤ 1000000) : wrap64 ((i : Int) + 1) = ((i + 1 : Nat) : Int) := by unfold wrap64; omega
theorem checkChart_loop (l : List SRow) (p : Int) (c : List Int) (hn : c.length = l.length) (h16 : l.length ≤ 16) (d : Nat) : ∀ (k i : Nat) (last : Int), i + d = l.length → d < k →
  chart_CheckChart.l0 k last c c.length i l p = some (if chartOk last (l.drop i) (c.drop i) then 0 else 21) := by
 induction d with
 | zero =>
  intro k i last hi hk
  obtain ⟨k, rfl⟩ : ∃ m, k = m + 1 := ⟨k - 1, by omega⟩
  simp only [chart_CheckChart.l0]
  rw [if_neg (by omega), List.drop_eq_nil_of_le (by omega)]
  rfl
 | succ d ih =>
  intro k i last hi hk
  obtain ⟨k, rfl⟩ : ∃ m, k = m + 1 := ⟨k - 1, by omega⟩
  simp only [chart_CheckChart.l0]
  rw [if_pos (by omega), if_pos (by omega), if_pos (by omega), if_pos (by omega), rdR_nat, rd_nat, drop_row l i (by omega), drop_int c i (by omega)]
  simp only [chart_within.f, Option.bind_some, List.all_cons, List.all_nil, Bool.and_true, chartOk]
  by_cases hb : inB (mx last (l.getD i zRow).f1.f0) (l.getD i zRow).f1.f1 (c.getD i 0) = true
  ·rw [if_pos hb, wrap_nat i (by omega), ih k (i + 1) _ (by omega) (by omega)]; simp only [hb, Bool.true_and]
  rw [if_neg hb]; simp only [Bool.eq_false_iff.mpr hb, Bool.false_and]; rfl
theorem checkChart_some (l : List SRow) (p : Int) (c : List Int) : ∃ k, chart_CheckChart.f k l p c = some (checkChart l p c) := by
 refine ⟨l.length + 1, ?_⟩
 unfold chart_CheckChart.f chart_CheckTank.f checkChart
 simp only [Option.bind_some]
 by_cases h0 : checkTank l p = 0
 ·have hT := tankOk_of h0
  rw [if_pos h0, if_neg (show ¬ checkTank l p ≠ 0 by rw [h0]; simp)]
  by_cases hl : c.length = l.length
  ·rw [if_pos (show (c.length : Int) = l.length by omega), if_neg (show ¬ c.length ≠ l.length by simp [hl])]
   have := checkChart_loop l p c hl hT.n16 l.length (l.length + 1) 0 0 (by omega) (by omega)
   simpa using this
  rw [if_neg (show ¬ (c.length : Int) = l.length by omega), if_pos hl]
 rw [if_neg h0, if_pos h0]
theorem chartOk_in (l : List SRow) (hl : ∀ i, i < l.length → hiR l i ≤ 100000) : ∀ (last : Int) (c : List Int), 0 ≤ last → c.length = l.length → chartOk last l c = true → ∀ x, x ∈ c → 0 ≤ x ∧ x ≤ 100000 := by
 induction l with
 | nil => intro last c _ hc _ x hx; simp at hc; subst hc; simp at hx
 | cons r l ih =>
  intro last c h0 hc h x hx
  cases c with
  | nil => simp at hc
  | cons n c =>
   simp only [chartOk, Bool.and_eq_true] at h
   have h1 := (inB_iff _ _ _).1 h.1
   have h2 : r.f1.f1 ≤ 100000 := hl 0 (by simp)
   have h3 : last ≤ mx last r.f1.f0 := by unfold mx; split <;> omega
   rcases List.mem_cons.1 hx with rfl | hx
   ·omega
   exact ih (fun i hi => hl (i + 1) (by simpa using hi)) n c (by omega) (by simpa using hc) h.2 x hx
theorem checkChart_spec {l : List SRow} {p : Int} {c : List Int} (h : checkChart l p c = 0) : checkTank l p = 0 ∧ c.length = l.length ∧ chartOk 0 l c = true ∧ ∀ x, x ∈ c → 0 ≤ x ∧ x ≤ 100000 := by
 unfold checkChart at h
 split at h
 ·rename_i h1; exact absurd h h1
 rename_i h1
 have h1 : checkTank l p = 0 := by simpa using h1
 split at h
 ·cases h
 rename_i h2
 have h2 : c.length = l.length := by simpa using h2
 split at h
 ·rename_i h3
  exact ⟨h1, h2, h3, chartOk_in l (fun i hi => ((tankOk_of h1).lit i hi).2.2) 0 c (Int.le_refl _) h2 h3⟩
 cases h
end Go.Proofs.Ytpkajhmchcbbhaa.P
end
