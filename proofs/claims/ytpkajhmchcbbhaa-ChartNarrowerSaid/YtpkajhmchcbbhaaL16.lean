/- Part 16 of 44. -/
import Derived.Test.YtpkajhmchcbbhaaL0
import Derived.Test.YtpkajhmchcbbhaaL13
import Derived.RangeFuncNested
import Derived.RangeFuncBound
import Derived.RangeFuncCalls
import Derived.RangeFuncLeaves
import Derived.Shelf.Abstract
import Derived.Shelf.RegionOpen
import Derived.OwnWalkIn
import Derived.TacticsInMore
import Derived.LoopNIn
import Derived.LoopIn
set_option linter.unusedSimpArgs false
set_option linter.unusedVariables false
section
namespace Go.Proofs.Ytpkajhmchcbbhaa.P
open Go.RowKit Go.Proofs.YtpkajhmchcbbhaaW.PrintWords Go.Proofs.YtpkajhmchcbbhaaW.PrintLast Go.Proofs.YtpkajhmchcbbhaaW.PrintMore
attribute [local go_sem] Oper.semAt_some
def KeepB (bs : List Nat) (W W' : World) : Prop := ∀ b, b ∈ bs → W'.heap[b]? = W.heap[b]?
theorem KeepB.refl (bs : List Nat) (W : World) : KeepB bs W W := fun _ _ => rfl
theorem KeepB.trans {bs : List Nat} {A B C : World} (h : KeepB bs A B) (k : KeepB bs B C) : KeepB bs A C := fun b hb => (k b hb).trans (h b hb)
theorem KeepB.put {bs : List Nat} {w : World} (hl : ∀ b, b ∈ bs → b < w.heap.size) (W : World) (l : Nat) (_o o' : Obj) (h : w.heap.size ≤ l) (_h2 : W.heap[l]? = some _o) (_ : _o.isCells = false) (_ : _o.isWalk = false) : KeepB bs W (W.putObj l o') :=
 fun b hb => World.putObj_heap_other (by have := hl b hb; omega)
def rowAll (N : Nat) (back : Bool) : List (Fin N) := if back then (List.finRange N).reverse else List.finRange N
theorem rowAll_length (N : Nat) (back : Bool) : (rowAll N back).length = N := by cases back <;> simp [rowAll]
def rowIx (N : Nat) (back : Bool) (k : Nat) : Int := if back then ((N - 1 - k : Nat) : Int) else (k : Int)
theorem rowAll_get (N : Nat) (back : Bool) (k : Nat) (hk : k < (rowAll N back).length) : (((rowAll N back)[k].val : Nat) : Int) = rowIx N back k := by
 cases back with
 | false => simp [rowAll, rowIx]
 | true => simp [rowAll, rowIx]
theorem rowAll_succ (N : Nat) (back : Bool) (k : Nat) (hk : k < N) : ∃ x : Fin N, ((x.val : Nat) : Int) = rowIx N back k ∧ (rowAll N back).take (k + 1) = (rowAll N back).take k ++ [x] := by
 have hk' : k < (rowAll N back).length := by rw [rowAll_length]; exact hk
 exact ⟨_, rowAll_get N back k hk', by rw [List.take_add_one, List.getElem?_eq_getElem hk']; rfl⟩
theorem rowAll_take_length (N : Nat) (back : Bool) (k : Nat) (hk : k ≤ N) : ((rowAll N back).take k).length = k := by rw [List.length_take, rowAll_length]; omega
theorem rowAll_full (N : Nat) (back : Bool) : (rowAll N back).take N = rowAll N back := List.take_of_length_le (by rw [rowAll_length]; omega)
set_option maxRecDepth 100000 in
set_option maxHeartbeats 2000000 in
theorem rows1_in (n : Nat) (hn : 1 ≤ n) (l Bn Bb : Nat) (N : Nat) (hN : N ≤ 1000000) (back : Bool) (J Jx : List (Fin N) → World → Prop)
  (hY : ∀ pre x W, J pre W → pre.length < N → YieldAt Fence.wide (n - 1) Try.prog l #[.int .i64 ((x.val : Nat) : Int)] W fun e W' =>
   (e = .returned (.bool true) ∧ J (pre ++ [x]) W' ∧ KeepB [Bn, Bb] W W') ∨ (e = .returned (.bool false) ∧ Jx (pre ++ [x]) W'))
  (W : World) (hBn : W.heap[Bn]? = some (.cells #[.int .i64 N] 3 (0, 0))) (hBb : W.heap[Bb]? = some (.cells #[.bool back] 4 (0, 0))) (h0 : J [] W) :
  CallsIn Fence.wide n Try.prog 76 #[.func (.yield l) #[] #[], .pointer (some ⟨Bn, 0, none⟩), .pointer (some ⟨Bb, 0, none⟩)] W fun e W' => (∃ v, e = .returned v) ∧
   ((∃ ys, ys = rowAll N back ∧ J ys W') ∨ (∃ pre, (∃ k, k ≤ N ∧ pre = (rowAll N back).take k) ∧ Jx pre W')) := by
 refine callsIn_of_wp Try.func76 rfl trivial ?_ rfl
 simp only [Try.ntmps76, List.size_toArray, List.length_cons, List.length_nil, Nat.reduceAdd, Nat.reduceSub, Array.replicate_succ, Array.replicate_zero, List.push_toArray, List.append_toArray, List.nil_append, List.cons_append]
 have hcn := cell_of_one hBn
 gi_wp2
 gi_loopw [7] (fun i wr => ∃ k : Nat, k ≤ N ∧ i = .int .i64 k ∧ J ((rowAll N back).take k) wr ∧ KeepB [Bn, Bb] W wr)
  (fun i _ => N - (intOf i).toNat)
 case atStart => exact ⟨0, Nat.zero_le _, rfl, h0, KeepB.refl _ _⟩
 case round =>
  obtain ⟨k, hk, rfl, hJs, hnx⟩ := hrel
  have hcn := cell_of_one ((hnx Bn (by simp)).trans hBn)
  have hcb := cell_of_one ((hnx Bb (by simp)).trans hBb)
  by_cases hlt : k < N
  ·obtain ⟨x, hx, htk⟩ := rowAll_succ N back k hlt
   obtain ⟨fn, tmps, assign, body, hy, hR⟩ := hY _ x wr hJs (by rw [rowAll_take_length _ _ _ hk]; exact hlt)
   rw [hx] at hy
   rw [← htk] at hR
   cases back with
   | false =>
    have hy' : (Instr.yield l #[.int .i64 (k : Int)]).run Try.prog wr = .ok (.round l fn tmps assign body) wr := hy
    clear hy
    gi_wp2
    refine hR.mono ?_
    rintro e W3 (⟨rfl, hJ3, hk3⟩ | ⟨rfl, hJx3⟩)
    ·gi_wp2
     go_roundw
     case rel => exact ⟨k + 1, by omega, by simp, hJ3, hnx.trans hk3⟩
     case measure => simp [intOf]; omega
    gi_wp2
    refine bodyPost_ret (results_none rfl _ _ _) rfl ?_
    exact ⟨⟨_, rfl⟩, .inr ⟨_, ⟨k + 1, by omega, rfl⟩, hJx3⟩⟩
   | true =>
    have hix : rowIx N true k = (N : Int) - 1 - k := by simp [rowIx]; omega
    have hy' : (Instr.yield l #[.int .i64 ((N : Int) - 1 - k)]).run Try.prog wr = .ok (.round l fn tmps assign body) wr := by rw [← hix]; exact hy
    clear hy hix
    gi_wp2
    refine hR.mono ?_
    rintro e W3 (⟨rfl, hJ3, hk3⟩ | ⟨rfl, hJx3⟩)
    ·gi_wp2
     go_roundw
     case rel => exact ⟨k + 1, by omega, by simp, hJ3, hnx.trans hk3⟩
     case measure => simp [intOf]; omega
    gi_wp2
    refine bodyPost_ret (results_none rfl _ _ _) rfl ?_
    exact ⟨⟨_, rfl⟩, .inr ⟨_, ⟨k + 1, by omega, rfl⟩, hJx3⟩⟩
  obtain rfl : k = N := by omega
  gi_wp2
  go_end0
  exact ⟨⟨_, rfl⟩, .inl ⟨_, rfl, by rw [rowAll_full] at hJs; exact hJs⟩⟩
theorem rows_stops (n : Nat) (hn : 1 ≤ n) (Bn Bb N : Nat) (hN : N ≤ 1000000) (back : Bool) (w : World) (hBn : w.heap[Bn]? = some (.cells #[.int .i64 N] 3 (0, 0))) (hBb : w.heap[Bb]? = some (.cells #[.bool back] 4 (0, 0))) :
  SeqStopsK Fence.wide n Try.prog 76 #[.pointer (some ⟨Bn, 0, none⟩), .pointer (some ⟨Bb, 0, none⟩)] (fun x : Fin N => #[Value.int .i64 ((x.val : Nat) : Int)]) (KeepB [Bn, Bb]) (fun ys => ys = rowAll N back) (fun pre => ∃ k, k ≤ N ∧ pre = (rowAll N back).take k) N w :=
 fun l J Jx W hW _ _ hY h0 => rows1_in n hn l Bn Bb N hN back J Jx hY W (blk_of_below hBn hW) (blk_of_below hBb hW) h0
set_option maxHeartbeats 1000000 in
theorem rows_calls (g : Nat) (A : Option Addr) (N c : Nat) (back : Bool) (w : World) (hg : w.cell? ⟨g, 0, none⟩ = some (.slice A N c)) :
  Calls Try.prog 55 #[.pointer (some ⟨g, 0, none⟩), .bool back] w fun e w' => e = .returned (.func (.func 76) #[] #[.pointer (some ⟨w.heap.size + 1, 0, none⟩), .pointer (some ⟨w.heap.size, 0, none⟩)]) ∧
   w' = (w.alloc (.cells #[.bool back] 4)).alloc (.cells #[.int .i64 N] 3) := by
 have hlt : g < w.heap.size := World.block_lt_of_cell? w _ hg
 go_enter Try.func55, Try.ntmps55
 go_wp2
 go_ret
 exact ⟨rfl, rfl⟩
def rowsPost (Bn Bb : Nat) {N : Nat} (J : List (Fin N) → World → Prop) (Jx : Code → List (Fin N) → World → Prop) (pre : List (Fin N)) (W : World) : Exit → Act → World → Prop
 | .normal, _, W' => KeepsOthers W W' ∧ KeepB [Bn, Bb] W W' ∧ J pre W'
 | .ret, _, W' => KeepsOthers W W' ∧ Jx .ret pre W'
 | .exit id, _, W' => KeepsOthers W W' ∧ Jx (.exit id) pre W'
 | .goto t, _, W' => KeepsOthers W W' ∧ Jx (.goto t) pre W'
 | .panic _, _, _ => False
 | .outgrown, _, _ => False
theorem rowsRange {gop : Operand} {t : Tmp} {assign body : Code} {Q : Exit → Act → World → Prop} {a : Act} {w : World} (n Bn Bb N : Nat) (back : Bool) (hn : 3 ≤ n)
  (hg : a.eval gop = .func (.func 76) #[] #[.pointer (some ⟨Bn, 0, none⟩), .pointer (some ⟨Bb, 0, none⟩)])
  (hBn : w.heap[Bn]? = some (.cells #[.int .i64 N] 3 (0, 0))) (hBb : w.heap[Bb]? = some (.cells #[.bool back] 4 (0, 0))) (hN : N ≤ 1000000)
  (J : List (Fin N) → World → Prop) (Jx : Code → List (Fin N) → World → Prop) (hJ : OwnFrom w.heap.size J) (hJx : ∀ c, OwnFrom w.heap.size (Jx c)) (h0 : J [] w) (a₁ : Fin N → Act)
  (hassign : ∀ (l : Nat) (x : Fin N) (W : World) (K : Act → World → Prop), K (a₁ x) W →
   assign.wpIn (Fence.wide.inRound l) (n - 1 - 1) Try.prog (Exit.then K (fun _ _ _ => False)) { tmps := a.tmps.setIfInBounds t (.int .i64 ((x.val : Nat) : Int)), defers := [] } W)
  (hbody : ∀ (l : Nat) (pre : List (Fin N)) (x : Fin N) (W : World), J pre W → W.heap[Bn]? = some (.cells #[.int .i64 N] 3 (0, 0)) → W.heap[Bb]? = some (.cells #[.bool back] 4 (0, 0)) →
   body.wpIn (Fence.wide.inRound l) (n - 1 - 1) Try.prog (rowsPost Bn Bb J Jx (pre ++ [x]) W) (a₁ x) W)
  (hdone : ∀ (D : Nat) (W : World), w.heap.size ≤ D → J (rowAll N back) W → W.heap[D]? = some (.deferred (some [])) → Q .normal { a with defers := { target := .collected D, args := #[] } :: a.defers } W)
  (hstop : ∀ (D : Nat) (c : Code) (k : Nat) (W : World), w.heap.size ≤ D → k ≤ N → Jx c ((rowAll N back).take k) W → W.heap[D]? = some (.deferred (some [])) → c.wpIn Fence.wide n Try.prog Q { a with defers := { target := .collected D, args := #[] } :: a.defers } W) :
  (Code.rangeFunc gop #[t] assign body).wpIn Fence.wide n Try.prog Q a w := by
 have hbox : ∀ b, b ∈ [Bn, Bb] → b < w.heap.size := fun b hb => by
  simp only [List.mem_cons, List.not_mem_nil, or_false] at hb
  rcases hb with rfl | rfl
  ·exact blk_lt hBn
  exact blk_lt hBb
 have hbx : OwnFrom w.heap.size (fun (_ : List (Fin N)) W => W.heap[Bn]? = some (Obj.cells #[.int .i64 (N : Int)] 3 (0, 0)) ∧ W.heap[Bb]? = some (Obj.cells #[.bool back] 4 (0, 0))) := fun k W W' row hs hg' hr => by
  have key : ∀ b cs t', W.heap[b]? = some (Obj.cells cs t' (0, 0)) → W'.heap[b]? = some (Obj.cells cs t' (0, 0)) := fun b cs t' hb =>
   (hg'.block b (blk_lt hb) (fun e => by obtain ⟨_, o, ho, hc⟩ := hr b e.symm; rw [hb] at ho; injection ho with ho; subst ho; simp [Obj.isCells] at hc)).trans hb
  exact ⟨key _ _ _ hs.1, key _ _ _ hs.2⟩
 have hJb : OwnFrom w.heap.size (fun k W => J k W ∧ W.heap[Bn]? = some (Obj.cells #[.int .i64 (N : Int)] 3 (0, 0)) ∧ W.heap[Bb]? = some (Obj.cells #[.bool back] 4 (0, 0))) := OwnFrom.and hJ hbx
 refine wpIn_rangeFunc_ownF rfl (by omega) (gf := 76) (lb := #[.pointer (some ⟨Bn, 0, none⟩), .pointer (some ⟨Bb, 0, none⟩)]) hg trivial (enters_ Try.func76 (by kernel_rfl) rfl)
  (rows_stops (n - 1) (by omega) Bn Bb N hN back w hBn hBb) (fun h k => h.trans k) (fun W l o o' hl h h1 h2 => KeepB.put hbox W l o o' hl h h1 h2) (Below.refl _ _) (fun _ => rfl)
  (fun pre W => J pre W ∧ W.heap[Bn]? = some (Obj.cells #[.int .i64 (N : Int)] 3 (0, 0)) ∧ W.heap[Bb]? = some (Obj.cells #[.bool back] 4 (0, 0)))
  Jx hJb hJx ⟨h0, hBn, hBb⟩ a₁ (fun l x W K hK => by simpa using hassign l x W K hK) ?_ ?_ ?_
 ·rintro l pre x W ⟨hj, hb1, hb2⟩ hlen
  refine Code.wpIn_mono ?_ (hbody l pre x W hj hb1 hb2)
  have hbs : ∀ W', KeepB [Bn, Bb] W W' → W'.heap[Bn]? = some (Obj.cells #[.int .i64 (N : Int)] 3 (0, 0)) ∧ W'.heap[Bb]? = some (Obj.cells #[.bool back] 4 (0, 0)) := fun W' hk =>
   ⟨(hk Bn (by simp)).trans hb1, (hk Bb (by simp)).trans hb2⟩
  intro e a2 W2 hq
  cases e with
  | normal => exact ⟨hq.1, hq.2.1, hq.2.2, hbs _ hq.2.1⟩
  | ret => exact hq
  | exit i => exact hq
  | goto t => exact hq
  | panic v => exact hq
  | outgrown => exact hq
 ·rintro D xs W hD hS ⟨hj, _⟩ hK
  obtain rfl := hS
  exact hdone D W hD hj hK
 rintro D c pre W hD ⟨k, hk, rfl⟩ hjx hK
 exact hstop D c k W hD hk hjx hK
end Go.Proofs.Ytpkajhmchcbbhaa.P
end
section
namespace Go.Proofs.Ytpkajhmchcbbhaa.P
open Go.RowKit Go.Proofs.YtpkajhmchcbbhaaW.PrintWords Go.Proofs.YtpkajhmchcbbhaaW.PrintLast Go.Proofs.YtpkajhmchcbbhaaW.PrintMore
def gcells (A : Option Addr) (n c : Nat) (p : Int) (low high : List Int) : Array Value :=
 (Value.slice A n c :: Value.int .i64 p :: (low.map (Value.int .i64) ++ high.map (Value.int .i64))).toArray
structure Gauge (w : World) (g : Nat) (A : Option Addr) (n c : Nat) (p : Int) (low high : List Int) : Prop where
 l : low.length = 16
 h : high.length = 16
 b : w.heap[g]? = some (.cells (gcells A n c p low high) 99 (0, 0))
section
variable {w w1 : World} {g : Nat} {A : Option Addr} {n c : Nat} {p : Int} {low high : List Int}
theorem Gauge.keep (h : Gauge w g A n c p low high) (hb : w1.heap[g]? = w.heap[g]?) : Gauge w1 g A n c p low high := ⟨h.l, h.h, hb.trans h.b⟩
theorem Gauge.lt (h : Gauge w g A n c p low high) : g < w.heap.size := (Array.getElem?_eq_some_iff.1 h.b).1
theorem Gauge.below (h : Gauge w g A n c p low high) (hb : Below w.heap.size w w1) : Gauge w1 g A n c p low high := h.keep (hb.block g h.lt)
theorem Gauge.alloc (h : Gauge w g A n c p low high) (o : Obj) : Gauge (w.alloc o) g A n c p low high := h.keep (Below.heap_alloc _ _ _ h.lt)
theorem Gauge.drew (h : Gauge w g A n c p low high) : Gauge w.drew g A n c p low high := h.keep rfl
theorem Gauge.cell (h : Gauge w g A n c p low high) (i : Nat) : w.cell? ⟨g, i, none⟩ = (gcells A n c p low high)[i]? := blk_cell h.b i
theorem Gauge.frozen (h : Gauge w g A n c p low high) (i : Nat) : w.frozen? ⟨g, i, none⟩ = false := blk_frozen h.b i
theorem Gauge.c0 (h : Gauge w g A n c p low high) : w.cell? ⟨g, 0, none⟩ = some (.slice A n c) := by rw [h.cell]; rfl
theorem Gauge.c1 (h : Gauge w g A n c p low high) : w.cell? ⟨g, 1, none⟩ = some (.int .i64 p) := by rw [h.cell]; rfl
theorem gcells_low (A : Option Addr) (n c : Nat) (p : Int) {low high : List Int} (hl : low.length = 16) (i : Nat) (hi : i < 16) : (gcells A n c p low high)[2 + i]? = some (.int .i64 (low.getD i 0)) := by
 unfold gcells
 rw [List.getElem?_toArray, Nat.add_comm, List.getElem?_cons_succ, List.getElem?_cons_succ, List.getElem?_append_left (by simp; omega), List.getElem?_map, List.getD_eq_getElem?_getD, List.getElem?_eq_getElem (by omega)]
 rfl
theorem gcells_high (A : Option Addr) (n c : Nat) (p : Int) {low high : List Int} (hl : low.length = 16) (hh : high.length = 16) (i : Nat) (hi : i < 16) : (gcells A n c p low high)[18 + i]? = some (.int .i64 (high.getD i 0)) := by
 unfold gcells
 rw [List.getElem?_toArray, show 18 + i = (16 + i) + 1 + 1 from by omega, List.getElem?_cons_succ, List.getElem?_cons_succ, List.getElem?_append_right (by simp; omega), List.length_map, hl, Nat.add_sub_cancel_left, List.getElem?_map, List.getD_eq_getElem?_getD, List.getElem?_eq_getElem (by omega)]
 rfl
theorem Gauge.cl (h : Gauge w g A n c p low high) (i : Nat) (hi : i < 16) : w.cell? ⟨g, 2 + i, none⟩ = some (.int .i64 (low.getD i 0)) := by rw [h.cell, gcells_low A n c p h.l i hi]
theorem Gauge.ch (h : Gauge w g A n c p low high) (i : Nat) (hi : i < 16) : w.cell? ⟨g, 18 + i, none⟩ = some (.int .i64 (high.getD i 0)) := by rw [h.cell, gcells_high A n c p h.l h.h i hi]
theorem gcells_set_low (A : Option Addr) (n c : Nat) (p : Int) {low high : List Int} (hl : low.length = 16) (i : Nat) (hi : i < 16) (v : Int) : (gcells A n c p low high).setIfInBounds (2 + i) (.int .i64 v) = gcells A n c p (low.set i v) high := by
 unfold gcells
 rw [List.setIfInBounds_toArray, Nat.add_comm, List.set_cons_succ, List.set_cons_succ, List.set_append_left _ _ (by simp; omega), List.map_set]
theorem gcells_set_high (A : Option Addr) (n c : Nat) (p : Int) {low high : List Int} (hl : low.length = 16) (i : Nat) (v : Int) : (gcells A n c p low high).setIfInBounds (18 + i) (.int .i64 v) = gcells A n c p low (high.set i v) := by
 unfold gcells
 rw [List.setIfInBounds_toArray, show 18 + i = (16 + i) + 1 + 1 from by omega, List.set_cons_succ, List.set_cons_succ, List.set_append_right _ _ (by simp; omega), List.length_map, hl, Nat.add_sub_cancel_left, List.map_set]
theorem Gauge.setL (h : Gauge w g A n c p low high) (i : Nat) (hi : i < 16) (v : Int) : Gauge (w.setCell ⟨g, 2 + i, none⟩ (.int .i64 v)) g A n c p (low.set i v) high :=
 ⟨by rw [List.length_set]; exact h.l, h.h, by have := blk_put h.b (2 + i) (.int .i64 v) (gcells_set_low A n c p h.l i hi v); exact this⟩
theorem Gauge.setH (h : Gauge w g A n c p low high) (i : Nat) (_hi : i < 16) (v : Int) : Gauge (w.setCell ⟨g, 18 + i, none⟩ (.int .i64 v)) g A n c p low (high.set i v) :=
 ⟨h.l, by rw [List.length_set]; exact h.h, by have := blk_put h.b (18 + i) (.int .i64 v) (gcells_set_high A n c p h.l i v); exact this⟩
end
end Go.Proofs.Ytpkajhmchcbbhaa.P
end
section
namespace Go.Proofs.Ytpkajhmchcbbhaa.P
open Go.RowKit Go.Proofs.YtpkajhmchcbbhaaW.PrintWords Go.Proofs.YtpkajhmchcbbhaaW.PrintLast Go.Proofs.YtpkajhmchcbbhaaW.PrintMore
def padRow (f : Nat → Int) (k : Nat) : List Int := (List.range 16).map fun i => if i < k then f i else 0
theorem padRow_length (f : Nat → Int) (k : Nat) : (padRow f k).length = 16 := by simp [padRow]
theorem padRow_get (f : Nat → Int) (k i : Nat) (hi : i < 16) : (padRow f k).getD i 0 = if i < k then f i else 0 := by
 simp [padRow, List.getD_eq_getElem?_getD, hi]
theorem padRow_set (f : Nat → Int) (k : Nat) (_hk : k < 16) : (padRow f k).set k (f k) = padRow f (k + 1) := by
 apply List.ext_getElem
 ·simp [padRow]
 intro i h1 h2
 have h16 : i < 16 := by simpa [padRow] using h2
 simp only [List.getElem_set, padRow, List.getElem_map, List.getElem_range]
 by_cases e : k = i
 ·subst e; simp
 rw [if_neg e]
 by_cases h : i < k
 ·rw [if_pos h, if_pos (by omega)]
 rw [if_neg h, if_neg (by omega)]
set_option maxRecDepth 100000 in
set_option maxHeartbeats 2000000 in
theorem newGauge_calls (A : Option Addr) (c : Nat) (l : List SRow) (p : Int) (w : World) (hr : Kd.C kRow w A l.length l) (h16 : l.length ≤ 16) :
  Calls Try.prog 63 #[.agg #[.slice A l.length c, .int .i64 p]] w fun e w' => ∃ g : Nat, e = .returned (.pointer (some ⟨g, 0, none⟩)) ∧ w.heap.size ≤ g ∧ Gauge w' g A l.length c p (padRow (loR l) l.length) (padRow (hiR l) l.length) ∧ Below w.heap.size w w' := by
 have HR := Aside0.mk hr
 clear hr
 have hu1 := Try.underlying24
 have hu2 := Try.underlying70
 have hu3 := Try.underlying99
 have hu4 := Try.underlying43
 have hu5 := Try.underlying97
 go_enter Try.func63, Try.ntmps63
 go_wp2
 go_loopw [12] (fun v12 w' => ∃ k : Nat, k ≤ l.length ∧ v12 = .int .i64 k ∧ Gauge w' (w.heap.size + 1) A l.length c p (padRow (loR l) k) (padRow (hiR l) k) ∧ Below w.heap.size w w') (fun v12 _ => l.length - (intOf v12).toNat)
 case atStart => exact ⟨0, Nat.zero_le _, rfl, ⟨rfl, rfl, blk_new' (by simp)⟩, ((Below.refl _ _).alloc (Nat.le_refl _) _).alloc (by simp) _⟩
 case round =>
  obtain ⟨k, hk, rfl, hG, hB⟩ := hrel
  by_cases hlt : k < l.length
  ·obtain ⟨ad, rfl, c0, c1, c2⟩ := row_cells HR.out k hlt
   replace c0 := pw_cell_below hB c0
   replace c1 := pw_cell_below hB c1
   replace c2 := pw_cell_below hB c2
   have hl := hG.cl k (by omega)
   have hh := hG.ch k (by omega)
   have fl := hG.frozen (2 + k)
   have fh := hG.frozen (18 + k)
   have hgl := hG.lt
   have HG := Aside0.mk hG
   clear hG
   have HLR := Lib.hid (show loR l k = (l.getD k zRow).f1.f0 from rfl)
   have HHR := Lib.hid (show hiR l k = (l.getD k zRow).f1.f1 from rfl)
   obtain ⟨q, hq⟩ : ∃ q, q = l.getD k zRow := ⟨_, rfl⟩
   rw [← hq] at c0 c1 c2 HLR HHR
   clear hq
   go_wp2
   go_region
   go_wp2
   go_roundw
   case rel =>
    refine ⟨k + 1, by omega, by go_num, ?_, (((hB.setCell ql22 _).setCell ql22 _).alloc (by simp [World.setCell]; omega) _).drew⟩
    rw [← padRow_set (loR l) k (by omega), ← padRow_set (hiR l) k (by omega), HLR.out, HHR.out]
    exact (((HG.out.setL k (by omega) _).setH k (by omega) _).alloc _).drew
   case measure => simp [intOf]; omega
  have hd : decide (k < l.length) = false := by simpa using hlt
  obtain rfl : k = l.length := by omega
  go_wp2
  go_ret
  exact ⟨_, rfl, by omega, hG, hB⟩
end Go.Proofs.Ytpkajhmchcbbhaa.P
end
section
namespace Go.Proofs.Ytpkajhmchcbbhaa.P
open Go.RowKit Go.Proofs.YtpkajhmchcbbhaaW.PrintWords Go.Proofs.YtpkajhmchcbbhaaW.PrintLast Go.Proofs.YtpkajhmchcbbhaaW.PrintMore
def SegOk (w : World) (g k n : Nat) : Prop := ∃ cs t, w.heap[g]? = some (.cells cs t (0, 0)) ∧ k + n ≤ cs.size
def blkOf (w : World) (g : Nat) : Array Value := match w.heap[g]? with | some (.cells c _ _) => c | _ => #[]
def seg (w : World) (g k n : Nat) : Array Value := (blkOf w g).extract k (k + n)
theorem SegOk.mk' {w : World} {g : Nat} {cs : Array Value} {t : TypeId} (h : w.heap[g]? = some (.cells cs t (0, 0))) (k n : Nat) (hn : k + n ≤ cs.size) : SegOk w g k n := ⟨cs, t, h, hn⟩
theorem seg_of {w : World} {g : Nat} {cs : Array Value} {t : TypeId} (h : w.heap[g]? = some (.cells cs t (0, 0))) (k n : Nat) : seg w g k n = cs.extract k (k + n) := by simp [seg, blkOf, h]
theorem SegOk.lt {w : World} {g k n : Nat} (h : SegOk w g k n) : g < w.heap.size := by obtain ⟨_, _, h, _⟩ := h; exact (Array.getElem?_eq_some_iff.1 h).1
theorem SegOk_same {w w1 : World} {g k n : Nat} (h : w1.heap[g]? = w.heap[g]?) : SegOk w1 g k n = SegOk w g k n := by simp [SegOk, h]
theorem seg_same {w w1 : World} {g k n : Nat} (h : w1.heap[g]? = w.heap[g]?) : seg w1 g k n = seg w g k n := by simp [seg, blkOf, h]
theorem SegOk_alloc {w : World} {g k n : Nat} (o : Obj) (h : g < w.heap.size) : SegOk (w.alloc o) g k n = SegOk w g k n := SegOk_same (Below.heap_alloc _ _ _ h)
theorem seg_alloc {w : World} {g k n : Nat} (o : Obj) (h : g < w.heap.size) : seg (w.alloc o) g k n = seg w g k n := seg_same (Below.heap_alloc _ _ _ h)
theorem SegOk_drew (w : World) (g k n : Nat) : SegOk w.drew g k n = SegOk w g k n := SegOk_same rfl
theorem seg_drew (w : World) (g k n : Nat) : seg w.drew g k n = seg w g k n := seg_same rfl
theorem SegOk_drewN (w : World) (m g k n : Nat) : SegOk (w.drewN m) g k n = SegOk w g k n := SegOk_same rfl
theorem seg_drewN (w : World) (m g k n : Nat) : seg (w.drewN m) g k n = seg w g k n := seg_same rfl
def putSeg (w : World) (g k : Nat) : List Value → World
 | [] => w
 | v :: l => putSeg (w.setCell ⟨g, k, none⟩ v) g (k + 1) l
theorem putSeg_size (l : List Value) : ∀ (w : World) (g k : Nat), (putSeg w g k l).heap.size = w.heap.size := by
 induction l with
 | nil => intros; rfl
 | cons v l ih => intro w g k; rw [putSeg, ih]; simp [World.setCell]
theorem putSeg_other (l : List Value) : ∀ (w : World) (g k b : Nat), b ≠ g → (putSeg w g k l).heap[b]? = w.heap[b]? := by
 induction l with
 | nil => intros; rfl
 | cons v l ih => intro w g k b hb; rw [putSeg, ih _ _ _ _ hb]; exact Below.heap_setCell _ _ _ _ hb
theorem putSeg_below (l : List Value) : ∀ (w a : World) (B g k : Nat), B ≤ g → Below B a w → Below B a (putSeg w g k l) := by
 induction l with
 | nil => intro w a B g k _ h; exact h
 | cons v l ih => intro w a B g k hB h; exact ih _ _ _ _ _ hB (h.setCell (by exact hB) v)
def splice (cs : Array Value) (k : Nat) : List Value → Array Value
 | [] => cs
 | v :: l => splice (cs.setIfInBounds k v) (k + 1) l
theorem splice_get (l : List Value) : ∀ (cs : Array Value) (k i : Nat), k + l.length ≤ cs.size → (splice cs k l)[i]? = if k ≤ i ∧ i < k + l.length then l[i - k]? else cs[i]? := by
 induction l with
 | nil => intro cs k i _; rw [splice, if_neg (by simp only [List.length_nil]; omega)]
 | cons v l ih =>
  intro cs k i h
  simp only [List.length_cons] at h ⊢
  rw [splice, ih _ _ _ (by simp; omega)]
  by_cases h1 : k + 1 ≤ i ∧ i < k + 1 + l.length
  ·rw [if_pos h1, if_pos (by omega), show i - k = (i - (k + 1)) + 1 from by omega, List.getElem?_cons_succ]
  rw [if_neg h1]
  by_cases h2 : k = i
  ·subst h2
   rw [if_pos (by omega), Nat.sub_self, List.getElem?_cons_zero, Array.getElem?_setIfInBounds_self_of_lt (by omega)]
  rw [if_neg (by omega), Array.getElem?_setIfInBounds_ne (by omega)]
theorem splice_all (l : List Value) (cs : Array Value) (h : l.length = cs.size) : splice cs 0 l = l.toArray := by
 apply Array.ext_getElem?
 intro i
 have e : l.toArray[i]? = l[i]? := by simp
 rw [splice_get l cs 0 i (by omega), Nat.sub_zero, e]
 by_cases hi : i < l.length
 ·rw [if_pos (by omega)]
 rw [if_neg (by omega), Array.getElem?_eq_none (by omega), List.getElem?_eq_none (by omega)]
theorem putSeg_heap (l : List Value) : ∀ (w : World) (g k : Nat) (cs : Array Value) (t : TypeId), w.heap[g]? = some (.cells cs t (0, 0)) → (putSeg w g k l).heap[g]? = some (.cells (splice cs k l) t (0, 0)) := by
 induction l with
 | nil => intro w g k cs t h; exact h
 | cons v l ih => intro w g k cs t h; exact ih _ _ _ _ _ (blk_put h k v rfl)
theorem putSeg_drew (l : List Value) : ∀ (w : World) (g k : Nat), putSeg w.drew g k l = (putSeg w g k l).drew := by
 induction l with
 | nil => intros; rfl
 | cons v l ih => intro w g k; rw [putSeg, putSeg, ← ih]; rfl
theorem putSeg_new (l : List Value) (w : World) (cs : Array Value) (t : TypeId) (h : l.length = cs.size) : putSeg (w.alloc (.cells cs t)) w.heap.size 0 l = w.alloc (.cells l.toArray t) := by
 have key : ∀ (l : List Value) (cs : Array Value) (k : Nat), putSeg (w.alloc (.cells cs t)) w.heap.size k l = w.alloc (.cells (splice cs k l) t) := by
  intro l
  induction l with
  | nil => intros; rfl
  | cons v l ih =>
   intro cs k
   rw [putSeg, splice, ← ih]
   congr 1
   exact World.setCell_alloc_at _ _ _ _ _ rfl
 rw [key, splice_all l cs h]
section
variable {P : Program}
def loadArr (P : Program) (ty : TypeId) (v : Value) (w : World) : Result Next := Sem.run P (do pure (Next.value (← Instr.loadAt ty v))) w
theorem loadArr_at (ty n : Nat) (ha : ∀ w, (isAgg ty).run P w = .ok true w) (hs : ∀ w, (sizeOf ty).run P w = .ok n w) (w : World) (g k : Nat) (h : SegOk w g k n) : loadArr P ty (.pointer (some ⟨g, k, none⟩)) w = .ok (.value (.agg (seg w g k n))) w := by
 obtain ⟨cs, t, hb, hn⟩ := h
 have hl : (loadCells ⟨g, k, none⟩ n).run P w = .ok (seg w g k n) w := by
  have := run_loadCells (P := P) w ⟨g, k, none⟩ n (fun j => cs.getD (k + j) undef) (fun j hj => by
   have hadd : (⟨g, k, none⟩ : Addr).add j = ⟨g, k + j, none⟩ := by unfold Addr.add; split <;> simp_all
   rw [hadd, blk_cell hb]
   simp [Array.getD, show k + j < cs.size by omega])
  rw [this, seg_of hb]
  congr 1
  apply Array.ext
  ·simp; omega
  intro i h1 h2
  have hi : i < n := by simpa using h1
  simp [Array.getD, show k + i < cs.size by omega]
 simp only [loadArr, Instr.loadAt, Instr.sureAddr, Sem.run_bind, Sem.run_pure, Result.andThen_ok, loadVar, ha, hs, hl, if_true]
def storeArr (P : Program) (ty : TypeId) (v x : Value) (w : World) : Result Next := Sem.run P (do Instr.storeAt ty v x; pure Next.skip) w
theorem run_storeCells (l : List Value) : ∀ (w : World) (g k i : Nat) (cs : Array Value) (t : TypeId), w.heap[g]? = some (.cells cs t (0, 0)) → k + i + l.length ≤ cs.size → (∀ v, v ∈ l → v.oneCell' = true) →
  (storeCells ⟨g, k, none⟩ l i).run P w = .ok () (putSeg w g (k + i) l) := by
 induction l with
 | nil => intro w g k i cs t _ _ _; rfl
 | cons v l ih =>
  intro w g k i cs t h hn hone
  simp only [List.length_cons] at hn
  have hadd : (⟨g, k, none⟩ : Addr).add i = ⟨g, k + i, none⟩ := by unfold Addr.add; split <;> simp_all
  have hc : w.cell? ⟨g, k + i, none⟩ = some cs[k + i] := by rw [blk_cell h]; simp
  have hf := blk_frozen h (k + i)
  have hst : (store ⟨g, k + i, none⟩ v).run P w = .ok () (w.setCell ⟨g, k + i, none⟩ v) := by rw [run_store _ _ _ _ _ (hone v List.mem_cons_self)]; simp [stored, hc, hf]
  rw [storeCells, hadd, Sem.run_bind, hst]
  simp only [Result.andThen_ok]
  rw [ih _ g k (i + 1) _ t (blk_put h (k + i) v rfl) (by simp; omega) (fun u hu => hone u (List.mem_cons_of_mem _ hu))]
  rfl
def Ones (xs : Array Value) : Prop := ∀ v, v ∈ xs.toList → v.oneCell' = true
theorem Ones_ints (l : List Int) : Ones (ints l) := fun v hv => by
 simp only [ints, List.mem_map] at hv
 obtain ⟨x, _, rfl⟩ := hv
 rfl
theorem storeArr_at (ty n : Nat) (hs : ∀ w, (sizeOf ty).run P w = .ok n w) (w : World) (g k : Nat) (xs : Array Value) (h : SegOk w g k n) (hx : xs.size = n) (hone : Ones xs) : storeArr P ty (.pointer (some ⟨g, k, none⟩)) (.agg xs) w = .ok .skip (putSeg w g k xs.toList) := by
 obtain ⟨cs, t, hb, hn⟩ := h
 have hst := run_storeCells (P := P) xs.toList w g k 0 cs t hb (by simp; omega) hone
 rw [Nat.add_zero] at hst
 have hv : (Value.agg xs).cells = xs := rfl
 simp only [storeArr, Instr.storeAt, Instr.sureAddr, Sem.run_bind, Sem.run_pure, Result.andThen_ok, storeVar, hs, hv, hx, ne_eq, not_true_eq_false, if_false, hst]
theorem storeArr_new (ty n : Nat) (hs : ∀ w, (sizeOf ty).run P w = .ok n w) (w : World) (cs : Array Value) (t : TypeId) (xs : Array Value) (hc : cs.size = n) (hx : xs.size = n) (hone : Ones xs) :
  storeArr P ty (.pointer (some ⟨w.heap.size, 0, none⟩)) (.agg xs) (w.alloc (.cells cs t)) = .ok .skip (w.alloc (.cells xs t)) := by
 rw [storeArr_at ty n hs _ _ _ _ (.mk' (blk_new w (.cells cs t)) 0 n (by omega)) hx hone, putSeg_new _ _ _ _ (by simp; omega)]
theorem storeArr_newD (ty n : Nat) (hs : ∀ w, (sizeOf ty).run P w = .ok n w) (w : World) (cs : Array Value) (t : TypeId) (xs : Array Value) (hc : cs.size = n) (hx : xs.size = n) (hone : Ones xs) :
  storeArr P ty (.pointer (some ⟨w.heap.size, 0, none⟩)) (.agg xs) (w.alloc (.cells cs t)).drew = .ok .skip (w.alloc (.cells xs t)).drew := by
 rw [storeArr_at ty n hs _ _ _ _ (.mk' (show (w.alloc (.cells cs t)).drew.heap[w.heap.size]? = _ from blk_new w (.cells cs t)) 0 n (by omega)) hx hone, putSeg_drew, putSeg_new _ _ _ _ (by simp; omega)]
end
end Go.Proofs.Ytpkajhmchcbbhaa.P
end
section
namespace Go.Proofs.Ytpkajhmchcbbhaa.P
open Go.RowKit Go.Proofs.YtpkajhmchcbbhaaW.PrintWords Go.Proofs.YtpkajhmchcbbhaaW.PrintLast Go.Proofs.YtpkajhmchcbbhaaW.PrintMore
section
variable {P : Program}
theorem eq_loop (F : Nat → Option Bool × Unit → Sem (ForInStep (Option Bool × Unit))) (b : Nat → Bool) (w : World) (l : List Nat)
  (hF : ∀ i, i ∈ l → (F i (none, ())).run P w = .ok (if b i then .yield (none, ()) else .done (some false, ())) w) :
  Sem.run P (forIn l ((none, ()) : Option Bool × Unit) F) w = .ok (if l.all b then (none, ()) else (some false, ())) w := by
 induction l with
 | nil => rfl
 | cons i l ih =>
  rw [List.forIn_cons, Sem.run_bind, hF i List.mem_cons_self]
  cases hb : b i with
  | true => simpa [hb] using ih (fun j hj => hF j (List.mem_cons_of_mem _ hj))
  | false => simp [hb]
theorem equalIn_arr (d : Nat) (t e n k : Nat) (hu : P.underlying t = some (.array n e)) (w : World) (xs ys : Array Value) (hs : (sizeOf e).run P w = .ok k w) (px py : Nat → Value) (b : Nat → Bool)
  (hx : ∀ i, i < n → (part e xs (i * k)).run P w = .ok (px i) w) (hy : ∀ i, i < n → (part e ys (i * k)).run P w = .ok (py i) w) (hb : ∀ i, i < n → (Op.equalIn d e (px i) (py i)).run P w = .ok (b i) w) :
  (Op.equalIn (d + 1) t (.agg xs) (.agg ys)).run P w = .ok ((List.range n).all b) w := by
 rw [Op.equalIn]
 simp only [Sem.run_bind, run_underlying hu, Result.andThen_ok, hs, Std.Legacy.Range.forIn_eq_forIn_range', Std.Legacy.Range.size]
 rw [eq_loop _ b w _ (fun i hi => by
  have hi' : i < n := by simp at hi; omega
  simp only [Sem.run_bind, hx i hi', hy i hi', hb i hi', Result.andThen_ok]
  cases b i <;> simp)]
 simp only [Result.andThen_ok, Nat.sub_zero, Nat.add_sub_cancel, Nat.div_one, ← List.range_eq_range']
 cases (List.range n).all b <;> simp
theorem all_range_eq (a b : List Int) (n : Nat) (ha : a.length = n) (hb : b.length = n) : ((List.range n).all fun i => a.getD i 0 == b.getD i 0) = (a == b) := by
 rw [Bool.eq_iff_iff, List.all_eq_true, beq_iff_eq]
 constructor
 ·intro h
  apply List.ext_getElem (by omega)
  intro i h1 h2
  have := h i (by simp; omega)
  simpa [List.getD_eq_getElem?_getD, h1, h2] using this
 rintro rfl i _
 simp
theorem run_part1 {e : TypeId} {k : IntKind} (hu : P.underlying e = some (.int k)) (hs : ∀ w, (sizeOf e).run P w = .ok 1 w) (ha : ∀ w, (isAgg e).run P w = .ok false w) (l : List Int) (i : Nat) (hi : i < l.length) (w : World) :
  (part e (ints l) (i * 1)).run P w = .ok (.int .i64 (l.getD i 0)) w := by
 have _ := hu
 unfold part
 simp [ha, hs, ints, List.getD_eq_getElem?_getD, hi]
end
theorem ints_extract (l : List Int) (k n : Nat) : (ints l).extract k (k + n) = ints ((l.drop k).take n) := by
 apply Array.ext'
 simp [ints, List.map_take, List.map_drop, Nat.add_sub_cancel_left]
theorem ints_app (a b : List Int) : ints a ++ ints b = ints (a ++ b) := by apply Array.ext'; simp [ints]
theorem ints_size (l : List Int) : (ints l).size = l.length := by simp [ints]
theorem eq97_arr (d : Nat) (w : World) (a b : List Int) (ha : a.length = 16) (hb : b.length = 16) : (Op.equalIn (d + 2) 97 (.agg (ints a)) (.agg (ints b))).run Try.prog w = .ok (a == b) w := by
 have hs : ∀ w, (sizeOf 2).run Try.prog w = .ok 1 w := fun w => by kernel_rfl
 have hg : ∀ w, (isAgg 2).run Try.prog w = .ok false w := fun w => by kernel_rfl
 have h1 := Try.underlying2
 rw [equalIn_arr (d + 1) _ 2 16 1 Try.underlying97 w _ _ (hs w) (fun i => .int .i64 (a.getD i 0)) (fun i => .int .i64 (b.getD i 0)) (fun i => a.getD i 0 == b.getD i 0)
  (fun i hi => run_part1 h1 hs hg a i (by omega) w) (fun i hi => run_part1 h1 hs hg b i (by omega) w) (fun i _ => by go_simp)]
 rw [all_range_eq a b 16 ha hb]
theorem eq129_arr (d : Nat) (w : World) (a b : List Int) (ha : a.length = 32) (hb : b.length = 32) : (Op.equalIn (d + 3) 129 (.agg (ints a)) (.agg (ints b))).run Try.prog w = .ok (a == b) w := by
 have hs : ∀ w, (sizeOf 97).run Try.prog w = .ok 16 w := fun w => by kernel_rfl
 have hg : ∀ w, (isAgg 97).run Try.prog w = .ok true w := fun w => by kernel_rfl
 have hp : ∀ (l : List Int) (i : Nat), (part 97 (ints l) (i * 16)).run Try.prog w = .ok (.agg (ints ((l.drop (i * 16)).take 16))) w := fun l i => by
  unfold part
  simp [hg, hs, ints_extract]
 rw [equalIn_arr (d + 2) _ 97 2 16 Try.underlying129 w _ _ (hs w) (fun i => .agg (ints ((a.drop (i * 16)).take 16))) (fun i => .agg (ints ((b.drop (i * 16)).take 16))) (fun i => (a.drop (i * 16)).take 16 == (b.drop (i * 16)).take 16)
  (fun i _ => hp a i) (fun i _ => hp b i) (fun i hi => eq97_arr d w _ _ (by simp; omega) (by simp; omega))]
 congr 1
 rw [Bool.eq_iff_iff]
 simp only [List.range_succ, List.range_zero, List.nil_append, List.all_append, List.all_cons, List.all_nil, Bool.and_true, Bool.and_eq_true, beq_iff_eq, Nat.zero_mul, List.drop_zero, Nat.one_mul]
 constructor
 ·rintro ⟨h1, h2⟩
  rw [List.take_of_length_le (by simp; omega), List.take_of_length_le (by simp; omega)] at h2
  rw [← List.take_append_drop 16 a, ← List.take_append_drop 16 b, h1, h2]
 rintro rfl; exact ⟨rfl, rfl⟩
section
variable (ρ : Operand → Value) (d : Option Tmp) (x y : Operand) (t : TypeId) (pos : String) (af : Array Edge) (gd : Option (Nat × Bool)) (w : World)
theorem exec_load97 : Sem.run Try.prog (execOp ρ { dst := d, op := .load 97 x, type := t, pos := pos, after := af, guard := gd }) w = loadArr Try.prog 97 (ρ x) w := rfl
theorem sem_load97 (ro : Option Nat) : Sem.run Try.prog (Oper.semAt ro ρ { dst := d, op := .load 97 x, type := t, pos := pos, after := af, guard := gd }) w = loadArr Try.prog 97 (ρ x) w := by cases ro <;> rfl
theorem exec_load129 : Sem.run Try.prog (execOp ρ { dst := d, op := .load 129 x, type := t, pos := pos, after := af, guard := gd }) w = loadArr Try.prog 129 (ρ x) w := rfl
theorem sem_load129 (ro : Option Nat) : Sem.run Try.prog (Oper.semAt ro ρ { dst := d, op := .load 129 x, type := t, pos := pos, after := af, guard := gd }) w = loadArr Try.prog 129 (ρ x) w := by cases ro <;> rfl
theorem exec_store97 : Sem.run Try.prog (execOp ρ { dst := d, op := .store 97 x y, type := t, pos := pos, after := af, guard := gd }) w = storeArr Try.prog 97 (ρ x) (ρ y) w := rfl
theorem sem_store97 (ro : Option Nat) : Sem.run Try.prog (Oper.semAt ro ρ { dst := d, op := .store 97 x y, type := t, pos := pos, after := af, guard := gd }) w = storeArr Try.prog 97 (ρ x) (ρ y) w := by cases ro <;> rfl
theorem exec_store129 : Sem.run Try.prog (execOp ρ { dst := d, op := .store 129 x y, type := t, pos := pos, after := af, guard := gd }) w = storeArr Try.prog 129 (ρ x) (ρ y) w := rfl
theorem sem_store129 (ro : Option Nat) : Sem.run Try.prog (Oper.semAt ro ρ { dst := d, op := .store 129 x y, type := t, pos := pos, after := af, guard := gd }) w = storeArr Try.prog 129 (ρ x) (ρ y) w := by cases ro <;> rfl
noncomputable def buildPair (a b : Value) (w : World) : Result Next := Sem.run Try.prog (do pure (Next.value (← Instr.build 129 #[(0, a), (1, b)]))) w
theorem exec_build129 : Sem.run Try.prog (execOp ρ { dst := d, op := .build 129 #[(0, x), (1, y)], type := t, pos := pos, after := af, guard := gd }) w = buildPair (ρ x) (ρ y) w := by simp [execOp, buildPair]
theorem sem_build129 (ro : Option Nat) : Sem.run Try.prog (Oper.semAt ro ρ { dst := d, op := .build 129 #[(0, x), (1, y)], type := t, pos := pos, after := af, guard := gd }) w = buildPair (ρ x) (ρ y) w := by cases ro <;> exact exec_build129 ρ d x y t pos af gd w
end
theorem load97_at (w : World) (g k : Nat) (h : SegOk w g k 16) : loadArr Try.prog 97 (.pointer (some ⟨g, k, none⟩)) w = .ok (.value (.agg (seg w g k 16))) w := loadArr_at _ 16 (fun w => by kernel_rfl) (fun w => by kernel_rfl) w g k h
theorem load129_at (w : World) (g k : Nat) (h : SegOk w g k 32) : loadArr Try.prog 129 (.pointer (some ⟨g, k, none⟩)) w = .ok (.value (.agg (seg w g k 32))) w := loadArr_at _ 32 (fun w => by kernel_rfl) (fun w => by kernel_rfl) w g k h
theorem store97_at (w : World) (g k : Nat) (xs : Array Value) (h : SegOk w g k 16) (hx : xs.size = 16) (hone : Ones xs) : storeArr Try.prog 97 (.pointer (some ⟨g, k, none⟩)) (.agg xs) w = .ok .skip (putSeg w g k xs.toList) := storeArr_at _ 16 (fun w => by kernel_rfl) w g k xs h hx hone
theorem store129_at (w : World) (g k : Nat) (xs : Array Value) (h : SegOk w g k 32) (hx : xs.size = 32) (hone : Ones xs) : storeArr Try.prog 129 (.pointer (some ⟨g, k, none⟩)) (.agg xs) w = .ok .skip (putSeg w g k xs.toList) := storeArr_at _ 32 (fun w => by kernel_rfl) w g k xs h hx hone
theorem store129_new (w : World) (cs : Array Value) (t : TypeId) (xs : Array Value) (hc : cs.size = 32) (hx : xs.size = 32) (hone : Ones xs) : storeArr Try.prog 129 (.pointer (some ⟨w.heap.size, 0, none⟩)) (.agg xs) (w.alloc (.cells cs t)) = .ok .skip (w.alloc (.cells xs t)) := storeArr_new _ 32 (fun w => by kernel_rfl) w cs t xs hc hx hone
theorem store129_newD (w : World) (cs : Array Value) (t : TypeId) (xs : Array Value) (hc : cs.size = 32) (hx : xs.size = 32) (hone : Ones xs) : storeArr Try.prog 129 (.pointer (some ⟨w.heap.size, 0, none⟩)) (.agg xs) (w.alloc (.cells cs t)).drew = .ok .skip (w.alloc (.cells xs t)).drew := storeArr_newD _ 32 (fun w => by kernel_rfl) w cs t xs hc hx hone
theorem store97_new (w : World) (cs : Array Value) (t : TypeId) (xs : Array Value) (hc : cs.size = 16) (hx : xs.size = 16) (hone : Ones xs) : storeArr Try.prog 97 (.pointer (some ⟨w.heap.size, 0, none⟩)) (.agg xs) (w.alloc (.cells cs t)) = .ok .skip (w.alloc (.cells xs t)) := storeArr_new _ 16 (fun w => by kernel_rfl) w cs t xs hc hx hone
theorem store97_newD (w : World) (cs : Array Value) (t : TypeId) (xs : Array Value) (hc : cs.size = 16) (hx : xs.size = 16) (hone : Ones xs) : storeArr Try.prog 97 (.pointer (some ⟨w.heap.size, 0, none⟩)) (.agg xs) (w.alloc (.cells cs t)).drew = .ok .skip (w.alloc (.cells xs t)).drew := storeArr_newD _ 16 (fun w => by kernel_rfl) w cs t xs hc hx hone
theorem list16v {α : Type} {l : List α} (h : l.length = 16) : ∃ x0 x1 x2 x3 x4 x5 x6 x7 x8 x9 xa xb xc xd xe xf : α, l = [x0, x1, x2, x3, x4, x5, x6, x7, x8, x9, xa, xb, xc, xd, xe, xf] := by
 match l, h with
 | [x0, x1, x2, x3, x4, x5, x6, x7, x8, x9, xa, xb, xc, xd, xe, xf], _ => exact ⟨x0, x1, x2, x3, x4, x5, x6, x7, x8, x9, xa, xb, xc, xd, xe, xf, rfl⟩
theorem buildPair_at (w : World) (xs ys : Array Value) (hx : xs.size = 16) (hy : ys.size = 16) : buildPair (.agg xs) (.agg ys) w = .ok (.value (.agg (xs ++ ys))) w := by
 obtain ⟨x0, x1, x2, x3, x4, x5, x6, x7, x8, x9, xa, xb, xc, xd, xe, xf, ex⟩ := list16v (l := xs.toList) (by simpa using hx)
 obtain ⟨y0, y1, y2, y3, y4, y5, y6, y7, y8, y9, ya, yb, yc, yd, ye, yf, ey⟩ := list16v (l := ys.toList) (by simpa using hy)
 obtain rfl : xs = #[x0, x1, x2, x3, x4, x5, x6, x7, x8, x9, xa, xb, xc, xd, xe, xf] := Array.ext' ex
 obtain rfl : ys = #[y0, y1, y2, y3, y4, y5, y6, y7, y8, y9, ya, yb, yc, yd, ye, yf] := Array.ext' ey
 kernel_rfl
end Go.Proofs.Ytpkajhmchcbbhaa.P
end
section
namespace Go.Proofs.Ytpkajhmchcbbhaa.P
open Go.RowKit Go.Proofs.YtpkajhmchcbbhaaW.PrintWords Go.Proofs.YtpkajhmchcbbhaaW.PrintLast Go.Proofs.YtpkajhmchcbbhaaW.PrintMore
theorem Gauge.segL {w : World} {g : Nat} {A : Option Addr} {n c : Nat} {p : Int} {low high : List Int} (h : Gauge w g A n c p low high) : SegOk w g 2 16 ∧ seg w g 2 16 = ints low :=
 ⟨.mk' h.b 2 16 (by simp [gcells, h.l, h.h]), by
  rw [seg_of h.b]
  apply Array.ext'
  have := h.l
  simp [gcells, ints, this]⟩
theorem Gauge.segH {w : World} {g : Nat} {A : Option Addr} {n c : Nat} {p : Int} {low high : List Int} (h : Gauge w g A n c p low high) : SegOk w g 18 16 ∧ seg w g 18 16 = ints high :=
 ⟨.mk' h.b 18 16 (by simp [gcells, h.l, h.h]), by
  rw [seg_of h.b]
  apply Array.ext'
  have h1 := h.l
  have h2 := h.h
  simp [gcells, ints, h1]
  rw [List.take_of_length_le (by simp [h2])]⟩
end Go.Proofs.Ytpkajhmchcbbhaa.P
end
section
namespace Go.Proofs.Ytpkajhmchcbbhaa.P
open Go.RowKit Go.Proofs.YtpkajhmchcbbhaaW.PrintWords Go.Proofs.YtpkajhmchcbbhaaW.PrintLast Go.Proofs.YtpkajhmchcbbhaaW.PrintMore
theorem padRow_congr {f g : Nat → Int} {n : Nat} (h : ∀ i, i < n → f i = g i) : padRow f n = padRow g n := by
 unfold padRow
 apply List.map_congr_left
 intro i _
 by_cases hi : i < n
 ·simp [hi, h i hi]
 simp [hi]
theorem padRow_put (f : Nat → Int) (n k : Nat) (v : Int) (hk : k < n) (_hn : n ≤ 16) : (padRow f n).set k v = padRow (fun i => if i = k then v else f i) n := by
 apply List.ext_getElem
 ·simp [padRow]
 intro i h1 h2
 simp only [List.getElem_set, padRow, List.getElem_map, List.getElem_range]
 by_cases e : k = i
 ·subst e; simp [hk]
 rw [if_neg e]
 by_cases hi : i < n
 ·rw [if_pos hi, if_pos hi, if_neg (fun h => e h.symm)]
 rw [if_neg hi, if_neg hi]
theorem padRow_in (f : Nat → Int) (n i : Nat) (hi : i < n) (h16 : n ≤ 16) : (padRow f n).getD i 0 = f i := by rw [padRow_get _ _ _ (by omega), if_pos hi]
def stepL (lo : List Int) (i : Nat) : List Int := if 0 < i then lo.set i (mx (lo.getD i 0) (lo.getD (i - 1) 0)) else lo
def stepH (n : Nat) (hi : List Int) (i : Nat) : List Int := if i + 1 < n then hi.set i (mn (hi.getD i 0) (hi.getD (i + 1) 0)) else hi
def foldL {N : Nat} (pre : List (Fin N)) (lo : List Int) : List Int := pre.foldl (fun a x => stepL a x.val) lo
def foldH {N : Nat} (pre : List (Fin N)) (hi : List Int) : List Int := pre.foldl (fun a x => stepH N a x.val) hi
theorem foldL_snoc {N : Nat} (pre : List (Fin N)) (x : Fin N) (lo : List Int) : foldL (pre ++ [x]) lo = stepL (foldL pre lo) x.val := by simp [foldL]
theorem foldH_snoc {N : Nat} (pre : List (Fin N)) (x : Fin N) (hi : List Int) : foldH (pre ++ [x]) hi = stepH N (foldH pre hi) x.val := by simp [foldH]
def LowAt (l : List SRow) (k : Nat) : List Int := padRow (fun i => if i < k then lowN l i else loR l i) l.length
def HighAt (l : List SRow) (k : Nat) : List Int := padRow (fun i => if l.length ≤ i + k then highN l i else hiR l i) l.length
theorem LowAt_zero (l : List SRow) : LowAt l 0 = padRow (loR l) l.length := padRow_congr fun i _ => by simp
theorem HighAt_zero (l : List SRow) : HighAt l 0 = padRow (hiR l) l.length := padRow_congr fun i hi => by rw [if_neg (by omega)]
theorem lowN_succ (l : List SRow) (i : Nat) : lowN l (i + 1) = mx (loR l (i + 1)) (lowN l i) := rfl
theorem highN_last (l : List SRow) : highN l (l.length - 1) = hiR l (l.length - 1) := by simp [highN, highR]
theorem highN_succ (l : List SRow) (i : Nat) (hi : i + 1 < l.length) : highN l i = mn (hiR l i) (highN l (i + 1)) := by
 unfold highN
 obtain ⟨j, hj⟩ : ∃ j, l.length - 1 - i = j + 1 := ⟨l.length - 1 - i - 1, by omega⟩
 rw [hj, show l.length - 1 - (i + 1) = j from by omega]
 simp only [highR]
 rw [show l.length - 1 - (j + 1) = i from by omega]
theorem mx_right {a b : Int} : b ≤ mx a b := by unfold mx; split <;> omega
theorem mx_eq {a b : Int} (h : b ≤ a) : mx a b = a := by unfold mx; split <;> omega
theorem mn_right {a b : Int} : mn a b ≤ b := by unfold mn; split <;> omega
theorem mn_eq {a b : Int} (h : a ≤ b) : mn a b = a := by unfold mn; split <;> omega
theorem stepL_at (l : List SRow) (k : Nat) (hk : k < l.length) (h16 : l.length ≤ 16) : stepL (LowAt l k) k = LowAt l (k + 1) := by
 unfold stepL
 cases k with
 | zero =>
  simp only [Nat.lt_irrefl, if_false]
  refine padRow_congr fun i hi => ?_
  by_cases h : i = 0
  ·subst h; simp [lowN]
  rw [if_neg (by omega), if_neg (by omega)]
 | succ k =>
  rw [if_pos (by omega)]
  simp only [LowAt, Nat.add_sub_cancel]
  rw [padRow_in _ _ _ hk h16, padRow_in _ _ k (by omega) h16, padRow_put _ _ _ _ hk h16]
  simp only [Nat.lt_irrefl, if_false, Nat.lt_succ_self, if_true]
  refine padRow_congr fun i hi => ?_
  by_cases h : i = k + 1
  ·subst h; rw [if_pos rfl, if_pos (by omega), lowN_succ]
  rw [if_neg h]
  by_cases h2 : i < k + 1
  ·rw [if_pos h2, if_pos (by omega)]
  rw [if_neg h2, if_neg (by omega)]
theorem stepL_end (l : List SRow) (k : Nat) (hk : k < l.length) (h16 : l.length ≤ 16) : stepL (LowAt l l.length) k = LowAt l l.length := by
 unfold stepL
 cases k with
 | zero => simp
 | succ k =>
  rw [if_pos (by omega)]
  simp only [LowAt, Nat.add_sub_cancel]
  rw [padRow_in _ _ _ hk h16, padRow_in _ _ k (by omega) h16, padRow_put _ _ _ _ hk h16]
  have hk' : k < l.length := by omega
  simp only [hk, hk', if_true]
  refine padRow_congr fun i hi => ?_
  by_cases h : i = k + 1
  ·subst h; rw [if_pos rfl, if_pos hk, mx_eq (by rw [lowN_succ]; exact mx_right)]
  rw [if_neg h]
theorem stepH_at (l : List SRow) (k : Nat) (hk : k < l.length) (h16 : l.length ≤ 16) : stepH l.length (HighAt l k) (l.length - 1 - k) = HighAt l (k + 1) := by
 unfold stepH
 cases k with
 | zero =>
  rw [if_neg (by omega)]
  refine padRow_congr fun i hi => ?_
  rw [if_neg (by omega)]
  by_cases h : i = l.length - 1
  ·rw [if_pos (by omega), h, highN_last]
  rw [if_neg (by omega)]
 | succ k =>
  rw [if_pos (by omega)]
  simp only [HighAt]
  rw [padRow_in _ _ _ (by omega) h16, padRow_in _ _ (l.length - 1 - (k + 1) + 1) (by omega) h16, padRow_put _ _ _ _ (by omega) h16]
  have e1 : ¬ l.length ≤ l.length - 1 - (k + 1) + (k + 1) := by omega
  have e2 : l.length ≤ l.length - 1 - (k + 1) + 1 + (k + 1) := by omega
  simp only [e1, e2, if_false, if_true]
  refine padRow_congr fun i hi => ?_
  by_cases h : i = l.length - 1 - (k + 1)
  ·rw [if_pos h, if_pos (by omega), highN_succ l i (by omega), h]
  rw [if_neg h]
  by_cases h2 : l.length ≤ i + (k + 1)
  ·rw [if_pos h2, if_pos (by omega)]
  rw [if_neg h2, if_neg (by omega)]
theorem stepH_end (l : List SRow) (k : Nat) (hk : k < l.length) (h16 : l.length ≤ 16) : stepH l.length (HighAt l l.length) k = HighAt l l.length := by
 unfold stepH
 by_cases h1 : k + 1 < l.length
 ·rw [if_pos h1]
  simp only [HighAt]
  rw [padRow_in _ _ _ hk h16, padRow_in _ _ (k + 1) h1 h16, padRow_put _ _ _ _ hk h16]
  have e1 : l.length ≤ k + l.length := by omega
  have e2 : l.length ≤ k + 1 + l.length := by omega
  simp only [e1, e2, if_true]
  refine padRow_congr fun i hi => ?_
  by_cases h : i = k
  ·subst h; rw [if_pos rfl, if_pos (by omega), mn_eq (by rw [highN_succ l i h1]; exact mn_right)]
  rw [if_neg h]
 rw [if_neg h1]
theorem take_succ_row (N : Nat) (back : Bool) (k : Nat) (hk : k < N) : ∃ x : Fin N, x.val = (if back then N - 1 - k else k) ∧ (rowAll N back).take (k + 1) = (rowAll N back).take k ++ [x] := by
 obtain ⟨x, hx, ht⟩ := rowAll_succ N back k hk
 refine ⟨x, ?_, ht⟩
 unfold rowIx at hx
 cases back <;> simp at hx ⊢ <;> omega
theorem foldL_all (l : List SRow) (h16 : l.length ≤ 16) : foldL (rowAll l.length false) (LowAt l 0) = LowAt l l.length := by
 have key : ∀ k, k ≤ l.length → foldL ((rowAll l.length false).take k) (LowAt l 0) = LowAt l k := by
  intro k
  induction k with
  | zero => intro _; rfl
  | succ k ih =>
   intro hk
   obtain ⟨x, hx, ht⟩ := take_succ_row l.length false k hk
   rw [ht, foldL_snoc, ih (by omega), hx]
   exact stepL_at l k hk h16
 have := key _ (Nat.le_refl _)
 rwa [rowAll_full] at this
theorem foldH_all (l : List SRow) (h16 : l.length ≤ 16) : foldH (rowAll l.length true) (HighAt l 0) = HighAt l l.length := by
 have key : ∀ k, k ≤ l.length → foldH ((rowAll l.length true).take k) (HighAt l 0) = HighAt l k := by
  intro k
  induction k with
  | zero => intro _; rfl
  | succ k ih =>
   intro hk
   obtain ⟨x, hx, ht⟩ := take_succ_row l.length true k hk
   rw [ht, foldH_snoc, ih (by omega), hx]
   exact stepH_at l k hk h16
 have := key _ (Nat.le_refl _)
 rwa [rowAll_full] at this
theorem foldL_end (l : List SRow) (h16 : l.length ≤ 16) (pre : List (Fin l.length)) : foldL pre (LowAt l l.length) = LowAt l l.length := by
 unfold foldL
 induction pre with
 | nil => rfl
 | cons x pre ih => rw [List.foldl_cons, stepL_end l x.val x.isLt h16]; exact ih
theorem foldH_end (l : List SRow) (h16 : l.length ≤ 16) (pre : List (Fin l.length)) : foldH pre (HighAt l l.length) = HighAt l l.length := by
 unfold foldH
 induction pre with
 | nil => rfl
 | cons x pre ih => rw [List.foldl_cons, stepH_end l x.val x.isLt h16]; exact ih
theorem LowAt_get (l : List SRow) (i : Nat) (hi : i < l.length) (h16 : l.length ≤ 16) : (LowAt l l.length).getD i 0 = lowN l i := by
 rw [LowAt, padRow_in _ _ _ hi h16, if_pos hi]
theorem HighAt_get (l : List SRow) (i : Nat) (hi : i < l.length) (h16 : l.length ≤ 16) : (HighAt l l.length).getD i 0 = highN l i := by
 rw [HighAt, padRow_in _ _ _ hi h16, if_pos (by omega)]
structure Tn (l : List SRow) (lo hi : List Int) : Prop where
 lo : foldL (rowAll l.length false) lo = LowAt l l.length
 hi : foldH (rowAll l.length true) hi = HighAt l l.length
theorem Tn.first (l : List SRow) (h16 : l.length ≤ 16) : Tn l (LowAt l 0) (HighAt l 0) := ⟨foldL_all l h16, foldH_all l h16⟩
theorem Tn.again (l : List SRow) (h16 : l.length ≤ 16) : Tn l (LowAt l l.length) (HighAt l l.length) := ⟨foldL_end l h16 _, foldH_end l h16 _⟩
theorem tight_no (l : List SRow) (h16 : l.length ≤ 16) (i : Nat) (hi : i < l.length) (h : (HighAt l l.length).getD i 0 < (LowAt l l.length).getD i 0) : tightOk l = false := by
 rw [LowAt_get l i hi h16, HighAt_get l i hi h16] at h
 unfold tightOk
 rw [Bool.eq_false_iff]
 intro e
 rw [List.all_eq_true] at e
 have := of_decide_eq_true (e i (List.mem_range.2 hi))
 omega
theorem tight_yes (l : List SRow) (h16 : l.length ≤ 16) (h : ∀ x : Fin l.length, (LowAt l l.length).getD x.val 0 ≤ (HighAt l l.length).getD x.val 0) : tightOk l = true := by
 unfold tightOk
 rw [List.all_eq_true]
 intro i hi
 have hi' := List.mem_range.1 hi
 have := h ⟨i, hi'⟩
 rw [LowAt_get l i hi' h16, HighAt_get l i hi' h16] at this
 exact decide_eq_true this
theorem mem_rowAll {N : Nat} (back : Bool) (x : Fin N) : x ∈ rowAll N back := by cases back <;> simp [rowAll]
end Go.Proofs.Ytpkajhmchcbbhaa.P
end
