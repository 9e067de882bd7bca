/- Part 29 of 44. -/
import Derived.Test.YtpkajhmchcbbhaaL17
import Derived.Test.YtpkajhmchcbbhaaL27
import Derived.RangeFuncWrites
set_option linter.unusedSimpArgs false
set_option linter.unusedVariables false
section
namespace Go.Proofs.Ytpkajhmchcbbhaa.P
open Go.RowKit Go.Proofs.YtpkajhmchcbbhaaW.PrintWords Go.Proofs.YtpkajhmchcbbhaaW.PrintLast Go.Proofs.YtpkajhmchcbbhaaW.PrintMore
def rowsPostG (B Bn Bb : Nat) {N : Nat} (J : List (Fin N) → World → Prop) (Jx : Code → List (Fin N) → World → Prop) (pre : List (Fin N)) (W : World) : Exit → Act → World → Prop
 | .normal, _, W' => KeepsFrom B W W' ∧ KeepB [Bn, Bb] W W' ∧ J pre W'
 | .ret, _, W' => KeepsFrom B W W' ∧ Jx .ret pre W'
 | .exit id, _, W' => KeepsFrom B W W' ∧ Jx (.exit id) pre W'
 | .goto t, _, W' => KeepsFrom B W W' ∧ Jx (.goto t) pre W'
 | .panic _, _, _ => False
 | .outgrown, _, _ => False
theorem rowsRangeG {gop : Operand} {t : Tmp} {assign body : Code} {Q : Exit → Act → World → Prop} {a : Act} {w : World} (n Bn Bb N : Nat) (back : Bool) (hn : 3 ≤ n)
  (hg : a.eval gop = .func (.func 76) #[] #[.pointer (some ⟨Bn, 0, none⟩), .pointer (some ⟨Bb, 0, none⟩)])
  (hBn : w.heap[Bn]? = some (.cells #[.int .i64 N] 3 (0, 0))) (hBb : w.heap[Bb]? = some (.cells #[.bool back] 4 (0, 0))) (hN : N ≤ 1000000)
  (J : List (Fin N) → World → Prop) (Jx : Code → List (Fin N) → World → Prop) (hJ : OwnFrom w.heap.size J) (hJx : ∀ c, OwnFrom w.heap.size (Jx c)) (h0 : J [] w) (a₁ : Fin N → Act)
  (hassign : ∀ (l : Nat) (x : Fin N) (W : World) (K : Act → World → Prop), K (a₁ x) W →
   assign.wpIn (Fence.wide.inRound l) (n - 1 - 1) Try.prog (Exit.then K (fun _ _ _ => False)) { tmps := a.tmps.setIfInBounds t (.int .i64 ((x.val : Nat) : Int)), defers := [] } W)
  (hbody : ∀ (l : Nat) (pre : List (Fin N)) (x : Fin N) (W : World), pre.length < N → J pre W → W.heap[Bn]? = some (.cells #[.int .i64 N] 3 (0, 0)) → W.heap[Bb]? = some (.cells #[.bool back] 4 (0, 0)) →
   body.wpIn (Fence.wide.inRound l) (n - 1 - 1) Try.prog (rowsPostG w.heap.size Bn Bb J Jx (pre ++ [x]) W) (a₁ x) W)
  (hdone : ∀ (D : Nat) (W : World), w.heap.size ≤ D → J (rowAll N back) W → W.heap[D]? = some (.deferred (some [])) → Q .normal { a with defers := { target := .collected D, args := #[] } :: a.defers } W)
  (hstop : ∀ (D : Nat) (c : Code) (k : Nat) (W : World), w.heap.size ≤ D → k ≤ N → Jx c ((rowAll N back).take k) W → W.heap[D]? = some (.deferred (some [])) → c.wpIn Fence.wide n Try.prog Q { a with defers := { target := .collected D, args := #[] } :: a.defers } W) :
  (Code.rangeFunc gop #[t] assign body).wpIn Fence.wide n Try.prog Q a w := by
 have hbox : ∀ b, b ∈ [Bn, Bb] → b < w.heap.size := fun b hb => by
  simp only [List.mem_cons, List.not_mem_nil, or_false] at hb
  rcases hb with rfl | rfl
  ·exact blk_lt hBn
  exact blk_lt hBb
 have hbx : OwnFrom w.heap.size (fun (_ : List (Fin N)) W => W.heap[Bn]? = some (Obj.cells #[.int .i64 (N : Int)] 3 (0, 0)) ∧ W.heap[Bb]? = some (Obj.cells #[.bool back] 4 (0, 0))) := fun k W W' row hs hg' hr => by
  have key : ∀ b cs t', W.heap[b]? = some (Obj.cells cs t' (0, 0)) → W'.heap[b]? = some (Obj.cells cs t' (0, 0)) := fun b cs t' hb =>
   (hg'.block b (blk_lt hb) (fun e => by obtain ⟨_, o, ho, hc⟩ := hr b e.symm; rw [hb] at ho; injection ho with ho; subst ho; simp [Obj.isCells] at hc)).trans hb
  exact ⟨key _ _ _ hs.1, key _ _ _ hs.2⟩
 have hJb : OwnFrom w.heap.size (fun k W => J k W ∧ W.heap[Bn]? = some (Obj.cells #[.int .i64 (N : Int)] 3 (0, 0)) ∧ W.heap[Bb]? = some (Obj.cells #[.bool back] 4 (0, 0))) := OwnFrom.and hJ hbx
 refine wpIn_rangeFunc_ownG rfl (by omega) (gf := 76) (lb := #[.pointer (some ⟨Bn, 0, none⟩), .pointer (some ⟨Bb, 0, none⟩)]) hg trivial (enters_ Try.func76 (by kernel_rfl) rfl)
  (rows_stops (n - 1) (by omega) Bn Bb N hN back w hBn hBb) (fun h k => h.trans k) (fun W l o o' hl h h1 h2 => KeepB.put hbox W l o o' hl h h1 h2) (Below.refl _ _) (fun _ => rfl)
  (fun pre W => J pre W ∧ W.heap[Bn]? = some (Obj.cells #[.int .i64 (N : Int)] 3 (0, 0)) ∧ W.heap[Bb]? = some (Obj.cells #[.bool back] 4 (0, 0)))
  Jx hJb hJx ⟨h0, hBn, hBb⟩ a₁ (fun l x W K hK => by simpa using hassign l x W K hK) ?_ ?_ ?_
 ·rintro l pre x W ⟨hj, hb1, hb2⟩ hlen
  refine Code.wpIn_mono ?_ (hbody l pre x W hlen hj hb1 hb2)
  have hbs : ∀ W', KeepB [Bn, Bb] W W' → W'.heap[Bn]? = some (Obj.cells #[.int .i64 (N : Int)] 3 (0, 0)) ∧ W'.heap[Bb]? = some (Obj.cells #[.bool back] 4 (0, 0)) := fun W' hk =>
   ⟨(hk Bn (by simp)).trans hb1, (hk Bb (by simp)).trans hb2⟩
  intro e a2 W2 hq
  cases e with
  | normal => exact ⟨hq.1, hq.2.1, hq.2.2, hbs _ hq.2.1⟩
  | ret => exact hq
  | exit i => exact hq
  | goto t => exact hq
  | panic v => exact hq
  | outgrown => exact hq
 ·rintro D xs W hD hS ⟨hj, _⟩ hK
  obtain rfl := hS
  exact hdone D W hD hj hK
 rintro D c pre W hD ⟨k, hk, rfl⟩ hjx hK
 exact hstop D c k W hD hk hjx hK
theorem ownKMap {β : Type} {B : Nat} {P : Program} {k : TypeId} {b : Nat} (hb : b < B) (n : β → Nat) (ks : β → List Int) : OwnFrom B (fun (x : β) W => KMap W P k b (n x) (ks x)) :=
 fun _ _ _ _ hs hg hr => hs.same (hg.block b hs.lt (fun e => by have := (hr b e.symm).1; omega))
end Go.Proofs.Ytpkajhmchcbbhaa.P
end
