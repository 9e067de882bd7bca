/- Part 33 of 44. -/
import Derived.Test.YtpkajhmchcbbhaaL0
import Derived.Test.YtpkajhmchcbbhaaL30
import Derived.Test.YtpkajhmchcbbhaaL18
import Derived.Test.YtpkajhmchcbbhaaL29
import Derived.Test.YtpkajhmchcbbhaaL17
import Derived.Laws.EntriesVeiled
import Derived.Carry
import Derived.Sort.LoopGhostIn
set_option linter.unusedSimpArgs false
set_option linter.unusedVariables false
section
namespace Go.Proofs.Ytpkajhmchcbbhaa.P
open Go.RowKit Go.Proofs.YtpkajhmchcbbhaaW.PrintWords Go.Proofs.YtpkajhmchcbbhaaW.PrintLast Go.Proofs.YtpkajhmchcbbhaaW.PrintMore
attribute [local go_sem] Oper.semAt_some run_makeMap
attribute [local go_sem ↓] exec_load97 exec_store97 sem_load97 sem_store97 exec_load112 exec_store112 sem_load112 sem_store112
attribute [local go_sem] load97_at store97_at load112_at store112_at SegOk_alloc seg_alloc SegOk_drew seg_drew SegOk_drewN seg_drewN ints_size Ones_ints store97_new store97_newD store112_new store112_newD run_slice_low run_slice_high
theorem step_entry {P : Program} {ops : Array Oper} {o : Oper} {a : Act} {w : World} {K : Act → World → Prop} {Q : Exit → Act → World → Prop} {E : Prop} (hgd : o.guard = none) (m key : Operand) {t k e : TypeId} {b n : Nat} {ks : List Int} {x : Int} {z : Value}
  (ho : o.op = .mapEntry t m key) (hm : a.eval m = .map (some b)) (hk : a.eval key = .int .i64 x) (K0 : Maps.Keyed P k) (ht : P.underlying t = some (.map k e)) (hz : ∀ w, (zeroValue e).run P w = .ok z w) (h : KMap w P k b n ks) (hn : n < maxLen)
  (hkey : keyOf P k (.int .i64 x) = some (.int .i64 x)) (hK : ∀ w' v st, KMap w' P k b (n + 1) (x :: ks) → Stamp w' b st → w.grownBy w' (some b) → K (a.put o.dst (.tuple #[v, .int .i64 st])) w') :
  if Region.wanted o (yielded ops a.tmps) = true then Oper.wp P o a w K Q else E := by
 have hw : Region.wanted o (yielded ops a.tmps) = true := by simp [Region.wanted, hgd]
 rw [if_pos hw]
 obtain ⟨w', v, st, hrun, h1, h2, h3⟩ := mapEntry_own K0 ht z hz h hn x hkey
 have hk' := hK w' v st h1 h2 h3
 unfold Oper.wp
 simp [execOp, ho, hm, hk, hrun, Result.andThen]
 exact hk'
theorem step_entryStore {P : Program} {ops : Array Oper} {o : Oper} {a : Act} {w : World} {K : Act → World → Prop} {Q : Exit → Act → World → Prop} {E : Prop} (hgd : o.guard = none) (m s v : Operand) {t k : TypeId} {b n : Nat} {ks : List Int} {st : Int}
  (ho : o.op = .entryStore t m s v) (hm : a.eval m = .map (some b)) (hs : a.eval s = .int .i64 st) (h : KMap w P k b n ks) (hst : Stamp w b st)
  (hK : ∀ w', KMap w' P k b n ks → w.grownBy w' (some b) → K (a.put o.dst undef) w') :
  if Region.wanted o (yielded ops a.tmps) = true then Oper.wp P o a w K Q else E := by
 have hw : Region.wanted o (yielded ops a.tmps) = true := by simp [Region.wanted, hgd]
 rw [if_pos hw]
 obtain ⟨w', hrun, h1, h3⟩ := entryStore_own (t := t) h hst (a.eval v)
 have hk' := hK w' h1 h3
 unfold Oper.wp
 simp [execOp, ho, hm, hs, hrun, Result.andThen]
 exact hk'
def rowKeys (l : List SRow) {N : Nat} : List (Fin N) → List Int
 | [] => []
 | x :: r => highN l x.val :: lowN l x.val :: rowKeys l r
theorem mem_rowKeys (l : List SRow) {N : Nat} (pre : List (Fin N)) (y : Int) : y ∈ rowKeys l pre ↔ ∃ x, x ∈ pre ∧ (y = lowN l x.val ∨ y = highN l x.val) := by
 induction pre with
 | nil => simp [rowKeys]
 | cons x r ih =>
  simp only [rowKeys, List.mem_cons, ih]
  constructor
  ·rintro (h | h | ⟨z, hz, h⟩)
   ·exact ⟨x, .inl rfl, .inr h⟩
   ·exact ⟨x, .inl rfl, .inl h⟩
   exact ⟨z, .inr hz, h⟩
  rintro ⟨z, hz | hz, h⟩
  ·subst hz; rcases h with h | h
   ·exact .inr (.inl h)
   exact .inl h
  exact .inr (.inr ⟨z, hz, h⟩)
theorem grow_trans {A B C : World} {r : Option Nat} (h : A.grownBy B r) (k : B.grownBy C r) : A.grownBy C r :=
 ⟨k.os.trans h.os, k.tape.trans h.tape, k.output.trans h.output, Nat.le_trans h.size k.size, fun i hi hn => (k.block i (Nat.lt_of_lt_of_le hi h.size) hn).trans (h.block i hi hn)⟩
theorem grow_undrew {A B : World} {r : Option Nat} (h : A.drew.grownBy B r) : A.grownBy B r := ⟨h.os, h.tape, h.output, h.size, h.block⟩
theorem grow_cells {W W' : World} {m b : Nat} {P : Program} {k : TypeId} {n : Nat} {ks : List Int} (h : KMap W P k m n ks) (hg : W.grownBy W' (some m)) {cs : Array Value} {t : TypeId} {s : Nat × Nat} (hb : W.heap[b]? = some (Obj.cells cs t s)) : W'.heap[b]? = some (Obj.cells cs t s) :=
 grow_blk hb hg (fun r e => by
  cases e
  obtain ⟨es, cl, hm⟩ := h.isMap
  exact ⟨_, hm, rfl⟩)
theorem grow_gauge {W W' : World} {m : Nat} {P : Program} {k : TypeId} {n0 : Nat} {ks : List Int} (h : KMap W P k m n0 ks) (hg : W.grownBy W' (some m)) {g : Nat} {A : Option Addr} {n c : Nat} {p : Int} {lo hi : List Int} (hG : Gauge W g A n c p lo hi) : Gauge W' g A n c p lo hi :=
 ⟨hG.l, hG.h, grow_cells h hg hG.b⟩
theorem KMap.mono_n {w : World} {P : Program} {k : TypeId} {b n m : Nat} {ks : List Int} (h : KMap w P k b n ks) (hn : n ≤ m) : KMap w P k b m ks := by
 obtain ⟨D, h1, h2⟩ := h.own
 exact ⟨D, h1.mono hn, h2⟩
structure FewW (w : World) (g b s D : Nat) (W e ks : List Int) (wr : World) : Prop where
 k0 : wr.heap[w.heap.size]? = some (.cells #[.pointer (some ⟨g, 0, none⟩)] 90 (0, 0))
 k1 : wr.heap[w.heap.size + 1]? = some (.cells (ints e) 112 (0, 0))
 k2 : wr.heap[w.heap.size + 2]? = some (.cells (ints (List.replicate 20 0)) 112 (0, 0))
 k3 : wr.heap[b]? = some (.cells (ints W) 97 (0, 0))
 k5 : wr.heap[b + 2]? = some (.cells #[.map (some (b + 1))] 132 (0, 0))
 kr : wr.heap[s]? = some (.cells #[.int .i64 0, .int .i64 0] 39 (0, 0))
 km : KMap wr Try.prog 2 (b + 1) 100 ks
 kD : wr.heap[D]? = some (.deferred (some []))
 kB : Below w.heap.size w wr
theorem FewW.below {w : World} {g b s D : Nat} {W e ks : List Int} {wr wr' : World} (h : FewW w g b s D W e ks wr) (hb : Below wr.heap.size wr wr') : FewW w g b s D W e ks wr' :=
 ⟨below_blk hb h.k0 (blk_lt h.k0), below_blk hb h.k1 (blk_lt h.k1), below_blk hb h.k2 (blk_lt h.k2), below_blk hb h.k3 (blk_lt h.k3), below_blk hb h.k5 (blk_lt h.k5), below_blk hb h.kr (blk_lt h.kr), h.km.below hb, below_blk hb h.kD (blk_lt h.kD), below_then h.kB hb⟩
theorem fewF_some (l : List SRow) (d0 d1 : Int) : ∀ (ks : List Int) (st : Option (Int × List Int)), fewF l d0 d1 ks st = none → ks = [] ∧ st = none := by
 intro ks
 induction ks with
 | nil => intro st h; exact ⟨rfl, by cases st <;> simp_all [fewF]⟩
 | cons x r ih =>
  intro st h
  cases st with
  | none => simp only [fewF] at h; have := ih _ h; simp at this
  | some p =>
   obtain ⟨f, c⟩ := p
   simp only [fewF] at h
   split at h
   ·have := ih _ h; simp at this
   have := ih _ h; simp at this
theorem FewW.deleted {w : World} {g b s D : Nat} {W e : List Int} {x : Int} {r : List Int} {wr w5 : World} (h : FewW w g b s D W e (x :: r) wr) (hp : (x :: r).Pairwise (· < ·)) (hm : KMap w5 Try.prog 2 (b + 1) 100 ((x :: r).filter fun y => y != x)) (hg : wr.grownBy w5 (some (b + 1))) (hD : b + 1 < D) (hb : w.heap.size ≤ b) : FewW w g b s D W e r w5 :=
 ⟨grow_cells h.km hg h.k0, grow_cells h.km hg h.k1, grow_cells h.km hg h.k2, grow_cells h.km hg h.k3, grow_cells h.km hg h.k5, grow_cells h.km hg h.kr, by rw [filter_head hp] at hm; exact hm,
  (hg.block D (Array.getElem?_eq_some_iff.1 h.kD).1 (fun e => by cases e; omega)).trans h.kD, ((Below.but h.kB []).grown hg (fun r e => .inr (by cases e; omega))).nil⟩
theorem gcdT_dvd (a b : Int) : gcdT a b ∣ a ∧ gcdT a b ∣ b := by
 have key : ∀ n (a b : Int), b.natAbs < n → gcdT a b ∣ a ∧ gcdT a b ∣ b := by
  intro n
  induction n with
  | zero => intro a b h; omega
  | succ n ih =>
   intro a b h
   by_cases hb : b = 0
   ·subst hb; rw [gcdT_zero]; exact ⟨Int.dvd_refl _, Int.dvd_zero _⟩
   rw [gcdT_step a b hb]
   have hlt : (a.tmod b).natAbs < n := by
    have h1 := Int.natAbs_tmod a b
    have h2 : a.natAbs % b.natAbs < b.natAbs := Nat.mod_lt _ (by omega)
    omega
   obtain ⟨h1, h2⟩ := ih b (a.tmod b) hlt
   refine ⟨?_, h1⟩
   have h3 := Int.dvd_add (Int.dvd_trans h1 (Int.dvd_mul_right b (a.tdiv b))) h2
   rwa [Int.mul_tdiv_add_tmod a b] at h3
 exact key _ a b (Nat.lt_succ_self _)
theorem leastD_ne (num den : Int) (h : den ≠ 0) : leastD num den ≠ 0 := by
 obtain ⟨k, hk⟩ := (gcdT_dvd num den).2
 have hg := gcdT_ne num den (.inr h)
 have h1 : leastD num den = k := by
  unfold leastD
  have h2 : den.tdiv (gcdT num den) = (gcdT num den * k).tdiv (gcdT num den) := by rw [← hk]
  rw [h2, Int.mul_tdiv_cancel_left _ hg]
 rw [h1]
 intro h2
 rw [h2, Int.mul_zero] at hk
 exact h hk
theorem FewW.chart {w : World} {g b s D : Nat} {W e e' ks : List Int} {wr wr' : World} (h : FewW w g b s D W e ks wr) (hs : w.heap.size + 3 ≤ b) (hss : w.heap.size + 3 ≤ s) (hD : w.heap.size + 3 ≤ D) (hb : ∀ k, k < wr.heap.size → k ≠ w.heap.size + 1 → wr'.heap[k]? = wr.heap[k]?) (hB : Below w.heap.size w wr') (h1 : wr'.heap[w.heap.size + 1]? = some (.cells (ints e') 112 (0, 0))) : FewW w g b s D W e' ks wr' :=
 ⟨(hb _ (blk_lt h.k0) (by omega)).trans h.k0, h1, (hb _ (blk_lt h.k2) (by omega)).trans h.k2, (hb _ (blk_lt h.k3) (by omega)).trans h.k3, (hb _ (blk_lt h.k5) (by omega)).trans h.k5, (hb _ (blk_lt h.kr) (by omega)).trans h.kr, h.km.same (hb _ h.km.lt (by omega)),
  (hb _ (Array.getElem?_eq_some_iff.1 h.kD).1 (by omega)).trans h.kD, hB⟩
set_option maxRecDepth 100000 in
set_option maxHeartbeats 40000000 in
theorem fewest_calls' (g : Nat) (A : Option Addr) (c : Nat) (l : List SRow) (p : Int) (d0 d1 : Int) (w : World) (hr : Kd.C kRow w A l.length l) (hT : TankOk l p) (h0 : 0 ≤ d0) (h1 : d0 ≤ 4000) (h2 : 0 ≤ d1) (h3 : d1 ≤ 4000)
  (hg : Gauge w g A l.length c p (LowAt l l.length) (HighAt l l.length)) (Z : List Int) (hZ : Z.length = 16) :
  Calls Try.prog 83 #[.pointer (some ⟨g, 0, none⟩), .agg (ints (endL d0 d1 Z 0 0))] w fun e w' =>
   e = .returned (.agg (ints (endL d0 d1 (fewR l d0 d1).2 (leastN (fewR l d0 d1).1 (bden l d0 d1)) (leastD (fewR l d0 d1).1 (bden l d0 d1))))) ∧ Below w.heap.size w w' := by
 have HR := Aside0.mk hr
 have HT := Aside0.mk hT
 have HG := Aside0.mk hg
 have HZ := Lib.hid hZ
 have hgl := hg.lt
 clear hr hT hg hZ
 have hu3 := Try.underlying99
 have hu5 := Try.underlying97
 have hu6 := Try.underlying51
 have hu7 := Try.underlying112
 have hu8 := Try.underlying39
 have hu9 := Try.underlying132
 refine (callsIn_wide (n := 10)).1 ?_
 refine callsIn_of_wp_marks Try.func83 rfl trivial ?_ rfl
 simp only [Try.ntmps83, List.size_toArray, List.length_cons, List.length_nil, Nat.reduceAdd, Nat.reduceSub, Array.replicate_succ, Array.replicate_zero, List.push_toArray, List.append_toArray, List.nil_append, List.cons_append]
 have he0 : (ints (endL d0 d1 Z 0 0))[0]? = some (.int .i64 d0) := rfl
 have he1 : (ints (endL d0 d1 Z 0 0))[1]? = some (.int .i64 d1) := rfl
 gi_wp2_with fail
 simp only [zend]
 clear he0 he1
 obtain ⟨V0, hV0⟩ : ∃ V, ((w.alloc (.cells #[.pointer (some ⟨g, 0, none⟩)] 90)).alloc (.cells (ints (endL d0 d1 Z 0 0)) 112)).alloc (.cells (ints (List.replicate 20 0)) 112) = V := ⟨_, rfl⟩
 have hs0 : V0.heap.size = w.heap.size + 3 := by rw [← hV0]; simp
 have K0 : Aside0 (V0.heap[w.heap.size]? = some (.cells #[.pointer (some ⟨g, 0, none⟩)] 90 (0, 0))) := ⟨by rw [← hV0]; exact blk_old (blk_old (blk_new _ _))⟩
 have K1 : Aside0 (V0.heap[w.heap.size + 1]? = some (.cells (ints (endL d0 d1 Z 0 0)) 112 (0, 0))) := ⟨by rw [← hV0]; exact blk_old (blk_new' (by simp))⟩
 have K2 : Aside0 (V0.heap[w.heap.size + 2]? = some (.cells (ints (List.replicate 20 0)) 112 (0, 0))) := ⟨by rw [← hV0]; exact blk_new' (by simp)⟩
 have KB : Aside0 (Below w.heap.size w V0) := ⟨by rw [← hV0]; exact (((Below.refl _ _).alloc (Nat.le_refl _) _).alloc (by simp) _).alloc (by simp; omega) _⟩
 rw [hV0]
 clear hV0
 have HD := Aside0.mk HT.out.dipOk
 refine ⟨trivial, (callsIn_wide.2 (between_calls g A c l p _ _ d0 d1 V0 (Kd.C_below HR.out KB.out) HD.out h0 h1 h2 h3 (HG.out.below KB.out))).mono ?_⟩
 rintro e w1 ⟨rfl, hB1⟩
 have M0 := Aside0.mk (below_blk hB1 K0.out (blk_lt K0.out))
 have M1 := Aside0.mk (below_blk hB1 K1.out (blk_lt K1.out))
 have M2 := Aside0.mk (below_blk hB1 K2.out (blk_lt K2.out))
 have MB := Aside0.mk (below_then KB.out hB1)
 have hs1 : w.heap.size + 3 ≤ w1.heap.size := by have := hB1.size; omega
 clear hB1 K0 K1 K2 KB hs0 V0
 have hWl := bwts_length l d0 d1
 have HWB := Aside0.mk (bwts_within HD.out d0 d1 h0 h1 h2 h3)
 have hden1 := bden_within HD.out d0 d1
 have HDN := Lib.hid (HT.out.bden_ne d0 d1)
 obtain ⟨W, hW⟩ : ∃ W, W = bwts l d0 d1 := ⟨_, rfl⟩
 obtain ⟨den, hdn⟩ : ∃ den, den = bden l d0 d1 := ⟨_, rfl⟩
 rw [← hW] at hWl HWB ⊢
 rw [← hdn] at HDN hden1 ⊢
 have HWE := Lib.hid hW
 have HDE := Lib.hid hdn
 clear hW hdn
 have hcg1 : (((w1.alloc (.cells (ints W) 97)).alloc (.map #[] 0)).alloc (.cells #[.map (some (w1.heap.size + 1))] 132)).cell? ⟨w.heap.size, 0, none⟩ = some (.pointer (some ⟨g, 0, none⟩)) := cell_of_one (blk_old (blk_old (blk_old M0.out)))
 have hlt1 : w.heap.size < w1.heap.size := by omega
 gi_wp2_with fail
 obtain ⟨V1, hV1⟩ : ∃ V, ((w1.alloc (.cells (ints W) 97)).alloc (.map #[] 0)).alloc (.cells #[.map (some (w1.heap.size + 1))] 132) = V := ⟨_, rfl⟩
 have N0 : Aside0 (V1.heap[w.heap.size]? = some (.cells #[.pointer (some ⟨g, 0, none⟩)] 90 (0, 0))) := ⟨by rw [← hV1]; exact blk_old (blk_old (blk_old M0.out))⟩
 have N1 : Aside0 (V1.heap[w.heap.size + 1]? = some (.cells (ints (endL d0 d1 Z 0 0)) 112 (0, 0))) := ⟨by rw [← hV1]; exact blk_old (blk_old (blk_old M1.out))⟩
 have N2 : Aside0 (V1.heap[w.heap.size + 2]? = some (.cells (ints (List.replicate 20 0)) 112 (0, 0))) := ⟨by rw [← hV1]; exact blk_old (blk_old (blk_old M2.out))⟩
 have N3 : Aside0 (V1.heap[w1.heap.size]? = some (.cells (ints W) 97 (0, 0))) := ⟨by rw [← hV1]; exact blk_old (blk_old (blk_new _ _))⟩
 have N5 : Aside0 (V1.heap[w1.heap.size + 2]? = some (.cells #[.map (some (w1.heap.size + 1))] 132 (0, 0))) := ⟨by rw [← hV1]; exact blk_new' (by simp)⟩
 have N4 : Aside0 (KMap V1 Try.prog 2 (w1.heap.size + 1) 0 []) := ⟨by
  have h := KMap.made (w1.alloc (.cells (ints W) 97)) Try.prog 2
  rw [World.size_alloc] at h
  rw [← hV1]
  exact h.same (Below.heap_alloc _ _ _ h.lt)⟩
 have NB : Aside0 (Below w.heap.size w V1) := ⟨by rw [← hV1]; exact ((MB.out.alloc MB.out.size _).alloc (by simp; have := MB.out.size; omega) _).alloc (by simp; have := MB.out.size; omega) _⟩
 have hsV : V1.heap.size = w1.heap.size + 3 := by rw [← hV1]; simp
 rw [hV1]
 clear hV1
 obtain ⟨b, hb⟩ : ∃ b, b = w1.heap.size := ⟨_, rfl⟩
 rw [← hb] at N3 N4 N5 hsV hs1 ⊢
 clear hb hcg1 hlt1 M0 M1 M2 MB w1
 have hcG := (HG.out.below NB.out).c0
 refine ⟨trivial, (callsIn_wide.2 (rows_calls g A l.length c false V1 hcG)).mono ?_⟩
 rintro e W2 ⟨rfl, hW2⟩
 have K0 : Aside0 (W2.heap[w.heap.size]? = some (.cells #[.pointer (some ⟨g, 0, none⟩)] 90 (0, 0))) := ⟨by rw [hW2]; exact blk_old (blk_old N0.out)⟩
 have K1 : Aside0 (W2.heap[w.heap.size + 1]? = some (.cells (ints (endL d0 d1 Z 0 0)) 112 (0, 0))) := ⟨by rw [hW2]; exact blk_old (blk_old N1.out)⟩
 have K2 : Aside0 (W2.heap[w.heap.size + 2]? = some (.cells (ints (List.replicate 20 0)) 112 (0, 0))) := ⟨by rw [hW2]; exact blk_old (blk_old N2.out)⟩
 have K3 : Aside0 (W2.heap[b]? = some (.cells (ints W) 97 (0, 0))) := ⟨by rw [hW2]; exact blk_old (blk_old N3.out)⟩
 have K5 : Aside0 (W2.heap[b + 2]? = some (.cells #[.map (some (b + 1))] 132 (0, 0))) := ⟨by rw [hW2]; exact blk_old (blk_old N5.out)⟩
 have K4 : Aside0 (KMap W2 Try.prog 2 (b + 1) 0 []) := ⟨by
  have h := N4.out.same (Below.heap_alloc V1 (.cells #[.bool false] 4) _ N4.out.lt)
  rw [hW2]
  exact h.same (Below.heap_alloc _ _ _ h.lt)⟩
 have KB : Aside0 (Below w.heap.size w W2) := ⟨by rw [hW2]; exact (NB.out.alloc NB.out.size _).alloc (by simp; have := NB.out.size; omega) _⟩
 have hbb : W2.heap[b + 3]? = some (Obj.cells #[.bool false] 4 (0, 0)) := by rw [hW2]; exact blk_old (blk_new' hsV.symm)
 have hbn : W2.heap[b + 4]? = some (Obj.cells #[.int .i64 l.length] 3 (0, 0)) := by rw [hW2]; exact blk_new' (by simp; omega)
 have hs2 : W2.heap.size = b + 5 := by rw [hW2]; simp; omega
 rw [hsV]
 clear hW2 hcG hsV N0 N1 N2 N3 N4 N5 NB V1
 have h16 : l.length ≤ 16 := HD.out.n16
 gi_wp2_with fail
 (refine rowsRangeG 10 (b + 4)  (b + 3)  l.length  false  (by omega) rfl ?hBn ?hBb ?hN (fun pre W' => W'.heap[w.heap.size]? = some (.cells #[.pointer (some ⟨g, 0, none⟩)] 90 (0, 0)) ∧ W'.heap[w.heap.size + 1]? = some (.cells (ints (endL d0 d1 Z 0 0)) 112 (0, 0)) ∧ W'.heap[w.heap.size + 2]? = some (.cells (ints (List.replicate 20 0)) 112 (0, 0)) ∧ W'.heap[b]? = some (.cells (ints W) 97 (0, 0)) ∧ W'.heap[b + 2]? = some (.cells #[.map (some (b + 1))] 132 (0, 0)) ∧ KMap W' Try.prog 2 (b + 1) (2 * pre.length) (rowKeys l pre) ∧ But [] w W')  (fun _ _ _ => False)  ?hJ ?hJx ?h0 (fun x => Go.Act.mk #[Go.Value.pointer (Option.some (Go.Addr.mk g 0 Option.none)), Go.Value.agg (Go.Proofs.Ytpkajhmchcbbhaa.P.ints (Go.Proofs.Ytpkajhmchcbbhaa.P.endL d0 d1 Z 0 0)), Go.Value.pointer (Option.some (Go.Addr.mk (Array.size (Go.World.heap w)) 0 Option.none)), Go.Value.pointer (Option.some (Go.Addr.mk (Array.size (Go.World.heap w) + 1) 0 Option.none)), Go.Value.pointer (Option.some (Go.Addr.mk (Array.size (Go.World.heap w) + 1 + 1) 0 Option.none)), Go.Value.pointer (Option.some (Go.Addr.mk b 0 Option.none)), Go.Value.int Go.IntKind.i64 den, Go.Value.pointer (Option.some (Go.Addr.mk (b + 1 + 1) 0 Option.none)), Go.Value.int Go.IntKind.i64 (Nat.cast (Fin.val x)), Go.undef, Go.undef, Go.undef, Go.undef, Go.undef, Go.undef, Go.Value.tuple #[Go.Value.agg (Go.Proofs.Ytpkajhmchcbbhaa.P.ints W), Go.Value.int Go.IntKind.i64 den], Go.Value.pointer (Option.some (Go.Addr.mk g 0 Option.none)), Go.Value.pointer (Option.some (Go.Addr.mk (Array.size (Go.World.heap w) + 1) 0 Option.none)), Go.Value.agg #[Go.Value.int Go.IntKind.i64 d0, Go.Value.int Go.IntKind.i64 d1], Go.Value.tuple #[Go.Value.agg (Go.Proofs.Ytpkajhmchcbbhaa.P.ints W), Go.Value.int Go.IntKind.i64 den], Go.Value.agg (Go.Proofs.Ytpkajhmchcbbhaa.P.ints W), Go.Value.int Go.IntKind.i64 den, Go.Value.map (Option.some (b + 1)), Go.Value.pointer (Option.some (Go.Addr.mk g 0 Option.none)), Go.Value.func (Go.Fn.func 76) #[] #[Go.Value.pointer (Option.some (Go.Addr.mk (b + 3 + 1) 0 Option.none)), Go.Value.pointer (Option.some (Go.Addr.mk (b + 3) 0 Option.none))], Go.Value.int Go.IntKind.i64 (Nat.cast (Fin.val x)), Go.undef, Go.undef, Go.undef, Go.undef, Go.undef, Go.undef, Go.undef, Go.undef, Go.undef, Go.undef, Go.undef, Go.undef, Go.undef, Go.undef, Go.undef, Go.undef, Go.undef, Go.undef, Go.undef, Go.undef, Go.undef, Go.undef, Go.undef, Go.undef, Go.undef, Go.undef, Go.undef, Go.undef, Go.undef, Go.undef, Go.undef, Go.undef, Go.undef, Go.undef, Go.undef, Go.undef, Go.undef, Go.undef, Go.undef, Go.undef, Go.undef, Go.undef, Go.undef, Go.undef, Go.undef, Go.undef, Go.undef, Go.undef, Go.undef, Go.undef, Go.undef, Go.undef, Go.undef, Go.undef, Go.undef] []) ?hassign ?hbody ?hdone ?hstop)
 case hBn => exact hbn
 case hBb => exact hbb
 case hN => omega
 case hJ => exact .and (ownBlk _) (.and (ownBlk _) (.and (ownBlk _) (.and (ownBlk _) (.and (ownBlk _) (.and (ownKMap (by omega) _ _) (ownBut (by have := KB.out.size; omega)))))))
 case hJx => exact fun _ _ _ _ _ h _ _ => h
 case h0 => exact ⟨K0.out, K1.out, K2.out, K3.out, K5.out, K4.out, Below.but KB.out _⟩
 case hstop => exact fun _ _ _ _ _ _ h => h.elim
 case hassign =>
  intro l0 x W' K hK
  gi_wp2
  exact hK
 case hbody =>
  intro l0 pre x W' hlen hJ hbn' hbb'
  obtain ⟨i, hil⟩ := x
  obtain ⟨j0, j1, j2, j3, j5, j4, jB⟩ := hJ
  have i16 : i < 16 := by omega
  have hgW := HG.out.below jB.nil
  have hlo := HT.out.lowN_in i hil
  have hhi := HT.out.highN_in i hil
  have hel := LowAt_get l i hil h16
  have heh := HighAt_get l i hil h16
  have hb1 : b + 1 < W2.heap.size := by omega
  have HSZ := Aside0.mk hs2
  have J0 := Aside0.mk j0
  have J1 := Aside0.mk j1
  have J2 := Aside0.mk j2
  have J3 := Aside0.mk j3
  have J4 := Aside0.mk j4
  have J5 := Aside0.mk j5
  have JB := Aside0.mk jB
  have HGW := Aside0.mk hgW
  have HEL := Lib.hid hel
  have HEH := Lib.hid heh
  have HIL := Lib.hid hil
  have HLEN := Lib.hid hlen
  clear hel heh j0 j1 j2 j3 j4 j5 jB hgW hs2 hlen
  gi_wp2_with fail
  (refine Code.wpIn_mono calm_le ?_; (first | refine startR_ (k := 22) (S := fun w' => w'.heap[w.heap.size]? = some (Obj.cells #[Value.pointer (some ⟨g, 0, none⟩)] 90 (0, 0)) ∧ w'.heap[b + 2]? = some (Obj.cells #[Value.map (some (b + 1))] 132 (0, 0)) ∧ Gauge w' g A l.length c p (LowAt l l.length) (HighAt l l.length)) (ds := []) (List.toArray (false :: false :: false :: false :: false :: false :: false :: false :: false :: false :: false :: false :: false :: false :: false :: false :: false :: false :: false :: false :: false :: false :: [])) (by kernel_rfl) (by kernel_rfl) calm_in rfl rfl ⟨J0.out, J5.out, HGW.out.drew⟩ (fun plS => ?_) | refine startW_ (k := 22) (S := fun w' => w'.heap[w.heap.size]? = some (Obj.cells #[Value.pointer (some ⟨g, 0, none⟩)] 90 (0, 0)) ∧ w'.heap[b + 2]? = some (Obj.cells #[Value.map (some (b + 1))] 132 (0, 0)) ∧ Gauge w' g A l.length c p (LowAt l l.length) (HighAt l l.length)) (ds := []) (List.toArray (false :: false :: false :: false :: false :: false :: false :: false :: false :: false :: false :: false :: false :: false :: false :: false :: false :: false :: false :: false :: false :: false :: [])) (by kernel_rfl) (by kernel_rfl) calm_in rfl rfl ⟨J0.out, J5.out, HGW.out.drew⟩ (fun plS => ?_)); refine pureY (i := 2) (N := (some 28)) ?_; refine pureY (i := 9) (N := (some 35)) ?_; refine pureY (i := 14) (N := (some 40)) ?_; refine pureY (i := 15) (N := (some 41)) ?_; refine takeF (i := 0) (N := (some 26)) (hS := plS) (hy := by (intro w' hw'; (obtain ⟨s0, s1, s2⟩ := hw'; have q0 := cell_of_one s0; have q1 := cell_of_one s1; have q2 := s2.cl i i16; have q3 := s2.ch i i16; have q4 := s2.lt; rw [HEL.out] at q2; rw [HEH.out] at q3); exact yieldA)) (h := ?_); refine takeF (i := 1) (N := (some 27)) (hS := plS) (hy := by (intro w' hw'; (obtain ⟨s0, s1, s2⟩ := hw'; have q0 := cell_of_one s0; have q1 := cell_of_one s1; have q2 := s2.cl i i16; have q3 := s2.ch i i16; have q4 := s2.lt; rw [HEL.out] at q2; rw [HEH.out] at q3); exact yieldA)) (h := ?_); refine pureY (i := 3) (N := (some 29)) ?_; refine pureY (i := 4) (N := (some 30)) ?_; refine pureY (i := 5) (N := (some 31)) ?_; refine takeF (i := 6) (N := (some 32)) (hS := plS) (hy := by (intro w' hw'; (obtain ⟨s0, s1, s2⟩ := hw'; have q0 := cell_of_one s0; have q1 := cell_of_one s1; have q2 := s2.cl i i16; have q3 := s2.ch i i16; have q4 := s2.lt; rw [HEL.out] at q2; rw [HEH.out] at q3); exact yieldA)) (h := ?_); refine takeF (i := 7) (N := (some 33)) (hS := plS) (hy := by (intro w' hw'; (obtain ⟨s0, s1, s2⟩ := hw'; have q0 := cell_of_one s0; have q1 := cell_of_one s1; have q2 := s2.cl i i16; have q3 := s2.ch i i16; have q4 := s2.lt; rw [HEL.out] at q2; rw [HEH.out] at q3); exact yieldA)) (h := ?_); refine takeF (i := 8) (N := (some 34)) (hS := plS) (hy := by (intro w' hw'; (obtain ⟨s0, s1, s2⟩ := hw'; have q0 := cell_of_one s0; have q1 := cell_of_one s1; have q2 := s2.cl i i16; have q3 := s2.ch i i16; have q4 := s2.lt; rw [HEL.out] at q2; rw [HEH.out] at q3); exact yieldA)) (h := ?_); refine pureY (i := 10) (N := (some 36)) ?_; refine pureY (i := 11) (N := (some 37)) ?_; refine pureY (i := 12) (N := (some 38)) ?_; refine takeF (i := 13) (N := (some 39)) (hS := plS) (hy := by (intro w' hw'; (obtain ⟨s0, s1, s2⟩ := hw'; have q0 := cell_of_one s0; have q1 := cell_of_one s1; have q2 := s2.cl i i16; have q3 := s2.ch i i16; have q4 := s2.lt; rw [HEL.out] at q2; rw [HEH.out] at q3); exact yieldA)) (h := ?_); refine oneY (i := 16) (fun plK plH => ?_))
  refine step_entry (n := 2 * pre.length) (ks := rowKeys l pre) (z := .int .i64 0) rfl (.tmp 26) (.tmp 32) rfl rfl rfl law2 Try.underlying132 (fun w => by kernel_rfl) (J4.out.same rfl) (by have := HLEN.out; unfold maxLen; omega) (keyOf_int64 Try.underlying2 _ ⟨by omega, by omega⟩) ?_
  intro w2 v2 st2 m2 t2 g2
  have A0 := Aside0.mk (grow_cells (W := W'.drew) (J4.out.same rfl) g2 J0.out)
  have A5 := Aside0.mk (grow_cells (W := W'.drew) (J4.out.same rfl) g2 J5.out)
  have AG := Aside0.mk (grow_gauge (W := W'.drew) (J4.out.same rfl) g2 HGW.out.drew)
  have M2 := Aside0.mk m2
  have T2 := Aside0.mk t2
  have G2 := Aside0.mk (grow_undrew g2)
  clear m2 t2 g2
  ((try simp only [Act.put, List.getElem_toArray, List.getElem_cons_succ, List.getElem_cons_zero, List.setIfInBounds_toArray, List.set_cons_succ, List.set_cons_zero]); refine plH _ _ ⟨A0.out, A5.out, AG.out⟩  (fun plS => ?_); clear plH plK; refine pureY (i := 17) (N := (some 43)) ?_; refine oneY (i := 18) (fun plK plH => ?_))
  refine step_entryStore rfl (.tmp 26) (.tmp 43) (.tmp 40) rfl rfl rfl M2.out T2.out ?_
  intro w3 m3 g3
  have B0 := Aside0.mk (grow_cells M2.out g3 A0.out)
  have B5 := Aside0.mk (grow_cells M2.out g3 A5.out)
  have BG := Aside0.mk (grow_gauge M2.out g3 AG.out)
  have M3 := Aside0.mk m3
  have G3 := Aside0.mk (grow_trans G2.out g3)
  clear m3 g3 A0 A5 AG M2 T2 G2
  ((try simp only [Act.put, List.getElem_toArray, List.getElem_cons_succ, List.getElem_cons_zero, List.setIfInBounds_toArray, List.set_cons_succ, List.set_cons_zero]); refine plH _ _ ⟨B0.out, B5.out, BG.out⟩  (fun plS => ?_); clear plH plK; refine oneY (i := 19) (fun plK plH => ?_))
  refine step_entry (z := .int .i64 0) rfl (.tmp 33) (.tmp 39) rfl rfl rfl law2 Try.underlying132 (fun w => by kernel_rfl) M3.out (by have := HLEN.out; unfold maxLen; omega) (keyOf_int64 Try.underlying2 _ ⟨by omega, by omega⟩) ?_
  intro w4 v4 st4 m4 t4 g4
  have A0 := Aside0.mk (grow_cells M3.out g4 B0.out)
  have A5 := Aside0.mk (grow_cells M3.out g4 B5.out)
  have AG := Aside0.mk (grow_gauge M3.out g4 BG.out)
  have M4 := Aside0.mk m4
  have T4 := Aside0.mk t4
  have G4 := Aside0.mk (grow_trans G3.out g4)
  clear m4 t4 g4 B0 B5 BG M3 G3
  ((try simp only [Act.put, List.getElem_toArray, List.getElem_cons_succ, List.getElem_cons_zero, List.setIfInBounds_toArray, List.set_cons_succ, List.set_cons_zero]); refine plH _ _ ⟨A0.out, A5.out, AG.out⟩  (fun plS => ?_); clear plH plK; refine pureY (i := 20) (N := (some 45)) ?_; refine oneY (i := 21) (fun plK plH => ?_))
  refine step_entryStore rfl (.tmp 33) (.tmp 45) (.tmp 41) rfl rfl rfl M4.out T4.out ?_
  intro w5 m5 g5
  have B0 := Aside0.mk (grow_cells M4.out g5 A0.out)
  have B5 := Aside0.mk (grow_cells M4.out g5 A5.out)
  have BG := Aside0.mk (grow_gauge M4.out g5 AG.out)
  have G5 := Aside0.mk (grow_trans G4.out g5)
  have M5 := Aside0.mk m5
  clear m5 g5 A0 A5 AG M4 T4 G4
  ((try simp only [Act.put, List.getElem_toArray, List.getElem_cons_succ, List.getElem_cons_zero, List.setIfInBounds_toArray, List.set_cons_succ, List.set_cons_zero]); refine plH _ _ ⟨B0.out, B5.out, BG.out⟩  (fun plS => ?_); clear plH plK; refine done_ (by kernel_rfl) ?_; rw [calm_normal])
  have hnb : ∀ r, some (b + 1) = some r → ∃ o : Obj, W'.heap[r]? = some o ∧ o.isCells = false := fun r e => by
   cases e
   obtain ⟨es, cl, hm⟩ := J4.out.isMap
   exact ⟨_, hm, rfl⟩
  refine ⟨.of_grownBy G5.out (fun j e => by cases e; omega), ?_, B0.out, grow_cells J4.out G5.out J1.out, grow_cells J4.out G5.out J2.out, grow_cells J4.out G5.out J3.out, B5.out, ?_, JB.out.grown G5.out (fun r e => .inr (by cases e; omega))⟩
  ·intro x hx
   simp only [List.mem_cons, List.not_mem_nil, or_false] at hx
   rcases hx with rfl | rfl
   ·exact (grow_cells J4.out G5.out hbn').trans hbn'.symm
   exact (grow_cells J4.out G5.out hbb').trans hbb'.symm
  have hk := M5.out
  have e1 : (pre ++ [(⟨i, HIL.out⟩ : Fin l.length)]).length = pre.length + 1 := by simp
  rw [e1]
  refine (hk.mono_n (by omega)).congr ?_
  intro y
  rw [mem_rowKeys]
  simp only [List.mem_cons, mem_rowKeys, List.mem_append, List.not_mem_nil, or_false]
  constructor
  ·rintro (h | h | ⟨z, hz, h⟩)
   ·exact ⟨_, .inr rfl, .inr h⟩
   ·exact ⟨_, .inr rfl, .inl h⟩
   exact ⟨z, .inl hz, h⟩
  rintro ⟨z, hz | hz, h⟩
  ·exact .inr (.inr ⟨z, hz, h⟩)
  subst hz; rcases h with h | h
  ·exact .inr (.inl h)
  exact .inl h
 case hdone =>
  intro D W3 hD hJ hK
  obtain ⟨j0, j1, j2, j3, j5, j4, jB⟩ := hJ
  have hkm : KMap W3 Try.prog 2 (b + 1) 100 (cands l l.length) := (j4.mono_n (by rw [rowAll_length]; omega)).congr (fun y => by
   rw [mem_rowKeys, mem_cands]
   constructor
   ·rintro ⟨z, _, h⟩; exact ⟨z.val, z.isLt, h⟩
   rintro ⟨j, hj, h⟩; exact ⟨⟨j, hj⟩, mem_rowAll _ _, h⟩)
  have hDlt : D < W3.heap.size := (Array.getElem?_eq_some_iff.1 hK).1
  have J0 := Aside0.mk j0
  have J1 := Aside0.mk j1
  have J2 := Aside0.mk j2
  have J3 := Aside0.mk j3
  have J5 := Aside0.mk j5
  have JM := Aside0.mk hkm
  have JB := Aside0.mk jB
  have JK := Aside0.mk hK
  have hl0 := blk_lt j0
  have hcg3 : (W3.alloc (.cells #[.int .i64 0, .int .i64 0] 39)).cell? ⟨w.heap.size, 0, none⟩ = some (.pointer (some ⟨g, 0, none⟩)) := cell_of_one (blk_old j0)
  clear j0 j1 j2 j3 j4 j5 jB hK hkm hbb hbn K0 K1 K2 K3 K4 K5 KB
  gi_wp2_with fail
  obtain ⟨V2, hV2⟩ : ∃ V, W3.alloc (.cells #[.int .i64 0, .int .i64 0] 39) = V := ⟨_, rfl⟩
  obtain ⟨s, hs⟩ : ∃ s, s = W3.heap.size := ⟨_, rfl⟩
  have HS := Aside0.mk (show s ≥ b + 5 by omega)
  have HF : FewW w g b s D W (endL d0 d1 Z 0 0) (cands l l.length) V2 := by
   rw [← hV2, hs]
   exact ⟨blk_old J0.out, blk_old J1.out, blk_old J2.out, blk_old J3.out, blk_old J5.out, blk_new _ _, JM.out.same (Below.heap_alloc _ _ _ JM.out.lt), blk_old JK.out, JB.out.nil.alloc (by have := JB.out.size; omega) _⟩
  rw [hV2, ← hs]
  clear hV2 hs hcg3 J0 J1 J2 J3 J5 JM JB JK
  gi_loopg [11] ((cands l l.length).length) (fun k v11 wr => ∃ (ks : List Int) (st : Option (Int × List Int)) (cc : List Int) (n m f : Int), ks.length = k ∧ ks.length ≤ 100 ∧ v11 = .int .i64 f ∧ fewF l d0 d1 ks st = fewF l d0 d1 (cands l l.length) none ∧ (∀ x, x ∈ ks → 0 ≤ x ∧ x ≤ 100000) ∧ ks.Pairwise (· < ·) ∧ cc.length = 16 ∧
   (st = none ∧ n = 0 ∧ m = 0 ∨ st = some (f, cc) ∧ n = leastN f den ∧ m = leastD f den) ∧ FewW w g b s D W (endL d0 d1 cc n m) ks wr)
  case atStart => exact ⟨_, none, Z, 0, 0, 0, rfl, (by have := cands_length l l.length; omega), rfl, rfl, cands_in HT.out, cands_rising _ _, HZ.out, .inl ⟨rfl, rfl, rfl⟩, HF⟩
  case round =>
   obtain ⟨ks, st, cc, n, m, f, hk, hk100, rfl, hf, hin, hpw, hc16, hst, hw⟩ := hrel
   have hcm := cell_of_one hw.k5
   have HW := Aside0.mk hw
   have HPW := Aside0.mk hpw
   have HIN := Aside0.mk hin
   have HFF := Aside0.mk hf
   have HC := Lib.hid hc16
   have HST := Aside0.mk hst
   have HKL := Lib.hid hk
   have HK1 := Lib.hid hk100
   clear hk100
   have hln := len_own (t := 132) law2 Try.underlying2 Try.underlying132 hw.km (rising_nodup hpw) 3
   clear hw hpw hin hf hc16 hst hk HF
   cases ks with
   | nil =>
    have hln' : (Builtin.len_ #[132] 3 #[.map (some (b + 1))]).run Try.prog wr = .ok (.int .i64 0) wr := hln
    clear hln
    have hl1 := HW.out.k1
    have hl2 := HW.out.k2
    have hS3 := SegOk.mk' hl1 0 20 (by simp [ints, endL, HC.out])
    have hV3 := seg_whole (n := 20) hl1 (by simp [ints, endL, HC.out])
    have hS2 := SegOk.mk' hl2 0 20 (by simp [ints])
    clear hl1 hl2
    have hlen := endL_length d0 d1 cc n m HC.out
    gi_wp2_with fail
    have hfin := putSeg_block HW.out.k2 (l := (ints (endL d0 d1 cc n m)).toList) (by simp [ints, hlen])
    have hD2 : D ≠ w.heap.size + 2 := by have := HS.out; have := hD; omega
    refine leaves_marks [D] _ ⟨fun E hE => by
     obtain rfl := List.mem_singleton.1 hE
     exact (putSeg_other _ _ _ _ _ hD2).trans HW.out.kD, by simp⟩ ?_
    intro W8 hb8 hc8
    have h8 := hc8 _ _ _ _ hfin
    refine ⟨.agg (ints (endL d0 d1 cc n m)), ?_, ?_, ?_⟩
    ·exact (results_arr1 rfl rfl isAggE sizeOfE (SegOk.mk' h8 0 20 (by simp [ints, hlen]))).trans (by rw [seg_whole (n := 20) h8 (by simp [ints, hlen])])
    ·have hne : cands l l.length ≠ [] := by
      intro he
      have h2 := HD.out.n2
      have : lowN l 0 ∈ cands l l.length := (mem_cands l _ _).2 ⟨0, by omega, .inl rfl⟩
      rw [he] at this; cases this
     have hfw := HFF.out
     have he : fewF l d0 d1 [] st = st := by cases st <;> rfl
     rw [he] at hfw
     rcases HST.out with ⟨h, _, _⟩ | ⟨h, rfl, rfl⟩
     ·exact absurd (fewF_some _ _ _ _ _ (hfw.symm.trans h)).1 hne
     have hR : fewR l d0 d1 = (f, cc) := by unfold fewR; rw [← hfw, h]; rfl
     rw [hR, ← HDE.out]
    exact (putSeg_below _ _ _ _ _ _ (by omega) HW.out.kB).trans (hb8.below _ (by rw [putSeg_size]; exact HW.out.kB.size) (fun d hd => by
     obtain rfl := List.mem_singleton.1 hd
     have := HS.out
     omega))
   | cons x r =>
    obtain ⟨N, hN⟩ : ∃ N : Nat, (x :: r).length = N := ⟨_, rfl⟩
    have hN0 : 0 < N := by rw [← hN]; simp
    have hN1 : (0 : Int) < N := by omega
    rw [hN] at hln
    clear hN
    gi_wp2_with fail
    clear hln hN0 hN1 hcm
    have hndk := Aside0.mk (rising_nodup HPW.out)
    refine ⟨trivial, (callsIn_wide.2 (keys_calls _ _)).mono ?_⟩
    rintro e V3 ⟨rfl, hV3⟩
    have hbl3 : Below wr.heap.size wr V3 := by rw [hV3]; exact (Below.refl _ _).alloc (Nat.le_refl _) _
    have hm3 : V3.heap[wr.heap.size]? = some (.cells #[.map (some (b + 1))] 132 (0, 0)) := by rw [hV3]; exact blk_new _ _
    have HW3 := Aside0.mk (HW.out.below hbl3)
    have HX := Aside0.mk (HIN.out x (by simp))
    obtain ⟨q, hq⟩ : ∃ q, q = wr.heap.size := ⟨_, rfl⟩
    rw [← hq] at hm3 ⊢
    clear hV3 hbl3 hq HW
    gi_wp2_with fail
    refine ⟨trivial, (callsIn_wide.2 (collect_calls q (b + 1) 100 (x :: r) V3 hm3 HW3.out.km hndk.out (by have := HK1.out; omega))).mono ?_⟩
    rintro e V4 ⟨A4, c4, ss, rfl, hperm, hC4, hB4⟩
    have HW4 := Aside0.mk (HW3.out.below hB4)
    have HPM := Aside0.mk hperm
    have HC4 := Aside0.mk hC4
    have hsl : 0 < ss.length := by rw [hperm.length_eq]; simp
    clear hm3 hB4 hperm hC4 HW3 hndk V3
    gi_wp2_with fail
    refine ⟨trivial, (callsIn_wide.2 (min_calls A4 ss c4 hsl V4 HC4.out)).mono ?_⟩
    rintro e V5 ⟨rfl, rfl⟩
    have hmin : minL ss = x := minL_perm HPM.out (fun y hy => by have := (List.pairwise_cons.1 HPW.out).1 y hy; omega)
    rw [hmin]
    clear hmin hsl HPM HC4
    have hcm := cell_of_one HW4.out.k5
    obtain ⟨w5, hrun5, hm5, hg5⟩ := delete_own (t := 132) law2 Try.underlying132 HW4.out.km x (keyOf_int64 Try.underlying2 _ ⟨by have := HX.out; omega, by have := HX.out; omega⟩) 0
    gi_wp2_with fail
    clear hcm hrun5
    have HW5 := Aside0.mk (HW4.out.deleted HPW.out hm5 hg5 (by have := hD; omega) (by omega))
    clear hm5 hg5 HW4 V4
    refine ⟨trivial, (callsIn_wide.2 (near_calls g A c l.length p _ _ x h16 w5 (HG.out.below HW5.out.kB))).mono ?_⟩
    rintro e V6 ⟨rfl, hB6⟩
    have HW6 := Aside0.mk (HW5.out.below hB6)
    have hNE := nearC_eq h16 x
    have HNI := Aside0.mk (nearC_in HT.out x HX.out)
    have hNL := nearC_length h16 x
    rw [← hNE]
    clear hNE hB6 HW5 w5
    have HDT := Lib.hid (show dot W (nearC l x) = dot (bwts l d0 d1) (nearC l x) by rw [HWE.out])
    obtain ⟨C, hC⟩ : ∃ C, C = nearC l x := ⟨_, rfl⟩
    rw [← hC] at HNI hNL HDT ⊢
    have HCE := Lib.hid hC
    clear hC
    gi_wp2_with fail
    obtain ⟨V7, hV7⟩ : ∃ V, V6.alloc (.cells (ints C) 97) = V := ⟨_, rfl⟩
    obtain ⟨q2, hq2⟩ : ∃ q, q = V6.heap.size := ⟨_, rfl⟩
    have HW7 := Aside0.mk (HW6.out.below (show Below V6.heap.size V6 V7 by rw [← hV7]; exact (Below.refl _ _).alloc (Nat.le_refl _) _))
    have HC7 : Aside0 (V7.heap[q2]? = some (.cells (ints C) 97 (0, 0))) := ⟨by rw [← hV7, hq2]; exact blk_new _ _⟩
    have hq7 : w.heap.size + 3 ≤ q2 := by have := HW6.out.km.lt; omega
    rw [hV7, ← hq2]
    clear hV7 hq2 HW6 V6
    have hS1 := SegOk.mk' (show V7.drew.heap[b]? = _ from HW7.out.k3) 0 16 (by simp [ints, hWl])
    have hV1 := seg_whole (n := 16) (show V7.drew.heap[b]? = _ from HW7.out.k3) (by simp [ints, hWl])
    (refine Code.wpIn_mono calm_le ?_; (first | refine startR_ (k := 4) (S := fun w' => w' = _) (ds := [2]) (List.toArray (false :: false :: false :: false :: [])) (by kernel_rfl) (by kernel_rfl) calm_in rfl rfl rfl (fun plS => ?_) | refine startW_ (k := 4) (S := fun w' => w' = _) (ds := [2]) (List.toArray (false :: false :: false :: false :: [])) (by kernel_rfl) (by kernel_rfl) calm_in rfl rfl rfl (fun plS => ?_)); clear plS; refine pureY (i := 1) (N := (some 62)) ?_; refine takeE (i := 0) (N := (some 61)) ?_; refine lastY (i := 2) (fun plK plH => ?_); rw [if_pos (by rfl)]; (first | gi_big_move | go_big_op | go_simp))
    have hrd := C_arr (w := V7.drew) (l := C) HC7.out (by omega)
    have hsum := sum_calls W hWl HWB.out (some ⟨q2, 0, none⟩) 16 C (by omega) (fun x hx => by have := HNI.out x hx; omega) V7.drew hrd
    rw [hNL] at hsum
    refine hsum.mono ?_
    rintro e w8 ⟨rfl, hB8⟩
    have hdb := dot_within W C HWB.out (fun x hx => by have := HNI.out x hx; omega)
    rw [hNL] at hdb
    obtain ⟨S, hS⟩ : ∃ S, S = dot W C := ⟨_, rfl⟩
    rw [← hS] at hdb HDT ⊢
    clear hsum hrd hS hS1 hV1
    have hBd : Below V7.heap.size V7 w8 := ((Below.refl _ V7).drew).trans hB8
    have HW8 := Aside0.mk (HW7.out.below hBd)
    have HC8 := Aside0.mk (below_blk hBd HC7.out (blk_lt HC7.out))
    clear hB8 hBd HW7 HC7
    ((try simp only [Act.put, List.getElem_toArray, List.getElem_cons_succ, List.getElem_cons_zero, List.setIfInBounds_toArray, List.set_cons_succ, List.set_cons_zero]); refine plH _ _ ?_; clear plH plK; refine pureY (i := 3) (N := (some 14)) ?_; refine done_ (by kernel_rfl) ?_; rw [calm_normal])
    have c18 : w8.cell? ⟨w.heap.size + 1, 18, none⟩ = some (.int .i64 n) := (blk_cell HW8.out.k1 18).trans (endL_get18 _ _ _ _ _ HC.out)
    have c19 : w8.cell? ⟨w.heap.size + 1, 19, none⟩ = some (.int .i64 m) := (blk_cell HW8.out.k1 19).trans (endL_get19 _ _ _ _ _ HC.out)
    have cr0 : w8.cell? ⟨s, 0, none⟩ = some (.int .i64 0) := (blk_cell HW8.out.kr 0).trans rfl
    have cr1 : w8.cell? ⟨s, 1, none⟩ = some (.int .i64 0) := (blk_cell HW8.out.kr 1).trans rfl
    have hx1 : fewF l d0 d1 (x :: r) none = fewF l d0 d1 r (some (S, C)) := by rw [HDT.out, HCE.out]; rfl
    have hx2 : fewF l d0 d1 (x :: r) (some (f, cc)) = if S < f then fewF l d0 d1 r (some (S, C)) else fewF l d0 d1 r (some (f, cc)) := by rw [HDT.out, HCE.out]; rfl
    have hcase : (n = 0 ∧ m = 0 ∧ Aside0 (fewF l d0 d1 r (some (S, C)) = fewF l d0 d1 (cands l l.length) none)) ∨ (m ≠ 0 ∧ S < f ∧ Aside0 (fewF l d0 d1 r (some (S, C)) = fewF l d0 d1 (cands l l.length) none)) ∨
      (m ≠ 0 ∧ ¬ S < f ∧ Aside0 (fewF l d0 d1 r (some (f, cc)) = fewF l d0 d1 (cands l l.length) none ∧ n = leastN f den ∧ m = leastD f den)) := by
     have hfw := HFF.out
     rcases HST.out with ⟨hst, hn, hm⟩ | ⟨hst, hn, hm⟩
     ·rw [hst, hx1] at hfw
      exact .inl ⟨hn, hm, ⟨hfw⟩⟩
     rw [hst, hx2] at hfw
     have hm0 : m ≠ 0 := by rw [hm]; exact leastD_ne _ _ HDN.out
     by_cases hlt : S < f
     ·rw [if_pos hlt] at hfw
      exact .inr (.inl ⟨hm0, hlt, ⟨hfw⟩⟩)
     rw [if_neg hlt] at hfw
     exact .inr (.inr ⟨hm0, hlt, ⟨hfw, hn, hm⟩⟩)
    clear hx1 hx2
    have HPR := Aside0.mk (List.pairwise_cons.1 HPW.out).2
    have HIR : Aside0 (∀ y, y ∈ r → 0 ≤ y ∧ y ≤ 100000) := ⟨fun y hy => HIN.out y (List.mem_cons_of_mem _ hy)⟩
    have HRL : Aside0 (r.length < gk ∧ r.length ≤ 100) := ⟨by have h1 := HKL.out; have h2 := HK1.out; simp at h1 h2; omega⟩
    clear HPW HIN HKL HK1 HST HFF
    rcases hcase with ⟨hn, hm, HFN⟩ | ⟨hm0, hlt, HFN⟩ | ⟨hm0, hlt, HFN⟩
    rotate_left 2
    ·gi_wp2_with fail
     gi_roundg (r.length)
     case measure => exact HRL.out.1
     case rel => exact ⟨r, some (f, cc), cc, n, m, f, rfl, HRL.out.2, rfl, HFN.out.1, HIR.out, HPR.out, HC.out, .inr ⟨rfl, HFN.out.2.1, HFN.out.2.2⟩, HW8.out⟩
    ·subst hn
     subst hm
     gi_wp2_with fail
     have hS2 := SegOk.mk' (show w8.heap[q2]? = _ from HC8.out) 0 16 (by simp [ints, hNL])
     have hV2 := seg_whole (n := 16) (show w8.heap[q2]? = _ from HC8.out) (by simp [ints, hNL])
     (refine Code.wpIn_mono calm_le ?_; (first | refine startR_ (k := 8) (S := fun w' => Below (World.heap _).size _ w') (ds := [5, 7]) (List.toArray (false :: false :: false :: false :: false :: false :: false :: false :: [])) (by kernel_rfl) (by kernel_rfl) calm_in rfl rfl (belowDrew _) (fun plS => ?_) | refine startW_ (k := 8) (S := fun w' => Below (World.heap _).size _ w') (ds := [5, 7]) (List.toArray (false :: false :: false :: false :: false :: false :: false :: false :: [])) (by kernel_rfl) (by kernel_rfl) calm_in rfl rfl (belowDrew _) (fun plS => ?_)); refine pureY (i := 1) (N := (some 75)) ?_; refine pureY (i := 2) (N := (some 76)) ?_; refine takeF (i := 0) (N := (some 74)) (hS := plS) (hy := by (intro w' hw'; replace hw' : Below (World.heap w8).size w8 w' := hw'; have q0 := pw_cell_below hw' cr0; have q1 := pw_cell_below hw' cr1; have q2 := pw_cell_below hw' c18; have q3 := pw_cell_below hw' c19; have q4 := seg_below hw' hS2 hV2; have r4 := segOk_below hw' hS2; exact yieldA)) (h := ?_); refine pureY (i := 4) (N := (some 78)) ?_; refine oneY (i := 3) (fun plK plH => ?_); rw [if_pos (by rfl)]; (first | gi_big_move | go_big_op | go_simp))
     refine (least_calls S den (by omega) (by omega) HDN.out _).mono ?_
     rintro e w9 ⟨rfl, hB9⟩
     have hBd9 : Below w8.heap.size w8 w9 := ((Below.refl _ w8).drew).trans hB9
     have HW9 := Aside0.mk (HW8.out.below hBd9)
     have hd1 := SegOk.mk' HW9.out.k1 2 16 (by simp [ints, endL, HC.out])
     have hlw9 := blk_lt HW9.out.k1
     have hst9 : (storeCells ⟨w.heap.size + 1, 2, none⟩ (ints C).toList 0).run Try.prog w9 = .ok () (putSeg w9 (w.heap.size + 1) 2 (ints C).toList) := by
      obtain ⟨cs, t, hb9, hn9⟩ := hd1
      exact run_storeCells (P := Try.prog) (ints C).toList w9 (w.heap.size + 1) 2 0 cs t hb9 (by rw [Array.length_toList, ints_size, hNL]; omega) (Ones_ints C)
     ((try simp only [Act.put, List.getElem_toArray, List.getElem_cons_succ, List.getElem_cons_zero, List.setIfInBounds_toArray, List.set_cons_succ, List.set_cons_zero]); refine plH _ _ hBd9 (fun plS => ?_); clear plH plK; refine lastY (i := 5) (fun plK plH => ?_); rw [if_pos (by rfl)]; (first | gi_big_move | go_big_op | go_simp))
     clear hst9 hd1
     obtain ⟨W9, hW9⟩ : ∃ W, putSeg w9 (w.heap.size + 1) 2 (ints C).toList = W := ⟨_, rfl⟩
     have P1 : Aside0 (W9.heap[w.heap.size + 1]? = some (.cells (ints (endL d0 d1 C 0 0)) 112 (0, 0))) := ⟨by rw [← hW9]; exact endL_put HC.out hNL HW9.out.k1⟩
     have PB : Aside0 (∀ k, k < w9.heap.size → k ≠ w.heap.size + 1 → W9.heap[k]? = w9.heap[k]?) := ⟨fun k hk hn => by rw [← hW9]; exact putSeg_other _ _ _ _ _ hn⟩
     have PW : Aside0 (Below w.heap.size w W9) := ⟨by rw [← hW9]; exact putSeg_below _ _ _ _ _ _ (by omega) HW9.out.kB⟩
     rw [hW9]
     clear hW9
     have e18 : W9.cell? ⟨w.heap.size + 1, 18, none⟩ = some (.int .i64 0) := (blk_cell P1.out 18).trans (endL_get18 _ _ _ _ _ hNL)
     have e19 : W9.cell? ⟨w.heap.size + 1, 19, none⟩ = some (.int .i64 0) := (blk_cell P1.out 19).trans (endL_get19 _ _ _ _ _ hNL)
     have f18 := blk_frozen P1.out 18
     have f19 := blk_frozen P1.out 19
     have hlw := blk_lt P1.out
     ((try simp only [Act.put, List.getElem_toArray, List.getElem_cons_succ, List.getElem_cons_zero, List.setIfInBounds_toArray, List.set_cons_succ, List.set_cons_zero]); refine plH _ _ ?_; clear plH plK; refine pureY (i := 6) (N := (some 79)) ?_; refine lastY (i := 7) (fun plK plH => ?_); rw [if_pos (by rfl)]; (first | gi_big_move | go_big_op | go_simp))
     ((try simp only [Act.put, List.getElem_toArray, List.getElem_cons_succ, List.getElem_cons_zero, List.setIfInBounds_toArray, List.set_cons_succ, List.set_cons_zero]); refine plH _ _ ?_; clear plH plK; refine done_ (by kernel_rfl) ?_; rw [calm_normal])
     obtain ⟨W10, hW10⟩ : ∃ W, (W9.setCell ⟨w.heap.size + 1, 18, none⟩ (.int .i64 (leastN S den))).setCell ⟨w.heap.size + 1, 19, none⟩ (.int .i64 (leastD S den)) = W := ⟨_, rfl⟩
     have q1 : W10.heap[w.heap.size + 1]? = some (.cells (ints (endL d0 d1 C (leastN S den) (leastD S den))) 112 (0, 0)) := by
      rw [← hW10]; exact blk_put (blk_put P1.out 18 (.int .i64 (leastN S den)) (endL_set18 _ _ _ _ _ _ hNL)) 19 (.int .i64 (leastD S den)) (endL_set19 _ _ _ _ _ _ hNL)
     have qo : ∀ k, k < w9.heap.size → k ≠ w.heap.size + 1 → W10.heap[k]? = w9.heap[k]? := fun k hk hn => by
      rw [← hW10]
      exact (Below.heap_setCell _ ⟨w.heap.size + 1, 19, none⟩ _ k hn).trans ((Below.heap_setCell _ ⟨w.heap.size + 1, 18, none⟩ _ k hn).trans (PB.out k hk hn))
     have qb : Below w.heap.size w W10 := by rw [← hW10]; exact (PW.out.setCell (p := ⟨w.heap.size + 1, 18, none⟩) ql22 _).setCell (p := ⟨w.heap.size + 1, 19, none⟩) ql22 _
     have HW10 := Aside0.mk (HW9.out.chart (by omega) (by have := HS.out; omega) (by have := hD; omega) qo qb q1)
     rw [hW10]
     clear hW10 q1 qo qb PB PW P1 e18 e19 f18 f19
     gi_wp2_with fail
     gi_roundg (r.length)
     case measure => exact HRL.out.1
     case rel => exact ⟨r, some (S, C), C, leastN S den, leastD S den, S, rfl, HRL.out.2, rfl, HFN.out, HIR.out, HPR.out, hNL, .inr ⟨rfl, rfl, rfl⟩, HW10.out⟩
    gi_wp2_with fail
    have hS2 := SegOk.mk' (show w8.heap[q2]? = _ from HC8.out) 0 16 (by simp [ints, hNL])
    have hV2 := seg_whole (n := 16) (show w8.heap[q2]? = _ from HC8.out) (by simp [ints, hNL])
    (refine Code.wpIn_mono calm_le ?_; (first | refine startR_ (k := 8) (S := fun w' => Below (World.heap _).size _ w') (ds := [5, 7]) (List.toArray (false :: false :: false :: false :: false :: false :: false :: false :: [])) (by kernel_rfl) (by kernel_rfl) calm_in rfl rfl (belowDrew _) (fun plS => ?_) | refine startW_ (k := 8) (S := fun w' => Below (World.heap _).size _ w') (ds := [5, 7]) (List.toArray (false :: false :: false :: false :: false :: false :: false :: false :: [])) (by kernel_rfl) (by kernel_rfl) calm_in rfl rfl (belowDrew _) (fun plS => ?_)); refine pureY (i := 1) (N := (some 75)) ?_; refine pureY (i := 2) (N := (some 76)) ?_; refine takeF (i := 0) (N := (some 74)) (hS := plS) (hy := by (intro w' hw'; replace hw' : Below (World.heap w8).size w8 w' := hw'; have q0 := pw_cell_below hw' c18; have q1 := pw_cell_below hw' c19; have q2 := pw_cell_below hw' cr0; have q3 := pw_cell_below hw' cr1; have q4 := seg_below hw' hS2 hV2; have r4 := segOk_below hw' hS2; exact yieldA)) (h := ?_); refine pureY (i := 4) (N := (some 78)) ?_; refine oneY (i := 3) (fun plK plH => ?_); rw [if_pos (by rfl)]; (first | gi_big_move | go_big_op | go_simp))
    refine (least_calls S den (by omega) (by omega) HDN.out _).mono ?_
    rintro e w9 ⟨rfl, hB9⟩
    have hBd9 : Below w8.heap.size w8 w9 := ((Below.refl _ w8).drew).trans hB9
    have HW9 := Aside0.mk (HW8.out.below hBd9)
    have hd1 := SegOk.mk' HW9.out.k1 2 16 (by simp [ints, endL, HC.out])
    have hlw9 := blk_lt HW9.out.k1
    have hst9 : (storeCells ⟨w.heap.size + 1, 2, none⟩ (ints C).toList 0).run Try.prog w9 = .ok () (putSeg w9 (w.heap.size + 1) 2 (ints C).toList) := by
     obtain ⟨cs, t, hb9, hn9⟩ := hd1
     exact run_storeCells (P := Try.prog) (ints C).toList w9 (w.heap.size + 1) 2 0 cs t hb9 (by rw [Array.length_toList, ints_size, hNL]; omega) (Ones_ints C)
    ((try simp only [Act.put, List.getElem_toArray, List.getElem_cons_succ, List.getElem_cons_zero, List.setIfInBounds_toArray, List.set_cons_succ, List.set_cons_zero]); refine plH _ _ hBd9 (fun plS => ?_); clear plH plK; refine lastY (i := 5) (fun plK plH => ?_); rw [if_pos (by rfl)]; (first | gi_big_move | go_big_op | go_simp))
    clear hst9 hd1
    obtain ⟨W9, hW9⟩ : ∃ W, putSeg w9 (w.heap.size + 1) 2 (ints C).toList = W := ⟨_, rfl⟩
    have P1 : Aside0 (W9.heap[w.heap.size + 1]? = some (.cells (ints (endL d0 d1 C n m)) 112 (0, 0))) := ⟨by rw [← hW9]; exact endL_put HC.out hNL HW9.out.k1⟩
    have PB : Aside0 (∀ k, k < w9.heap.size → k ≠ w.heap.size + 1 → W9.heap[k]? = w9.heap[k]?) := ⟨fun k hk hn => by rw [← hW9]; exact putSeg_other _ _ _ _ _ hn⟩
    have PW : Aside0 (Below w.heap.size w W9) := ⟨by rw [← hW9]; exact putSeg_below _ _ _ _ _ _ (by omega) HW9.out.kB⟩
    rw [hW9]
    clear hW9
    have e18 : W9.cell? ⟨w.heap.size + 1, 18, none⟩ = some (.int .i64 n) := (blk_cell P1.out 18).trans (endL_get18 _ _ _ _ _ hNL)
    have e19 : W9.cell? ⟨w.heap.size + 1, 19, none⟩ = some (.int .i64 m) := (blk_cell P1.out 19).trans (endL_get19 _ _ _ _ _ hNL)
    have f18 := blk_frozen P1.out 18
    have f19 := blk_frozen P1.out 19
    have hlw := blk_lt P1.out
    ((try simp only [Act.put, List.getElem_toArray, List.getElem_cons_succ, List.getElem_cons_zero, List.setIfInBounds_toArray, List.set_cons_succ, List.set_cons_zero]); refine plH _ _ ?_; clear plH plK; refine pureY (i := 6) (N := (some 79)) ?_; refine lastY (i := 7) (fun plK plH => ?_); rw [if_pos (by rfl)]; (first | gi_big_move | go_big_op | go_simp))
    ((try simp only [Act.put, List.getElem_toArray, List.getElem_cons_succ, List.getElem_cons_zero, List.setIfInBounds_toArray, List.set_cons_succ, List.set_cons_zero]); refine plH _ _ ?_; clear plH plK; refine done_ (by kernel_rfl) ?_; rw [calm_normal])
    obtain ⟨W10, hW10⟩ : ∃ W, (W9.setCell ⟨w.heap.size + 1, 18, none⟩ (.int .i64 (leastN S den))).setCell ⟨w.heap.size + 1, 19, none⟩ (.int .i64 (leastD S den)) = W := ⟨_, rfl⟩
    have q1 : W10.heap[w.heap.size + 1]? = some (.cells (ints (endL d0 d1 C (leastN S den) (leastD S den))) 112 (0, 0)) := by
     rw [← hW10]; exact blk_put (blk_put P1.out 18 (.int .i64 (leastN S den)) (endL_set18 _ _ _ _ _ _ hNL)) 19 (.int .i64 (leastD S den)) (endL_set19 _ _ _ _ _ _ hNL)
    have qo : ∀ k, k < w9.heap.size → k ≠ w.heap.size + 1 → W10.heap[k]? = w9.heap[k]? := fun k hk hn => by
     rw [← hW10]
     exact (Below.heap_setCell _ ⟨w.heap.size + 1, 19, none⟩ _ k hn).trans ((Below.heap_setCell _ ⟨w.heap.size + 1, 18, none⟩ _ k hn).trans (PB.out k hk hn))
    have qb : Below w.heap.size w W10 := by rw [← hW10]; exact (PW.out.setCell (p := ⟨w.heap.size + 1, 18, none⟩) ql22 _).setCell (p := ⟨w.heap.size + 1, 19, none⟩) ql22 _
    have HW10 := Aside0.mk (HW9.out.chart (by omega) (by have := HS.out; omega) (by have := hD; omega) qo qb q1)
    rw [hW10]
    clear hW10 q1 qo qb PB PW P1 e18 e19 f18 f19
    gi_wp2_with fail
    gi_roundg (r.length)
    case measure => exact HRL.out.1
    case rel => exact ⟨r, some (S, C), C, leastN S den, leastD S den, S, rfl, HRL.out.2, rfl, HFN.out, HIR.out, HPR.out, hNL, .inr ⟨rfl, rfl, rfl⟩, HW10.out⟩
end Go.Proofs.Ytpkajhmchcbbhaa.P
end
