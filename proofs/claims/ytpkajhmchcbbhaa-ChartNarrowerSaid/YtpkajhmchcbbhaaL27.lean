/- Part 27 of 44. -/
import Derived.Test.YtpkajhmchcbbhaaL17
import Derived.Maps.OwnSet
import Derived.Maps.Views
import Derived.Lib.SlKeysI
set_option linter.unusedSimpArgs false
set_option linter.unusedVariables false
section
namespace Go.Proofs.Ytpkajhmchcbbhaa.P
open Go.RowKit Go.Proofs.YtpkajhmchcbbhaaW.PrintWords Go.Proofs.YtpkajhmchcbbhaaW.PrintLast Go.Proofs.YtpkajhmchcbbhaaW.PrintMore
open Go.ChangeMaps Go.MapKept
open Go.WideElems (Fit rd rg pl)
open Go.Maps (Keyed has size IsMap)
def Rc : Value → Option (DataW Unit × List MemPlace) := fun _ => some (.lit (.bool true), [])
structure KMap (w : World) (P : Program) (k : TypeId) (b n : Nat) (ks : List Int) : Prop where
 own : ∃ D, w.ownsMap P k Rc b n D ∧ ∀ x, has D (.int .i64 x) = true ↔ x ∈ ks
def Stamp (w : World) (b : Nat) (st : Int) : Prop := ∃ es clock, w.heap[b]? = some (.map es clock) ∧ ∃ i, es.findIdx? (fun e => (e.born : Int) == st) = some i
section
variable {P : Program} {k t e : TypeId} {w : World} {b n : Nat} {ks : List Int}
theorem KMap.lt (h : KMap w P k b n ks) : b < w.heap.size := by
 obtain ⟨D, hD, _⟩ := h.own
 exact hD.lt
theorem KMap.isMap (h : KMap w P k b n ks) : ∃ es clock, w.heap[b]? = some (.map es clock) := by
 obtain ⟨D, ⟨es, clock, hb, _⟩, _⟩ := h.own
 exact ⟨es, clock, hb⟩
theorem KMap.same {w1 : World} (h : KMap w P k b n ks) (hb : w1.heap[b]? = w.heap[b]?) : KMap w1 P k b n ks := by
 obtain ⟨D, ⟨es, clock, h1, h2⟩, h3⟩ := h.own
 exact ⟨D, ⟨es, clock, hb.trans h1, h2⟩, h3⟩
theorem KMap.below {w1 : World} (h : KMap w P k b n ks) (hb : Below w.heap.size w w1) : KMap w1 P k b n ks := h.same (hb.block b h.lt)
theorem KMap.made (w : World) (P : Program) (k : TypeId) : KMap (w.alloc (.map #[] 0)) P k w.heap.size 0 [] :=
 ⟨_, World.ownsMap_made w P k Rc, fun x => by simp [has]⟩
theorem KMap.congr {ks' : List Int} (h : KMap w P k b n ks) (hk : ∀ x, x ∈ ks ↔ x ∈ ks') : KMap w P k b n ks' := by
 obtain ⟨D, h1, h2⟩ := h.own
 exact ⟨D, h1, fun x => (h2 x).trans (hk x)⟩
theorem keyOf_int64 (hk : P.underlying k = some (.int .i64)) (x : Int) (hx : -1000000 ≤ x ∧ x ≤ 1000000) : keyOf P k (.int .i64 x) = some (.int .i64 x) := by
 have hw : (Lit.int .i64 x).wf = true := by
  have h1 : IntKind.i64.min ≤ x := by
   have : IntKind.i64.min = -9223372036854775808 := by decide
   omega
  have h2 : x ≤ IntKind.i64.max := by
   have : IntKind.i64.max = 9223372036854775807 := by decide
   omega
  simp [Lit.wf, h1, h2]
  omega
 simp [keyOf, hk, mapKey, hw]
theorem mapEntry_own (K : Keyed P k) (ht : P.underlying t = some (.map k e)) (z : Value) (hz : ∀ w, (zeroValue e).run P w = .ok z w) (h : KMap w P k b n ks) (hn : n < maxLen) (x : Int) (hkey : keyOf P k (.int .i64 x) = some (.int .i64 x)) :
  ∃ w' v st, (Instr.mapEntry t (.map (some b)) (.int .i64 x)).run P w = .ok (.tuple #[v, .int .i64 st]) w' ∧ KMap w' P k b (n + 1) (x :: ks) ∧ Stamp w' b st ∧ w.grownBy w' (some b) := by
 obtain ⟨D, hD, hks⟩ := h.own
 have hD0 := hD
 obtain ⟨es, clock, hb, F, hs, hDe⟩ := hD
 rcases K.find w hkey es.toList F.keys with ⟨h1, h2⟩ | ⟨j, e0, h1, h2, h3⟩
 ·obtain ⟨w', hrun, hown, hg⟩ := hD0.update K ht hn (val := z) (d := .lit (.bool true)) (ps := []) hkey rfl
  simp [Instr.mapUpdate, run_underlying ht, MapKept.run_getObj_map hb, K.check w false hkey, h1, MapKept.run_setObj_map _ hb] at hrun
  subst hrun
  refine ⟨_, z, clock, ?_, ⟨_, hown, fun y => ?_⟩, ⟨es.push ⟨.int .i64 x, z, clock⟩, clock + 1, ?_, ?_⟩, hg⟩
  ·simp [Instr.mapEntry, run_underlying ht, MapKept.run_getObj_map hb, K.check w false hkey, h1, hz, MapKept.run_setObj_map _ hb, goInt]
  ·by_cases hy : y = x
   ·subst hy
    simp [Maps.has_put_same hD0.isMap (K.key hkey)]
   rw [Maps.has_put_other (by simpa using hy), hks y]
   simp [hy]
  ·have hlt := (Array.getElem?_eq_some_iff.1 hb).1
   simp [hlt]
  cases hf : (es.push ⟨Value.int .i64 x, z, clock⟩).findIdx? (fun e => (e.born : Int) == (clock : Int)) with
  | some i => exact ⟨i, rfl⟩
  | none =>
   rw [Array.findIdx?_eq_none_iff] at hf
   have := hf ⟨.int .i64 x, z, clock⟩ (by simp)
   simp at this
 have hj : es[j]? = some e0 := by simpa using h2
 have hmod : (es.modify j fun e => { e with key := .int .i64 x }) = es := by
  apply Array.ext_getElem?
  intro i
  rw [Array.getElem?_modify]
  by_cases hi : j = i
  ·subst hi
   rw [if_pos rfl, hj]
   simp only [Option.map_some]
   congr 1
   rw [← h3]
  rw [if_neg hi]
 have hput : w.heap.setIfInBounds b (.map es clock) = w.heap := by
  apply Array.ext_getElem?
  intro i
  by_cases hi : i = b
  ·subst hi
   have hlt := (Array.getElem?_eq_some_iff.1 hb).1
   rw [Array.getElem?_setIfInBounds_self_of_lt hlt, hb]
  rw [Array.getElem?_setIfInBounds_ne (fun e => hi e.symm)]
 refine ⟨w, e0.val, e0.born, ?_, ⟨D, hD0.mono (Nat.le_succ n), fun y => ?_⟩, ⟨es, clock, hb, ?_⟩, ⟨rfl, rfl, rfl, Nat.le_refl _, fun _ _ _ => rfl⟩⟩
 ·simp [Instr.mapEntry, run_underlying ht, MapKept.run_getObj_map hb, K.check w false hkey, h1, hj, h3, K.stays w hkey, MapKept.run_setObj_map _ hb, goInt, hmod, hput]
 ·by_cases hy : y = x
  ·subst hy
   have : has D (.int .i64 y) = true := by
    have hmem : e0 ∈ es.toList := List.mem_of_getElem? h2
    obtain ⟨yv, hyv⟩ := F.reads e0 hmem
    have hk1 := WideElems.rd_key hyv
    rw [h3, hkey] at hk1
    rw [hDe, Maps.has_eq, List.any_eq_true]
    refine ⟨rg P k Rc e0, ?_, ?_⟩
    ·have := (WideShapes.sorted_perm (es.toList.map (rg P k Rc))).mem_iff (a := rg P k Rc e0)
     exact this.2 (List.mem_map.2 ⟨e0, hmem, rfl⟩)
    rw [WideElems.rg_of hyv, ← Option.some.inj hk1]
    simp [Lit.sameKey]
   simp [this]
  rw [hks y]; simp [hy]
 cases hf : es.findIdx? (fun e => (e.born : Int) == (e0.born : Int)) with
 | some i => exact ⟨i, rfl⟩
 | none =>
  rw [Array.findIdx?_eq_none_iff] at hf
  have := hf e0 (by simpa using List.mem_of_getElem? h2)
  simp at this
theorem entryStore_own (h : KMap w P k b n ks) {st : Int} (hst : Stamp w b st) (val : Value) :
  ∃ w', (Instr.entryStore t (.map (some b)) (.int .i64 st) val).run P w = .ok () w' ∧ KMap w' P k b n ks ∧ w.grownBy w' (some b) := by
 obtain ⟨D, ⟨es, clock, hb, F, hs, hDe⟩, hks⟩ := h.own
 obtain ⟨es1, clock1, hb1, i, hi⟩ := hst
 rw [hb] at hb1
 obtain ⟨rfl, rfl⟩ := Obj.map.inj (Option.some.inj hb1)
 have hlt := (Array.getElem?_eq_some_iff.1 hb).1
 refine ⟨{ w with heap := w.heap.setIfInBounds b (.map (es.modify i fun e => { e with val := val }) clock) }, ?_, ⟨D, ⟨es.modify i fun e => { e with val := val }, clock, ?_, ⟨?_, ?_, ?_⟩, ?_, ?_⟩, hks⟩, ⟨rfl, rfl, rfl, by simp, fun j hj hne => ?_⟩⟩
 ·simp [Instr.entryStore, MapKept.run_getObj_map hb, asInt, asIntOf, hi, MapKept.run_setObj_map _ hb]
 ·show (w.heap.setIfInBounds b _)[b]? = _
  rw [Array.getElem?_setIfInBounds_self_of_lt hlt]
 ·rw [Array.size_modify]; exact F.size
 ·exact stamped_modify F.stamped i _ (fun _ _ => rfl) (fun _ _ _ => rfl)
 ·intro x hx
  have hx' : x ∈ es.modify i fun e => { e with val := val } := Array.mem_toList_iff.1 hx
  obtain ⟨j, hj, rfl⟩ := Array.getElem_of_mem hx'
  have hj' : j < es.size := by simpa using hj
  rw [Array.getElem_modify]
  obtain ⟨y, hy⟩ := F.reads es[j] (by simp)
  split
  ·exact ⟨y, hy⟩
  exact ⟨y, hy⟩
 ·rw [Array.size_modify]; exact hs
 ·rw [hDe]
  congr 2
  apply List.ext_getElem?
  intro j
  rw [List.getElem?_map, List.getElem?_map, Array.getElem?_toList, Array.getElem?_toList, Array.getElem?_modify]
  split
  ·cases es[j]? <;> rfl
  rfl
 show (w.heap.setIfInBounds b _)[j]? = _
 rw [Array.getElem?_setIfInBounds_ne (fun e => hne (by rw [e]))]
theorem delete_own (K : Keyed P k) (ht : P.underlying t = some (.map k e)) (h : KMap w P k b n ks) (x : Int) (hkey : keyOf P k (.int .i64 x) = some (.int .i64 x)) (ty : TypeId) :
  ∃ w', (Builtin.delete_ #[t, k] ty #[.map (some b), .int .i64 x]).run P w = .ok (.tuple #[]) w' ∧ KMap w' P k b n (ks.filter fun y => y != x) ∧ w.grownBy w' (some b) := by
 obtain ⟨D, hD, hks⟩ := h.own
 obtain ⟨w', hrun, hown, hm⟩ := hD.drop K ht hkey ty
 refine ⟨w', hrun, ⟨_, hown, fun y => ?_⟩, hm.grown⟩
 by_cases hy : y = x
 ·subst hy; simp [Maps.has_del_same]
 rw [Maps.has_del_other (by simpa using hy), hks y]
 simp [hy]
theorem KMap.perm (h : KMap w P k b n ks) (K : Keyed P k) (hk : P.underlying k = some (.int .i64)) (hnd : ks.Nodup) : ∃ D, w.ownsMap P k Rc b n D ∧ ks.Perm (intKeys D) ∧ size D = ks.length := by
 obtain ⟨D, hD, hks⟩ := h.own
 obtain ⟨es, hDe, hpw, _⟩ := hD.entries K
 obtain ⟨es', hDe', hko⟩ := hD.keysOf
 obtain rfl : es = es' := by rw [hDe] at hDe'; simpa using hDe'
 have hp : ks.Perm (intKeys D) := by
  rw [hDe]
  exact perm_intKeys hpw (fun p hp => by obtain ⟨v, hv⟩ := hko p hp; obtain ⟨x, _, hx, _⟩ := Maps.keyOf_i64 hk hv; exact ⟨x, hx⟩) hnd (fun x => by rw [← hDe]; exact (hks x).symm)
 refine ⟨D, hD, hp, ?_⟩
 rw [hp.length_eq, hDe]
 simp [intKeys, size]
theorem len_own (K : Keyed P k) (hk : P.underlying k = some (.int .i64)) (ht : P.underlying t = some (.map k e)) (h : KMap w P k b n ks) (hnd : ks.Nodup) (ty : TypeId) : (Builtin.len_ #[t] ty #[.map (some b)]).run P w = .ok (.int .i64 ks.length) w := by
 obtain ⟨D, hD, _, hs⟩ := h.perm K hk hnd
 rw [hD.len ht ty, hs]
end
end Go.Proofs.Ytpkajhmchcbbhaa.P
end
