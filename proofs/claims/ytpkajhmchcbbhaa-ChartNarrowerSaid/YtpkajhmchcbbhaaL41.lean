/- Part 41 of 44. -/
import Derived.Test.YtpkajhmchcbbhaaL31
import Derived.Test.YtpkajhmchcbbhaaL35
import Derived.Test.YtpkajhmchcbbhaaL36
import Derived.Test.YtpkajhmchcbbhaaL32
import Derived.Test.YtpkajhmchcbbhaaL9
import Derived.Test.YtpkajhmchcbbhaaL39
import Derived.Test.YtpkajhmchcbbhaaL11
import Derived.Test.YtpkajhmchcbbhaaL38
set_option linter.unusedSimpArgs false
set_option linter.unusedVariables false
section
namespace Go.Proofs.Ytpkajhmchcbbhaa.P
open Go.RowKit Go.Proofs.YtpkajhmchcbbhaaW.PrintWords Go.Proofs.YtpkajhmchcbbhaaW.PrintLast Go.Proofs.YtpkajhmchcbbhaaW.PrintMore
theorem Fine.tight_f {l : List SRow} {p : Int} (hF : Fine l p) : chart_Tight.f l p = some (tightL l, 0) := by
 have ho : openE l p [] = 0 := by
  unfold openE
  rw [if_neg (by rw [hF.check]; simp)]
  simp [hF.tight]
 unfold chart_Tight.f
 rw [if_pos ho]
end Go.Proofs.Ytpkajhmchcbbhaa.P
end
section
namespace Go.Proofs.Ytpkajhmchcbbhaa.P
open Go.RowKit Go.Proofs.YtpkajhmchcbbhaaW.PrintWords Go.Proofs.YtpkajhmchcbbhaaW.PrintLast Go.Proofs.YtpkajhmchcbbhaaW.PrintMore
def narL (l : List SRow) (k : Nat) (lo hi : Int) : List SRow := l.set k ⟨dipN l k, ⟨lo, hi⟩⟩
theorem narL_len (l : List SRow) (k : Nat) (lo hi : Int) : (narL l k lo hi).length = l.length := by simp [narL]
theorem narL_get (l : List SRow) (k : Nat) (lo hi : Int) (i : Nat) (hk : k < l.length) : (narL l k lo hi).getD i zRow = if i = k then ⟨dipN l k, ⟨lo, hi⟩⟩ else l.getD i zRow := by
 unfold narL
 rw [List.getD_eq_getElem?_getD, List.getElem?_set]
 by_cases h : k = i
 ·subst h; simp [hk]
 rw [if_neg h, if_neg (fun e => h e.symm), ← List.getD_eq_getElem?_getD]
theorem narL_narrow {l : List SRow} {k : Nat} {lo hi : Int} (hk : k < l.length) (h1 : loR l k ≤ lo) (h2 : hi ≤ hiR l k) : Narrow l (narL l k lo hi) := by
 refine ⟨narL_len l k lo hi, fun i => ?_, fun i hi => ?_, fun i hi => ?_⟩
 ·show ((narL l k lo _).getD i zRow).f0 = _
  rw [narL_get l k lo _ i hk]
  split
  ·rename_i e; rw [e]
  rfl
 ·show _ ≤ ((narL l k lo _).getD i zRow).f1.f0
  rw [narL_get l k lo _ i hk]
  split
  ·rename_i e; rw [e]; exact h1
  exact Int.le_refl _
 show ((narL l k lo _).getD i zRow).f1.f1 ≤ _
 rw [narL_get l k lo _ i hk]
 split
 ·rename_i e; rw [e]; exact h2
 exact Int.le_refl _
def insL (l : List SRow) (a : Nat) (r : SRow) : List SRow := l.take a ++ r :: l.drop a
theorem insL_len (l : List SRow) (a : Nat) (r : SRow) (ha : a ≤ l.length) : (insL l a r).length = l.length + 1 := by simp [insL]; omega
def sh (a i : Nat) : Nat := if a ≤ i then i + 1 else i
theorem insL_get (l : List SRow) (a : Nat) (r : SRow) (ha : a ≤ l.length) (i : Nat) : (insL l a r).getD (sh a i) zRow = l.getD i zRow := by
 unfold insL sh
 rw [List.getD_eq_getElem?_getD, List.getD_eq_getElem?_getD]
 by_cases h : a ≤ i
 ·rw [if_pos h, List.getElem?_append_right (by rw [List.length_take]; omega), List.length_take, show i + 1 - min a l.length = (i - a) + 1 by omega, List.getElem?_cons_succ, List.getElem?_drop, show a + (i - a) = i by omega]
 rw [if_neg h, List.getElem?_append_left (by rw [List.length_take]; omega), List.getElem?_take, if_pos (by omega)]
theorem insL_at (l : List SRow) (a : Nat) (r : SRow) (ha : a ≤ l.length) : (insL l a r).getD a zRow = r := by
 unfold insL
 rw [List.getD_eq_getElem?_getD, List.getElem?_append_right (by rw [List.length_take]; omega), List.length_take, show a - min a l.length = 0 by omega, List.getElem?_cons_zero]
 rfl
theorem sh_or (a k : Nat) : k = a ∨ ∃ j, k = sh a j ∧ (j = k ∨ j + 1 = k) := by
 rcases Nat.lt_trichotomy k a with h | h | h
 ·exact Or.inr ⟨k, by unfold sh; rw [if_neg (by omega)], Or.inl rfl⟩
 ·exact Or.inl h
 exact Or.inr ⟨k - 1, by unfold sh; rw [if_pos (by omega)]; omega, Or.inr (by omega)⟩
theorem sh_mono {a i j : Nat} : sh a i ≤ sh a j ↔ i ≤ j := by unfold sh; split <;> split <;> omega
theorem ins_low {l : List SRow} {p : Int} (hT : TankOk l p) (a : Nat) (r : SRow) (ha : a ≤ l.length) (hr : r.f1.f0 = 0) (i : Nat) (hi : i < l.length) : lowN (insL l a r) (sh a i) = lowN l i := by
 have hg : ∀ k, loR (insL l a r) (sh a k) = loR l k := fun k => by unfold loR; rw [insL_get l a r ha k]
 refine Int.le_antisymm ?_ ?_
 ·obtain ⟨k, hk, e⟩ := lowN_of (insL l a r) (sh a i)
  rw [e]
  rcases sh_or a k with rfl | ⟨j, rfl, _⟩
  ·have := lowN_ge l i i (Nat.le_refl _)
   have h0 := (hT.lit i hi).1
   have : loR (insL l k r) k = 0 := by unfold loR; rw [insL_at l k r ha, hr]
   omega
  rw [hg]; exact lowN_ge l i j (sh_mono.1 hk)
 obtain ⟨k, hk, e⟩ := lowN_of l i
 rw [e, ← hg k]
 exact lowN_ge _ _ _ (sh_mono.2 hk)
theorem ins_high {l : List SRow} {p : Int} (hT : TankOk l p) (a : Nat) (r : SRow) (ha : a ≤ l.length) (hr : r.f1.f1 = 100000) (i : Nat) (hi : i < l.length) : highN (insL l a r) (sh a i) = highN l i := by
 have hg : ∀ k, hiR (insL l a r) (sh a k) = hiR l k := fun k => by unfold hiR; rw [insL_get l a r ha k]
 have hlen := insL_len l a r ha
 have hs : sh a i < l.length + 1 := by unfold sh; split <;> omega
 refine Int.le_antisymm ?_ ?_
 ·obtain ⟨k, hk, hk2, e⟩ := highN_of l (l.length - 1 - i) i (by omega)
  rw [e, ← hg k]
  exact highN_le (insL l a r) (l.length - sh a i) (sh a i) (by omega) _ (sh_mono.2 hk) (by unfold sh; split <;> omega)
 obtain ⟨k, hk, hk2, e⟩ := highN_of (insL l a r) (l.length - sh a i) (sh a i) (by omega)
 rw [e]
 rcases sh_or a k with rfl | ⟨j, rfl, hj⟩
 ·have h1 := highN_le l (l.length - 1 - i) i (by omega) i (Nat.le_refl _) hi
  have h0 := (hT.lit i hi).2.2
  have : hiR (insL l k r) k = 100000 := by unfold hiR; rw [insL_at l k r ha, hr]
  omega
 rw [hg]
 exact highN_le l (l.length - 1 - i) i (by omega) j (sh_mono.1 hk) (by unfold sh at hk2; split at hk2 <;> omega)
def zr (l : List SRow) (a : Nat) (r : SRow) (i : Nat) : List SRow := if i ≤ a then l.take i else l.take a ++ r :: (l.drop a).take (i - a)
theorem zr_len (l : List SRow) (a : Nat) (r : SRow) (i : Nat) (hi : i ≤ l.length) : (zr l a r i).length ≤ i + 1 := by
 unfold zr
 split
 ·rw [List.length_take]; omega
 simp; omega
theorem zr_all (l : List SRow) (a : Nat) (r : SRow) (ha : a < l.length) : zr l a r l.length = insL l a r := by
 unfold zr insL
 rw [if_neg (by omega), List.take_of_length_le (l := l.drop a) (by rw [List.length_drop]; omega)]
theorem zr_next (l : List SRow) (a : Nat) (r : SRow) (i : Nat) (hi : i < l.length) (h : i ≠ a) : zr l a r (i + 1) = zr l a r i ++ [l.getD i zRow] := by
 unfold zr
 by_cases hia : i < a
 ·rw [if_pos (by omega), if_pos (by omega), List.take_add_one, List.getD_eq_getElem?_getD, List.getElem?_eq_getElem hi]; rfl
 rw [if_neg (by omega), if_neg (by omega), show i + 1 - a = (i - a) + 1 by omega, List.take_add_one, List.getElem?_drop, show a + (i - a) = i by omega, List.getD_eq_getElem?_getD, List.getElem?_eq_getElem hi]
 simp
theorem zr_here (l : List SRow) (a : Nat) (r : SRow) (ha : a < l.length) : zr l a r (a + 1) = (zr l a r a ++ [r]) ++ [l.getD a zRow] := by
 unfold zr
 rw [if_neg (by omega), if_pos (Nat.le_refl _), show a + 1 - a = 0 + 1 by omega, List.take_add_one, List.getElem?_drop, List.getD_eq_getElem?_getD, Nat.add_zero, List.getElem?_eq_getElem ha]
 simp
theorem first_above (l : List SRow) (d : Int) : ∃ a, a ≤ l.length ∧ (∀ j, j < a → dipN l j ≤ d) ∧ (a < l.length → d < dipN l a) := by
 have key : ∀ n, n ≤ l.length → (∃ a, a ≤ n ∧ (∀ j, j < a → dipN l j ≤ d) ∧ (a < n → d < dipN l a)) := by
  intro n
  induction n with
  | zero => intro _; exact ⟨0, Nat.le_refl _, fun j hj => by omega, fun h => by omega⟩
  | succ n ih =>
   intro hn
   obtain ⟨a, h1, h2, h3⟩ := ih (by omega)
   by_cases ha : a < n
   ·exact ⟨a, by omega, h2, fun _ => h3 ha⟩
   obtain rfl : a = n := by omega
   by_cases hd : d < dipN l a
   ·exact ⟨a, by omega, h2, fun _ => hd⟩
   exact ⟨a + 1, Nat.le_refl _, fun j hj => by rcases Nat.lt_or_eq_of_le (Nat.le_of_lt_succ hj) with h | h; exact h2 j h; rw [h]; omega, fun h => by omega⟩
 exact key l.length (Nat.le_refl _)
structure NarNet (l l' : List SRow) (p p' wa le n1 n2 n3 n4 e : Int) (k : Nat) (e' m1 m2 m3 m4 : Int) : Prop where
 err : forecourtref01_NetError.f k l' p' wa le = some e'
 net : e = 0 → e' = 0 → chart_Net.f l' p' wa le = some (m1, m2, m3, m4, 0) ∧ forecourtref01_Less.f m1 m2 n1 n2 = some false ∧ forecourtref01_Less.f n3 n4 m3 m4 = some false ∧ forecourtref01_Less.f m3 m4 m1 m2 = some false
structure NarFacts (l : List SRow) (p x0 x1 x2 : Int) (kk : Nat) (lo hi py : Int) (k : Nat) (wa le dz n1 n2 n3 n4 e ex m1 m2 m3 m4 ey o1 o2 o3 o4 : Int) (a : Nat) (bz : Bool) : Prop where
 fine : Fine l p
 read0 : forecourtlaw01_Read.f l p x0 = some wa
 read1 : forecourtlaw01_Read.f l p x1 = some le
 read2 : forecourtlaw01_Read.f l p x2 = some dz
 net : chart_Net.f l p wa le = some (n1, n2, n3, n4, e)
 err : forecourtref01_NetError.f k l p wa le = some e
 x : NarNet l (narL l kk lo hi) p p wa le n1 n2 n3 n4 e k ex m1 m2 m3 m4
 y : NarNet l l p py wa le n1 n2 n3 n4 e k ey o1 o2 o3 o4
 tight : chart_Tight.f l p = some (tightL l, 0)
 ale : a ≤ l.length
 abelow : ∀ j, j < a → dipN l j ≤ dz
 aabove : a < l.length → dz < dipN l a
 fz : forecourtlaw01_fine.f k (insL l a ⟨dz, ⟨0, 100000⟩⟩) p = some bz
 tz : bz = true → chart_Tight.f (insL l a ⟨dz, ⟨0, 100000⟩⟩) p = some (tightL (insL l a ⟨dz, ⟨0, 100000⟩⟩), 0)
 rows : ∀ i, i < l.length → lowN (insL l a ⟨dz, ⟨0, 100000⟩⟩) (sh a i) = lowN l i ∧ highN (insL l a ⟨dz, ⟨0, 100000⟩⟩) (sh a i) = highN l i
theorem net_err (l : List SRow) (p wa le n1 n2 n3 n4 e : Int) (h : chart_Net.f l p wa le = some (n1, n2, n3, n4, e)) : endsE l p wa le = e := by
 unfold chart_Net.f at h
 by_cases he : endsE l p wa le = 0
 ·rw [if_neg (by simp [he])] at h
  simp only [Option.some.injEq, Prod.mk.injEq] at h
  omega
 rw [if_pos he] at h
 simp only [Option.some.injEq, Prod.mk.injEq] at h
 omega
theorem nar_net {l l' : List SRow} {p p' wa le n1 n2 n3 n4 e : Int} (hN : Narrow l l') (hp : p' ≤ p) (hn : l.length ≤ 1000) (hnet : chart_Net.f l p wa le = some (n1, n2, n3, n4, e)) :
  ∃ K e' m1 m2 m3 m4, ∀ k, K ≤ k → NarNet l l' p p' wa le n1 n2 n3 n4 e k e' m1 m2 m3 m4 := by
 obtain ⟨K, hK⟩ := netError_ev l' p' wa le (by rw [hN.len]; exact hn)
 have he := net_err l p wa le n1 n2 n3 n4 e hnet
 by_cases h : e = 0 ∧ endsE l' p' wa le = 0
 ·obtain ⟨h1, h2⟩ := h
  subst h1
  obtain ⟨m1, m2, m3, m4, hm⟩ := net_narrow hN hp (asked_of he) (asked_of h2) hnet he h2
  exact ⟨K, _, m1, m2, m3, m4, fun k hk => ⟨hK k hk, fun _ _ => hm⟩⟩
 exact ⟨K, _, 0, 0, 0, 0, fun k hk => ⟨hK k hk, fun h1 h2 => absurd ⟨h1, h2⟩ h⟩⟩
theorem nar_facts {l : List SRow} {p : Int} (hF : Fine l p) (x0 x1 x2 : Int) (h0 : 0 ≤ x0 ∧ x0 ≤ 65535) (h1 : 0 ≤ x1 ∧ x1 ≤ 65535) (h2 : 0 ≤ x2 ∧ x2 ≤ 65535) (kk : Nat) (hk : kk < l.length) (lo hi py : Int) (hlo : loR l kk ≤ lo) (hhi : hi ≤ hiR l kk) (hpy : py ≤ p) :
  ∃ K wa le dz n1 n2 n3 n4 e ex m1 m2 m3 m4 ey o1 o2 o3 o4 a bz, ∀ k, K ≤ k → NarFacts l p x0 x1 x2 kk lo hi py k wa le dz n1 n2 n3 n4 e ex m1 m2 m3 m4 ey o1 o2 o3 o4 a bz := by
 have h16 := hF.tank.n16
 obtain ⟨wa, r0, _⟩ := read_f hF.tank x0 h0
 obtain ⟨le, r1, _⟩ := read_f hF.tank x1 h1
 obtain ⟨dz, r2, _⟩ := read_f hF.tank x2 h2
 obtain ⟨⟨n1, n2, n3, n4, e⟩, hn⟩ : ∃ r, chart_Net.f l p wa le = some r := ⟨_, rfl⟩
 obtain ⟨K1, hK1⟩ := netError_ev l p wa le (by omega)
 obtain ⟨K2, ex, m1, m2, m3, m4, hx⟩ := nar_net (p' := p) (narL_narrow hk hlo hhi) (Int.le_refl _) (by omega) hn
 obtain ⟨K3, ey, o1, o2, o3, o4, hy⟩ := nar_net (Narrow.refl l) hpy (by omega) hn
 obtain ⟨a, a1, a2, a3⟩ := first_above l dz
 obtain ⟨bz, ⟨K4, hK4⟩, hz⟩ := fine_ev (insL l a ⟨dz, ⟨0, 100000⟩⟩) p
 exact ⟨K1 + K2 + K3 + K4, wa, le, dz, n1, n2, n3, n4, e, ex, m1, m2, m3, m4, ey, o1, o2, o3, o4, a, bz, fun k hk2 => ⟨hF, r0, r1, r2, hn, (hK1 k (by omega)).trans (by rw [net_err l p wa le _ _ _ _ _ hn]), hx k (by omega), hy k (by omega), hF.tight_f, a1, a2, a3, hK4 k (by omega), fun hb => (hz hb).tight_f, fun i hi => ⟨ins_low hF.tank a _ a1 rfl i hi, ins_high hF.tank a _ a1 rfl i hi⟩⟩⟩
end Go.Proofs.Ytpkajhmchcbbhaa.P
end
section
namespace Go.Proofs.Ytpkajhmchcbbhaa.P
open Go Go.BigFrame Go.RowKit Go.Proofs.YtpkajhmchcbbhaaW.PrintWords Go.Proofs.YtpkajhmchcbbhaaW.PrintLast Go.Proofs.YtpkajhmchcbbhaaW.PrintMore
theorem cur_get {cur : Array Value} {l : List SRow} (h5 : cur.toList.take (l.length * 3) = rowsCells l) (i r : Nat) (hi : i < l.length) (hr : r < 3) : cur[i * 3 + r]? = (rowCells (l.getD i zRow))[r]? := by
 have h := rowsCells_get l i r hi hr
 rw [← h5, List.getElem?_take, if_pos (by omega)] at h
 rw [← h]
 simp
theorem nar_cells {cap : Nat} {cur : Array Value} {l : List SRow} {kk : Nat} (lo hi : Int) (hk : kk < l.length) (h2 : l.length ≤ cap) (h4 : cur.size = cap * 3) (h5 : cur.toList.take (l.length * 3) = rowsCells l) :
  ((cur.setIfInBounds (kk * 3 + 1) (.int .i64 lo)).setIfInBounds (kk * 3 + 2) (.int .i64 hi)).toList.take ((narL l kk lo hi).length * 3) = rowsCells (narL l kk lo hi) := by
 rw [narL_len]
 unfold narL
 rw [rowsCells_set l kk _ hk]
 have hd := cur_get h5 kk 0 hk (by decide)
 have hlen : (rowsCells l).length = l.length * 3 := rowsCells_len l
 have hc : cur.toList.length = cap * 3 := by rw [Array.length_toList, h4]
 have hg : ∀ j, j < l.length * 3 → cur.toList[j]? = (rowsCells l)[j]? := fun j hj => by rw [← h5, List.getElem?_take, if_pos hj]
 apply List.ext_getElem?
 intro j
 rw [List.getElem?_take, Array.toList_setIfInBounds, Array.toList_setIfInBounds, List.getElem?_set, List.getElem?_set, List.getElem?_set, List.getElem?_set, List.getElem?_set]
 simp only [List.length_set, hlen, hc]
 by_cases hj : j < l.length * 3
 ·rw [if_pos hj]
  by_cases e2 : kk * 3 + 2 = j
  ·rw [if_pos e2, if_pos e2, if_pos (by omega), if_pos (by omega)]
  rw [if_neg e2, if_neg e2]
  by_cases e1 : kk * 3 + 1 = j
  ·rw [if_pos e1, if_pos e1, if_pos (by omega), if_pos (by omega)]
  rw [if_neg e1, if_neg e1, hg j hj]
  by_cases e0 : kk * 3 = j
  ·rw [if_pos e0, if_pos (by omega), ← hg j hj, ← e0]
   rw [Nat.add_zero] at hd
   rw [Array.getElem?_toList]
   exact hd
  rw [if_neg e0]
 rw [if_neg hj, if_neg (by omega), if_neg (by omega), if_neg (by omega), List.getElem?_eq_none (by omega)]
theorem nar_own {W : World} {g cap : Nat} {cur : Array Value} {l : List SRow} {kk : Nat} (B : Nat) (lo hi : Int) (hk : kk < l.length) (h1 : W.heap[g]? = some (.cells ((cur.setIfInBounds (kk * 3 + 1) (.int .i64 lo)).setIfInBounds (kk * 3 + 2) (.int .i64 hi)) 70 (0, 0)))
  (hB : B ≤ g) (h2 : l.length ≤ cap) (h3 : cap ≤ maxLen) (h4 : cur.size = cap * 3) (h5 : cur.toList.take (l.length * 3) = rowsCells l) :
  Kd.R kRow 70 W B (fun _ => True) (.slice (some ⟨g, 0, none⟩) (narL l kk lo hi).length cap) (narL l kk lo hi) := by
 have hown : W.ownsRow B 70 3 (.slice (some ⟨g, 0, none⟩) (narL l kk lo hi).length cap) (narL l kk lo hi).length (rowsCells (narL l kk lo hi)) := by
  refine ⟨rowsCells_len _, .inr ⟨g, cap, _, rfl, hB, h1, by rw [narL_len]; exact h2, h3, by simp [h4], ?_⟩⟩
  exact nar_cells lo hi hk (by omega) h4 h5
 exact ⟨fun _ _ => trivial, _, hown, rows_reps W B _ _⟩
end Go.Proofs.Ytpkajhmchcbbhaa.P
end
