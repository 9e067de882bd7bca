/- Part 24 of 44. -/
import Derived.Test.YtpkajhmchcbbhaaL17
import Derived.Test.YtpkajhmchcbbhaaL18
import Derived.Test.YtpkajhmchcbbhaaL19
import Derived.Laws.CopyOwn
set_option linter.unusedSimpArgs false
set_option linter.unusedVariables false
section
namespace Go.Proofs.Ytpkajhmchcbbhaa.P
open Go.RowKit Go.Proofs.YtpkajhmchcbbhaaW.PrintWords Go.Proofs.YtpkajhmchcbbhaaW.PrintLast Go.Proofs.YtpkajhmchcbbhaaW.PrintMore
section
variable (ρ : Operand → Value) (d : Option Tmp) (x y : Operand) (t : TypeId) (pos : String) (af : Array Edge) (gd : Option (Nat × Bool)) (w : World)
theorem exec_load112 : Sem.run Try.prog (execOp ρ { dst := d, op := .load 112 x, type := t, pos := pos, after := af, guard := gd }) w = loadArr Try.prog 112 (ρ x) w := rfl
theorem sem_load112 (ro : Option Nat) : Sem.run Try.prog (Oper.semAt ro ρ { dst := d, op := .load 112 x, type := t, pos := pos, after := af, guard := gd }) w = loadArr Try.prog 112 (ρ x) w := by cases ro <;> rfl
theorem exec_store112 : Sem.run Try.prog (execOp ρ { dst := d, op := .store 112 x y, type := t, pos := pos, after := af, guard := gd }) w = storeArr Try.prog 112 (ρ x) (ρ y) w := rfl
theorem sem_store112 (ro : Option Nat) : Sem.run Try.prog (Oper.semAt ro ρ { dst := d, op := .store 112 x y, type := t, pos := pos, after := af, guard := gd }) w = storeArr Try.prog 112 (ρ x) (ρ y) w := by cases ro <;> rfl
theorem exec_load113 : Sem.run Try.prog (execOp ρ { dst := d, op := .load 113 x, type := t, pos := pos, after := af, guard := gd }) w = loadArr Try.prog 113 (ρ x) w := rfl
theorem sem_load113 (ro : Option Nat) : Sem.run Try.prog (Oper.semAt ro ρ { dst := d, op := .load 113 x, type := t, pos := pos, after := af, guard := gd }) w = loadArr Try.prog 113 (ρ x) w := by cases ro <;> rfl
theorem exec_store113 : Sem.run Try.prog (execOp ρ { dst := d, op := .store 113 x y, type := t, pos := pos, after := af, guard := gd }) w = storeArr Try.prog 113 (ρ x) (ρ y) w := rfl
theorem sem_store113 (ro : Option Nat) : Sem.run Try.prog (Oper.semAt ro ρ { dst := d, op := .store 113 x y, type := t, pos := pos, after := af, guard := gd }) w = storeArr Try.prog 113 (ρ x) (ρ y) w := by cases ro <;> rfl
noncomputable def buildEnd (a : Value) (w : World) : Result Next := Sem.run Try.prog (do pure (Next.value (← Instr.build 112 #[(0, a)]))) w
theorem exec_build112 : Sem.run Try.prog (execOp ρ { dst := d, op := .build 112 #[(0, x)], type := t, pos := pos, after := af, guard := gd }) w = buildEnd (ρ x) w := by simp [execOp, buildEnd]
theorem sem_build112 (ro : Option Nat) : Sem.run Try.prog (Oper.semAt ro ρ { dst := d, op := .build 112 #[(0, x)], type := t, pos := pos, after := af, guard := gd }) w = buildEnd (ρ x) w := by cases ro <;> exact exec_build112 ρ d x t pos af gd w
noncomputable def buildEnds (a b : Value) (w : World) : Result Next := Sem.run Try.prog (do pure (Next.value (← Instr.build 113 #[(0, a), (1, b)]))) w
theorem exec_build113 : Sem.run Try.prog (execOp ρ { dst := d, op := .build 113 #[(0, x), (1, y)], type := t, pos := pos, after := af, guard := gd }) w = buildEnds (ρ x) (ρ y) w := by simp [execOp, buildEnds]
theorem sem_build113 (ro : Option Nat) : Sem.run Try.prog (Oper.semAt ro ρ { dst := d, op := .build 113 #[(0, x), (1, y)], type := t, pos := pos, after := af, guard := gd }) w = buildEnds (ρ x) (ρ y) w := by cases ro <;> exact exec_build113 ρ d x y t pos af gd w
noncomputable def buildNone (w : World) : Result Next := Sem.run Try.prog (do pure (Next.value (← Instr.build 113 #[]))) w
theorem exec_none113 : Sem.run Try.prog (execOp ρ { dst := d, op := .build 113 #[], type := t, pos := pos, after := af, guard := gd }) w = buildNone w := by simp [execOp, buildNone]
theorem sem_none113 (ro : Option Nat) : Sem.run Try.prog (Oper.semAt ro ρ { dst := d, op := .build 113 #[], type := t, pos := pos, after := af, guard := gd }) w = buildNone w := by cases ro <;> exact exec_none113 ρ d t pos af gd w
end
theorem load112_at (w : World) (g k : Nat) (h : SegOk w g k 20) : loadArr Try.prog 112 (.pointer (some ⟨g, k, none⟩)) w = .ok (.value (.agg (seg w g k 20))) w := loadArr_at _ 20 (fun w => by kernel_rfl) (fun w => by kernel_rfl) w g k h
theorem store112_at (w : World) (g k : Nat) (xs : Array Value) (h : SegOk w g k 20) (hx : xs.size = 20) (hone : Ones xs) : storeArr Try.prog 112 (.pointer (some ⟨g, k, none⟩)) (.agg xs) w = .ok .skip (putSeg w g k xs.toList) := storeArr_at _ 20 (fun w => by kernel_rfl) w g k xs h hx hone
theorem store112_new (w : World) (cs : Array Value) (t : TypeId) (xs : Array Value) (hc : cs.size = 20) (hx : xs.size = 20) (hone : Ones xs) : storeArr Try.prog 112 (.pointer (some ⟨w.heap.size, 0, none⟩)) (.agg xs) (w.alloc (.cells cs t)) = .ok .skip (w.alloc (.cells xs t)) := storeArr_new _ 20 (fun w => by kernel_rfl) w cs t xs hc hx hone
theorem store112_newD (w : World) (cs : Array Value) (t : TypeId) (xs : Array Value) (hc : cs.size = 20) (hx : xs.size = 20) (hone : Ones xs) : storeArr Try.prog 112 (.pointer (some ⟨w.heap.size, 0, none⟩)) (.agg xs) (w.alloc (.cells cs t)).drew = .ok .skip (w.alloc (.cells xs t)).drew := storeArr_newD _ 20 (fun w => by kernel_rfl) w cs t xs hc hx hone
theorem load113_at (w : World) (g k : Nat) (h : SegOk w g k 40) : loadArr Try.prog 113 (.pointer (some ⟨g, k, none⟩)) w = .ok (.value (.agg (seg w g k 40))) w := loadArr_at _ 40 (fun w => by kernel_rfl) (fun w => by kernel_rfl) w g k h
theorem store113_at (w : World) (g k : Nat) (xs : Array Value) (h : SegOk w g k 40) (hx : xs.size = 40) (hone : Ones xs) : storeArr Try.prog 113 (.pointer (some ⟨g, k, none⟩)) (.agg xs) w = .ok .skip (putSeg w g k xs.toList) := storeArr_at _ 40 (fun w => by kernel_rfl) w g k xs h hx hone
theorem store113_new (w : World) (cs : Array Value) (t : TypeId) (xs : Array Value) (hc : cs.size = 40) (hx : xs.size = 40) (hone : Ones xs) : storeArr Try.prog 113 (.pointer (some ⟨w.heap.size, 0, none⟩)) (.agg xs) (w.alloc (.cells cs t)) = .ok .skip (w.alloc (.cells xs t)) := storeArr_new _ 40 (fun w => by kernel_rfl) w cs t xs hc hx hone
def endL (d0 d1 : Int) (c : List Int) (n m : Int) : List Int := d0 :: d1 :: (c ++ [n, m])
theorem endL_length (d0 d1 : Int) (c : List Int) (n m : Int) (h : c.length = 16) : (endL d0 d1 c n m).length = 20 := by simp [endL, h]
theorem buildEnd_at (d0 d1 : Int) (w : World) : buildEnd (.agg #[.int .i64 d0, .int .i64 d1]) w = .ok (.value (.agg (ints (endL d0 d1 (List.replicate 16 0) 0 0)))) w := by kernel_rfl
theorem list20 {α : Type} {l : List α} (h : l.length = 20) : ∃ x0 x1 x2 x3 x4 x5 x6 x7 x8 x9 x10 x11 x12 x13 x14 x15 x16 x17 x18 x19 : α, l = [x0, x1, x2, x3, x4, x5, x6, x7, x8, x9, x10, x11, x12, x13, x14, x15, x16, x17, x18, x19] := by
 match l, h with
 | [x0, x1, x2, x3, x4, x5, x6, x7, x8, x9, x10, x11, x12, x13, x14, x15, x16, x17, x18, x19], _ => exact ⟨x0, x1, x2, x3, x4, x5, x6, x7, x8, x9, x10, x11, x12, x13, x14, x15, x16, x17, x18, x19, rfl⟩
theorem buildEnds_at (w : World) (xs ys : Array Value) (hx : xs.size = 20) (hy : ys.size = 20) : buildEnds (.agg xs) (.agg ys) w = .ok (.value (.agg (xs ++ ys))) w := by
 obtain ⟨x0, x1, x2, x3, x4, x5, x6, x7, x8, x9, x10, x11, x12, x13, x14, x15, x16, x17, x18, x19, ex⟩ := list20 (l := xs.toList) (by simpa using hx)
 obtain ⟨y0, y1, y2, y3, y4, y5, y6, y7, y8, y9, y10, y11, y12, y13, y14, y15, y16, y17, y18, y19, ey⟩ := list20 (l := ys.toList) (by simpa using hy)
 obtain rfl : xs = #[x0, x1, x2, x3, x4, x5, x6, x7, x8, x9, x10, x11, x12, x13, x14, x15, x16, x17, x18, x19] := Array.ext' ex
 obtain rfl : ys = #[y0, y1, y2, y3, y4, y5, y6, y7, y8, y9, y10, y11, y12, y13, y14, y15, y16, y17, y18, y19] := Array.ext' ey
 kernel_rfl
theorem buildNone_at (w : World) : buildNone w = .ok (.value (.agg (ints (List.replicate 40 0)))) w := by kernel_rfl
theorem endL_put {w : World} {b t : Nat} {d0 d1 : Int} {c c' : List Int} {n m : Int} (hc : c.length = 16) (hc' : c'.length = 16) (h : w.heap[b]? = some (.cells (ints (endL d0 d1 c n m)) t (0, 0))) :
  (putSeg w b 2 (ints c').toList).heap[b]? = some (.cells (ints (endL d0 d1 c' n m)) t (0, 0)) := by
 rw [putSeg_heap _ w b 2 _ t h]
 congr 2
 apply Array.ext_getElem?
 intro i
 rw [splice_get _ _ _ _ (by simp [ints, endL, hc, hc'])]
 simp only [ints, endL, List.map_cons, List.map_append, List.map_nil, List.length_map, hc']
 by_cases h1 : 2 ≤ i ∧ i < 2 + 16
 ·obtain ⟨j, rfl⟩ : ∃ j, i = j + 2 := ⟨i - 2, by omega⟩
  rw [if_pos (by omega), Nat.add_sub_cancel]
  simp only [List.getElem?_toArray, List.getElem?_cons_succ]
  rw [List.getElem?_append_left (by simp [hc']; omega)]
 rw [if_neg h1]
 rcases Nat.lt_or_ge i 2 with h2 | h2
 ·match i, h2 with
  | 0, _ => rfl
  | 1, _ => rfl
 obtain ⟨j, rfl⟩ : ∃ j, i = j + 2 := ⟨i - 2, by omega⟩
 simp only [List.getElem?_toArray, List.getElem?_cons_succ]
 rw [List.getElem?_append_right (by simp [hc]; omega), List.getElem?_append_right (by simp [hc']; omega)]
 simp [hc, hc']
theorem endL_set18 (d0 d1 : Int) (c : List Int) (n m v : Int) (hc : c.length = 16) : (ints (endL d0 d1 c n m)).setIfInBounds 18 (.int .i64 v) = ints (endL d0 d1 c v m) := by
 rw [ints_set]; congr 1
 simp only [endL, List.set_cons_succ]
 rw [List.set_append_right _ _ (by omega), hc]; rfl
theorem endL_set19 (d0 d1 : Int) (c : List Int) (n m v : Int) (hc : c.length = 16) : (ints (endL d0 d1 c n m)).setIfInBounds 19 (.int .i64 v) = ints (endL d0 d1 c n v) := by
 rw [ints_set]; congr 1
 simp only [endL, List.set_cons_succ]
 rw [List.set_append_right _ _ (by omega), hc]; rfl
theorem endL_get18 (d0 d1 : Int) (c : List Int) (n m : Int) (hc : c.length = 16) : (ints (endL d0 d1 c n m))[18]? = some (.int .i64 n) := by
 simp [ints, endL, hc]
theorem endL_get19 (d0 d1 : Int) (c : List Int) (n m : Int) (hc : c.length = 16) : (ints (endL d0 d1 c n m))[19]? = some (.int .i64 m) := by
 simp [ints, endL, hc]
theorem run_slice_low (b k f : Nat) (h : f < 16) (w : World) : (Instr.sliceAt 97 (.pointer (some ⟨b, k, none⟩)) (some (.int .i64 f)) none none).run Try.prog w = .ok (.slice (some ⟨b, k + f, none⟩) (16 - f) (16 - f)) w := by
 have hu5 := Try.underlying97
 have hs : ∀ w, (sizeOf 2).run Try.prog w = .ok 1 w := fun w => by kernel_rfl
 have h1 : (0 : Int) ≤ f ∧ (f : Int) ≤ (16 : Nat) := by omega
 have h2 : (16 : Nat) ≠ f := by omega
 have hadd : (⟨b, k, none⟩ : Addr).add f = ⟨b, k + f, none⟩ := by unfold Addr.add; split <;> simp_all
 have h3 : f ≤ 16 := by omega
 simp [h3, Instr.sureAddr, Instr.sliceAt, Instr.slice, Instr.sliceBounds, Instr.sliceBound, run_underlying hu5, asIntOf, asAddr, h1, hs, h2, hadd]
theorem run_slice_high (b k n : Nat) (h : n ≤ 16) (w : World) : (Instr.sliceAt 97 (.pointer (some ⟨b, k, none⟩)) none (some (.int .i64 n)) none).run Try.prog w = .ok (.slice (some ⟨b, k, none⟩) n 16) w := by
 have hu5 := Try.underlying97
 have hs : ∀ w, (sizeOf 2).run Try.prog w = .ok 1 w := fun w => by kernel_rfl
 have h1 : (0 : Int) ≤ n ∧ (n : Int) ≤ (16 : Nat) := by omega
 have hadd : (⟨b, k, none⟩ : Addr).add 0 = ⟨b, k, none⟩ := by unfold Addr.add; split <;> simp_all
 simp [h,  Instr.sureAddr, Instr.sliceAt, Instr.slice, Instr.sliceBounds, Instr.sliceBound, run_underlying hu5, asIntOf, asAddr, h1, hs, addr_add0]
theorem step_copy_row {P : Program} {ops : Array Oper} {o : Oper} {a : Act} {w : World} {K : Act → World → Prop} {Q : Exit → Act → World → Prop} {E : Prop} (hgd : o.guard = none) (d s : Operand) (dT sT : TypeId)
  (ho : o.op = .call { callee := .builtin .copy, args := #[d, s], argTypes := #[dT, sT] }) (elem : TypeId) (hu : P.underlying dT = some (.slice elem)) (hsz : (P.info? elem).map (·.size) = some 1)
  (g off dLen dCap : Nat) (ad : Addr) (sLen sCap : Nat) (hd : a.eval d = .slice (some ⟨g, off, none⟩) dLen dCap) (hs : a.eval s = .slice (some ad) sLen sCap)
  (cur : List Value) (t : TypeId) (hg : w.heap[g]? = some (.cells cur.toArray t (0, 0))) (cs : List Value) (hn : cs.length = Nat.min sLen dLen)
  (hsrc : ∀ j v, cs[j]? = some v → w.cell? (ad.add j) = some v) (hfit : off + cs.length ≤ cur.length) (h1 : ∀ v ∈ cs, v.oneCell' = true)
  (h : K (a.put o.dst (goInt cs.length)) (w.setRow g (cur.take off ++ (cs ++ cur.drop (off + cs.length))).toArray)) :
  if Region.wanted o (yielded ops a.tmps) = true then Oper.wp P o a w K Q else E := by
 have hw : Region.wanted o (yielded ops a.tmps) = true := by simp [Region.wanted, hgd]
 rw [if_pos hw]
 have hrun := run_copy_row (P := P) w dT sT o.type elem g off dLen dCap ad sLen sCap cur.toArray t cs hu hsz hg hn hsrc (by simpa using hfit) h1
 unfold Oper.wp
 simp [execOp, ho, resolve, invoke, builtin, hd, hs, hrun, Result.andThen]
 exact h
theorem C_blk_at {w : World} {g t k : Nat} {cs : Array Value} {l : List Int} (h : w.heap[g]? = some (.cells cs t (0, 0))) (hl : l.length ≤ 9223372036854775807) (hc : ∀ (i : Nat) (x : Int), l[i]? = some x → cs[k + i]? = some (Value.int .i64 x)) : Kd.C (Kd.int .i64) w (some ⟨g, k, none⟩) l.length l := by
 refine ⟨rfl, hl, fun _ => ⟨_, rfl, fun j x hj => ⟨[Value.int .i64 x], rfl, rfl, fun i u hu => ?_⟩⟩⟩
 have hi : i = 0 := by
  have := (List.getElem?_eq_some_iff.1 hu).1
  simp at this; exact this
 subst hi
 have hu' : u = .int .i64 x := by simpa using hu.symm
 subst hu'
 have hadd : (⟨g, k, none⟩ : Addr).add (j * 1 + 0) = ⟨g, k + j, none⟩ := by unfold Addr.add; split <;> simp_all
 show w.cell? ((⟨g, k, none⟩ : Addr).add (j * 1 + 0)) = _
 rw [hadd, blk_cell h]
 exact hc j x hj
theorem endL_reads {w : World} {b t : Nat} {d0 d1 : Int} {c : List Int} {n m : Int} (hc : c.length = 16) (h : w.heap[b]? = some (.cells (ints (endL d0 d1 c n m)) t (0, 0))) : Kd.C (Kd.int .i64) w (some ⟨b, 2, none⟩) c.length c :=
 C_blk_at h (by omega) (fun i x hx => by
  have hi := (List.getElem?_eq_some_iff.1 hx).1
  simp only [ints, endL, List.map_cons, List.map_append, List.getElem?_toArray, Nat.add_comm 2 i, List.getElem?_cons_succ]
  rw [List.getElem?_append_left (by simpa using hi), List.getElem?_map, hx]
  rfl)
end Go.Proofs.Ytpkajhmchcbbhaa.P
end
section
namespace Go.Proofs.Ytpkajhmchcbbhaa.P
open Go.RowKit Go.Proofs.YtpkajhmchcbbhaaW.PrintWords Go.Proofs.YtpkajhmchcbbhaaW.PrintLast Go.Proofs.YtpkajhmchcbbhaaW.PrintMore
attribute [local go_sem ↓] exec_load97 exec_store97 sem_load97 sem_store97
attribute [local go_sem] load97_at store97_at SegOk_alloc seg_alloc SegOk_drew seg_drew SegOk_drewN seg_drewN ints_size Ones_ints store97_new store97_newD run_slice_low run_slice_high
theorem wts_in16 {l : List SRow} (h : DipOk l) (dip : Int) (h0 : 0 ≤ dip) (h1 : dip ≤ 4000) : ∀ x, x ∈ wts l dip → -100000000 ≤ x ∧ x ≤ 100000000 := by
 intro x hx
 obtain ⟨i, hi, rfl⟩ := List.getElem_of_mem hx
 have := wts_within h dip h0 h1 i (by rw [wts_length] at hi; exact hi)
 rw [List.getD_eq_getElem?_getD, List.getElem?_eq_getElem hi] at this
 simp only [Option.getD_some] at this
 omega
theorem mul_den {x y : Int} (hx : -4000 ≤ x ∧ x ≤ 4000) (hy : 0 ≤ y ∧ y ≤ 100000) : -400000000 ≤ x * y ∧ x * y ≤ 400000000 := by
 have a1 : 0 ≤ (4000 - x) * (100000 - y) := Int.mul_nonneg (by omega) (by omega)
 have a2 : 0 ≤ (4000 + x) * y := Int.mul_nonneg (by omega) (by omega)
 have a3 : 0 ≤ (4000 - x) * y := Int.mul_nonneg (by omega) (by omega)
 simp only [Int.sub_mul, Int.mul_sub, Int.add_mul] at a1 a2 a3
 omega
structure Caught (w : World) (Bg Bt Bl g : Nat) (A : Option Addr) (c : Nat) (l : List SRow) (p litres : Int) : Prop where
 cg : w.heap[Bg]? = some (.cells #[.pointer (some ⟨g, 0, none⟩)] 90 (0, 0))
 ct : w.heap[Bt]? = some (.cells #[.slice A l.length c, .int .i64 p] 24 (0, 0))
 cl : w.heap[Bl]? = some (.cells #[.int .i64 litres] 2 (0, 0))
 G : Gauge w g A l.length c p (LowAt l l.length) (HighAt l l.length)
 R : Kd.C kRow w A l.length l
theorem Caught.below {w w1 : World} {Bg Bt Bl g : Nat} {A : Option Addr} {c : Nat} {l : List SRow} {p litres : Int} (h : Caught w Bg Bt Bl g A c l p litres) (hb : Below w.heap.size w w1) : Caught w1 Bg Bt Bl g A c l p litres :=
 ⟨below_blk hb h.cg (blk_lt h.cg), below_blk hb h.ct (blk_lt h.ct), below_blk hb h.cl (blk_lt h.cl), h.G.below hb, Kd.C_below h.R hb⟩
set_option maxRecDepth 100000 in
set_option maxHeartbeats 2000000 in
theorem over_calls (all : List Int) (h16 : all.length = 16) (hall : ∀ x, x ∈ all → 0 ≤ x ∧ x ≤ 100000) (Bg Bt Bl g : Nat) (A : Option Addr) (c : Nat) (l : List SRow) (p litres dip : Int) (w : World) (hC : Caught w Bg Bt Bl g A c l p litres) (hT : TankOk l p)
  (h0 : 0 ≤ litres) (h1 : litres ≤ 100000) (h2 : 0 ≤ dip) (h3 : dip ≤ 4000) :
  Calls Try.prog 71 #[.agg (ints all), .int .i64 dip, .pointer (some ⟨Bg, 0, none⟩), .pointer (some ⟨Bt, 0, none⟩), .pointer (some ⟨Bl, 0, none⟩)] w fun e w' => e = .returned (.int .i64 (overF l (all.take l.length) litres dip)) ∧ Below w.heap.size w w' := by
 have HC := Aside0.mk hC
 have HT := Aside0.mk hT
 have HA := Aside0.mk hall
 have HL := Lib.hid h16
 have hu1 := Try.underlying24
 have hu5 := Try.underlying97
 have hcg := cell_of_one hC.cg
 have hlg := blk_lt hC.cg
 clear hC hT hall h16
 go_enter Try.func71, Try.ntmps71
 go_wp2_with fail
 have hB0 : Below w.heap.size w (w.alloc (.cells (ints all) 97)) := (Below.refl _ _).alloc (Nat.le_refl _) _
 refine (weigh_calls g A c l p _ _ dip _ (HC.out.below hB0).R HT.out.dipOk (by omega) (by omega) (HC.out.below hB0).G).mono ?_
 rintro e w1 ⟨rfl, hB1⟩
 have K0 := Aside0.mk (below_blk hB1 (blk_new w (.cells (ints all) 97)) (by simp))
 have KB := Aside0.mk (below_then hB0 hB1)
 clear hB0 hB1 hcg hlg
 have hwl := wts_length l dip
 have HWB := Aside0.mk (wts_in16 HT.out.dipOk dip h2 h3)
 have hwd := wden_within HT.out.dipOk dip
 have HO := Lib.hid (show overF l (all.take l.length) litres dip = dot (wts l dip) (all.take l.length) - wden l dip * litres from rfl)
 obtain ⟨W, hW⟩ : ∃ W, W = wts l dip := ⟨_, rfl⟩
 obtain ⟨den, hdn⟩ : ∃ den, den = wden l dip := ⟨_, rfl⟩
 rw [← hW] at hwl HWB HO ⊢
 rw [← hdn] at hwd HO ⊢
 clear hW hdn
 go_wp2_with fail
 obtain ⟨W2, hW2⟩ : ∃ W2, w1.alloc (.cells (ints W) 97) = W2 := ⟨_, rfl⟩
 have hb2 : Below w1.heap.size w1 W2 := by rw [← hW2]; exact (Below.refl _ _).alloc (Nat.le_refl _) _
 have hbw := below_then KB.out hb2
 have M0 := Aside0.mk (below_blk hb2 K0.out (blk_lt K0.out))
 have M1 : Aside0 (W2.heap[w1.heap.size]? = some (.cells (ints W) 97 (0, 0))) := ⟨by rw [← hW2]; exact blk_new _ _⟩
 try rw [hW2]
 have hC2 := HC.out.below hbw
 have c1 : W2.cell? ⟨Bt, 0, none⟩ = some (.slice A l.length c) := blk_cell hC2.ct 0
 have c2 : W2.cell? ⟨Bl, 0, none⟩ = some (.int .i64 litres) := blk_cell hC2.cl 0
 have hS := SegOk.mk' M1.out 0 16 (by simp [ints, hwl])
 have hV := seg_whole (n := 16) M1.out (by simp [ints, hwl])
 have n16 : l.length ≤ 16 := HT.out.n16
 have HB2 := Aside0.mk hbw
 clear hW2 hb2 hbw hC2
 obtain ⟨s1, s2⟩ := mul_den hwd ⟨h0, h1⟩
 (refine start_ (n := 11) (S := fun w' => Below (World.heap _).size _ w') (ds := []) (List.toArray (false :: false :: false :: false :: false :: false :: false :: false :: false :: false :: false :: [])) (by kernel_rfl) rfl rfl (belowDrew _) (fun plS => ?_); refine pureY (i := 1) (N := (some 17)) ?_; refine pureY (i := 6) (N := (some 22)) ?_; refine takeF (i := 0) (N := (some 16)) (hS := plS) (hy := by (intro w' hw'; replace hw' : Below (World.heap W2).size W2 w' := hw'; have q0 := pw_cell_below hw' c1; have q1 := pw_cell_below hw' c2; have q2 := seg_below hw' hS hV; have r2 := segOk_below hw' hS; exact yieldA)) (h := ?_); refine takeF (i := 2) (N := (some 18)) (hS := plS) (hy := by (intro w' hw'; replace hw' : Below (World.heap W2).size W2 w' := hw'; have q0 := pw_cell_below hw' c1; have q1 := pw_cell_below hw' c2; have q2 := seg_below hw' hS hV; have r2 := segOk_below hw' hS; exact yieldA)) (h := ?_); refine pureY (i := 3) (N := (some 19)) ?_; refine pureY (i := 4) (N := (some 20)) ?_; refine takeF (i := 7) (N := (some 23)) (hS := plS) (hy := by (intro w' hw'; replace hw' : Below (World.heap W2).size W2 w' := hw'; have q0 := pw_cell_below hw' c1; have q1 := pw_cell_below hw' c2; have q2 := seg_below hw' hS hV; have r2 := segOk_below hw' hS; exact yieldA)) (h := ?_); refine pureY (i := 8) (N := (some 24)) ?_; refine oneY (i := 5) (fun plK plH => ?_); rw [if_pos (by rfl)]; (first | gi_big_move | go_big_op | go_simp))
 have hlt : (all.take l.length).length = l.length := by rw [List.length_take, HL.out]; omega
 have hrd : Kd.C (Kd.int .i64) W2.drew (some ⟨w.heap.size, 0, none⟩) (all.take l.length).length (all.take l.length) := C_blk (show W2.drew.heap[w.heap.size]? = _ from M0.out) (by omega) (fun i x hx => by
  have hi := (List.getElem?_eq_some_iff.1 hx).1
  rw [List.getElem?_take_of_lt (by omega)] at hx
  simp [ints, hx])
 have hsum := sum_calls W hwl HWB.out (some ⟨w.heap.size, 0, none⟩) 16 (all.take l.length) (by omega) (fun x hx => by have := HA.out x (List.mem_of_mem_take hx); omega) _ hrd
 rw [hlt] at hsum
 refine hsum.mono ?_
 rintro e w3 ⟨rfl, hB3⟩
 have hdb := dot_within W (all.take l.length) HWB.out (fun x hx => by have := HA.out x (List.mem_of_mem_take hx); omega)
 rw [hlt] at hdb
 obtain ⟨S, hS'⟩ : ∃ S, S = dot W (all.take l.length) := ⟨_, rfl⟩
 rw [← hS'] at hdb HO ⊢
 have hdb1 : -1600000000000000 ≤ S := by omega
 have hdb2 : S ≤ 1600000000000000 := by omega
 have hB4 := (belowDrew W2).trans hB3
 have HB5 := Aside0.mk (below_then HB2.out hB4)
 clear hS' hdb hsum hrd hlt
 ((try simp only [Act.put, List.getElem_toArray, List.getElem_cons_succ, List.getElem_cons_zero, List.setIfInBounds_toArray, List.set_cons_succ, List.set_cons_zero]); refine plH _ _ hB4 (fun plS => ?_); clear plH plK; refine pureY (i := 9) (N := (some 25)) ?_; refine pureY (i := 10) (N := (some 7)) ?_; refine done_ (by kernel_rfl) ?_)
 go_wp2
 go_ret
 exact ⟨ret_int HO.out.symm, HB5.out⟩
theorem highs_take {l : List SRow} (h16 : l.length ≤ 16) : (HighAt l l.length).take l.length = highs l := by
 apply List.ext_getElem
 ·simp [HighAt, padRow, highs]; omega
 intro i h1 h2
 have hi : i < l.length := by simpa [highs] using h2
 simp [HighAt, padRow, highs, hi]
theorem lows_take {l : List SRow} (h16 : l.length ≤ 16) : (LowAt l l.length).take l.length = lows l := by
 apply List.ext_getElem
 ·simp [LowAt, padRow, lows]; omega
 intro i h1 h2
 have hi : i < l.length := by simpa [lows] using h2
 simp [LowAt, padRow, lows, hi]
set_option maxRecDepth 100000 in
set_option maxHeartbeats 2000000 in
theorem dips2_calls (Bo Bg Bt Bl g : Nat) (A : Option Addr) (c : Nat) (l : List SRow) (p litres dip : Int) (w : World) (hC : Caught w Bg Bt Bl g A c l p litres) (hT : TankOk l p)
  (ho : w.heap[Bo]? = some (.cells #[.func (.func 71) #[] #[.pointer (some ⟨Bg, 0, none⟩), .pointer (some ⟨Bt, 0, none⟩), .pointer (some ⟨Bl, 0, none⟩)]] 119 (0, 0)))
  (h0 : 0 ≤ litres) (h1 : litres ≤ 100000) (h2 : 0 ≤ dip) (h3 : dip ≤ 4000) :
  Calls Try.prog 73 #[.int .i64 dip, .pointer (some ⟨Bo, 0, none⟩), .pointer (some ⟨Bg, 0, none⟩)] w fun e w' => e = .returned (.bool (decide (0 ≤ overF l (highs l) litres dip))) ∧ Below w.heap.size w w' := by
 have hco := cell_of_one ho
 have hcg := cell_of_one hC.cg
 have hgl := hC.G.lt
 obtain ⟨hS, hV⟩ := hC.G.segH
 have HC := Aside0.mk hC
 have HT := Aside0.mk hT
 have HH : Aside0 ((HighAt l l.length).length = 16) := ⟨padRow_length _ _⟩
 have HI := Aside0.mk hT.highAt_in
 have HTK := Lib.hid (highs_take hT.n16)
 have hu3 := Try.underlying99
 clear hC hT ho
 go_enter Try.func73, Try.ntmps73
 go_wp2_with fail
 (refine start_ (n := 9) (S := fun w' => w' = _) (ds := [6]) (List.toArray (false :: false :: false :: false :: false :: false :: false :: false :: false :: [])) (by kernel_rfl) rfl rfl rfl (fun plS => ?_); clear plS; refine pureY (i := 5) (N := (some 10)) ?_; refine takeE (i := 0) (N := (some 5)) ?_; refine takeE (i := 1) (N := (some 6)) ?_; refine pureY (i := 2) (N := (some 7)) ?_; refine pureY (i := 3) (N := (some 8)) ?_; refine takeE (i := 4) (N := (some 9)) ?_; refine lastY (i := 6) (fun plK plH => ?_); rw [if_pos (by rfl)]; (first | gi_big_move | go_big_op | go_simp))
 refine (over_calls (HighAt l l.length) HH.out HI.out Bg Bt Bl g A c l p litres dip w.drew (HC.out.below (belowDrew w)) HT.out h0 h1 h2 h3).mono ?_
 rintro e w1 ⟨rfl, hB1⟩
 rw [HTK.out]
 have HB := Aside0.mk ((belowDrew w).trans hB1)
 clear hB1
 ((try simp only [Act.put, List.getElem_toArray, List.getElem_cons_succ, List.getElem_cons_zero, List.setIfInBounds_toArray, List.set_cons_succ, List.set_cons_zero]); refine plH _ _ ?_; clear plH plK; refine pureY (i := 7) (N := (some 12)) ?_; refine pureY (i := 8) (N := (some 4)) ?_; refine done_ (by kernel_rfl) ?_)
 go_wp2
 go_ret
 exact ⟨rfl, HB.out⟩
set_option maxRecDepth 100000 in
set_option maxHeartbeats 2000000 in
theorem dips3_calls (Bo Bg Bt Bl g : Nat) (A : Option Addr) (c : Nat) (l : List SRow) (p litres dip : Int) (w : World) (hC : Caught w Bg Bt Bl g A c l p litres) (hT : TankOk l p)
  (ho : w.heap[Bo]? = some (.cells #[.func (.func 71) #[] #[.pointer (some ⟨Bg, 0, none⟩), .pointer (some ⟨Bt, 0, none⟩), .pointer (some ⟨Bl, 0, none⟩)]] 119 (0, 0)))
  (h0 : 0 ≤ litres) (h1 : litres ≤ 100000) (h2 : 0 ≤ dip) (h3 : dip ≤ 4000) :
  Calls Try.prog 74 #[.int .i64 dip, .pointer (some ⟨Bo, 0, none⟩), .pointer (some ⟨Bg, 0, none⟩)] w fun e w' => e = .returned (.bool (decide (0 < overF l (lows l) litres dip))) ∧ Below w.heap.size w w' := by
 have hco := cell_of_one ho
 have hcg := cell_of_one hC.cg
 have hgl := hC.G.lt
 obtain ⟨hS, hV⟩ := hC.G.segL
 have HC := Aside0.mk hC
 have HT := Aside0.mk hT
 have HH : Aside0 ((LowAt l l.length).length = 16) := ⟨padRow_length _ _⟩
 have HI := Aside0.mk hT.lowAt_in
 have HTK := Lib.hid (lows_take hT.n16)
 have hu3 := Try.underlying99
 clear hC hT ho
 go_enter Try.func74, Try.ntmps74
 go_wp2_with fail
 (refine start_ (n := 9) (S := fun w' => w' = _) (ds := [6]) (List.toArray (false :: false :: false :: false :: false :: false :: false :: false :: false :: [])) (by kernel_rfl) rfl rfl rfl (fun plS => ?_); clear plS; refine pureY (i := 5) (N := (some 10)) ?_; refine takeE (i := 0) (N := (some 5)) ?_; refine takeE (i := 1) (N := (some 6)) ?_; refine pureY (i := 2) (N := (some 7)) ?_; refine pureY (i := 3) (N := (some 8)) ?_; refine takeE (i := 4) (N := (some 9)) ?_; refine lastY (i := 6) (fun plK plH => ?_); rw [if_pos (by rfl)]; (first | gi_big_move | go_big_op | go_simp))
 refine (over_calls (LowAt l l.length) HH.out HI.out Bg Bt Bl g A c l p litres dip w.drew (HC.out.below (belowDrew w)) HT.out h0 h1 h2 h3).mono ?_
 rintro e w1 ⟨rfl, hB1⟩
 rw [HTK.out]
 have HB := Aside0.mk ((belowDrew w).trans hB1)
 clear hB1
 ((try simp only [Act.put, List.getElem_toArray, List.getElem_cons_succ, List.getElem_cons_zero, List.setIfInBounds_toArray, List.set_cons_succ, List.set_cons_zero]); refine plH _ _ ?_; clear plH plK; refine pureY (i := 7) (N := (some 12)) ?_; refine pureY (i := 8) (N := (some 4)) ?_; refine done_ (by kernel_rfl) ?_)
 go_wp2
 go_ret
 exact ⟨rfl, HB.out⟩
end Go.Proofs.Ytpkajhmchcbbhaa.P
end
