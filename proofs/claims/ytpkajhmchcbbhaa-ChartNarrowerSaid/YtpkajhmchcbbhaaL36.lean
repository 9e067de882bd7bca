/- Part 36 of 44. -/
import Derived.Test.YtpkajhmchcbbhaaL34
import Derived.Test.YtpkajhmchcbbhaaL17
import Derived.Test.YtpkajhmchcbbhaaL21
import Derived.Deep.RegionLaw
import Derived.Deep.RegionLawGrows
set_option linter.unusedSimpArgs false
set_option linter.unusedVariables false
section
namespace Go.Proofs.Ytpkajhmchcbbhaa.P
open Go.RowKit Go.Proofs.YtpkajhmchcbbhaaW.PrintWords Go.Proofs.YtpkajhmchcbbhaaW.PrintLast Go.Proofs.YtpkajhmchcbbhaaW.PrintMore
attribute [local go_sem] Oper.semAt_some
theorem run_slice3 (g n cap : Nat) (h : n ≤ cap) (w : World) : (Instr.sliceAt 28 (.slice (some ⟨g, 0, none⟩) n cap) none (some (.int .i64 n)) (some (.int .i64 n))).run Try.prog w = .ok (.slice (some ⟨g, 0, none⟩) n n) w := by
 have hu5 := Try.underlying28
 have hs : ∀ w, (sizeOf 43).run Try.prog w = .ok 2 w := fun w => by kernel_rfl
 have h1 : (0 : Int) ≤ n ∧ (n : Int) ≤ (cap : Nat) := by omega
 have hadd : (⟨g, 0, none⟩ : Addr).add 0 = ⟨g, 0, none⟩ := by unfold Addr.add; split <;> simp_all
 simp [h, Instr.sureAddr, Instr.sliceAt, Instr.slice, Instr.sliceBounds, Instr.sliceBound, run_underlying hu5, asIntOf, asAddr, h1, hs, addr_add0, hadd]
theorem run_slice3n (w : World) : (Instr.sliceAt 28 (.slice none 0 0) none (some (.int .i64 0)) (some (.int .i64 0))).run Try.prog w = .ok (.slice none 0 0) w := by
 have hu5 := Try.underlying28
 have hs : ∀ w, (sizeOf 43).run Try.prog w = .ok 2 w := fun w => by kernel_rfl
 simp [Instr.sureAddr, Instr.sliceAt, Instr.slice, Instr.sliceBounds, Instr.sliceBound, run_underlying hu5, asIntOf, asAddr, hs]
attribute [local go_sem] run_slice3 run_slice3n
theorem results_tmp2 {fn : Func} {tmps : Array Value} {w : World} {a b : Nat} (hr : fn.results = #[.tmp a, .tmp b]) : (results fn tmps).run Try.prog w = .ok (.tuple #[tmps.getD a undef, tmps.getD b undef]) w := by simp [results, hr]
theorem info_range : ∃ i, Try.prog.info? 43 = some i ∧ i.zero = some (.agg #[.int .i64 0, .int .i64 0]) ∧ i.size = 2 ∧ i.bytes = 16 := by
 have h : (Try.prog.info? 43).map (fun i => (i.zero, i.size, i.bytes)) = some (some (.agg #[.int .i64 0, .int .i64 0]), 2, 16) := by kernel_rfl
 cases hq : Try.prog.info? 43 with
 | none => rw [hq] at h; cases h
 | some i => rw [hq] at h; simp at h; exact ⟨i, rfl, h.1, h.2.1, h.2.2⟩
def rowsFlat (l : List SRow) {N : Nat} (pre : List (Fin N)) : List Value := pre.flatMap fun x => [.int .i64 (lowN l x.val), .int .i64 (highN l x.val)]
theorem ownRowFrom {β : Type} {B ob base e sz t : Nat} (n : β → Nat) (f : β → List Value) : OwnFrom B (fun (x : β) W => ∃ v, W.heap[ob]? = some (Obj.cells #[v] t (0, 0)) ∧ W.ownsRow base e sz v (n x) (f x)) := by
 intro s W W' row hs hg hr
 obtain ⟨v, h1, h2⟩ := hs
 refine ⟨v, grow_blk h1 hg (fun r e => (hr r e).2), own_move h2 (fun k hk => ?_)⟩
 obtain ⟨cs, hc⟩ := own_typed h2 k hk
 exact (grow_blk hc hg (fun r e => (hr r e).2)).trans hc.symm
theorem reps_map {α β : Type} {R : α → List Value → Prop} {size : Nat} (f : β → α) (g : β → List Value) (h : ∀ x, R (f x) (g x) ∧ (g x).length = size) : ∀ (l : List β), Reps R size (l.map f) (l.flatMap g) := by
 have key : ∀ (l : List β) (ps : List α) (cs : List Value), Reps R size ps cs → Reps R size (ps ++ l.map f) (cs ++ l.flatMap g) := by
  intro l
  induction l with
  | nil => intro ps cs hr; simpa using hr
  | cons x l ih =>
   intro ps cs hr
   have h1 := ih _ _ (hr.snoc (h x).1 (h x).2)
   simpa [List.flatMap_cons] using h1
 intro l
 exact key l [] [] (Reps.none _ _)
theorem tight_reps (w : World) (base : Nat) (ok : Nat → Prop) (l : List SRow) (h : True) : Reps (Kd.M k43 w base ok) 2 (tightL l) (rowsFlat l (rowAll l.length false)) := by
 have e1 : tightL l = (rowAll l.length false).map (fun x => (⟨lowN l x.val, highN l x.val⟩ : SRange)) := by
  apply List.ext_getElem
  ·rw [List.length_map, rowAll_length]; simp [tightL]
  intro i h1 h2
  simp [tightL, rowAll]
 rw [e1]
 exact reps_map _ _ (fun (x : Fin l.length) => ⟨k43_mkM w base ok (⟨lowN l x.val, highN l x.val⟩ : SRange), rfl⟩) _
set_option maxRecDepth 100000 in
set_option maxHeartbeats 40000000 in
theorem chart_Tight.calls (A0_0 : Option Addr) (c0_0 : Nat) (l0_0 : List SRow) (a0_1 : Int) (r1 : List SRange) (r2 : Int) (w : World) (hr0_0 : Kd.C kRow w A0_0 l0_0.length l0_0) (hc0_0 : l0_0.length ≤ c0_0) (h : chart_Tight.f l0_0 a0_1 = some (r1, r2)) :
  Calls Try.prog 17 #[.agg #[.slice A0_0 l0_0.length c0_0, .int .i64 a0_1]] w fun e w' => ∃ v0_ : Value, e = .returned (.tuple #[v0_, .int .i64 r2]) ∧ Kd.R k43 43 w' w.heap.size (fun _ => True) v0_ r1 ∧ Below w.heap.size w w' := by
 have HR := Aside0.mk hr0_0
 have HC := Aside0.mk hc0_0
 have HE := Aside0.mk (Option.some.inj h)
 clear hr0_0 hc0_0 h
 have hu1 := Try.underlying24
 have hu3 := Try.underlying99
 have hu4 := Try.underlying43
 have hu5 := Try.underlying97
 have hu6 := Try.underlying28
 refine (callsIn_wide (n := 10)).1 ?_
 refine callsIn_of_wp_marks Try.func17 rfl trivial ?_ rfl
 simp only [Try.ntmps17, List.size_toArray, List.length_cons, List.length_nil, Nat.reduceAdd, Nat.reduceSub, Array.replicate_succ, Array.replicate_zero, List.push_toArray, List.append_toArray, List.nil_append, List.cons_append]
 gi_wp2_with fail
 have hB0 : Below w.heap.size w (w.alloc (.cells #[.slice A0_0 l0_0.length c0_0, .int .i64 a0_1] 24)) := (Below.refl _ _).alloc (Nat.le_refl _) _
 refine ⟨trivial, (callsIn_wide.2 (open_calls A0_0 c0_0 l0_0 a0_1 none 0 [] _ (Kd.C_below HR.out hB0) HC.out (C_none _) (Nat.le_refl _))).mono ?_⟩
 rintro e w3 ⟨hB3, hO⟩
 have hs3 : w.heap.size + 1 ≤ w3.heap.size := by have := hB3.size; simp at this; omega
 have MB := Aside0.mk (below_then hB0 hB3)
 clear hB0 hB3
 rcases hO with ⟨hne, rfl⟩ | ⟨heq, g, rfl, hg0, hG⟩
 ·have he := HE.out
  rw [if_neg hne] at he
  simp only [Prod.mk.injEq] at he
  obtain ⟨rfl, rfl⟩ := he
  clear HE
  obtain ⟨E, hE⟩ : ∃ E, E = openE l0_0 a0_1 [] := ⟨_, rfl⟩
  rw [← hE] at hne ⊢
  have HEQ := Lib.hid hE
  clear hE
  gi_wp2_with fail
  refine leaves_marks [] _ (Marks.nil _) ?_
  intro W8 hb8 _
  refine ⟨.tuple #[.slice none 0 0, .int .i64 E], results_tmp2 (a := 2) (b := 3) rfl, .slice none 0 0, by rw [HEQ.out], Kd.R_nil _ _ _ _ _, ?_⟩
  exact (MB.out.alloc (by omega) _).trans (hb8.nil.mono (by simp; omega))
 have he := HE.out
 rw [if_pos heq] at he
 simp only [Prod.mk.injEq] at he
 obtain ⟨rfl, rfl⟩ := he
 have HT := Aside0.mk (tankOk_of (openE_in heq).1)
 have HG := Aside0.mk hG
 clear HE heq hG
 gi_wp2_with fail
 obtain ⟨V1, hV1⟩ : ∃ V, (w3.alloc (.cells #[.pointer (some ⟨g, 0, none⟩)] 90)).alloc (.cells #[.slice none 0 0] 28) = V := ⟨_, rfl⟩
 obtain ⟨b, hb⟩ : ∃ b, b = w3.heap.size := ⟨_, rfl⟩
 have N0 : Aside0 (V1.heap[b]? = some (.cells #[.pointer (some ⟨g, 0, none⟩)] 90 (0, 0))) := ⟨by rw [← hV1, hb]; exact blk_old (blk_new _ _)⟩
 have N1 : Aside0 (V1.heap[b + 1]? = some (.cells #[.slice none 0 0] 28 (0, 0))) := ⟨by rw [← hV1, hb]; exact blk_new' (by simp)⟩
 have NB : Aside0 (Below w.heap.size w V1) := ⟨by rw [← hV1]; exact (MB.out.alloc (by omega) _).alloc (by simp; omega) _⟩
 have NG := Aside0.mk (HG.out.below (show Below w3.heap.size w3 V1 by rw [← hV1]; exact ((Below.refl _ _).alloc (Nat.le_refl _) _).alloc (by simp) _))
 have hsV : V1.heap.size = b + 2 := by rw [← hV1, hb]; simp
 rw [hV1, ← hb]
 rw [← hb] at hs3
 clear hV1 hb MB HG w3
 have hcG := NG.out.c0
 have hglt := NG.out.lt
 refine ⟨trivial, (callsIn_wide.2 (rows_calls g A0_0 l0_0.length c0_0 false V1 hcG)).mono ?_⟩
 rintro e W2 ⟨rfl, hW2⟩
 have K0 : Aside0 (W2.heap[b]? = some (.cells #[.pointer (some ⟨g, 0, none⟩)] 90 (0, 0))) := ⟨by rw [hW2]; exact blk_old (blk_old N0.out)⟩
 have K1 : Aside0 (W2.heap[b + 1]? = some (.cells #[.slice none 0 0] 28 (0, 0))) := ⟨by rw [hW2]; exact blk_old (blk_old N1.out)⟩
 have KB : Aside0 (Below w.heap.size w W2) := ⟨by rw [hW2]; exact (NB.out.alloc NB.out.size _).alloc (by simp; have := NB.out.size; omega) _⟩
 have KG := Aside0.mk (NG.out.below (show Below V1.heap.size V1 W2 by rw [hW2]; exact ((Below.refl _ _).alloc (Nat.le_refl _) _).alloc (by simp) _))
 have hbb : W2.heap[b + 2]? = some (Obj.cells #[.bool false] 4 (0, 0)) := by rw [hW2]; exact blk_old (blk_new' hsV.symm)
 have hbn : W2.heap[b + 3]? = some (Obj.cells #[.int .i64 l0_0.length] 3 (0, 0)) := by rw [hW2]; exact blk_new' (by simp; omega)
 have hs2 : W2.heap.size = b + 4 := by rw [hW2]; simp; omega
 rw [hsV]
 clear hW2 hcG hglt hsV N0 N1 NB NG V1
 have h16 : l0_0.length ≤ 16 := HT.out.n16
 gi_wp2_with fail
 (refine rowsRangeG 10 (b + 3)  (b + 2)  l0_0.length  false  (by omega) rfl ?hBn ?hBb ?hN (fun pre W' => W'.heap[b]? = some (.cells #[.pointer (some ⟨g, 0, none⟩)] 90 (0, 0)) ∧ (∃ v, W'.heap[b + 1]? = some (.cells #[v] 28 (0, 0)) ∧ W'.ownsRow w.heap.size 43 2 v pre.length (rowsFlat l0_0 pre)) ∧ Gauge W' g A0_0 l0_0.length c0_0 a0_1 (LowAt l0_0 l0_0.length) (HighAt l0_0 l0_0.length) ∧ But [] w W')  (fun _ _ _ => False)  ?hJ ?hJx ?h0 (fun x => Go.Act.mk #[Go.Value.agg #[Go.Value.slice A0_0 (List.length l0_0) c0_0, Go.Value.int Go.IntKind.i64 a0_1], Go.Value.pointer (Option.some (Go.Addr.mk (Array.size (Go.World.heap w)) 0 Option.none)), Go.Value.slice Option.none 0 0, Go.Value.int Go.IntKind.i64 0, Go.Value.pointer (Option.some (Go.Addr.mk b 0 Option.none)), Go.Value.int Go.IntKind.i64 0, Go.Value.pointer (Option.some (Go.Addr.mk (b + 1) 0 Option.none)), Go.Value.int Go.IntKind.i64 (Nat.cast (Fin.val x)), Go.Value.tuple #[Go.Value.pointer (Option.some (Go.Addr.mk g 0 Option.none)), Go.Value.int Go.IntKind.i64 0], Go.Value.agg #[Go.Value.slice A0_0 (List.length l0_0) c0_0, Go.Value.int Go.IntKind.i64 a0_1], Go.Value.tuple #[Go.Value.pointer (Option.some (Go.Addr.mk g 0 Option.none)), Go.Value.int Go.IntKind.i64 0], Go.Value.pointer (Option.some (Go.Addr.mk g 0 Option.none)), Go.Value.int Go.IntKind.i64 0, Go.Value.int Go.IntKind.i64 0, Go.Value.bool Bool.false, Go.undef, Go.Value.pointer (Option.some (Go.Addr.mk g 0 Option.none)), Go.Value.func (Go.Fn.func 76) #[] #[Go.Value.pointer (Option.some (Go.Addr.mk (b + 2 + 1) 0 Option.none)), Go.Value.pointer (Option.some (Go.Addr.mk (b + 2) 0 Option.none))], Go.Value.int Go.IntKind.i64 (Nat.cast (Fin.val x)), Go.undef, Go.undef, Go.undef, Go.undef, Go.undef, Go.undef, Go.undef, Go.undef, Go.undef, Go.undef, Go.undef, Go.undef, Go.undef, Go.undef, Go.undef, Go.undef, Go.undef, Go.undef, Go.undef, Go.undef, Go.undef, Go.undef] []) ?hassign ?hbody ?hdone ?hstop)
 case hBn => exact hbn
 case hBb => exact hbb
 case hN => omega
 case hJ => exact .and (ownBlk _) (.and (ownRowFrom _ _) (.and (ownGauge _ _) (ownBut (by have := KB.out.size; omega))))
 case hJx => exact fun _ _ _ _ _ h _ _ => h
 case h0 => exact ⟨K0.out, ⟨_, K1.out, own_nil _ _ _ _⟩, KG.out, Below.but KB.out _⟩
 case hstop => exact fun _ _ _ _ _ _ h => h.elim
 case hassign =>
  intro l0 x W' K hK
  gi_wp2
  exact hK
 case hbody =>
  intro l0 pre x W' hplen hJ hbn' hbb'
  obtain ⟨i, hil⟩ := x
  obtain ⟨j0, ⟨v, jv, jo⟩, jG, jB⟩ := hJ
  have i16 : i < 16 := by omega
  have hcg := cell_of_one j0
  have hcl := jG.cl i i16
  have hch := jG.ch i i16
  rw [LowAt_get l0_0 i hil h16] at hcl
  rw [HighAt_get l0_0 i hil h16] at hch
  have hgl := jG.lt
  have hlob := HT.out.lowN_in i hil
  have hhib := HT.out.highN_in i hil
  obtain ⟨ii, hi1, hi2, hi3, hi4⟩ := info_range
  have HI := Aside0.mk (And.intro hi1 (And.intro hi2 (And.intro hi3 hi4)))
  have J0 := Aside0.mk j0
  have JV := Aside0.mk jv
  have JO := Aside0.mk jo
  have JG := Aside0.mk jG
  have JB := Aside0.mk jB
  have HIL := Lib.hid hil
  obtain ⟨lo, hlo⟩ : ∃ x, x = lowN l0_0 i := ⟨_, rfl⟩
  obtain ⟨hi, hhi⟩ : ∃ x, x = highN l0_0 i := ⟨_, rfl⟩
  rw [← hlo] at hcl hlob
  rw [← hhi] at hch hhib
  have HLO := Lib.hid hlo
  have HHI := Lib.hid hhi
  have HBN := Aside0.mk hbn'
  have HBB := Aside0.mk hbb'
  clear hi1 hi2 hi3 hi4 j0 jG jB hlo hhi hbn hbb hbn' hbb'
  rcases jo.2 with ⟨hv, hn⟩ | ⟨q, cap, cur, hv, hbq, hq, hncap, hcap, hcur, htake⟩
  ·subst hv
   have hcv := cell_of_one jv
   have HN := Lib.hid (show 0 = pre.length from hn.symm)
   clear hn jv jo
   gi_wp2_with fail
   (refine Code.wpIn_mono calm_le ?_; (first | refine startR_ (k := 22) (S := fun w' => Below (World.heap _).size _ w') (ds := [20, 21]) (List.toArray (false :: false :: false :: false :: false :: false :: false :: false :: false :: false :: false :: false :: false :: false :: false :: false :: false :: false :: false :: false :: false :: false :: [])) (by kernel_rfl) (by kernel_rfl) calm_in rfl rfl (belowDrew _) (fun plS => ?_) | refine startW_ (k := 22) (S := fun w' => Below (World.heap _).size _ w') (ds := [20, 21]) (List.toArray (false :: false :: false :: false :: false :: false :: false :: false :: false :: false :: false :: false :: false :: false :: false :: false :: false :: false :: false :: false :: false :: false :: [])) (by kernel_rfl) (by kernel_rfl) calm_in rfl rfl (belowDrew _) (fun plS => ?_)); refine pureY (i := 7) (N := (some 26)) ?_; refine pureY (i := 13) (N := (some 32)) ?_; refine takeF (i := 0) (N := (some 19)) (hS := plS) (hy := by (intro w' hw'; replace hw' : Below (World.heap W').size W' w' := hw'; have q0 := pw_cell_below hw' hcg; have q1 := pw_cell_below hw' hcl; have q2 := pw_cell_below hw' hch; have q3 := pw_cell_below hw' hcv; exact yieldA)) (h := ?_); refine takeF (i := 1) (N := (some 20)) (hS := plS) (hy := by (intro w' hw'; replace hw' : Below (World.heap W').size W' w' := hw'; have q0 := pw_cell_below hw' hcg; have q1 := pw_cell_below hw' hcl; have q2 := pw_cell_below hw' hch; have q3 := pw_cell_below hw' hcv; exact yieldA)) (h := ?_); refine pureY (i := 2) (N := (some 21)) ?_; refine takeF (i := 3) (N := (some 22)) (hS := plS) (hy := by (intro w' hw'; replace hw' : Below (World.heap W').size W' w' := hw'; have q0 := pw_cell_below hw' hcg; have q1 := pw_cell_below hw' hcl; have q2 := pw_cell_below hw' hch; have q3 := pw_cell_below hw' hcv; exact yieldA)) (h := ?_); refine pureY (i := 4) (N := (some 23)) ?_; refine pureY (i := 5) (N := (some 24)) ?_; refine takeF (i := 6) (N := (some 25)) (hS := plS) (hy := by (intro w' hw'; replace hw' : Below (World.heap W').size W' w' := hw'; have q0 := pw_cell_below hw' hcg; have q1 := pw_cell_below hw' hcl; have q2 := pw_cell_below hw' hch; have q3 := pw_cell_below hw' hcv; exact yieldA)) (h := ?_); refine pureY (i := 8) (N := (some 27)) ?_; refine pureY (i := 9) (N := (some 28)) ?_; refine pureY (i := 10) (N := (some 29)) ?_; refine takeF (i := 11) (N := (some 30)) (hS := plS) (hy := by (intro w' hw'; replace hw' : Below (World.heap W').size W' w' := hw'; have q0 := pw_cell_below hw' hcg; have q1 := pw_cell_below hw' hcl; have q2 := pw_cell_below hw' hch; have q3 := pw_cell_below hw' hcv; exact yieldA)) (h := ?_); refine takeF (i := 12) (N := (some 31)) (hS := plS) (hy := by (intro w' hw'; replace hw' : Below (World.heap W').size W' w' := hw'; have q0 := pw_cell_below hw' hcg; have q1 := pw_cell_below hw' hcl; have q2 := pw_cell_below hw' hch; have q3 := pw_cell_below hw' hcv; exact yieldA)) (h := ?_); refine pureY (i := 14) (N := (some 33)) ?_; refine pureY (i := 15) (N := (some 34)) ?_; refine pureY (i := 16) (N := (some 35)) ?_; refine takeF (i := 17) (N := (some 36)) (hS := plS) (hy := by (intro w' hw'; replace hw' : Below (World.heap W').size W' w' := hw'; have q0 := pw_cell_below hw' hcg; have q1 := pw_cell_below hw' hcl; have q2 := pw_cell_below hw' hch; have q3 := pw_cell_below hw' hcv; exact yieldA)) (h := ?_); refine pureY (i := 18) (N := (some 37)) ?_; refine oneY (i := 19) (fun plK plH => ?_); rw [if_pos (by rfl)]; (first | gi_big_move | go_big_op | go_simp))
   obtain ⟨Wb, hWb⟩ : ∃ W, (W'.alloc (.cells #[.int .i64 lo, .int .i64 hi] 43)).drew = W := ⟨_, rfl⟩
   have hBb : Below W'.heap.size W' Wb := by rw [← hWb]; exact ((Below.refl _ W').alloc (Nat.le_refl _) _).drew
   have hnew : Wb.heap[W'.heap.size]? = some (.cells #[.int .i64 lo, .int .i64 hi] 43 (0, 0)) := by rw [← hWb]; exact blk_new W' _
   have HKO : Aside0 (KeepsOthers W' Wb) := ⟨by rw [← hWb]; exact (KeepsOthers.alloc W' _).trans (.drew _)⟩
   rw [hWb]
   clear hWb
   ((try simp only [Act.put, List.getElem_toArray, List.getElem_cons_succ, List.getElem_cons_zero, List.setIfInBounds_toArray, List.set_cons_succ, List.set_cons_zero]); refine plH _ _ hBb (fun plS => ?_); clear plH plK; refine lastY (i := 20) (fun plK plH => ?_))
   obtain ⟨hi1, hi2, hi3, hi4⟩ := HI.out
   refine step_append_grows rfl (.tmp 24) (.tmp 38) 28 rfl 43 ii (.agg #[.int .i64 0, .int .i64 0]) 2 16 hu6 hi1 hi2 hi3 hi4 rfl (by decide) none 0 0 (rowsFlat l0_0 pre) rfl (fun _ => ⟨rfl, rfl⟩) (by have := JO.out.1; rw [← HN.out] at this; exact this) (fun b' hb' => by cases hb') ⟨W'.heap.size, 0, none⟩ 1 1 [.int .i64 lo, .int .i64 hi] rfl rfl ?hc (fun u hu => by simp only [List.mem_cons, List.not_mem_nil, or_false] at hu; rcases hu with rfl | rfl <;> rfl) (by omega) (by unfold maxLen; omega) (by omega) ?_
   case hc =>
    intro j u hj
    have hadd : (⟨W'.heap.size, 0, none⟩ : Addr).add j = ⟨W'.heap.size, j, none⟩ := by unfold Addr.add; split <;> simp_all
    rw [hadd, blk_cell hnew]
    simpa using hj
   intro v2 w2 ho2 hg2
   obtain ⟨q2, cap2, rfl⟩ : ∃ q2 cap2, v2 = .slice (some ⟨q2, 0, none⟩) (0 + 1) cap2 := by
    rcases ho2.2 with ⟨_, h0⟩ | ⟨q2, cap2, _, hv2, _⟩
    ·omega
    exact ⟨q2, cap2, hv2⟩
   have hg3 : Wb.heap.size ≤ w2.heap.size := hg2.size
   have hWbs : W'.heap.size + 1 ≤ Wb.heap.size := by have := blk_lt hnew; omega
   have JV2 := Aside0.mk (grow_blk (below_blk hBb JV.out (blk_lt JV.out)) hg2 (fun r e => by cases e))
   have hlt2 := blk_lt JV2.out
   have hcv2 := cell_of_one JV2.out
   have hfz2 := blk_frozen JV2.out 0
   have HO2 := Aside0.mk ho2
   have HG2 := Aside0.mk hg2
   have HBB2 := Aside0.mk hBb
   clear ho2 hg2 hnew hi1 hi2 hi3 hi4 plS
   ((try simp only [Act.put, List.getElem_toArray, List.getElem_cons_succ, List.getElem_cons_zero, List.setIfInBounds_toArray, List.set_cons_succ, List.set_cons_zero]); refine plH _ _ ?_; clear plH plK; refine lastY (i := 21) (fun plK plH => ?_); rw [if_pos (by rfl)]; (first | gi_big_move | go_big_op | go_simp))
   ((try simp only [Act.put, List.getElem_toArray, List.getElem_cons_succ, List.getElem_cons_zero, List.setIfInBounds_toArray, List.set_cons_succ, List.set_cons_zero]); refine plH _ _ ?_; clear plH plK; refine done_ (by kernel_rfl) ?_; rw [calm_normal])
   have hstay : ∀ (k : Nat) (cs : Array Value) (t : TypeId), k ≠ b + 1 → W'.heap[k]? = some (Obj.cells cs t (0, 0)) → (w2.setCell ⟨b + 1, 0, none⟩ (.slice (some ⟨q2, 0, none⟩) (0 + 1) cap2)).heap[k]? = some (Obj.cells cs t (0, 0)) := fun k cs t hk hb' =>
    (Below.heap_setCell w2 ⟨b + 1, 0, none⟩ (.slice (some ⟨q2, 0, none⟩) (0 + 1) cap2) k hk).trans (grow_blk (below_blk HBB2.out hb' (blk_lt hb')) HG2.out (fun r e => by cases e))
   have hwb := JB.out.size
   have hb1 := blk_lt JV.out
   refine ⟨((HKO.out.trans (.of_grownBy HG2.out (fun j o e => by cases e))).trans (.setCell _ _ _)).from _, ?_, hstay _ _ _ (by omega) J0.out, ⟨_, blk_put JV2.out 0 (.slice (some ⟨q2, 0, none⟩) (0 + 1) cap2) rfl, ?_⟩, ⟨JG.out.l, JG.out.h, hstay _ _ _ ?_ JG.out.b⟩, ?_⟩
   ·intro x hx
    simp only [List.mem_cons, List.not_mem_nil, or_false] at hx
    rcases hx with rfl | rfl
    ·exact (hstay _ _ _ (by omega) HBN.out).trans HBN.out.symm
    exact (hstay _ _ _ (by omega) HBB.out).trans HBB.out.symm
   ·have ho := own_weaken (own_move (w1 := w2.setCell ⟨b + 1, 0, none⟩ (.slice (some ⟨q2, 0, none⟩) (0 + 1) cap2)) HO2.out (fun k hk => Below.heap_setCell _ _ _ _ (by have := own_base HO2.out k hk; show k ≠ b + 1; omega))) (show w.heap.size ≤ Wb.heap.size by omega)
    have e1 : rowsFlat l0_0 (pre ++ [(⟨i, HIL.out⟩ : Fin l0_0.length)]) = rowsFlat l0_0 pre ++ [.int .i64 lo, .int .i64 hi] := by simp [rowsFlat, HLO.out, HHI.out]
    rw [e1, List.length_append, ← HN.out]
    exact ho
   ·intro e
    have h1 := JG.out.b
    rw [e, JV.out] at h1
    injection h1 with h1
    injection h1 with _ h1
    cases h1
   have hB1 : Below w.heap.size w Wb := below_then JB.out.nil HBB2.out
   exact (((Below.but hB1 []).grown HG2.out (fun r e => by cases e)).setCell ⟨b + 1, 0, none⟩ (.slice (some ⟨q2, 0, none⟩) (0 + 1) cap2) (.inr (by show w.heap.size ≤ b + 1; omega)))
  subst hv
  have hcv := cell_of_one jv
  obtain ⟨n, hn⟩ : ∃ n, n = pre.length := ⟨_, rfl⟩
  rw [← hn] at hcv hncap htake hplen
  have HN := Lib.hid hn
  have HQ := Aside0.mk hq
  have HTK := Aside0.mk htake
  clear hn hq htake jv jo hcur hcap hbq
  gi_wp2_with fail
  (refine Code.wpIn_mono calm_le ?_; (first | refine startR_ (k := 22) (S := fun w' => Below (World.heap _).size _ w') (ds := [20, 21]) (List.toArray (false :: false :: false :: false :: false :: false :: false :: false :: false :: false :: false :: false :: false :: false :: false :: false :: false :: false :: false :: false :: false :: false :: [])) (by kernel_rfl) (by kernel_rfl) calm_in rfl rfl (belowDrew _) (fun plS => ?_) | refine startW_ (k := 22) (S := fun w' => Below (World.heap _).size _ w') (ds := [20, 21]) (List.toArray (false :: false :: false :: false :: false :: false :: false :: false :: false :: false :: false :: false :: false :: false :: false :: false :: false :: false :: false :: false :: false :: false :: [])) (by kernel_rfl) (by kernel_rfl) calm_in rfl rfl (belowDrew _) (fun plS => ?_)); refine pureY (i := 7) (N := (some 26)) ?_; refine pureY (i := 13) (N := (some 32)) ?_; refine takeF (i := 0) (N := (some 19)) (hS := plS) (hy := by (intro w' hw'; replace hw' : Below (World.heap W').size W' w' := hw'; have q0 := pw_cell_below hw' hcg; have q1 := pw_cell_below hw' hcl; have q2 := pw_cell_below hw' hch; have q3 := pw_cell_below hw' hcv; exact yieldA)) (h := ?_); refine takeF (i := 1) (N := (some 20)) (hS := plS) (hy := by (intro w' hw'; replace hw' : Below (World.heap W').size W' w' := hw'; have q0 := pw_cell_below hw' hcg; have q1 := pw_cell_below hw' hcl; have q2 := pw_cell_below hw' hch; have q3 := pw_cell_below hw' hcv; exact yieldA)) (h := ?_); refine pureY (i := 2) (N := (some 21)) ?_; refine takeF (i := 3) (N := (some 22)) (hS := plS) (hy := by (intro w' hw'; replace hw' : Below (World.heap W').size W' w' := hw'; have q0 := pw_cell_below hw' hcg; have q1 := pw_cell_below hw' hcl; have q2 := pw_cell_below hw' hch; have q3 := pw_cell_below hw' hcv; exact yieldA)) (h := ?_); refine pureY (i := 4) (N := (some 23)) ?_; refine pureY (i := 5) (N := (some 24)) ?_; refine takeF (i := 6) (N := (some 25)) (hS := plS) (hy := by (intro w' hw'; replace hw' : Below (World.heap W').size W' w' := hw'; have q0 := pw_cell_below hw' hcg; have q1 := pw_cell_below hw' hcl; have q2 := pw_cell_below hw' hch; have q3 := pw_cell_below hw' hcv; exact yieldA)) (h := ?_); refine pureY (i := 8) (N := (some 27)) ?_; refine pureY (i := 9) (N := (some 28)) ?_; refine pureY (i := 10) (N := (some 29)) ?_; refine takeF (i := 11) (N := (some 30)) (hS := plS) (hy := by (intro w' hw'; replace hw' : Below (World.heap W').size W' w' := hw'; have q0 := pw_cell_below hw' hcg; have q1 := pw_cell_below hw' hcl; have q2 := pw_cell_below hw' hch; have q3 := pw_cell_below hw' hcv; exact yieldA)) (h := ?_); refine takeF (i := 12) (N := (some 31)) (hS := plS) (hy := by (intro w' hw'; replace hw' : Below (World.heap W').size W' w' := hw'; have q0 := pw_cell_below hw' hcg; have q1 := pw_cell_below hw' hcl; have q2 := pw_cell_below hw' hch; have q3 := pw_cell_below hw' hcv; exact yieldA)) (h := ?_); refine pureY (i := 14) (N := (some 33)) ?_; refine pureY (i := 15) (N := (some 34)) ?_; refine pureY (i := 16) (N := (some 35)) ?_; refine takeF (i := 17) (N := (some 36)) (hS := plS) (hy := by (intro w' hw'; replace hw' : Below (World.heap W').size W' w' := hw'; have q0 := pw_cell_below hw' hcg; have q1 := pw_cell_below hw' hcl; have q2 := pw_cell_below hw' hch; have q3 := pw_cell_below hw' hcv; exact yieldA)) (h := ?_); refine pureY (i := 18) (N := (some 37)) ?_; refine oneY (i := 19) (fun plK plH => ?_); rw [if_pos (by rfl)]; (first | gi_big_move | go_big_op | go_simp))
  obtain ⟨Wb, hWb⟩ : ∃ W, (W'.alloc (.cells #[.int .i64 lo, .int .i64 hi] 43)).drew = W := ⟨_, rfl⟩
  have hBb : Below W'.heap.size W' Wb := by rw [← hWb]; exact ((Below.refl _ W').alloc (Nat.le_refl _) _).drew
  have hnew : Wb.heap[W'.heap.size]? = some (.cells #[.int .i64 lo, .int .i64 hi] 43 (0, 0)) := by rw [← hWb]; exact blk_new W' _
  have HKO : Aside0 (KeepsOthers W' Wb) := ⟨by rw [← hWb]; exact (KeepsOthers.alloc W' _).trans (.drew _)⟩
  rw [hWb]
  clear hWb
  ((try simp only [Act.put, List.getElem_toArray, List.getElem_cons_succ, List.getElem_cons_zero, List.setIfInBounds_toArray, List.set_cons_succ, List.set_cons_zero]); refine plH _ _ hBb (fun plS => ?_); clear plH plK; refine lastY (i := 20) (fun plK plH => ?_))
  obtain ⟨hi1, hi2, hi3, hi4⟩ := HI.out
  refine step_append_grows rfl (.tmp 24) (.tmp 38) 28 rfl 43 ii (.agg #[.int .i64 0, .int .i64 0]) 2 16 hu6 hi1 hi2 hi3 hi4 rfl (by decide) (some ⟨q, 0, none⟩) n n (rowsFlat l0_0 pre) rfl (fun h => by cases h) (by have := JO.out.1; rw [← HN.out] at this; exact this) (fun b' hb' j u hj => by
   cases hb'
   have hadd : (⟨q, 0, none⟩ : Addr).add j = ⟨q, j, none⟩ := by unfold Addr.add; split <;> simp_all
   rw [hadd, blk_cell (below_blk hBb HQ.out (blk_lt HQ.out))]
   rw [← HTK.out, List.getElem?_take] at hj
   split at hj
   ·simpa using hj
   cases hj) ⟨W'.heap.size, 0, none⟩ 1 1 [.int .i64 lo, .int .i64 hi] rfl rfl ?hc (fun u hu => by simp only [List.mem_cons, List.not_mem_nil, or_false] at hu; rcases hu with rfl | rfl <;> rfl) (by omega) (by unfold maxLen; omega) (by omega) ?_
  case hc =>
   intro j u hj
   have hadd : (⟨W'.heap.size, 0, none⟩ : Addr).add j = ⟨W'.heap.size, j, none⟩ := by unfold Addr.add; split <;> simp_all
   rw [hadd, blk_cell hnew]
   simpa using hj
  intro v2 w2 ho2 hg2
  obtain ⟨q2, cap2, rfl⟩ : ∃ q2 cap2, v2 = .slice (some ⟨q2, 0, none⟩) (n + 1) cap2 := by
   rcases ho2.2 with ⟨_, h0⟩ | ⟨q2, cap2, _, hv2, _⟩
   ·omega
   exact ⟨q2, cap2, hv2⟩
  have hg3 : Wb.heap.size ≤ w2.heap.size := hg2.size
  have hWbs : W'.heap.size + 1 ≤ Wb.heap.size := by have := blk_lt hnew; omega
  have JV2 := Aside0.mk (grow_blk (below_blk hBb JV.out (blk_lt JV.out)) hg2 (fun r e => by cases e))
  have hlt2 := blk_lt JV2.out
  have hcv2 := cell_of_one JV2.out
  have hfz2 := blk_frozen JV2.out 0
  have HO2 := Aside0.mk ho2
  have HG2 := Aside0.mk hg2
  have HBB2 := Aside0.mk hBb
  clear ho2 hg2 hnew hi1 hi2 hi3 hi4 plS
  ((try simp only [Act.put, List.getElem_toArray, List.getElem_cons_succ, List.getElem_cons_zero, List.setIfInBounds_toArray, List.set_cons_succ, List.set_cons_zero]); refine plH _ _ ?_; clear plH plK; refine lastY (i := 21) (fun plK plH => ?_); rw [if_pos (by rfl)]; (first | gi_big_move | go_big_op | go_simp))
  ((try simp only [Act.put, List.getElem_toArray, List.getElem_cons_succ, List.getElem_cons_zero, List.setIfInBounds_toArray, List.set_cons_succ, List.set_cons_zero]); refine plH _ _ ?_; clear plH plK; refine done_ (by kernel_rfl) ?_; rw [calm_normal])
  have hstay : ∀ (k : Nat) (cs : Array Value) (t : TypeId), k ≠ b + 1 → W'.heap[k]? = some (Obj.cells cs t (0, 0)) → (w2.setCell ⟨b + 1, 0, none⟩ (.slice (some ⟨q2, 0, none⟩) (n + 1) cap2)).heap[k]? = some (Obj.cells cs t (0, 0)) := fun k cs t hk hb' =>
   (Below.heap_setCell w2 ⟨b + 1, 0, none⟩ (.slice (some ⟨q2, 0, none⟩) (n + 1) cap2) k hk).trans (grow_blk (below_blk HBB2.out hb' (blk_lt hb')) HG2.out (fun r e => by cases e))
  have hwb := JB.out.size
  have hb1 := blk_lt JV.out
  refine ⟨((HKO.out.trans (.of_grownBy HG2.out (fun j o e => by cases e))).trans (.setCell _ _ _)).from _, ?_, hstay _ _ _ (by omega) J0.out, ⟨_, blk_put JV2.out 0 (.slice (some ⟨q2, 0, none⟩) (n + 1) cap2) rfl, ?_⟩, ⟨JG.out.l, JG.out.h, hstay _ _ _ ?_ JG.out.b⟩, ?_⟩
  ·intro x hx
   simp only [List.mem_cons, List.not_mem_nil, or_false] at hx
   rcases hx with rfl | rfl
   ·exact (hstay _ _ _ (by omega) HBN.out).trans HBN.out.symm
   exact (hstay _ _ _ (by omega) HBB.out).trans HBB.out.symm
  ·have ho := own_weaken (own_move (w1 := w2.setCell ⟨b + 1, 0, none⟩ (.slice (some ⟨q2, 0, none⟩) (n + 1) cap2)) HO2.out (fun k hk => Below.heap_setCell _ _ _ _ (by have := own_base HO2.out k hk; show k ≠ b + 1; omega))) (show w.heap.size ≤ Wb.heap.size by omega)
   have e1 : rowsFlat l0_0 (pre ++ [(⟨i, HIL.out⟩ : Fin l0_0.length)]) = rowsFlat l0_0 pre ++ [.int .i64 lo, .int .i64 hi] := by simp [rowsFlat, HLO.out, HHI.out]
   rw [e1, List.length_append, ← HN.out]
   exact ho
  ·intro e
   have h1 := JG.out.b
   rw [e, JV.out] at h1
   injection h1 with h1
   injection h1 with _ h1
   cases h1
  have hB1 : Below w.heap.size w Wb := below_then JB.out.nil HBB2.out
  exact (((Below.but hB1 []).grown HG2.out (fun r e => by cases e)).setCell ⟨b + 1, 0, none⟩ (.slice (some ⟨q2, 0, none⟩) (n + 1) cap2) (.inr (by show w.heap.size ≤ b + 1; omega)))
 case hdone =>
  intro D W3 hD hJ hK
  obtain ⟨j0, ⟨v, jv, jo⟩, jG, jB⟩ := hJ
  have hcv := cell_of_one jv
  have JB := Aside0.mk jB
  have HK := Aside0.mk hK
  have JO := Aside0.mk jo
  clear jB hK j0 jG jv jo
  gi_wp2_with fail
  have hDlt : D < W3.heap.size := (Array.getElem?_eq_some_iff.1 HK.out).1
  refine leaves_marks [D] _ ⟨fun E hE => by
   obtain rfl := List.mem_singleton.1 hE
   exact HK.out, by simp⟩ ?_
  intro W8 hb8 hc8
  refine ⟨.tuple #[v, .int .i64 0], results_tmp2 (a := 2) (b := 3) rfl, v, rfl, ⟨fun _ _ => trivial, rowsFlat l0_0 (rowAll l0_0.length false), ?_, ?_⟩, ?_⟩
  ·have ho := own_move (w1 := W8) JO.out (fun k hk => by
    obtain ⟨cs, hc⟩ := own_typed JO.out k hk
    exact (hc8 _ _ _ _ hc).trans hc.symm)
   have e1 : (tightL l0_0).length = (rowAll l0_0.length false).length := by rw [rowAll_length]; simp [tightL]
   rw [e1]
   exact ho
  ·exact tight_reps _ _ _ _ trivial
  exact JB.out.nil.trans (hb8.below _ JB.out.size (fun d hd => by
   obtain rfl := List.mem_singleton.1 hd
   have := KB.out.size
   omega))
end Go.Proofs.Ytpkajhmchcbbhaa.P
end
section
namespace Go.Proofs.Ytpkajhmchcbbhaa.P
open Go Go.BigFrame Go.RowKit Go.Proofs.YtpkajhmchcbbhaaW.PrintWords Go.Proofs.YtpkajhmchcbbhaaW.PrintLast Go.Proofs.YtpkajhmchcbbhaaW.PrintMore
def rowCells (r : SRow) : List Value := [.int .i64 r.f0, .int .i64 r.f1.f0, .int .i64 r.f1.f1]
def rowsCells (l : List SRow) : List Value := l.flatMap rowCells
theorem rowsCells_snoc (l : List SRow) (r : SRow) : rowsCells (l ++ [r]) = rowsCells l ++ rowCells r := by simp [rowsCells]
theorem rowsCells_len (l : List SRow) : (rowsCells l).length = l.length * 3 := by
 induction l with
 | nil => rfl
 | cons r l ih => show (rowCells r ++ rowsCells l).length = _; rw [List.length_append, ih]; simp [rowCells]; omega
structure TwoR (B : Nat) (W : World) (v u : Value) (xs ys : List SRow) : Prop where
 a : W.ownsRow B 70 3 v xs.length (rowsCells xs)
 b : W.ownsRow B 70 3 u ys.length (rowsCells ys)
 ne : v.ownBlock = none ∨ v.ownBlock ≠ u.ownBlock
section
variable {B : Nat} {W w1 : World} {v u : Value} {xs ys : List SRow}
theorem TwoR.start (B : Nat) (W : World) : TwoR B W (.slice none 0 0) (.slice none 0 0) [] [] := ⟨own_nil _ _ _ _, own_nil _ _ _ _, Or.inl rfl⟩
theorem TwoR.below (h : TwoR B W v u xs ys) (hb : Below W.heap.size W w1) : TwoR B w1 v u xs ys := ⟨own_other h.a (grown_of_below hb none) ne_none, own_other h.b (grown_of_below hb none) ne_none, h.ne⟩
theorem TwoR.swap (h : TwoR B W v u xs ys) : TwoR B W u v ys xs := ⟨h.b, h.a, by
 rcases h.ne with e | e
 ·rw [e]
  cases hu : u.ownBlock with
  | none => exact Or.inl rfl
  | some k => exact Or.inr (by simp)
 exact Or.inr (Ne.symm e)⟩
theorem TwoR.set (h : TwoR B W v u xs ys) {g k : Nat} (hg : g < B) (y : Value) : TwoR B (W.setCell ⟨g, k, none⟩ y) v u xs ys :=
 ⟨own_setCell h.a (p := ⟨g, k, none⟩) (fun e => Nat.lt_irrefl _ (Nat.lt_of_lt_of_le hg (own_base h.a g e.symm))) y, own_setCell h.b (p := ⟨g, k, none⟩) (fun e => Nat.lt_irrefl _ (Nat.lt_of_lt_of_le hg (own_base h.b g e.symm))) y, h.ne⟩
theorem TwoR.fst (h : TwoR B W v u xs ys) {v1 : Value} {r : SRow} (ho : w1.ownsRow B 70 3 v1 (xs.length + 1) (rowsCells xs ++ rowCells r)) (hg : W.grownBy w1 v.ownBlock) (hat : v1.ownBlock = v.ownBlock ∨ v1.ownBlock = some W.heap.size) :
  TwoR B w1 v1 u (xs ++ [r]) ys := by
 refine ⟨by rw [rowsCells_snoc, List.length_append]; exact ho, own_other h.b hg h.swap.ne, ?_⟩
 rcases hat with e | e
 ·rw [e]; exact h.ne
 rw [e]
 refine Or.inr fun hk => ?_
 exact Nat.lt_irrefl _ (own_lt h.b _ hk.symm)
theorem rows_reps (w : World) (base : Nat) (ok : Nat → Prop) (l : List SRow) : Reps (Kd.M kRow w base ok) 3 l (rowsCells l) := by
 have h := reps_map (R := Kd.M kRow w base ok) (size := 3) (fun (x : SRow) => x) rowCells (fun x => ⟨k70_mkM w base ok x, rfl⟩) l
 rw [List.map_id'] at h
 exact h
theorem TwoR.slices (h : TwoR B W v u xs ys) : Kd.R kRow 70 W B (fun _ => True) v xs ∧ Kd.R kRow 70 W B (fun _ => True) u ys :=
 ⟨⟨fun _ _ => trivial, _, h.a, rows_reps W B _ xs⟩, ⟨fun _ _ => trivial, _, h.b, rows_reps W B _ ys⟩⟩
theorem info_row : (Try.prog.info? 70).map (fun i => (i.zero, i.size, i.bytes)) = some (some (.agg #[.int .i64 0, .int .i64 0, .int .i64 0]), 3, 24) := by kernel_rfl
variable {ops : Array Oper} {o : Oper} {a : Act} {Q : Exit → Act → World → Prop} {K : Act → World → Prop} {E : Prop}
theorem step_row {w0 : World} {N0 : Nat} (HT : TwoR B W v u xs ys) (hg : o.guard = none) (s x : Operand)
  (ho : o.op = .call { callee := .builtin .append, args := #[s, x], argTypes := #[22, 22] })
  (hs : a.eval s = v) (g : Nat) (hx : a.eval x = .slice (some ⟨g, 0, none⟩) 1 1) (d lo hi : Int) (t : TypeId) (hc : W.heap[g]? = some (.cells #[.int .i64 d, .int .i64 lo, .int .i64 hi] t (0, 0))) (hN : N0 ≤ B) (hB : Below N0 w0 W) (hbase : B ≤ W.heap.size) (hl : xs.length ≤ 1000)
  (h : ∀ v1 w1, TwoR B w1 v1 u (xs ++ [⟨d, ⟨lo, hi⟩⟩]) ys → Below N0 w0 w1 → (∀ j b, W.heap[j]? = some b → j < B → w1.heap[j]? = some b) → (∀ j b, W.heap[j]? = some b → (∀ k, v.ownBlock = some k → k < j) → w1.heap[j]? = some b) → W.heap.size ≤ w1.heap.size → K (a.put o.dst v1) w1) :
  if Region.wanted o (yielded ops a.tmps) = true then Oper.wp Try.prog o a W K Q else E := by
 refine step_append_any B hg s x 22 70 (.agg #[.int .i64 0, .int .i64 0, .int .i64 0]) 3 24 ho Try.underlying22 info_row rfl (by decide) (by decide) v xs.length _ (rowCells ⟨d, ⟨lo, hi⟩⟩) ⟨g, 0, none⟩ hs hx rfl ?_ ?_ HT.a hbase (by omega) ?_
 ·intro j y hj
  rcases (show j = 0 ∨ j = 1 ∨ j = 2 ∨ 3 ≤ j by omega) with rfl | rfl | rfl | h3
  ·cases hj; rw [addr_add0]; exact (blk_cell hc 0).trans rfl
  ·cases hj; exact (blk_cell hc 1).trans rfl
  ·cases hj; exact (blk_cell hc 2).trans rfl
  rw [List.getElem?_eq_none (by simpa [rowCells] using h3)] at hj; cases hj
 ·intro y hy
  simp [rowCells] at hy
  rcases hy with rfl | rfl | rfl <;> rfl
 intro v1 w1 ho1 hg1 hat
 refine h v1 w1 (HT.fst ho1 hg1 hat) (pw_below_grown hB _ (by omega) hg1 (fun k e => Nat.le_trans hN (own_base HT.a k e))) (fun j b hj hjN => blk_grown hj hg1 (fun e => ?_)) (fun j b hj hjN => blk_grown hj hg1 (fun e => ?_)) hg1.size
 ·have := own_base HT.a j e.symm
  omega
 have := hjN j e.symm
 omega
end
end Go.Proofs.Ytpkajhmchcbbhaa.P
end
section
namespace Go.Proofs.Ytpkajhmchcbbhaa.P
open Go Go.BigFrame Go.RowKit Go.Proofs.YtpkajhmchcbbhaaW.PrintWords Go.Proofs.YtpkajhmchcbbhaaW.PrintLast Go.Proofs.YtpkajhmchcbbhaaW.PrintMore
theorem rowsCells_get : ∀ (l : List SRow) (i r : Nat), i < l.length → r < 3 → (rowsCells l)[i * 3 + r]? = (rowCells (l.getD i zRow))[r]? := by
 intro l
 induction l with
 | nil => intro i r hi; simp at hi
 | cons x l ih =>
  intro i r hi hr
  show (rowCells x ++ rowsCells l)[i * 3 + r]? = _
  cases i with
  | zero => rw [List.getElem?_append_left (by simp [rowCells]; omega), Nat.zero_mul, Nat.zero_add]; rfl
  | succ i =>
   rw [List.getElem?_append_right (by simp [rowCells]; omega), show (i + 1) * 3 + r - (rowCells x).length = i * 3 + r by simp [rowCells]; omega, ih i r (by simpa using hi) hr]
   rfl
theorem rows_news {W : World} {ad : Addr} {l : List SRow} (hr : Kd.C kRow W (some ad) l.length l) : ∀ j u, (rowsCells l)[j]? = some u → W.cell? (ad.add j) = some u := by
 intro j u hj
 have hlt : j < l.length * 3 := by
  rw [← rowsCells_len]
  exact (List.getElem?_eq_some_iff.1 hj).1
 obtain ⟨i, r, rfl, hr3⟩ : ∃ i r, j = i * 3 + r ∧ r < 3 := ⟨j / 3, j % 3, by omega, by omega⟩
 obtain ⟨_, ea, h0, h1, h2⟩ := at_T70 hr ((i : Nat) : Int) (by omega) (by omega)
 cases ea
 rw [rdR_nat, Int.toNat_natCast] at h0 h1 h2
 rw [rowsCells_get l i r (by omega) hr3] at hj
 rcases (show r = 0 ∨ r = 1 ∨ r = 2 by omega) with rfl | rfl | rfl
 ·cases hj
  rw [Nat.add_zero]
  exact h0
 ·cases hj
  rw [add_field ad _ 1 (by decide)]
  exact h1
 cases hj
 rw [add_field ad _ 2 (by decide)]
 exact h2
section
variable {ops : Array Oper} {o : Oper} {rest : List Oper} {a : Act} {Q : Exit → Act → World → Prop}
theorem copy_rows {W w0 : World} {N0 : Nat} (hg : o.guard = none) (s x : Operand)
  (ho : o.op = .call { callee := .builtin .append, args := #[s, x], argTypes := #[22, 22] })
  (g : Nat) (hs : a.eval s = .slice (some ⟨g, 0, none⟩) 0 0) (hc : W.heap[g]? = some (.cells #[] 70 (0, 0))) (ad : Addr) (c : Nat) (l : List SRow) (hx : a.eval x = .slice (some ad) l.length c) (hr : Kd.C kRow W (some ad) l.length l) (hl : l.length ≤ 1000) (hB : Below N0 w0 W) (hN : N0 ≤ g)
  (h : ∀ v1 w1, w1.ownsRow g 70 3 v1 l.length (rowsCells l) → Below N0 w0 w1 → (∀ j b, W.heap[j]? = some b → j < g → w1.heap[j]? = some b) → wpList Try.prog ops Q rest (a.put o.dst v1) w1) :
  wpList Try.prog ops Q (o :: rest) a W := by
 obtain ⟨i0, hi, hzz⟩ := Option.map_eq_some_iff.1 info_row
 simp only [Prod.mk.injEq] at hzz
 obtain ⟨hz0, hz1, hz2⟩ := hzz
 have hgl := blk_lt hc
 have hown : W.ownsRow g 70 3 (.slice (some ⟨g, 0, none⟩) 0 0) 0 [] := ⟨rfl, .inr ⟨g, 0, #[], rfl, Nat.le_refl _, hc, Nat.le_refl _, by simp only [maxLen]; omega, rfl, rfl⟩⟩
 refine wpList_append_own_at W hg s x 22 ho g 70 i0 _ 3 24 Try.underlying22 hi hz0 hz1 hz2 rfl (by decide) _ 0 [] hs hown ad l.length c (rowsCells l) hx (rowsCells_len l) (rows_news hr) ?_ (by simp only [maxLen]; omega) (by omega) (Nat.le_of_lt hgl) ?_
 ·intro u hu
  unfold rowsCells at hu
  rw [List.mem_flatMap] at hu
  obtain ⟨r, _, hu⟩ := hu
  simp [rowCells] at hu
  rcases hu with rfl | rfl | rfl <;> rfl
 intro v1 w1 h1 h2 _ h4
 rw [Nat.zero_add, List.nil_append] at h1
 refine h v1 w1 h1 (pw_below_grown hB _ (by omega) h2 (fun k e => ?_)) (fun j b hj hjg => blk_grown hj h2 (fun e => ?_))
 ·simp [Value.ownBlock] at e; omega
 simp [Value.ownBlock] at e; omega
end
theorem own_block {W : World} {B : Nat} {v : Value} {l : List SRow} (h : W.ownsRow B 70 3 v l.length (rowsCells l)) (hl : 0 < l.length) :
  ∃ g cap cur, v = .slice (some ⟨g, 0, none⟩) l.length cap ∧ B ≤ g ∧ W.heap[g]? = some (.cells cur 70 (0, 0)) ∧ l.length ≤ cap ∧ cap ≤ maxLen ∧ cur.size = cap * 3 ∧ cur.toList.take (l.length * 3) = rowsCells l := by
 obtain ⟨_, ⟨_, h0⟩ | h⟩ := h
 ·omega
 exact h
theorem rowsCells_set (l : List SRow) (k : Nat) (r : SRow) (hk : k < l.length) : rowsCells (l.set k r) = (((rowsCells l).set (k * 3) (.int .i64 r.f0)).set (k * 3 + 1) (.int .i64 r.f1.f0)).set (k * 3 + 2) (.int .i64 r.f1.f1) := by
 apply List.ext_getElem?
 intro j
 rcases Nat.lt_or_ge j (l.length * 3) with hj | hj
 ·have e : j = j / 3 * 3 + j % 3 := by omega
  have h3 : j % 3 < 3 := Nat.mod_lt _ (by decide)
  have hlen := rowsCells_len l
  rw [List.getElem?_set, List.getElem?_set, List.getElem?_set]
  simp only [List.length_set, hlen]
  by_cases h : j / 3 = k
  ·rw [e, rowsCells_get _ _ _ (by rw [List.length_set]; omega) h3, h, show (l.set k r).getD k zRow = r from by rw [List.getD_eq_getElem?_getD, List.getElem?_set_self hk]; rfl]
   rcases (show j % 3 = 0 ∨ j % 3 = 1 ∨ j % 3 = 2 by omega) with h2 | h2 | h2
   ·rw [h2, if_neg (by omega), if_neg (by omega), if_pos (by omega), if_pos (by omega)]; rfl
   ·rw [h2, if_neg (by omega), if_pos rfl, if_pos (by omega)]; rfl
   rw [h2, if_pos rfl, if_pos (by omega)]; rfl
  rw [if_neg (by omega), if_neg (by omega), if_neg (by omega), e, rowsCells_get _ _ _ (by rw [List.length_set]; omega) h3, rowsCells_get _ _ _ (by omega) h3]
  rw [List.getD_eq_getElem?_getD, List.getElem?_set_ne (fun e => h e.symm), ← List.getD_eq_getElem?_getD]
 rw [List.getElem?_eq_none (by rw [rowsCells_len, List.length_set]; exact hj), List.getElem?_eq_none (by simp only [List.length_set, rowsCells_len]; exact hj)]
end Go.Proofs.Ytpkajhmchcbbhaa.P
end
