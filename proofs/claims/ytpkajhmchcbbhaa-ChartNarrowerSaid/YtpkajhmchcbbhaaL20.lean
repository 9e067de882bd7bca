/- Part 20 of 44. -/
import Derived.Test.YtpkajhmchcbbhaaL0
import Derived.Test.YtpkajhmchcbbhaaL17
import Derived.Test.YtpkajhmchcbbhaaL16
import Derived.Test.YtpkajhmchcbbhaaL13
set_option linter.unusedSimpArgs false
set_option linter.unusedVariables false
section
namespace Go.Proofs.Ytpkajhmchcbbhaa.P
open Go.RowKit Go.Proofs.YtpkajhmchcbbhaaW.PrintWords Go.Proofs.YtpkajhmchcbbhaaW.PrintLast Go.Proofs.YtpkajhmchcbbhaaW.PrintMore
attribute [local go_sem] max2_int min2_int max_two min_two
attribute [local go_sem] Oper.semAt_some
attribute [local go_sem ↓] exec_load97 exec_load129 exec_store97 exec_store129 exec_build129 sem_load97 sem_load129 sem_store97 sem_store129 sem_build129
attribute [local go_sem] load97_at load129_at store97_at store129_at buildPair_at SegOk_alloc seg_alloc SegOk_drew seg_drew SegOk_drewN seg_drewN ints_app ints_size store129_new store129_newD store97_new store97_newD Ones_ints
attribute [local go_sem high] eq129_arr
theorem ints_full (l : List Int) {n : Nat} (h : l.length ≤ 0 + n) : (ints l).extract 0 (0 + n) = ints l := by
 apply Array.ext'
 simp only [ints, List.extract_toArray, List.extract_eq_take_drop, List.drop_zero, Nat.sub_zero]
 rw [List.take_of_length_le (by simpa using h)]
structure TJ (w : World) (g : Nat) (A : Option Addr) (n c : Nat) (p : Int) (lo hi : List Int) (ds : List Nat) (W : World) : Prop where
 qg : Gauge W g A n c p lo hi
 qG : W.heap[w.heap.size]? = some (Obj.cells #[.pointer (some ⟨g, 0, none⟩)] 90 (0, 0))
 qR : W.heap[w.heap.size + 1]? = some (Obj.cells #[.bool false] 4 (0, 0))
 qx : But [g] w W
 qm : Marks W ds
 qs : w.heap.size + 2 ≤ W.heap.size
 qb : g < w.heap.size
 qd : ∀ D, D ∈ ds → w.heap.size ≤ D
section
variable {w W : World} {g : Nat} {A : Option Addr} {n c : Nat} {p : Int} {lo hi : List Int} {ds : List Nat}
theorem TJ.alloc (h : TJ w g A n c p lo hi ds W) (o : Obj) : TJ w g A n c p lo hi ds (W.alloc o) :=
 ⟨h.qg.alloc o, blk_old h.qG, blk_old h.qR, h.qx.alloc o, h.qm.alloc o, by have := h.qs; simp; omega, h.qb, h.qd⟩
theorem TJ.drew (h : TJ w g A n c p lo hi ds W) : TJ w g A n c p lo hi ds W.drew := ⟨h.qg.drew, h.qG, h.qR, h.qx.drew, h.qm.drew, h.qs, h.qb, h.qd⟩
theorem TJ.setL (h : TJ w g A n c p lo hi ds W) (i : Nat) (hi' : i < 16) (v : Int) : TJ w g A n c p (lo.set i v) hi ds (W.setCell ⟨g, 2 + i, none⟩ (.int .i64 v)) :=
 ⟨h.qg.setL i hi' v, (Below.heap_setCell _ _ _ _ (by have := h.qb; show w.heap.size ≠ g; omega)).trans h.qG, (Below.heap_setCell _ _ _ _ (by have := h.qb; show w.heap.size + 1 ≠ g; omega)).trans h.qR,
  h.qx.setCell _ _ (.inl (by simp)), h.qm.setCell h.qg.b _, by have := h.qs; rw [World.size_setCell]; exact this, h.qb, h.qd⟩
theorem TJ.setH (h : TJ w g A n c p lo hi ds W) (i : Nat) (hi' : i < 16) (v : Int) : TJ w g A n c p lo (hi.set i v) ds (W.setCell ⟨g, 18 + i, none⟩ (.int .i64 v)) :=
 ⟨h.qg.setH i hi' v, (Below.heap_setCell _ _ _ _ (by have := h.qb; show w.heap.size ≠ g; omega)).trans h.qG, (Below.heap_setCell _ _ _ _ (by have := h.qb; show w.heap.size + 1 ≠ g; omega)).trans h.qR,
  h.qx.setCell _ _ (.inl (by simp)), h.qm.setCell h.qg.b _, by have := h.qs; rw [World.size_setCell]; exact this, h.qb, h.qd⟩
theorem TJ.setR (h : TJ w g A n c p lo hi ds W) : TJ w g A n c p lo hi ds (W.setCell ⟨w.heap.size + 1, 0, none⟩ (.bool false)) :=
 ⟨h.qg.keep (Below.heap_setCell _ _ _ _ (by have := h.qb; show g ≠ w.heap.size + 1; omega)), (Below.heap_setCell _ _ _ _ (by show w.heap.size ≠ w.heap.size + 1; omega)).trans h.qG, blk_put h.qR 0 (.bool false) rfl,
  h.qx.setCell _ _ (.inr ql22), h.qm.setCell h.qR _, by have := h.qs; rw [World.size_setCell]; exact this, h.qb, h.qd⟩
theorem TJ.own {β : Type} {B : Nat} (f h : β → List Int) (hB : w.heap.size + 2 ≤ B) (hd : ∀ D, D ∈ ds → D < B) : OwnFrom B (fun (x : β) W => TJ w g A n c p (f x) (h x) ds W) := fun s A' B' row hs hg hr =>
 ⟨ownGauge f h s A' B' row hs.qg hg hr, grow_blk hs.qG hg (fun r e => (hr r e).2), grow_blk hs.qR hg (fun r e => (hr r e).2), hs.qx.grown hg (fun r e => .inr (by have := (hr r e).1; omega)),
  hs.qm.grown hg (fun r e m => by have := hd r m; have := (hr r e).1; omega), Nat.le_trans hs.qs hg.size, hs.qb, hs.qd⟩
theorem TJ.cons (h : TJ w g A n c p lo hi ds W) {D : Nat} (hD : W.heap[D]? = some (.deferred (some []))) (hn : D ∉ ds) (hle : w.heap.size ≤ D) : TJ w g A n c p lo hi (D :: ds) W :=
 ⟨h.qg, h.qG, h.qR, h.qx, h.qm.cons hD hn, h.qs, h.qb, fun E hE => by
  rcases List.mem_cons.1 hE with rfl | hE
  ·exact hle
  exact h.qd E hE⟩
end
set_option maxRecDepth 100000 in
set_option maxHeartbeats 4000000 in
theorem tighten_calls (g : Nat) (A : Option Addr) (c : Nat) (p : Int) (l : List SRow) (h16 : l.length ≤ 16) (w : World)
  (hg : Gauge w g A l.length c p (padRow (loR l) l.length) (padRow (hiR l) l.length)) :
  Calls Try.prog 75 #[.pointer (some ⟨g, 0, none⟩)] w fun e w' => e = .returned (.bool (tightOk l)) ∧ Gauge w' g A l.length c p (LowAt l l.length) (HighAt l l.length) ∧ But [g] w w' := by
 have hu1 := Try.underlying24
 have hu3 := Try.underlying99
 have hu5 := Try.underlying97
 rw [← LowAt_zero, ← HighAt_zero] at hg
 have hgl := hg.lt
 have HG := Aside0.mk hg
 clear hg
 refine (callsIn_wide (n := 10)).1 ?_
 refine callsIn_of_wp_marks Try.func75 rfl trivial ?_ rfl
 simp only [Try.ntmps75, List.size_toArray, List.length_cons, List.length_nil, Nat.reduceAdd, Nat.reduceSub, Array.replicate_succ, Array.replicate_zero, List.push_toArray, List.append_toArray, List.nil_append, List.cons_append]
 gi_wp2
 obtain ⟨W0, hW0⟩ : ∃ W0, (w.alloc (.cells #[.pointer (some ⟨g, 0, none⟩)] 90)).alloc (.cells #[.bool false] 4) = W0 := ⟨_, rfl⟩
 rw [hW0]
 have HJ : Aside0 (TJ w g A l.length c p (LowAt l 0) (HighAt l 0) [] W0) := ⟨by
  rw [← hW0]
  exact ⟨(HG.out.alloc _).alloc _, blk_old (blk_new _ _), blk_new' (by simp), ((But.refl _ _).alloc _).alloc _, .nil _, by simp, hgl, fun D h => by simp at h⟩⟩
 have HT : Aside0 (Tn l (LowAt l 0) (HighAt l 0)) := ⟨Tn.first l h16⟩
 clear hW0
 (refine wpIn_loop (fun a' w' => ∃ ms u3 u4 u5 u7 u8 u9 u10 u11 u12 u13 u14 u15 u16 u17 u19 u20 u21 u22 u23 u24 u25 u26 u27 u28 u29 u30 u31 u32 u33 u34 u35 u36 u37 u38 u39 u40 u41 u43 u44 u45 u46 u47 u48 u49 u50 u51 u52 u53 u54 u55 u56 u57 u58 u59 u60 u61 u62 u63 u64 u65 u66 u67 u68 u69 u70 u71 u72 u73 u74 u75 u76 u77 u78 u79 u80 u81, (∃ lo hi, Go.Proofs.Ytpkajhmchcbbhaa.P.TJ w g A (List.length l) c p lo hi ms w' ∧ Go.Proofs.Ytpkajhmchcbbhaa.P.Tn l lo hi ∧ (2 ≤ List.length ms → lo = Go.Proofs.Ytpkajhmchcbbhaa.P.LowAt l (List.length l) ∧ hi = Go.Proofs.Ytpkajhmchcbbhaa.P.HighAt l (List.length l))) ∧ a' = Go.Act.mk #[Go.Value.pointer (Option.some (Go.Addr.mk g 0 Option.none)), Go.Value.pointer (Option.some (Go.Addr.mk (Array.size (Go.World.heap w)) 0 Option.none)), Go.Value.pointer (Option.some (Go.Addr.mk (Array.size (Go.World.heap w) + 1) 0 Option.none)), u3, u4, u5, Go.undef, u7, u8, u9, u10, u11, u12, u13, u14, u15, u16, u17, Go.undef, u19, u20, u21, u22, u23, u24, u25, u26, u27, u28, u29, u30, u31, u32, u33, u34, u35, u36, u37, u38, u39, u40, u41, Go.undef, u43, u44, u45, u46, u47, u48, u49, u50, u51, u52, u53, u54, u55, u56, u57, u58, u59, u60, u61, u62, u63, u64, u65, u66, u67, u68, u69, u70, u71, u72, u73, u74, u75, u76, u77, u78, u79, u80, u81, Go.undef, Go.undef, Go.undef, Go.undef, Go.undef, Go.undef, Go.undef, Go.undef, Go.undef, Go.undef, Go.undef, Go.undef, Go.undef, Go.undef, Go.undef, Go.undef] (List.map Go.Proofs.Ytpkajhmchcbbhaa.P.mkD ms)) (fun a x => 4 - List.length (Go.Act.defers a)) ?atStart ?round; rotate_left; intro _ wr hinv; obtain ⟨ms, hinv⟩ := hinv; obtain ⟨u3, hinv⟩ := hinv; obtain ⟨u4, hinv⟩ := hinv; obtain ⟨u5, hinv⟩ := hinv; obtain ⟨u7, hinv⟩ := hinv; obtain ⟨u8, hinv⟩ := hinv; obtain ⟨u9, hinv⟩ := hinv; obtain ⟨u10, hinv⟩ := hinv; obtain ⟨u11, hinv⟩ := hinv; obtain ⟨u12, hinv⟩ := hinv; obtain ⟨u13, hinv⟩ := hinv; obtain ⟨u14, hinv⟩ := hinv; obtain ⟨u15, hinv⟩ := hinv; obtain ⟨u16, hinv⟩ := hinv; obtain ⟨u17, hinv⟩ := hinv; obtain ⟨u19, hinv⟩ := hinv; obtain ⟨u20, hinv⟩ := hinv; obtain ⟨u21, hinv⟩ := hinv; obtain ⟨u22, hinv⟩ := hinv; obtain ⟨u23, hinv⟩ := hinv; obtain ⟨u24, hinv⟩ := hinv; obtain ⟨u25, hinv⟩ := hinv; obtain ⟨u26, hinv⟩ := hinv; obtain ⟨u27, hinv⟩ := hinv; obtain ⟨u28, hinv⟩ := hinv; obtain ⟨u29, hinv⟩ := hinv; obtain ⟨u30, hinv⟩ := hinv; obtain ⟨u31, hinv⟩ := hinv; obtain ⟨u32, hinv⟩ := hinv; obtain ⟨u33, hinv⟩ := hinv; obtain ⟨u34, hinv⟩ := hinv; obtain ⟨u35, hinv⟩ := hinv; obtain ⟨u36, hinv⟩ := hinv; obtain ⟨u37, hinv⟩ := hinv; obtain ⟨u38, hinv⟩ := hinv; obtain ⟨u39, hinv⟩ := hinv; obtain ⟨u40, hinv⟩ := hinv; obtain ⟨u41, hinv⟩ := hinv; obtain ⟨u43, hinv⟩ := hinv; obtain ⟨u44, hinv⟩ := hinv; obtain ⟨u45, hinv⟩ := hinv; obtain ⟨u46, hinv⟩ := hinv; obtain ⟨u47, hinv⟩ := hinv; obtain ⟨u48, hinv⟩ := hinv; obtain ⟨u49, hinv⟩ := hinv; obtain ⟨u50, hinv⟩ := hinv; obtain ⟨u51, hinv⟩ := hinv; obtain ⟨u52, hinv⟩ := hinv; obtain ⟨u53, hinv⟩ := hinv; obtain ⟨u54, hinv⟩ := hinv; obtain ⟨u55, hinv⟩ := hinv; obtain ⟨u56, hinv⟩ := hinv; obtain ⟨u57, hinv⟩ := hinv; obtain ⟨u58, hinv⟩ := hinv; obtain ⟨u59, hinv⟩ := hinv; obtain ⟨u60, hinv⟩ := hinv; obtain ⟨u61, hinv⟩ := hinv; obtain ⟨u62, hinv⟩ := hinv; obtain ⟨u63, hinv⟩ := hinv; obtain ⟨u64, hinv⟩ := hinv; obtain ⟨u65, hinv⟩ := hinv; obtain ⟨u66, hinv⟩ := hinv; obtain ⟨u67, hinv⟩ := hinv; obtain ⟨u68, hinv⟩ := hinv; obtain ⟨u69, hinv⟩ := hinv; obtain ⟨u70, hinv⟩ := hinv; obtain ⟨u71, hinv⟩ := hinv; obtain ⟨u72, hinv⟩ := hinv; obtain ⟨u73, hinv⟩ := hinv; obtain ⟨u74, hinv⟩ := hinv; obtain ⟨u75, hinv⟩ := hinv; obtain ⟨u76, hinv⟩ := hinv; obtain ⟨u77, hinv⟩ := hinv; obtain ⟨u78, hinv⟩ := hinv; obtain ⟨u79, hinv⟩ := hinv; obtain ⟨u80, hinv⟩ := hinv; obtain ⟨u81, hinv⟩ := hinv; obtain ⟨hrel, ha⟩ := hinv; subst ha; try dsimp only; rotate_right)
 case atStart =>
  refine ⟨[], ?_⟩
  repeat apply Exists.intro
  exact ⟨⟨_, _, HJ.out, HT.out, fun h => by simp at h⟩, rfl⟩
 case round =>
 obtain ⟨lo, hi, hJ, hT, hE⟩ := hrel
 replace HJ := Aside0.mk hJ
 replace HT := Aside0.mk hT
 have HE := Aside0.mk hE
 clear hJ hT hE HG W0
 obtain ⟨W0, hW0⟩ : ∃ W0, W0 = wr := ⟨_, rfl⟩
 subst hW0
 have hcg := cell_of_one HJ.out.qG
 have HG0 := Aside0.mk HJ.out.qg
 obtain ⟨hS2, hV2⟩ := HG0.out.segL
 obtain ⟨hS18, hV18⟩ := HG0.out.segH
 have hS2a := fun o => (HG0.out.alloc o).segL.1
 have hV2a := fun o => (HG0.out.alloc o).segL.2
 have hS18a := fun o => (HG0.out.alloc o).segH.1
 have hV18a := fun o => (HG0.out.alloc o).segH.2
 have hl := HG0.out.l
 have hh := HG0.out.h
 have hglt := HG0.out.lt
 have hblt : w.heap.size < W0.heap.size := by have := HJ.out.qs; omega
 gi_wp2
 gi_region
 obtain ⟨W1, hW1⟩ : ∃ W1, (W0.alloc (.cells (ints (lo ++ hi)) 129)).drew = W1 := ⟨_, rfl⟩
 rw [hW1]
 have HJ1 : Aside0 (TJ w g A l.length c p lo hi ms W1) := ⟨by rw [← hW1]; exact (HJ.out.alloc _).drew⟩
 have HB1 : Aside0 (W1.heap[W0.heap.size]? = some (.cells (ints (lo ++ hi)) 129 (0, 0))) := ⟨by rw [← hW1]; exact blk_new W0 _⟩
 have HS1 := Lib.hid (show W1.heap.size = W0.heap.size + 1 by rw [← hW1]; simp)
 clear hW1 hS2 hV2 hS18 hV18 hS2a hV2a hS18a hV18a hcg HG0 HJ
 have hcg := cell_of_one HJ1.out.qG
 have hc0 := HJ1.out.qg.c0
 gi_wp2_with fail
 refine ⟨trivial, (callsIn_wide.2 (rows_calls g A l.length c false W1 hc0)).mono ?_⟩
 rintro e W2 ⟨rfl, hW2⟩
 have HJ2 : Aside0 (TJ w g A l.length c p lo hi ms W2) := ⟨by rw [hW2]; exact (HJ1.out.alloc _).alloc _⟩
 have hB2 : W2.heap[W0.heap.size]? = some (.cells (ints (lo ++ hi)) 129 (0, 0)) := by rw [hW2]; exact blk_old (blk_old HB1.out)
 have hbb : W2.heap[W1.heap.size]? = some (Obj.cells #[.bool false] 4 (0, 0)) := by rw [hW2]; exact blk_old (blk_new _ _)
 have hbn : W2.heap[W1.heap.size + 1]? = some (Obj.cells #[.int .i64 l.length] 3 (0, 0)) := by rw [hW2]; exact blk_new' (by simp)
 clear hW2
 gi_wp2_with fail
 (refine rowsRange 10 (W1.heap.size + 1)  (W1.heap.size)  (l.length)  false  (by omega) rfl ?hBn ?hBb ?hN (fun pre W => TJ w g A l.length c p (foldL pre lo) hi ms W ∧ W.heap[W0.heap.size]? = some (Obj.cells (ints (lo ++ hi)) 129 (0, 0)))  (fun _ _ _ => False)  ?hJ ?hJx ?h0 (fun x => Go.Act.mk #[Go.Value.pointer (Option.some (Go.Addr.mk g 0 Option.none)), Go.Value.pointer (Option.some (Go.Addr.mk (Array.size (Go.World.heap w)) 0 Option.none)), Go.Value.pointer (Option.some (Go.Addr.mk (Array.size (Go.World.heap w) + 1) 0 Option.none)), Go.Value.pointer (Option.some (Go.Addr.mk (Array.size (Go.World.heap W0)) 0 Option.none)), Go.Value.int Go.IntKind.i64 (Nat.cast (Fin.val x)), u5, Go.undef, Go.Value.pointer (Option.some (Go.Addr.mk g 0 Option.none)), Go.Value.pointer (Option.some (Go.Addr.mk g 0 Option.none)), Go.Value.pointer (Option.some (Go.Addr.mk g 2 Option.none)), Go.Value.agg (Go.Proofs.Ytpkajhmchcbbhaa.P.ints lo), Go.Value.pointer (Option.some (Go.Addr.mk g 0 Option.none)), Go.Value.pointer (Option.some (Go.Addr.mk g 0 Option.none)), Go.Value.pointer (Option.some (Go.Addr.mk g 18 Option.none)), Go.Value.agg (Go.Proofs.Ytpkajhmchcbbhaa.P.ints hi), Go.Value.agg (Go.Proofs.Ytpkajhmchcbbhaa.P.ints (lo ++ hi)), Go.Value.pointer (Option.some (Go.Addr.mk g 0 Option.none)), Go.Value.func (Go.Fn.func 76) #[] #[Go.Value.pointer (Option.some (Go.Addr.mk (Array.size (Go.World.heap W1) + 1) 0 Option.none)), Go.Value.pointer (Option.some (Go.Addr.mk (Array.size (Go.World.heap W1)) 0 Option.none))], Go.Value.int Go.IntKind.i64 (Nat.cast (Fin.val x)), u19, u20, u21, u22, u23, u24, u25, u26, u27, u28, u29, u30, u31, u32, u33, u34, u35, u36, u37, u38, u39, u40, u41, Go.undef, u43, u44, u45, u46, u47, u48, u49, u50, u51, u52, u53, u54, u55, u56, u57, u58, u59, u60, u61, u62, u63, u64, u65, u66, u67, u68, u69, u70, u71, u72, u73, u74, u75, u76, u77, u78, u79, u80, u81, Go.undef, Go.undef, Go.undef, Go.undef, Go.undef, Go.undef, Go.undef, Go.undef, Go.undef, Go.undef, Go.undef, Go.undef, Go.undef, Go.undef, Go.undef, Go.undef] []) ?hassign ?hbody ?hdone ?hstop)
 case hBn => exact hbn
 case hBb => exact hbb
 case hN => omega
 case hJ => exact .and (TJ.own _ _ (HJ2.out.qs) (fun _ h => HJ2.out.qm.lt _ h)) (ownBlk _)
 case hJx => exact fun _ _ _ _ _ h _ _ => h
 case h0 => exact ⟨HJ2.out, hB2⟩
 case hstop => exact fun _ _ _ _ _ _ h => h.elim
 case hassign =>
  intro l0 x W K hK
  gi_wp2
  exact hK
 case hbody =>
  intro l0 pre x W hJ hbn hbb
  obtain ⟨i, hi16⟩ := x
  obtain ⟨hJ, hB⟩ := hJ
  have HJW := Aside0.mk hJ
  have HBW := Aside0.mk hB
  have HBN := Aside0.mk hbn
  have HBB := Aside0.mk hbb
  have HI := Lib.hid hi16
  have hcg := cell_of_one hJ.qG
  have hc1 := hJ.qg.cl i (by omega)
  have hcf := hJ.qg.frozen (2 + i)
  have hlt := hJ.qg.lt
  have HW0 := Lib.hid hglt
  have HW1 := Lib.hid (show g < W1.heap.size by have := HJ1.out.qb; have := HJ1.out.qs; omega)
  clear hJ hB hbn hbb
  cases i with
  | zero =>
   gi_wp2
   exact ⟨.refl _, .refl _ _, by rw [foldL_snoc]; exact HJW.out, HBW.out⟩
  | succ j =>
   have hc2 := HJW.out.qg.cl j (by omega)
   have e1 : ((j + 1 : Nat) : Int) - 1 = (j : Int) := by omega
   have e2 : j < 16 := by omega
   have e3 : j + 1 < 16 := by omega
   obtain ⟨u, hu⟩ : ∃ u, u = (foldL pre lo).getD (j + 1) 0 := ⟨_, rfl⟩
   obtain ⟨v, hv⟩ : ∃ v, v = (foldL pre lo).getD j 0 := ⟨_, rfl⟩
   rw [← hu] at hc1
   rw [← hv] at hc2
   have HU := Lib.hid hu
   have HV := Lib.hid hv
   clear hu hv
   (skip)
   as_aux_lemma =>
    gi_wp2
    (refine Code.wpIn_mono calm_le ?_; (first | refine startR_ (k := 20) (S := fun w' => w' = _) (ds := [19]) (List.toArray (false :: false :: false :: false :: false :: false :: false :: false :: false :: false :: false :: false :: false :: false :: false :: false :: false :: false :: false :: false :: [])) (by kernel_rfl) (by kernel_rfl) calm_in rfl rfl rfl (fun plS => ?_) | refine startW_ (k := 20) (S := fun w' => w' = _) (ds := [19]) (List.toArray (false :: false :: false :: false :: false :: false :: false :: false :: false :: false :: false :: false :: false :: false :: false :: false :: false :: false :: false :: false :: [])) (by kernel_rfl) (by kernel_rfl) calm_in rfl rfl rfl (fun plS => ?_)); clear plS; refine pureY (i := 1) (N := (some 22)) ?_; refine pureY (i := 3) (N := (some 24)) ?_; refine pureY (i := 9) (N := (some 30)) ?_; refine pureY (i := 10) (N := (some 31)) ?_; refine takeE (i := 0) (N := (some 21)) ?_; refine pureY (i := 16) (N := (some 37)) ?_; refine pureY (i := 17) (N := (some 38)) ?_; refine takeE (i := 2) (N := (some 23)) ?_; refine pureY (i := 4) (N := (some 25)) ?_; refine pureY (i := 5) (N := (some 26)) ?_; refine pureY (i := 6) (N := (some 27)) ?_; refine takeE (i := 7) (N := (some 28)) ?_; refine takeE (i := 8) (N := (some 29)) ?_; refine pureY (i := 11) (N := (some 32)) ?_; refine pureY (i := 12) (N := (some 33)) ?_; refine pureY (i := 13) (N := (some 34)) ?_; refine takeE (i := 14) (N := (some 35)) ?_; refine pureY (i := 15) (N := (some 36)) ?_; refine pureY (i := 18) (N := (some 39)) ?_; refine lastY (i := 19) (fun plK plH => ?_); rw [if_pos (by rfl)]; (first | gi_big_move | go_big_op | go_simp))
    ((try simp only [Act.put, List.getElem_toArray, List.getElem_cons_succ, List.getElem_cons_zero, List.setIfInBounds_toArray, List.set_cons_succ, List.set_cons_zero]); refine plH _ _ ?_; clear plH plK; refine done_ (by kernel_rfl) ?_; rw [calm_normal])
    have hset := HJW.out.setL (j + 1) e3 (mx u v)
    refine ⟨((KeepsOthers.setCell W _ _).trans (.drew _)), ?_, ?_, ?_⟩
    ·intro b hb
     simp only [List.mem_cons, List.not_mem_nil, or_false] at hb
     refine (Below.heap_setCell _ _ _ _ (fun e => ?_))
     have e : b = g := e
     have := HW1.out
     rcases hb with rfl | rfl <;> omega
    ·rw [foldL_snoc]
     unfold stepL
     rw [if_pos (Nat.succ_pos j), Nat.add_sub_cancel, ← HU.out, ← HV.out]
     exact hset.drew
    refine (Below.heap_setCell _ _ _ _ (fun e => ?_)).trans HBW.out
    have e : W0.heap.size = g := e
    have := HW0.out
    omega
 case hdone =>
  intro D W3 hD hJ hK
  obtain ⟨hJ, hB3⟩ := hJ
  rw [HT.out.lo] at hJ
  have HJ3 : Aside0 (TJ w g A l.length c p (LowAt l l.length) hi (D :: ms) W3) := ⟨hJ.cons hK (fun hm => by have := HJ2.out.qm.lt D hm; omega) (by have := HJ2.out.qs; omega)⟩
  have HB3 := Aside0.mk hB3
  have hcg := cell_of_one hJ.qG
  have hc0 := hJ.qg.c0
  clear hJ hB3 hK hB2 hbb hbn HJ2
  gi_wp2_with fail
  refine ⟨trivial, (callsIn_wide.2 (rows_calls g A l.length c true W3 hc0)).mono ?_⟩
  rintro e W4 ⟨rfl, hW4⟩
  have HJ4 : Aside0 (TJ w g A l.length c p (LowAt l l.length) hi (D :: ms) W4) := ⟨by rw [hW4]; exact (HJ3.out.alloc _).alloc _⟩
  have hB4 : W4.heap[W0.heap.size]? = some (.cells (ints (lo ++ hi)) 129 (0, 0)) := by rw [hW4]; exact blk_old (blk_old HB3.out)
  have hbb : W4.heap[W3.heap.size]? = some (Obj.cells #[.bool true] 4 (0, 0)) := by rw [hW4]; exact blk_old (blk_new _ _)
  have hbn : W4.heap[W3.heap.size + 1]? = some (Obj.cells #[.int .i64 l.length] 3 (0, 0)) := by rw [hW4]; exact blk_new' (by simp)
  clear hW4
  gi_wp2_with fail
  (refine rowsRange 10 (W3.heap.size + 1)  (W3.heap.size)  (l.length)  true  (by omega) rfl ?hBn ?hBb ?hN (fun pre W => TJ w g A l.length c p (LowAt l l.length) (foldH pre hi) (D :: ms) W ∧ W.heap[W0.heap.size]? = some (Obj.cells (ints (lo ++ hi)) 129 (0, 0)))  (fun _ _ _ => False)  ?hJ ?hJx ?h0 (fun x => Go.Act.mk #[Go.Value.pointer (Option.some (Go.Addr.mk g 0 Option.none)), Go.Value.pointer (Option.some (Go.Addr.mk (Array.size (Go.World.heap w)) 0 Option.none)), Go.Value.pointer (Option.some (Go.Addr.mk (Array.size (Go.World.heap w) + 1) 0 Option.none)), Go.Value.pointer (Option.some (Go.Addr.mk (Array.size (Go.World.heap W0)) 0 Option.none)), u4, Go.Value.int Go.IntKind.i64 (Nat.cast (Fin.val x)), Go.undef, Go.Value.pointer (Option.some (Go.Addr.mk g 0 Option.none)), Go.Value.pointer (Option.some (Go.Addr.mk g 0 Option.none)), Go.Value.pointer (Option.some (Go.Addr.mk g 2 Option.none)), Go.Value.agg (Go.Proofs.Ytpkajhmchcbbhaa.P.ints lo), Go.Value.pointer (Option.some (Go.Addr.mk g 0 Option.none)), Go.Value.pointer (Option.some (Go.Addr.mk g 0 Option.none)), Go.Value.pointer (Option.some (Go.Addr.mk g 18 Option.none)), Go.Value.agg (Go.Proofs.Ytpkajhmchcbbhaa.P.ints hi), Go.Value.agg (Go.Proofs.Ytpkajhmchcbbhaa.P.ints (lo ++ hi)), Go.Value.pointer (Option.some (Go.Addr.mk g 0 Option.none)), Go.Value.func (Go.Fn.func 76) #[] #[Go.Value.pointer (Option.some (Go.Addr.mk (Array.size (Go.World.heap W1) + 1) 0 Option.none)), Go.Value.pointer (Option.some (Go.Addr.mk (Array.size (Go.World.heap W1)) 0 Option.none))], Go.undef, u19, u20, u21, u22, u23, u24, u25, u26, u27, u28, u29, u30, u31, u32, u33, u34, u35, u36, u37, u38, u39, Go.Value.pointer (Option.some (Go.Addr.mk g 0 Option.none)), Go.Value.func (Go.Fn.func 76) #[] #[Go.Value.pointer (Option.some (Go.Addr.mk (Array.size (Go.World.heap W3) + 1) 0 Option.none)), Go.Value.pointer (Option.some (Go.Addr.mk (Array.size (Go.World.heap W3)) 0 Option.none))], Go.Value.int Go.IntKind.i64 (Nat.cast (Fin.val x)), u43, u44, u45, u46, u47, u48, u49, u50, u51, u52, u53, u54, u55, u56, u57, u58, u59, u60, u61, u62, u63, u64, u65, u66, u67, u68, u69, u70, u71, u72, u73, u74, u75, u76, u77, u78, u79, u80, u81, Go.undef, Go.undef, Go.undef, Go.undef, Go.undef, Go.undef, Go.undef, Go.undef, Go.undef, Go.undef, Go.undef, Go.undef, Go.undef, Go.undef, Go.undef, Go.undef] []) ?hassign ?hbody ?hdone ?hstop)
  case hBn => exact hbn
  case hBb => exact hbb
  case hN => omega
  case hJ => exact .and (TJ.own _ _ (HJ4.out.qs) (fun _ h => HJ4.out.qm.lt _ h)) (ownBlk _)
  case hJx => exact fun _ _ _ _ _ h _ _ => h
  case h0 => exact ⟨HJ4.out, hB4⟩
  case hstop => exact fun _ _ _ _ _ _ h => h.elim
  case hassign =>
   intro l0 x W K hK
   gi_wp2
   exact hK
  case hbody =>
   intro l0 pre x W hJ hbn hbb
   obtain ⟨i, hi16⟩ := x
   obtain ⟨hJ, hB⟩ := hJ
   have HJW := Aside0.mk hJ
   have HBW := Aside0.mk hB
   have HBN := Aside0.mk hbn
   have HBB := Aside0.mk hbb
   have HI := Lib.hid hi16
   have HW0 := Lib.hid hglt
   have HW1 := Lib.hid (show g < W3.heap.size by have := HJ3.out.qb; have := HJ3.out.qs; omega)
   have hcg := cell_of_one hJ.qG
   have hc0 := hJ.qg.c0
   have hc1 := hJ.qg.ch i (by omega)
   have hcf := hJ.qg.frozen (18 + i)
   have hlt := hJ.qg.lt
   clear hJ hB hbn hbb
   by_cases hlast : i + 1 < l.length
   ·have hc2 := HJW.out.qg.ch (i + 1) (by omega)
    have e2 : i < 16 := by omega
    have e3 : i + 1 < 16 := by omega
    have e4 : (i : Int) + 1 < (l.length : Int) := by omega
    obtain ⟨u, hu⟩ : ∃ u, u = (foldH pre hi).getD i 0 := ⟨_, rfl⟩
    obtain ⟨v, hv⟩ : ∃ v, v = (foldH pre hi).getD (i + 1) 0 := ⟨_, rfl⟩
    rw [← hu] at hc1
    rw [← hv] at hc2
    have HU := Lib.hid hu
    have HV := Lib.hid hv
    clear hu hv
    (skip)
    as_aux_lemma =>
     gi_wp2
     (refine Code.wpIn_mono calm_le ?_; (first | refine startR_ (k := 20) (S := fun w' => w' = _) (ds := [19]) (List.toArray (false :: false :: false :: false :: false :: false :: false :: false :: false :: false :: false :: false :: false :: false :: false :: false :: false :: false :: false :: false :: [])) (by kernel_rfl) (by kernel_rfl) calm_in rfl rfl rfl (fun plS => ?_) | refine startW_ (k := 20) (S := fun w' => w' = _) (ds := [19]) (List.toArray (false :: false :: false :: false :: false :: false :: false :: false :: false :: false :: false :: false :: false :: false :: false :: false :: false :: false :: false :: false :: [])) (by kernel_rfl) (by kernel_rfl) calm_in rfl rfl rfl (fun plS => ?_)); clear plS; refine pureY (i := 1) (N := (some 53)) ?_; refine pureY (i := 3) (N := (some 55)) ?_; refine pureY (i := 9) (N := (some 61)) ?_; refine pureY (i := 10) (N := (some 62)) ?_; refine takeE (i := 0) (N := (some 52)) ?_; refine pureY (i := 16) (N := (some 68)) ?_; refine pureY (i := 17) (N := (some 69)) ?_; refine takeE (i := 2) (N := (some 54)) ?_; refine pureY (i := 4) (N := (some 56)) ?_; refine pureY (i := 5) (N := (some 57)) ?_; refine pureY (i := 6) (N := (some 58)) ?_; refine takeE (i := 7) (N := (some 59)) ?_; refine takeE (i := 8) (N := (some 60)) ?_; refine pureY (i := 11) (N := (some 63)) ?_; refine pureY (i := 12) (N := (some 64)) ?_; refine pureY (i := 13) (N := (some 65)) ?_; refine takeE (i := 14) (N := (some 66)) ?_; refine pureY (i := 15) (N := (some 67)) ?_; refine pureY (i := 18) (N := (some 70)) ?_; refine lastY (i := 19) (fun plK plH => ?_); rw [if_pos (by rfl)]; (first | gi_big_move | go_big_op | go_simp))
     ((try simp only [Act.put, List.getElem_toArray, List.getElem_cons_succ, List.getElem_cons_zero, List.setIfInBounds_toArray, List.set_cons_succ, List.set_cons_zero]); refine plH _ _ ?_; clear plH plK; refine done_ (by kernel_rfl) ?_; rw [calm_normal])
     have hset := HJW.out.setH i e2 (mn u v)
     refine ⟨((KeepsOthers.setCell W _ _).trans (.drew _)), ?_, ?_, ?_⟩
     ·intro b hb
      simp only [List.mem_cons, List.not_mem_nil, or_false] at hb
      refine (Below.heap_setCell _ _ _ _ (fun e => ?_))
      have e : b = g := e
      have := HW1.out
      rcases hb with rfl | rfl <;> omega
     ·rw [foldH_snoc]
      unfold stepH
      rw [if_pos hlast, ← HU.out, ← HV.out]
      exact hset.drew
     refine (Below.heap_setCell _ _ _ _ (fun e => ?_)).trans HBW.out
     have e : W0.heap.size = g := e
     have := HW0.out
     omega
   have e4 : ¬ ((i + 1 : Nat) : Int) < (l.length : Int) := by omega
   have e5 : l.length ≤ i + 1 := by omega
   gi_wp2
   exact ⟨.refl _, .refl _ _, by rw [foldH_snoc]; unfold stepH; rw [if_neg hlast]; exact HJW.out, HBW.out⟩
  case hdone =>
   intro D2 W5 hD2 hJ hK
   obtain ⟨hJ, hB5⟩ := hJ
   rw [HT.out.hi] at hJ
   have hDne : D2 ∉ D :: ms := fun hm => by have := HJ4.out.qm.lt D2 hm; omega
   have HJ5 : Aside0 (TJ w g A l.length c p (LowAt l l.length) (HighAt l l.length) (D2 :: D :: ms) W5) := ⟨hJ.cons hK hDne (by have := HJ4.out.qs; omega)⟩
   have HB5 := Aside0.mk hB5
   have HG5 := Aside0.mk hJ.qg
   have hcg := cell_of_one hJ.qG
   obtain ⟨hS2, hV2⟩ := HG5.out.segL
   obtain ⟨hS18, hV18⟩ := HG5.out.segH
   have hl5 := HG5.out.l
   have hh5 := HG5.out.h
   have hSB : SegOk W5 W0.heap.size 0 32 := .mk' hB5 0 32 (by simp [ints, hl, hh])
   have hVB : seg W5 W0.heap.size 0 32 = ints (lo ++ hi) := by
    rw [seg_of hB5]
    exact ints_full _ (by simp [hl, hh])
   clear hJ hB5 hK hB4 hbb hbn HJ4
   as_aux_lemma =>
    gi_wp2_with fail
    (refine Code.wpIn_mono calm_le ?_; (first | refine startR_ (k := 11) (S := fun w' => w' = _) (ds := []) (List.toArray (false :: false :: false :: false :: false :: false :: false :: false :: false :: false :: false :: [])) (by kernel_rfl) (by kernel_rfl) calm_in rfl rfl rfl (fun plS => ?_) | refine startW_ (k := 11) (S := fun w' => w' = _) (ds := []) (List.toArray (false :: false :: false :: false :: false :: false :: false :: false :: false :: false :: false :: [])) (by kernel_rfl) (by kernel_rfl) calm_in rfl rfl rfl (fun plS => ?_)); clear plS; refine takeE (i := 0) (N := (some 71)) ?_; refine takeE (i := 1) (N := (some 72)) ?_; refine pureY (i := 2) (N := (some 73)) ?_; refine pureY (i := 3) (N := (some 74)) ?_; refine takeE (i := 4) (N := (some 75)) ?_; refine takeE (i := 5) (N := (some 76)) ?_; refine pureY (i := 6) (N := (some 77)) ?_; refine pureY (i := 7) (N := (some 78)) ?_; refine takeE (i := 8) (N := (some 79)) ?_; refine pureY (i := 9) (N := (some 80)) ?_; refine pureY (i := 10) (N := (some 81)) ?_; refine done_ (by kernel_rfl) ?_; rw [calm_normal])
    have hmk : ∀ (D : Nat), ({ target := .collected D, args := #[] } : Deferred) = mkD D := fun _ => rfl
    gi_wp2_with fail
    ·rename_i hcond
     have hc5 := HJ5.out.drew.qg.c0
     refine ⟨trivial, (callsIn_wide.2 (rows_calls g A l.length c false W5.drew hc5)).mono ?_⟩
     obtain ⟨W5d, hW5d⟩ : ∃ W, W5.drew = W := ⟨_, rfl⟩
     have HJ5d : Aside0 (TJ w g A l.length c p (LowAt l l.length) (HighAt l l.length) (D2 :: D :: ms) W5d) := ⟨by rw [← hW5d]; exact HJ5.out.drew⟩
     rw [hW5d]
     clear hW5d hc5 hcg hS2 hV2 hS18 hV18 hSB hVB HB5 HG5 HJ5
     rintro e W6 ⟨rfl, hW6⟩
     have HJ6 : Aside0 (TJ w g A l.length c p (LowAt l l.length) (HighAt l l.length) (D2 :: D :: ms) W6) := ⟨by rw [hW6]; exact (HJ5d.out.alloc _).alloc _⟩
     have hbb : W6.heap[W5d.heap.size]? = some (Obj.cells #[.bool false] 4 (0, 0)) := by rw [hW6]; exact blk_old (blk_new _ _)
     have hbn : W6.heap[W5d.heap.size + 1]? = some (Obj.cells #[.int .i64 l.length] 3 (0, 0)) := by rw [hW6]; exact blk_new' (by simp)
     clear hW6
     gi_wp2_with fail
     (refine rowsRange 10 (W5d.heap.size + 1)  (W5d.heap.size)  (l.length)  false  (by omega) rfl ?hBn ?hBb ?hN (fun pre W => TJ w g A l.length c p (LowAt l l.length) (HighAt l l.length) (D2 :: D :: ms) W ∧ ∀ x, x ∈ pre → (LowAt l l.length).getD x.val 0 ≤ (HighAt l l.length).getD x.val 0)  (fun cd pre W => cd = .ret ∧ TJ w g A l.length c p (LowAt l l.length) (HighAt l l.length) (D2 :: D :: ms) W ∧ tightOk l = false)  ?hJ ?hJx ?h0 (fun x => Go.Act.mk #[Go.Value.pointer (Option.some (Go.Addr.mk g 0 Option.none)), Go.Value.pointer (Option.some (Go.Addr.mk (Array.size (Go.World.heap w)) 0 Option.none)), Go.Value.pointer (Option.some (Go.Addr.mk (Array.size (Go.World.heap w) + 1) 0 Option.none)), Go.Value.pointer (Option.some (Go.Addr.mk (Array.size (Go.World.heap W0)) 0 Option.none)), u4, u5, Go.Value.int Go.IntKind.i64 (Nat.cast (Fin.val x)), Go.Value.pointer (Option.some (Go.Addr.mk g 0 Option.none)), Go.Value.pointer (Option.some (Go.Addr.mk g 0 Option.none)), Go.Value.pointer (Option.some (Go.Addr.mk g 2 Option.none)), Go.Value.agg (Go.Proofs.Ytpkajhmchcbbhaa.P.ints lo), Go.Value.pointer (Option.some (Go.Addr.mk g 0 Option.none)), Go.Value.pointer (Option.some (Go.Addr.mk g 0 Option.none)), Go.Value.pointer (Option.some (Go.Addr.mk g 18 Option.none)), Go.Value.agg (Go.Proofs.Ytpkajhmchcbbhaa.P.ints hi), Go.Value.agg (Go.Proofs.Ytpkajhmchcbbhaa.P.ints (lo ++ hi)), Go.Value.pointer (Option.some (Go.Addr.mk g 0 Option.none)), Go.Value.func (Go.Fn.func 76) #[] #[Go.Value.pointer (Option.some (Go.Addr.mk (Array.size (Go.World.heap W1) + 1) 0 Option.none)), Go.Value.pointer (Option.some (Go.Addr.mk (Array.size (Go.World.heap W1)) 0 Option.none))], Go.undef, u19, u20, u21, u22, u23, u24, u25, u26, u27, u28, u29, u30, u31, u32, u33, u34, u35, u36, u37, u38, u39, Go.Value.pointer (Option.some (Go.Addr.mk g 0 Option.none)), Go.Value.func (Go.Fn.func 76) #[] #[Go.Value.pointer (Option.some (Go.Addr.mk (Array.size (Go.World.heap W3) + 1) 0 Option.none)), Go.Value.pointer (Option.some (Go.Addr.mk (Array.size (Go.World.heap W3)) 0 Option.none))], Go.undef, u43, u44, u45, u46, u47, u48, u49, u50, u51, u52, u53, u54, u55, u56, u57, u58, u59, u60, u61, u62, u63, u64, u65, u66, u67, u68, u69, u70, Go.Value.agg (Go.Proofs.Ytpkajhmchcbbhaa.P.ints (lo ++ hi)), Go.Value.pointer (Option.some (Go.Addr.mk g 0 Option.none)), Go.Value.pointer (Option.some (Go.Addr.mk g 0 Option.none)), Go.Value.pointer (Option.some (Go.Addr.mk g 2 Option.none)), Go.Value.agg (Go.Proofs.Ytpkajhmchcbbhaa.P.ints (Go.Proofs.Ytpkajhmchcbbhaa.P.LowAt l (List.length l))), Go.Value.pointer (Option.some (Go.Addr.mk g 0 Option.none)), Go.Value.pointer (Option.some (Go.Addr.mk g 0 Option.none)), Go.Value.pointer (Option.some (Go.Addr.mk g 18 Option.none)), Go.Value.agg (Go.Proofs.Ytpkajhmchcbbhaa.P.ints (Go.Proofs.Ytpkajhmchcbbhaa.P.HighAt l (List.length l))), Go.Value.agg (Go.Proofs.Ytpkajhmchcbbhaa.P.ints (Go.Proofs.Ytpkajhmchcbbhaa.P.LowAt l (List.length l) ++ Go.Proofs.Ytpkajhmchcbbhaa.P.HighAt l (List.length l))), Go.Value.bool Bool.true, Go.Value.pointer (Option.some (Go.Addr.mk g 0 Option.none)), Go.Value.func (Go.Fn.func 76) #[] #[Go.Value.pointer (Option.some (Go.Addr.mk (Array.size (Go.World.heap W5d) + 1) 0 Option.none)), Go.Value.pointer (Option.some (Go.Addr.mk (Array.size (Go.World.heap W5d)) 0 Option.none))], Go.Value.int Go.IntKind.i64 (Nat.cast (Fin.val x)), Go.undef, Go.undef, Go.undef, Go.undef, Go.undef, Go.undef, Go.undef, Go.undef, Go.undef, Go.undef, Go.undef, Go.undef, Go.undef] []) ?hassign ?hbody ?hdone ?hstop)
     case hBn => exact hbn
     case hBb => exact hbb
     case hN => omega
     case hJ => exact .and (TJ.own _ _ (HJ6.out.qs) (fun _ h => HJ6.out.qm.lt _ h)) (ownProp _)
     case hJx => exact fun cd => .and (ownProp _) (.and (TJ.own _ _ (HJ6.out.qs) (fun _ h => HJ6.out.qm.lt _ h)) (ownProp _))
     case h0 => exact ⟨HJ6.out, fun x hx => by simp at hx⟩
     case hstop =>
      rintro D3 cd k W7 hD3 hk ⟨rfl, hJ7, hno⟩ hK7
      have hDne3 : D3 ∉ D2 :: D :: ms := fun hm => by have := HJ6.out.qm.lt D3 hm; omega
      have HJ7 : Aside0 (TJ w g A l.length c p (LowAt l l.length) (HighAt l l.length) (D3 :: D2 :: D :: ms) W7) := ⟨hJ7.cons hK7 hDne3 (by have := HJ6.out.qs; omega)⟩
      clear hJ7 hK7 hbb hbn
      gi_wp2
      refine leaves_marks (D3 :: D2 :: D :: ms) W7 HJ7.out.qm ?_
      intro W8 hb hc
      have hcr := cell_of_one (hc _ _ _ _ HJ7.out.qR)
      refine ⟨.bool false, ?_, by rw [hno], ⟨HJ7.out.qg.l, HJ7.out.qg.h, hc _ _ _ _ HJ7.out.qg.b⟩, HJ7.out.qx.more hb HJ7.out.qd⟩
      simp [results, Try.f75, go_sem, hcr]
     case hassign =>
      intro l0 x W K hK
      gi_wp2
      exact hK
     case hbody =>
      intro l0 pre x W hJ hbn hbb
      obtain ⟨i, hi16⟩ := x
      obtain ⟨hJ, hpre⟩ := hJ
      have HJW := Aside0.mk hJ
      have HP := Aside0.mk hpre
      have HI := Lib.hid hi16
      have e1 : i < 16 := by omega
      have hcg := cell_of_one hJ.qG
      have hc1 := hJ.qg.cl i (by omega)
      have hc2 := hJ.qg.ch i (by omega)
      have hcr := cell_of_one hJ.qR
      have hcrf := blk_frozen hJ.qR 0
      obtain ⟨u, hu⟩ : ∃ u, u = (LowAt l l.length).getD i 0 := ⟨_, rfl⟩
      obtain ⟨v, hv⟩ : ∃ v, v = (HighAt l l.length).getD i 0 := ⟨_, rfl⟩
      rw [← hu] at hc1
      rw [← hv] at hc2
      have HU := Lib.hid hu
      have HV := Lib.hid hv
      clear hu hv hpre hJ hbn hbb
      (skip)
      as_aux_lemma =>
       gi_wp2_with fail
       (refine Code.wpIn_mono calm_le ?_; (first | refine startR_ (k := 13) (S := fun w' => w' = _) (ds := []) (List.toArray (false :: false :: false :: false :: false :: false :: false :: false :: false :: false :: false :: false :: false :: [])) (by kernel_rfl) (by kernel_rfl) calm_in rfl rfl rfl (fun plS => ?_) | refine startW_ (k := 13) (S := fun w' => w' = _) (ds := []) (List.toArray (false :: false :: false :: false :: false :: false :: false :: false :: false :: false :: false :: false :: false :: [])) (by kernel_rfl) (by kernel_rfl) calm_in rfl rfl rfl (fun plS => ?_)); clear plS; refine pureY (i := 1) (N := (some 86)) ?_; refine pureY (i := 7) (N := (some 92)) ?_; refine takeE (i := 0) (N := (some 85)) ?_; refine pureY (i := 2) (N := (some 87)) ?_; refine pureY (i := 3) (N := (some 88)) ?_; refine pureY (i := 4) (N := (some 89)) ?_; refine takeE (i := 5) (N := (some 90)) ?_; refine takeE (i := 6) (N := (some 91)) ?_; refine pureY (i := 8) (N := (some 93)) ?_; refine pureY (i := 9) (N := (some 94)) ?_; refine pureY (i := 10) (N := (some 95)) ?_; refine takeE (i := 11) (N := (some 96)) ?_; refine pureY (i := 12) (N := (some 97)) ?_; refine done_ (by kernel_rfl) ?_; rw [calm_normal])
       gi_wp2_with fail
       ·rename_i hvu
        refine ⟨(KeepsOthers.drew _).trans (.setCell _ _ _), rfl, HJW.out.drew.setR, ?_⟩
        refine tight_no l h16 i HI.out ?_
        rw [← HU.out, ← HV.out]
        exact hvu
       rename_i hvu
       refine ⟨.drew _, fun _ _ => rfl, HJW.out.drew, fun x hx => ?_⟩
       rcases List.mem_append.1 hx with hx | hx
       ·exact HP.out x hx
       obtain rfl := List.mem_singleton.1 hx
       show (LowAt l l.length).getD i 0 ≤ (HighAt l l.length).getD i 0
       rw [← HU.out, ← HV.out]
       omega
     case hdone =>
      rintro D3 W7 hD3 ⟨hJ7, hall⟩ hK7
      have hDne3 : D3 ∉ D2 :: D :: ms := fun hm => by have := HJ6.out.qm.lt D3 hm; omega
      have HJ7 : Aside0 (TJ w g A l.length c p (LowAt l l.length) (HighAt l l.length) (D3 :: D2 :: D :: ms) W7) := ⟨hJ7.cons hK7 hDne3 (by have := HJ6.out.qs; omega)⟩
      have HALL := Aside0.mk hall
      have hcr := cell_of_one hJ7.qR
      have hcrf := blk_frozen hJ7.qR 0
      clear hJ7 hK7 hall hbb hbn
      as_aux_lemma =>
       gi_wp2
       refine leaves_marks (D3 :: D2 :: D :: ms) _ (HJ7.out.qm.setCell HJ7.out.qR _) ?_
       intro W8 hb hc
       have hR8 : W8.heap[w.heap.size + 1]? = some (Obj.cells #[.bool true] 4 (0, 0)) := hc _ _ _ _ (blk_put HJ7.out.qR 0 (.bool true) rfl)
       have hcr := cell_of_one hR8
       have hyes : tightOk l = true := tight_yes l h16 (fun x => HALL.out x (mem_rowAll _ x))
       have hg7 := HJ7.out.qg.keep (w1 := W7.setCell ⟨w.heap.size + 1, 0, none⟩ (.bool true)) (Below.heap_setCell _ _ _ _ (by show g ≠ w.heap.size + 1; omega))
       refine ⟨.bool true, ?_, by rw [hyes], ⟨hg7.l, hg7.h, hc _ _ _ _ hg7.b⟩, (HJ7.out.qx.setCell _ _ (.inr ql22)).more hb HJ7.out.qd⟩
       simp [results, Try.f75, go_sem, hcr]
    rename_i hcond
    have hEq : ¬ lo ++ hi = LowAt l l.length ++ HighAt l l.length := fun e => by rw [e] at hcond; simp at hcond
    have hms : ms.length < 2 := by
     refine Nat.lt_of_not_le fun h => hEq ?_
     obtain ⟨e1, e2⟩ := HE.out h
     rw [e1, e2]
    refine ⟨?_, ?_⟩
    ·refine ⟨D2 :: D :: ms, ?_⟩
     repeat apply Exists.intro
     exact ⟨⟨_, _, HJ5.out.drew, Tn.again l h16, fun _ => ⟨rfl, rfl⟩⟩, rfl⟩
    simp only [List.length_cons, List.length_map]
    omega
end Go.Proofs.Ytpkajhmchcbbhaa.P
end
section
namespace Go.Proofs.Ytpkajhmchcbbhaa.P
open Go.RowKit Go.Proofs.YtpkajhmchcbbhaaW.PrintWords Go.Proofs.YtpkajhmchcbbhaaW.PrintLast Go.Proofs.YtpkajhmchcbbhaaW.PrintMore
def OpenPost (w : World) (A : Option Addr) (c : Nat) (l : List SRow) (p : Int) (dips : List Int) (e : Ending) (w' : World) : Prop :=
 Below w.heap.size w w' ∧ ((openE l p dips ≠ 0 ∧ e = .returned (.tuple #[.pointer none, .int .i64 (openE l p dips)])) ∨
  (openE l p dips = 0 ∧ ∃ g : Nat, e = .returned (.tuple #[.pointer (some ⟨g, 0, none⟩), .int .i64 0]) ∧ w.heap.size ≤ g ∧ Gauge w' g A l.length c p (LowAt l l.length) (HighAt l l.length)))
theorem checkTank_len {l : List SRow} {p : Int} (h : checkTank l p = 0) : 2 ≤ l.length ∧ l.length ≤ 16 := by
 unfold checkTank at h
 split at h
 ·cases h
 rename_i h2
 exact ⟨by omega, by omega⟩
set_option maxRecDepth 100000 in
set_option maxHeartbeats 40000000 in
theorem open_calls (A : Option Addr) (c : Nat) (l : List SRow) (p : Int) (A2 : Option Addr) (c2 : Nat) (dips : List Int) (w : World) (hr : Kd.C kRow w A l.length l) (hc : l.length ≤ c) (hd : Kd.C (Kd.int .i64) w A2 dips.length dips) (hc2 : dips.length ≤ c2) :
  Calls Try.prog 54 #[.agg #[.slice A l.length c, .int .i64 p], .slice A2 dips.length c2] w (OpenPost w A c l p dips) := by
 have HR := Aside0.mk hr
 have HD := Aside0.mk hd
 have HC := Lib.hid hc
 have HC2 := Lib.hid hc2
 clear hr hd hc hc2
 have hu1 := Try.underlying24
 have hu2 := Try.underlying70
 go_enter Try.func54, Try.ntmps54
 go_wp2_with fail
 have hB0 : Below w.heap.size w (w.alloc (.cells #[.slice A l.length c, .int .i64 p] 24)) := (Below.refl _ _).alloc (Nat.le_refl _) _
 refine (chart_CheckTank.calls A c l p (checkTank l p) _ (Kd.C_below HR.out hB0) HC.out rfl).mono ?_
 rintro e w1 ⟨rfl, hB1⟩
 have hbk : w1.heap[w.heap.size]? = some (.cells #[.slice A l.length c, .int .i64 p] 24 (0, 0)) := (hB1.block _ (by simp)).trans (blk_new _ _)
 have HB1 := Aside0.mk (below_then hB0 hB1)
 have hc0 : w1.cell? ⟨w.heap.size, 0, none⟩ = some (.slice A l.length c) := blk_cell hbk 0
 have hc1 : w1.cell? ⟨w.heap.size, 1, none⟩ = some (.int .i64 p) := blk_cell hbk 1
 have HBK := Aside0.mk hbk
 clear hB0 hB1 hbk
 by_cases h0 : checkTank l p = 0
 ·have H0 := Lib.hid h0
  have hl2 := checkTank_len h0
  obtain ⟨ad, rfl, d0, d1, d2⟩ := row_cells HR.out 0 (by omega)
  obtain ⟨ad', had, e0, d1', d2'⟩ := row_cells HR.out (l.length - 1) (by omega)
  obtain rfl := Option.some.inj had
  clear had d1 d2 d1' d2'
  replace d0 := pw_cell_below HB1.out d0
  replace e0 := pw_cell_below HB1.out e0
  rw [h0]
  clear h0
  have i1 : (0 : Int) < l.length := by omega
  have i2 : ((l.length - 1 : Nat) : Int) = (l.length : Int) - 1 := by omega
  have i3 : (l.length : Int) - 1 < l.length := by omega
  have i4 : (0 : Int) ≤ (l.length : Int) - 1 := by omega
  have i5 : ((l.length : Int) - 1).toNat = l.length - 1 := by omega
  obtain ⟨a, ha⟩ : ∃ a, a = (l.getD 0 zRow).f0 := ⟨_, rfl⟩
  obtain ⟨b, hb⟩ : ∃ b, b = (l.getD (l.length - 1) zRow).f0 := ⟨_, rfl⟩
  rw [← ha] at d0
  rw [← hb] at e0
  replace d0 : w1.cell? ad = some (.int .i64 a) := by rw [Nat.zero_mul, addr_add0] at d0; exact d0
  have HA := Lib.hid (show firstD l = a by rw [ha]; rfl)
  have HB := Lib.hid (show lastD l = b by rw [hb]; rfl)
  clear ha hb
  go_wp2_with fail
  (refine start_ (n := 17) (S := fun w' => w' = _) (ds := [15]) (List.toArray (false :: false :: false :: false :: false :: false :: false :: false :: false :: false :: false :: false :: false :: false :: false :: false :: false :: [])) (by kernel_rfl) rfl rfl rfl (fun plS => ?_); clear plS; refine pureY (i := 0) (N := (some 13)) ?_; refine pureY (i := 5) (N := (some 18)) ?_; refine pureY (i := 7) (N := (some 20)) ?_; refine pureY (i := 14) (N := (some 27)) ?_; refine takeE (i := 1) (N := (some 14)) ?_; refine pureY (i := 2) (N := (some 15)) ?_; refine pureY (i := 3) (N := (some 16)) ?_; refine takeE (i := 4) (N := (some 17)) ?_; refine takeE (i := 6) (N := (some 19)) ?_; refine takeE (i := 8) (N := (some 21)) ?_; refine pureY (i := 9) (N := (some 22)) ?_; refine pureY (i := 10) (N := (some 23)) ?_; refine pureY (i := 11) (N := (some 24)) ?_; refine pureY (i := 12) (N := (some 25)) ?_; refine takeE (i := 13) (N := (some 26)) ?_; refine lastY (i := 15) (fun plK plH => ?_); rw [if_pos (by rfl)]; (first | gi_big_move | go_big_op | go_simp))
  refine (chart_within.calls a b A2 c2 dips (dips.all fun n => inB a b n) _ (Kd.C_below HD.out (HB1.out.drew)) HC2.out rfl).mono ?_
  rintro e w2 ⟨rfl, hB2⟩
  have HB2 := Aside0.mk (below_then HB1.out.drew hB2)
  have hbk2 := below_blk hB2 (show w1.drew.heap[w.heap.size]? = _ from HBK.out) (by have := blk_lt HBK.out; exact this)
  have hx0 : w2.cell? ⟨w.heap.size, 0, none⟩ = some (.slice (some ad) l.length c) := blk_cell hbk2 0
  have hx1 : w2.cell? ⟨w.heap.size, 1, none⟩ = some (.int .i64 p) := blk_cell hbk2 1
  clear hc0 hc1 hB2 hbk2 d0 e0
  ((try simp only [Act.put, List.getElem_toArray, List.getElem_cons_succ, List.getElem_cons_zero, List.setIfInBounds_toArray, List.set_cons_succ, List.set_cons_zero]); refine plH _ _ ?_; clear plH plK; refine pureY (i := 16) (N := (some 29)) ?_; refine done_ (by kernel_rfl) ?_)
  by_cases hin : (dips.all fun n => inB a b n) = true
  ·have HIN := Lib.hid hin
   rw [hin]
   clear hin
   go_wp2_with fail
   refine (newGauge_calls (some ad) c l p _ (Kd.C_below HR.out HB2.out) hl2.2).mono ?_
   rintro e w3 ⟨g, rfl, hg0, hG, hB3⟩
   go_wp2_with fail
   refine (tighten_calls g (some ad) c p l hl2.2 _ hG).mono ?_
   rintro e w4 ⟨rfl, hG4, hB4⟩
   have hgw : w.heap.size ≤ g := Nat.le_trans HB2.out.size hg0
   have hB34 : Below w.heap.size w w4 := (below_then HB2.out hB3).trans (hB4.below _ (by have := (below_then HB2.out hB3).size; exact this) (fun d hd => by
    obtain rfl := List.mem_singleton.1 hd
    exact hgw))
   cases ht : tightOk l with
   | true =>
    have HT := Lib.hid ht
    clear ht
    go_wp2
    go_ret2
    refine ⟨hB34, .inr ⟨?_, g, rfl, hgw, hG4⟩⟩
    unfold openE
    rw [if_neg (by rw [H0.out]; simp), HA.out, HB.out, HIN.out, HT.out]
    simp
   | false =>
    have HT := Lib.hid ht
    clear ht
    go_wp2
    go_ret2
    have he : openE l p dips = 21 := by
     unfold openE
     rw [if_neg (by rw [H0.out]; simp), HA.out, HB.out, HIN.out, HT.out]
     simp
    exact ⟨hB34, .inl ⟨by rw [he]; simp, by rw [he]; rfl⟩⟩
  have HIN := Lib.hid (Bool.eq_false_iff.mpr hin)
  rw [Bool.eq_false_iff.mpr hin]
  clear hin
  go_wp2
  go_ret2
  have he : openE l p dips = 3 := by
   unfold openE
   rw [if_neg (by rw [H0.out]; simp), HA.out, HB.out, HIN.out]
   simp
  exact ⟨HB2.out, .inl ⟨by rw [he]; simp, by rw [he]; rfl⟩⟩
 have H0 := Lib.hid h0
 have hb : ((checkTank l p) == 0) = false := by simpa using h0
 have hb' : ((checkTank l p) != 0) = true := by simpa using h0
 go_wp2
 go_ret2
 have he : openE l p dips = checkTank l p := by
  unfold openE
  rw [if_pos H0.out]
 exact ⟨HB1.out, .inl ⟨by rw [he]; exact H0.out, by rw [he]; rfl⟩⟩
end Go.Proofs.Ytpkajhmchcbbhaa.P
end
