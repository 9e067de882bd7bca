/- Short words: proofs by a tactic that stands as an automatic argument. -/
import Derived.RowKit
set_option linter.unusedVariables false
namespace Go.Proofs.Ytpkajhmchcbbhaa.P
theorem ql0 {p : Prop} (h : p := by repeat (first | (with_reducible first | exact HB.out | apply below_alloc | apply pw_below_drewN | apply below_drew1) | exact HB.out)) : p := h
theorem ql1 {p : Prop} (h : p := by first | (with_reducible assumption) | assumption) : p := h
theorem ql2 {p : Prop} (h : p := by (try simp only [List.map_toArray, List.map_cons, List.map_nil]); first | done | rfl | (simp only [List.length_drop, List.length_take]; rfl)) : p := h
theorem ql3 {p : Prop} (h : p := by (with_reducible exact HB.out)) : p := h
theorem ql4 {p : Prop} (h : p := by first | rfl | (simp; done) | (simp [*]; done)) : p := h
theorem ql5 {p : Prop} (h : p := by repeat (first | (with_reducible first | exact HB.out | apply below_alloc | apply pw_below_drewN | apply below_drew1 | refine below_set ?_ GE344.out) | exact HB.out)) : p := h
theorem ql6 {p : Prop} (h : p := by have := World.block_lt_of_cell? _ _ hx148_0; first | rwa [add_block] at this | exact this) : p := h
theorem ql7 {p : Prop} (h : p := by repeat (first | (with_reducible first | exact HB.out | apply below_alloc | apply pw_below_drewN | apply below_drew1 | refine below_set ?_ GE207.out) | exact HB.out)) : p := h
theorem ql8 {p : Prop} (h : p := by have := World.block_lt_of_cell? _ _ hx149_0; first | rwa [add_block] at this | exact this) : p := h
theorem ql9 {p : Prop} (h : p := by have := World.block_lt_of_cell? _ _ hw233_2; first | rwa [add_block] at this | exact this) : p := h
theorem ql10 {p : Prop} (h : p := by have := World.block_lt_of_cell? _ _ hw233_1; first | rwa [add_block] at this | exact this) : p := h
theorem ql11 {p : Prop} (h : p := by have := World.block_lt_of_cell? _ _ hw233_0; first | rwa [add_block] at this | exact this) : p := h
theorem ql12 {p : Prop} (h : p := by have := World.block_lt_of_cell? _ _ hw232_2; first | rwa [add_block] at this | exact this) : p := h
theorem ql13 {p : Prop} (h : p := by have := World.block_lt_of_cell? _ _ hw232_1; first | rwa [add_block] at this | exact this) : p := h
theorem ql14 {p : Prop} (h : p := by have := World.block_lt_of_cell? _ _ hw232_0; first | rwa [add_block] at this | exact this) : p := h
theorem ql15 {p : Prop} (h : p := by first | (rw [add_block]; exact hn148_1) | (show (Addr.add _ _).block ≠ _; rw [add_block]; exact hn148_1) | exact hn148_1) : p := h
theorem ql16 {p : Prop} (h : p := by first | (rw [add_block]; exact hn148_0) | (show (Addr.add _ _).block ≠ _; rw [add_block]; exact hn148_0) | exact hn148_0) : p := h
theorem ql17 {p : Prop} (h : p := by (with_reducible repeat (first | refine blk_drewN ?_ _ | refine blk_drew ?_ | refine blk_alloc ?_ _)); exact BK207.out) : p := h
theorem ql18 {p : Prop} (h : p := by first | (rw [add_block]; exact hn149_1) | (show (Addr.add _ _).block ≠ _; rw [add_block]; exact hn149_1) | exact hn149_1) : p := h
theorem ql19 {p : Prop} (h : p := by first | (rw [add_block]; exact hn149_0) | (show (Addr.add _ _).block ≠ _; rw [add_block]; exact hn149_0) | exact hn149_0) : p := h
theorem ql20 {p : Prop} (h : p := by (with_reducible repeat (first | refine blk_drewN ?_ _ | refine blk_drew ?_ | refine blk_alloc ?_ _)); exact BK344.out) : p := h
theorem ql21 {p : Prop} (h : p := by have := hln; (try rw [List.length_append]); (try simp only [List.length_cons, List.length_nil]); omega) : p := h
theorem ql22 {p : Prop} (h : p := by show w.heap.size ≤ w.heap.size + 1; omega) : p := h
theorem ql23 {p : Prop} (h : p := by have := World.block_lt_of_cell? _ _ hx151_0; first | rwa [add_block] at this | exact this) : p := h
theorem ql24 {p : Prop} (h : p := by have := World.block_lt_of_cell? _ _ hx150_0; first | rwa [add_block] at this | exact this) : p := h
theorem ql25 {p : Prop} (h : p := by have h_ := Kd.R_ne HO210.out BK212.out (by decide); intro e_; exact h_ (by rw [e_]; rfl)) : p := h
theorem ql26 {p : Prop} (h : p := by have h_ := Kd.R_ne HO210.out BK207.out (by decide); intro e_; exact h_ (by rw [e_]; rfl)) : p := h
theorem ql27 {p : Prop} (h : p := by (try simp only [List.map_toArray, List.map_cons, List.map_nil]); first | done | (simp only [hji14]; rfl) | rfl | (simp only [List.length_drop, List.length_take]; rfl)) : p := h
theorem ql28 {p : Prop} (h : p := by repeat (first | (with_reducible first | exact HB.out | apply below_alloc | apply pw_below_drewN | apply below_drew1 | refine below_set ?_ GE269.out) | exact HB.out)) : p := h
theorem ql29 {p : Prop} (h : p := by first | (rw [add_block]; exact hn151_1) | (show (Addr.add _ _).block ≠ _; rw [add_block]; exact hn151_1) | exact hn151_1) : p := h
theorem ql30 {p : Prop} (h : p := by first | (rw [add_block]; exact hn151_0) | (show (Addr.add _ _).block ≠ _; rw [add_block]; exact hn151_0) | exact hn151_0) : p := h
theorem ql31 {p : Prop} (h : p := by first | (rw [add_block]; exact hn150_1) | (show (Addr.add _ _).block ≠ _; rw [add_block]; exact hn150_1) | exact hn150_1) : p := h
theorem ql32 {p : Prop} (h : p := by first | (rw [add_block]; exact hn150_0) | (show (Addr.add _ _).block ≠ _; rw [add_block]; exact hn150_0) | exact hn150_0) : p := h
theorem ql33 {p : Prop} (h : p := by (with_reducible repeat (first | refine blk_drewN ?_ _ | refine blk_drew ?_ | refine blk_alloc ?_ _)); exact BK269.out) : p := h
theorem ql34 {p : Prop} (h : p := by show q + 1 ≠ w.heap.size + 1; omega) : p := h
theorem ql35 {p : Prop} (h : p := by first | exact Nat.ne_of_lt (Nat.lt_of_lt_of_le ql14 GW231.out) | (rw [add_block]; exact Nat.ne_of_lt (Nat.lt_of_lt_of_le ql14 GW231.out)) | (show (Addr.add _ _).block ≠ _; rw [add_block]; exact Nat.ne_of_lt (Nat.lt_of_lt_of_le ql14 GW231.out)) | (dsimp only; exact Nat.ne_of_lt (Nat.lt_of_lt_of_le ql14 GW231.out))) : p := h
theorem ql36 {p : Prop} (h : p := by first | exact Nat.ne_of_lt (Nat.lt_of_lt_of_le ql13 GW231.out) | (rw [add_block]; exact Nat.ne_of_lt (Nat.lt_of_lt_of_le ql13 GW231.out)) | (show (Addr.add _ _).block ≠ _; rw [add_block]; exact Nat.ne_of_lt (Nat.lt_of_lt_of_le ql13 GW231.out)) | (dsimp only; exact Nat.ne_of_lt (Nat.lt_of_lt_of_le ql13 GW231.out))) : p := h
theorem ql37 {p : Prop} (h : p := by first | exact Nat.ne_of_lt (Nat.lt_of_lt_of_le ql12 GW231.out) | (rw [add_block]; exact Nat.ne_of_lt (Nat.lt_of_lt_of_le ql12 GW231.out)) | (show (Addr.add _ _).block ≠ _; rw [add_block]; exact Nat.ne_of_lt (Nat.lt_of_lt_of_le ql12 GW231.out)) | (dsimp only; exact Nat.ne_of_lt (Nat.lt_of_lt_of_le ql12 GW231.out))) : p := h
theorem ql38 {p : Prop} (h : p := by first | exact Nat.ne_of_lt (Nat.lt_of_lt_of_le ql11 GW231.out) | (rw [add_block]; exact Nat.ne_of_lt (Nat.lt_of_lt_of_le ql11 GW231.out)) | (show (Addr.add _ _).block ≠ _; rw [add_block]; exact Nat.ne_of_lt (Nat.lt_of_lt_of_le ql11 GW231.out)) | (dsimp only; exact Nat.ne_of_lt (Nat.lt_of_lt_of_le ql11 GW231.out))) : p := h
theorem ql39 {p : Prop} (h : p := by first | exact Nat.ne_of_lt (Nat.lt_of_lt_of_le ql10 GW231.out) | (rw [add_block]; exact Nat.ne_of_lt (Nat.lt_of_lt_of_le ql10 GW231.out)) | (show (Addr.add _ _).block ≠ _; rw [add_block]; exact Nat.ne_of_lt (Nat.lt_of_lt_of_le ql10 GW231.out)) | (dsimp only; exact Nat.ne_of_lt (Nat.lt_of_lt_of_le ql10 GW231.out))) : p := h
theorem ql40 {p : Prop} (h : p := by first | exact Nat.ne_of_lt (Nat.lt_of_lt_of_le ql9 GW231.out) | (rw [add_block]; exact Nat.ne_of_lt (Nat.lt_of_lt_of_le ql9 GW231.out)) | (show (Addr.add _ _).block ≠ _; rw [add_block]; exact Nat.ne_of_lt (Nat.lt_of_lt_of_le ql9 GW231.out)) | (dsimp only; exact Nat.ne_of_lt (Nat.lt_of_lt_of_le ql9 GW231.out))) : p := h
end Go.Proofs.Ytpkajhmchcbbhaa.P
