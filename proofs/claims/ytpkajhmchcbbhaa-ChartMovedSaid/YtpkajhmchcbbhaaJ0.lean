/- Short words: proofs by a tactic that stands as an automatic argument. -/
import Derived.RowKit
set_option linter.unusedVariables false
namespace Go.Proofs.Ytpkajhmchcbbhaa.P
theorem qj0 {p : Prop} (h : p := by first | (with_reducible assumption) | assumption) : p := h
theorem qj1 {p : Prop} (h : p := by repeat (first | (with_reducible first | exact HB.out | apply below_alloc | apply pw_below_drewN | apply below_drew1) | exact HB.out)) : p := h
theorem qj2 {p : Prop} (h : p := by (with_reducible exact HB.out)) : p := h
theorem qj3 {p : Prop} (h : p := by (try simp only [List.map_toArray, List.map_cons, List.map_nil]); first | done | rfl | (simp only [List.length_drop, List.length_take]; rfl)) : p := h
theorem qj4 {p : Prop} (h : p := by first | rfl | (simp; done) | (simp [*]; done)) : p := h
theorem qj5 {p : Prop} (h : p := by repeat (first | (with_reducible first | exact HB.out | apply below_alloc | apply pw_below_drewN | apply below_drew1 | refine below_set ?_ GE344.out) | exact HB.out)) : p := h
theorem qj6 {p : Prop} (h : p := by have := World.block_lt_of_cell? _ _ hx148_0; first | rwa [add_block] at this | exact this) : p := h
theorem qj7 {p : Prop} (h : p := by repeat (first | (with_reducible first | exact HB.out | apply below_alloc | apply pw_below_drewN | apply below_drew1 | refine below_set ?_ GE207.out) | exact HB.out)) : p := h
theorem qj8 {p : Prop} (h : p := by have := World.block_lt_of_cell? _ _ hx149_0; first | rwa [add_block] at this | exact this) : p := h
theorem qj9 {p : Prop} (h : p := by have := World.block_lt_of_cell? _ _ hw233_2; first | rwa [add_block] at this | exact this) : p := h
theorem qj10 {p : Prop} (h : p := by have := World.block_lt_of_cell? _ _ hw233_1; first | rwa [add_block] at this | exact this) : p := h
theorem qj11 {p : Prop} (h : p := by have := World.block_lt_of_cell? _ _ hw233_0; first | rwa [add_block] at this | exact this) : p := h
theorem qj12 {p : Prop} (h : p := by have := World.block_lt_of_cell? _ _ hw232_2; first | rwa [add_block] at this | exact this) : p := h
theorem qj13 {p : Prop} (h : p := by have := World.block_lt_of_cell? _ _ hw232_1; first | rwa [add_block] at this | exact this) : p := h
theorem qj14 {p : Prop} (h : p := by have := World.block_lt_of_cell? _ _ hw232_0; first | rwa [add_block] at this | exact this) : p := h
theorem qj15 {p : Prop} (h : p := by first | (rw [add_block]; exact hn148_1) | (show (Addr.add _ _).block ≠ _; rw [add_block]; exact hn148_1) | exact hn148_1) : p := h
theorem qj16 {p : Prop} (h : p := by first | (rw [add_block]; exact hn148_0) | (show (Addr.add _ _).block ≠ _; rw [add_block]; exact hn148_0) | exact hn148_0) : p := h
theorem qj17 {p : Prop} (h : p := by (with_reducible repeat (first | refine blk_drewN ?_ _ | refine blk_drew ?_ | refine blk_alloc ?_ _)); exact BK207.out) : p := h
theorem qj18 {p : Prop} (h : p := by first | (rw [add_block]; exact hn149_1) | (show (Addr.add _ _).block ≠ _; rw [add_block]; exact hn149_1) | exact hn149_1) : p := h
theorem qj19 {p : Prop} (h : p := by first | (rw [add_block]; exact hn149_0) | (show (Addr.add _ _).block ≠ _; rw [add_block]; exact hn149_0) | exact hn149_0) : p := h
theorem qj20 {p : Prop} (h : p := by (with_reducible repeat (first | refine blk_drewN ?_ _ | refine blk_drew ?_ | refine blk_alloc ?_ _)); exact BK344.out) : p := h
theorem qj21 {p : Prop} (h : p := by show w.heap.size ≤ w.heap.size + 1; omega) : p := h
theorem qj22 {p : Prop} (h : p := by have := World.block_lt_of_cell? _ _ hx151_0; first | rwa [add_block] at this | exact this) : p := h
theorem qj23 {p : Prop} (h : p := by have := World.block_lt_of_cell? _ _ hx150_0; first | rwa [add_block] at this | exact this) : p := h
theorem qj24 {p : Prop} (h : p := by (simp only [putAll, Act.put, List.setIfInBounds_toArray, List.set_cons_zero, List.set_cons_succ]; rfl)) : p := h
theorem qj25 {p : Prop} (h : p := by have h_ := Kd.R_ne HO210.out BK212.out (by decide); intro e_; exact h_ (by rw [e_]; rfl)) : p := h
theorem qj26 {p : Prop} (h : p := by have h_ := Kd.R_ne HO210.out BK207.out (by decide); intro e_; exact h_ (by rw [e_]; rfl)) : p := h
theorem qj27 {p : Prop} (h : p := by (try simp only [List.map_toArray, List.map_cons, List.map_nil]); first | done | (simp only [hji14]; rfl) | rfl | (simp only [List.length_drop, List.length_take]; rfl)) : p := h
theorem qj28 {p : Prop} (h : p := by repeat (first | (with_reducible first | exact HB.out | apply below_alloc | apply pw_below_drewN | apply below_drew1 | refine below_set ?_ GE269.out) | exact HB.out)) : p := h
theorem qj29 {p : Prop} (h : p := by first | (rw [add_block]; exact hn151_1) | (show (Addr.add _ _).block ≠ _; rw [add_block]; exact hn151_1) | exact hn151_1) : p := h
theorem qj30 {p : Prop} (h : p := by first | (rw [add_block]; exact hn151_0) | (show (Addr.add _ _).block ≠ _; rw [add_block]; exact hn151_0) | exact hn151_0) : p := h
theorem qj31 {p : Prop} (h : p := by first | (rw [add_block]; exact hn150_1) | (show (Addr.add _ _).block ≠ _; rw [add_block]; exact hn150_1) | exact hn150_1) : p := h
theorem qj32 {p : Prop} (h : p := by first | (rw [add_block]; exact hn150_0) | (show (Addr.add _ _).block ≠ _; rw [add_block]; exact hn150_0) | exact hn150_0) : p := h
theorem qj33 {p : Prop} (h : p := by (with_reducible repeat (first | refine blk_drewN ?_ _ | refine blk_drew ?_ | refine blk_alloc ?_ _)); exact BK269.out) : p := h
theorem qj34 {p : Prop} (h : p := by show q + 1 ≠ w.heap.size + 1; omega) : p := h
theorem qj35 {p : Prop} (h : p := by first | exact Nat.ne_of_lt (Nat.lt_of_lt_of_le qj14 GW231.out) | (rw [add_block]; exact Nat.ne_of_lt (Nat.lt_of_lt_of_le qj14 GW231.out)) | (show (Addr.add _ _).block ≠ _; rw [add_block]; exact Nat.ne_of_lt (Nat.lt_of_lt_of_le qj14 GW231.out)) | (dsimp only; exact Nat.ne_of_lt (Nat.lt_of_lt_of_le qj14 GW231.out))) : p := h
theorem qj36 {p : Prop} (h : p := by first | exact Nat.ne_of_lt (Nat.lt_of_lt_of_le qj13 GW231.out) | (rw [add_block]; exact Nat.ne_of_lt (Nat.lt_of_lt_of_le qj13 GW231.out)) | (show (Addr.add _ _).block ≠ _; rw [add_block]; exact Nat.ne_of_lt (Nat.lt_of_lt_of_le qj13 GW231.out)) | (dsimp only; exact Nat.ne_of_lt (Nat.lt_of_lt_of_le qj13 GW231.out))) : p := h
theorem qj37 {p : Prop} (h : p := by first | exact Nat.ne_of_lt (Nat.lt_of_lt_of_le qj12 GW231.out) | (rw [add_block]; exact Nat.ne_of_lt (Nat.lt_of_lt_of_le qj12 GW231.out)) | (show (Addr.add _ _).block ≠ _; rw [add_block]; exact Nat.ne_of_lt (Nat.lt_of_lt_of_le qj12 GW231.out)) | (dsimp only; exact Nat.ne_of_lt (Nat.lt_of_lt_of_le qj12 GW231.out))) : p := h
theorem qj38 {p : Prop} (h : p := by first | exact Nat.ne_of_lt (Nat.lt_of_lt_of_le qj11 GW231.out) | (rw [add_block]; exact Nat.ne_of_lt (Nat.lt_of_lt_of_le qj11 GW231.out)) | (show (Addr.add _ _).block ≠ _; rw [add_block]; exact Nat.ne_of_lt (Nat.lt_of_lt_of_le qj11 GW231.out)) | (dsimp only; exact Nat.ne_of_lt (Nat.lt_of_lt_of_le qj11 GW231.out))) : p := h
theorem qj39 {p : Prop} (h : p := by first | exact Nat.ne_of_lt (Nat.lt_of_lt_of_le qj10 GW231.out) | (rw [add_block]; exact Nat.ne_of_lt (Nat.lt_of_lt_of_le qj10 GW231.out)) | (show (Addr.add _ _).block ≠ _; rw [add_block]; exact Nat.ne_of_lt (Nat.lt_of_lt_of_le qj10 GW231.out)) | (dsimp only; exact Nat.ne_of_lt (Nat.lt_of_lt_of_le qj10 GW231.out))) : p := h
theorem qj40 {p : Prop} (h : p := by first | exact Nat.ne_of_lt (Nat.lt_of_lt_of_le qj9 GW231.out) | (rw [add_block]; exact Nat.ne_of_lt (Nat.lt_of_lt_of_le qj9 GW231.out)) | (show (Addr.add _ _).block ≠ _; rw [add_block]; exact Nat.ne_of_lt (Nat.lt_of_lt_of_le qj9 GW231.out)) | (dsimp only; exact Nat.ne_of_lt (Nat.lt_of_lt_of_le qj9 GW231.out))) : p := h
end Go.Proofs.Ytpkajhmchcbbhaa.P
