/- Short words: proofs by a tactic that stands as an automatic argument. -/
import Derived.RowKit
set_option linter.unusedVariables false
namespace Go.Proofs.Ytpkajhmchcbbhaa.P
theorem qe0 {p : Prop} (h : p := by first | (with_reducible assumption) | assumption) : p := h
theorem qe1 {p : Prop} (h : p := by repeat (first | (with_reducible first | exact HB.out | apply below_alloc | apply pw_below_drewN | apply below_drew1) | exact HB.out)) : p := h
theorem qe2 {p : Prop} (h : p := by (try simp only [List.map_toArray, List.map_cons, List.map_nil]); first | done | rfl | (simp only [List.length_drop, List.length_take]; rfl)) : p := h
theorem qe3 {p : Prop} (h : p := by (with_reducible exact HB.out)) : p := h
theorem qe4 {p : Prop} (h : p := by first | rfl | (simp; done) | (simp [*]; done)) : p := h
theorem qe5 {p : Prop} (h : p := by repeat (first | (with_reducible first | exact HB.out | apply below_alloc | apply pw_below_drewN | apply below_drew1 | refine below_set ?_ GE344.out) | exact HB.out)) : p := h
theorem qe6 {p : Prop} (h : p := by have := World.block_lt_of_cell? _ _ hx148_0; first | rwa [add_block] at this | exact this) : p := h
theorem qe7 {p : Prop} (h : p := by repeat (first | (with_reducible first | exact HB.out | apply below_alloc | apply pw_below_drewN | apply below_drew1 | refine below_set ?_ GE207.out) | exact HB.out)) : p := h
theorem qe8 {p : Prop} (h : p := by have := World.block_lt_of_cell? _ _ hx149_0; first | rwa [add_block] at this | exact this) : p := h
theorem qe9 {p : Prop} (h : p := by have := World.block_lt_of_cell? _ _ hw233_2; first | rwa [add_block] at this | exact this) : p := h
theorem qe10 {p : Prop} (h : p := by have := World.block_lt_of_cell? _ _ hw233_1; first | rwa [add_block] at this | exact this) : p := h
theorem qe11 {p : Prop} (h : p := by have := World.block_lt_of_cell? _ _ hw233_0; first | rwa [add_block] at this | exact this) : p := h
theorem qe12 {p : Prop} (h : p := by have := World.block_lt_of_cell? _ _ hw232_2; first | rwa [add_block] at this | exact this) : p := h
theorem qe13 {p : Prop} (h : p := by have := World.block_lt_of_cell? _ _ hw232_1; first | rwa [add_block] at this | exact this) : p := h
theorem qe14 {p : Prop} (h : p := by have := World.block_lt_of_cell? _ _ hw232_0; first | rwa [add_block] at this | exact this) : p := h
theorem qe15 {p : Prop} (h : p := by first | (rw [add_block]; exact hn148_1) | (show (Addr.add _ _).block ≠ _; rw [add_block]; exact hn148_1) | exact hn148_1) : p := h
theorem qe16 {p : Prop} (h : p := by first | (rw [add_block]; exact hn148_0) | (show (Addr.add _ _).block ≠ _; rw [add_block]; exact hn148_0) | exact hn148_0) : p := h
theorem qe17 {p : Prop} (h : p := by (with_reducible repeat (first | refine blk_drewN ?_ _ | refine blk_drew ?_ | refine blk_alloc ?_ _)); exact BK207.out) : p := h
theorem qe18 {p : Prop} (h : p := by first | (rw [add_block]; exact hn149_1) | (show (Addr.add _ _).block ≠ _; rw [add_block]; exact hn149_1) | exact hn149_1) : p := h
theorem qe19 {p : Prop} (h : p := by first | (rw [add_block]; exact hn149_0) | (show (Addr.add _ _).block ≠ _; rw [add_block]; exact hn149_0) | exact hn149_0) : p := h
theorem qe20 {p : Prop} (h : p := by (with_reducible repeat (first | refine blk_drewN ?_ _ | refine blk_drew ?_ | refine blk_alloc ?_ _)); exact BK344.out) : p := h
theorem qe21 {p : Prop} (h : p := by show w.heap.size ≤ w.heap.size + 1; omega) : p := h
theorem qe22 {p : Prop} (h : p := by have := World.block_lt_of_cell? _ _ hx151_0; first | rwa [add_block] at this | exact this) : p := h
theorem qe23 {p : Prop} (h : p := by have := World.block_lt_of_cell? _ _ hx150_0; first | rwa [add_block] at this | exact this) : p := h
theorem qe24 {p : Prop} (h : p := by (simp only [putAll, Act.put, List.setIfInBounds_toArray, List.set_cons_zero, List.set_cons_succ]; rfl)) : p := h
theorem qe25 {p : Prop} (h : p := by have h_ := Kd.R_ne HO210.out BK212.out (by decide); intro e_; exact h_ (by rw [e_]; rfl)) : p := h
theorem qe26 {p : Prop} (h : p := by have h_ := Kd.R_ne HO210.out BK207.out (by decide); intro e_; exact h_ (by rw [e_]; rfl)) : p := h
theorem qe27 {p : Prop} (h : p := by (try simp only [List.map_toArray, List.map_cons, List.map_nil]); first | done | (simp only [hji14]; rfl) | rfl | (simp only [List.length_drop, List.length_take]; rfl)) : p := h
theorem qe28 {p : Prop} (h : p := by repeat (first | (with_reducible first | exact HB.out | apply below_alloc | apply pw_below_drewN | apply below_drew1 | refine below_set ?_ GE269.out) | exact HB.out)) : p := h
theorem qe29 {p : Prop} (h : p := by first | (rw [add_block]; exact hn151_1) | (show (Addr.add _ _).block ≠ _; rw [add_block]; exact hn151_1) | exact hn151_1) : p := h
theorem qe30 {p : Prop} (h : p := by first | (rw [add_block]; exact hn151_0) | (show (Addr.add _ _).block ≠ _; rw [add_block]; exact hn151_0) | exact hn151_0) : p := h
theorem qe31 {p : Prop} (h : p := by first | (rw [add_block]; exact hn150_1) | (show (Addr.add _ _).block ≠ _; rw [add_block]; exact hn150_1) | exact hn150_1) : p := h
theorem qe32 {p : Prop} (h : p := by first | (rw [add_block]; exact hn150_0) | (show (Addr.add _ _).block ≠ _; rw [add_block]; exact hn150_0) | exact hn150_0) : p := h
theorem qe33 {p : Prop} (h : p := by (with_reducible repeat (first | refine blk_drewN ?_ _ | refine blk_drew ?_ | refine blk_alloc ?_ _)); exact BK269.out) : p := h
theorem qe34 {p : Prop} (h : p := by show q + 1 ≠ w.heap.size + 1; omega) : p := h
theorem qe35 {p : Prop} (h : p := by first | exact Nat.ne_of_lt (Nat.lt_of_lt_of_le qe14 GW231.out) | (rw [add_block]; exact Nat.ne_of_lt (Nat.lt_of_lt_of_le qe14 GW231.out)) | (show (Addr.add _ _).block ≠ _; rw [add_block]; exact Nat.ne_of_lt (Nat.lt_of_lt_of_le qe14 GW231.out)) | (dsimp only; exact Nat.ne_of_lt (Nat.lt_of_lt_of_le qe14 GW231.out))) : p := h
theorem qe36 {p : Prop} (h : p := by first | exact Nat.ne_of_lt (Nat.lt_of_lt_of_le qe13 GW231.out) | (rw [add_block]; exact Nat.ne_of_lt (Nat.lt_of_lt_of_le qe13 GW231.out)) | (show (Addr.add _ _).block ≠ _; rw [add_block]; exact Nat.ne_of_lt (Nat.lt_of_lt_of_le qe13 GW231.out)) | (dsimp only; exact Nat.ne_of_lt (Nat.lt_of_lt_of_le qe13 GW231.out))) : p := h
theorem qe37 {p : Prop} (h : p := by first | exact Nat.ne_of_lt (Nat.lt_of_lt_of_le qe12 GW231.out) | (rw [add_block]; exact Nat.ne_of_lt (Nat.lt_of_lt_of_le qe12 GW231.out)) | (show (Addr.add _ _).block ≠ _; rw [add_block]; exact Nat.ne_of_lt (Nat.lt_of_lt_of_le qe12 GW231.out)) | (dsimp only; exact Nat.ne_of_lt (Nat.lt_of_lt_of_le qe12 GW231.out))) : p := h
theorem qe38 {p : Prop} (h : p := by first | exact Nat.ne_of_lt (Nat.lt_of_lt_of_le qe11 GW231.out) | (rw [add_block]; exact Nat.ne_of_lt (Nat.lt_of_lt_of_le qe11 GW231.out)) | (show (Addr.add _ _).block ≠ _; rw [add_block]; exact Nat.ne_of_lt (Nat.lt_of_lt_of_le qe11 GW231.out)) | (dsimp only; exact Nat.ne_of_lt (Nat.lt_of_lt_of_le qe11 GW231.out))) : p := h
theorem qe39 {p : Prop} (h : p := by first | exact Nat.ne_of_lt (Nat.lt_of_lt_of_le qe10 GW231.out) | (rw [add_block]; exact Nat.ne_of_lt (Nat.lt_of_lt_of_le qe10 GW231.out)) | (show (Addr.add _ _).block ≠ _; rw [add_block]; exact Nat.ne_of_lt (Nat.lt_of_lt_of_le qe10 GW231.out)) | (dsimp only; exact Nat.ne_of_lt (Nat.lt_of_lt_of_le qe10 GW231.out))) : p := h
theorem qe40 {p : Prop} (h : p := by first | exact Nat.ne_of_lt (Nat.lt_of_lt_of_le qe9 GW231.out) | (rw [add_block]; exact Nat.ne_of_lt (Nat.lt_of_lt_of_le qe9 GW231.out)) | (show (Addr.add _ _).block ≠ _; rw [add_block]; exact Nat.ne_of_lt (Nat.lt_of_lt_of_le qe9 GW231.out)) | (dsimp only; exact Nat.ne_of_lt (Nat.lt_of_lt_of_le qe9 GW231.out))) : p := h
end Go.Proofs.Ytpkajhmchcbbhaa.P
