/- Short words: proofs by a tactic that stands as an automatic argument. -/
import Derived.RowKit
set_option linter.unusedVariables false
namespace Go.Proofs.Ytpkajhmchcbbhaa.P
theorem qb0 {p : Prop} (h : p := by repeat (first | (with_reducible first | exact HB.out | apply below_alloc | apply pw_below_drewN | apply below_drew1) | exact HB.out)) : p := h
theorem qb1 {p : Prop} (h : p := by first | (with_reducible assumption) | assumption) : p := h
theorem qb2 {p : Prop} (h : p := by first | exact Kd.own_blk (Kd.R_away HO205.out (fun _ hk => hk.2)) | (rw [add_block]; exact Kd.own_blk (Kd.R_away HO205.out (fun _ hk => hk.2))) | (show (Addr.add _ _).block ≠ _; rw [add_block]; exact Kd.own_blk (Kd.R_away HO205.out (fun _ hk => hk.2))) | (dsimp only; exact Kd.own_blk (Kd.R_away HO205.out (fun _ hk => hk.2)))) : p := h
theorem qb3 {p : Prop} (h : p := by (try simp only [List.map_toArray, List.map_cons, List.map_nil]); first | done | rfl | (simp only [List.length_drop, List.length_take]; rfl)) : p := h
theorem qb4 {p : Prop} (h : p := by (with_reducible exact HB.out)) : p := h
theorem qb5 {p : Prop} (h : p := by first | rfl | (simp; done) | (simp [*]; done)) : p := h
theorem qb6 {p : Prop} (h : p := by repeat (first | (with_reducible first | exact HB.out | apply below_alloc | apply pw_below_drewN | apply below_drew1 | refine below_set ?_ GE344.out) | exact HB.out)) : p := h
theorem qb7 {p : Prop} (h : p := by have := World.block_lt_of_cell? _ _ hx148_0; first | rwa [add_block] at this | exact this) : p := h
theorem qb8 {p : Prop} (h : p := by (skip); refine blk_put (cs := #[.int .i64 0, .int .i64 0]) ?_ 1 _ rfl; (skip); refine blk_put (cs := #[.int .i64 0, .int .i64 0]) ?_ 0 _ rfl; (skip); exact BK199.out) : p := h
theorem qb9 {p : Prop} (h : p := by repeat (first | (with_reducible first | exact HB.out | apply below_alloc | apply pw_below_drewN | apply below_drew1 | refine below_set ?_ GE207.out) | exact HB.out)) : p := h
theorem qb10 {p : Prop} (h : p := by have := World.block_lt_of_cell? _ _ hx149_0; first | rwa [add_block] at this | exact this) : p := h
theorem qb11 {p : Prop} (h : p := by have := World.block_lt_of_cell? _ _ hw233_2; first | rwa [add_block] at this | exact this) : p := h
theorem qb12 {p : Prop} (h : p := by have := World.block_lt_of_cell? _ _ hw233_1; first | rwa [add_block] at this | exact this) : p := h
theorem qb13 {p : Prop} (h : p := by have := World.block_lt_of_cell? _ _ hw233_0; first | rwa [add_block] at this | exact this) : p := h
theorem qb14 {p : Prop} (h : p := by have := World.block_lt_of_cell? _ _ hw232_2; first | rwa [add_block] at this | exact this) : p := h
theorem qb15 {p : Prop} (h : p := by have := World.block_lt_of_cell? _ _ hw232_1; first | rwa [add_block] at this | exact this) : p := h
theorem qb16 {p : Prop} (h : p := by have := World.block_lt_of_cell? _ _ hw232_0; first | rwa [add_block] at this | exact this) : p := h
theorem qb17 {p : Prop} (h : p := by first | (rw [add_block]; exact hn148_1) | (show (Addr.add _ _).block ≠ _; rw [add_block]; exact hn148_1) | exact hn148_1) : p := h
theorem qb18 {p : Prop} (h : p := by first | (rw [add_block]; exact hn148_0) | (show (Addr.add _ _).block ≠ _; rw [add_block]; exact hn148_0) | exact hn148_0) : p := h
theorem qb19 {p : Prop} (h : p := by (with_reducible repeat (first | refine blk_drewN ?_ _ | refine blk_drew ?_ | refine blk_alloc ?_ _)); exact BK207.out) : p := h
theorem qb20 {p : Prop} (h : p := by first | (rw [add_block]; exact hn149_1) | (show (Addr.add _ _).block ≠ _; rw [add_block]; exact hn149_1) | exact hn149_1) : p := h
theorem qb21 {p : Prop} (h : p := by first | (rw [add_block]; exact hn149_0) | (show (Addr.add _ _).block ≠ _; rw [add_block]; exact hn149_0) | exact hn149_0) : p := h
theorem qb22 {p : Prop} (h : p := by (with_reducible repeat (first | refine blk_drewN ?_ _ | refine blk_drew ?_ | refine blk_alloc ?_ _)); exact BK344.out) : p := h
theorem qb23 {p : Prop} (h : p := by show w.heap.size ≤ w.heap.size + 1; omega) : p := h
theorem qb24 {p : Prop} (h : p := by have := World.block_lt_of_cell? _ _ hx151_0; first | rwa [add_block] at this | exact this) : p := h
theorem qb25 {p : Prop} (h : p := by have := World.block_lt_of_cell? _ _ hx150_0; first | rwa [add_block] at this | exact this) : p := h
theorem qb26 {p : Prop} (h : p := by have h_ := Kd.R_ne HO210.out BK212.out (by decide); intro e_; exact h_ (by rw [e_]; rfl)) : p := h
theorem qb27 {p : Prop} (h : p := by have h_ := Kd.R_ne HO210.out BK207.out (by decide); intro e_; exact h_ (by rw [e_]; rfl)) : p := h
theorem qb28 {p : Prop} (h : p := by (try simp only [List.map_toArray, List.map_cons, List.map_nil]); first | done | (simp only [hji14]; rfl) | rfl | (simp only [List.length_drop, List.length_take]; rfl)) : p := h
theorem qb29 {p : Prop} (h : p := by (skip); refine blk_put (cs := #[.int .i64 0, .int .i64 0]) ?_ 1 _ rfl; (skip); refine blk_put (cs := #[.int .i64 0, .int .i64 0]) ?_ 0 _ rfl; (skip); exact BK190.out) : p := h
theorem qb30 {p : Prop} (h : p := by repeat (first | (with_reducible first | exact HB.out | apply below_alloc | apply pw_below_drewN | apply below_drew1 | refine below_set ?_ GE269.out) | exact HB.out)) : p := h
theorem qb31 {p : Prop} (h : p := by first | (rw [add_block]; exact hn151_1) | (show (Addr.add _ _).block ≠ _; rw [add_block]; exact hn151_1) | exact hn151_1) : p := h
theorem qb32 {p : Prop} (h : p := by first | (rw [add_block]; exact hn151_0) | (show (Addr.add _ _).block ≠ _; rw [add_block]; exact hn151_0) | exact hn151_0) : p := h
theorem qb33 {p : Prop} (h : p := by first | (rw [add_block]; exact hn150_1) | (show (Addr.add _ _).block ≠ _; rw [add_block]; exact hn150_1) | exact hn150_1) : p := h
theorem qb34 {p : Prop} (h : p := by first | (rw [add_block]; exact hn150_0) | (show (Addr.add _ _).block ≠ _; rw [add_block]; exact hn150_0) | exact hn150_0) : p := h
theorem qb35 {p : Prop} (h : p := by (with_reducible repeat (first | refine blk_drewN ?_ _ | refine blk_drew ?_ | refine blk_alloc ?_ _)); exact BK269.out) : p := h
theorem qb36 {p : Prop} (h : p := by show q + 1 ≠ w.heap.size + 1; omega) : p := h
theorem qb37 {p : Prop} (h : p := by first | exact Nat.ne_of_lt (Nat.lt_of_lt_of_le qb16 GW231.out) | (rw [add_block]; exact Nat.ne_of_lt (Nat.lt_of_lt_of_le qb16 GW231.out)) | (show (Addr.add _ _).block ≠ _; rw [add_block]; exact Nat.ne_of_lt (Nat.lt_of_lt_of_le qb16 GW231.out)) | (dsimp only; exact Nat.ne_of_lt (Nat.lt_of_lt_of_le qb16 GW231.out))) : p := h
theorem qb38 {p : Prop} (h : p := by first | exact Nat.ne_of_lt (Nat.lt_of_lt_of_le qb15 GW231.out) | (rw [add_block]; exact Nat.ne_of_lt (Nat.lt_of_lt_of_le qb15 GW231.out)) | (show (Addr.add _ _).block ≠ _; rw [add_block]; exact Nat.ne_of_lt (Nat.lt_of_lt_of_le qb15 GW231.out)) | (dsimp only; exact Nat.ne_of_lt (Nat.lt_of_lt_of_le qb15 GW231.out))) : p := h
theorem qb39 {p : Prop} (h : p := by first | exact Nat.ne_of_lt (Nat.lt_of_lt_of_le qb14 GW231.out) | (rw [add_block]; exact Nat.ne_of_lt (Nat.lt_of_lt_of_le qb14 GW231.out)) | (show (Addr.add _ _).block ≠ _; rw [add_block]; exact Nat.ne_of_lt (Nat.lt_of_lt_of_le qb14 GW231.out)) | (dsimp only; exact Nat.ne_of_lt (Nat.lt_of_lt_of_le qb14 GW231.out))) : p := h
theorem qb40 {p : Prop} (h : p := by first | exact Nat.ne_of_lt (Nat.lt_of_lt_of_le qb13 GW231.out) | (rw [add_block]; exact Nat.ne_of_lt (Nat.lt_of_lt_of_le qb13 GW231.out)) | (show (Addr.add _ _).block ≠ _; rw [add_block]; exact Nat.ne_of_lt (Nat.lt_of_lt_of_le qb13 GW231.out)) | (dsimp only; exact Nat.ne_of_lt (Nat.lt_of_lt_of_le qb13 GW231.out))) : p := h
theorem qb41 {p : Prop} (h : p := by first | exact Nat.ne_of_lt (Nat.lt_of_lt_of_le qb12 GW231.out) | (rw [add_block]; exact Nat.ne_of_lt (Nat.lt_of_lt_of_le qb12 GW231.out)) | (show (Addr.add _ _).block ≠ _; rw [add_block]; exact Nat.ne_of_lt (Nat.lt_of_lt_of_le qb12 GW231.out)) | (dsimp only; exact Nat.ne_of_lt (Nat.lt_of_lt_of_le qb12 GW231.out))) : p := h
theorem qb42 {p : Prop} (h : p := by first | exact Nat.ne_of_lt (Nat.lt_of_lt_of_le qb11 GW231.out) | (rw [add_block]; exact Nat.ne_of_lt (Nat.lt_of_lt_of_le qb11 GW231.out)) | (show (Addr.add _ _).block ≠ _; rw [add_block]; exact Nat.ne_of_lt (Nat.lt_of_lt_of_le qb11 GW231.out)) | (dsimp only; exact Nat.ne_of_lt (Nat.lt_of_lt_of_le qb11 GW231.out))) : p := h
end Go.Proofs.Ytpkajhmchcbbhaa.P
