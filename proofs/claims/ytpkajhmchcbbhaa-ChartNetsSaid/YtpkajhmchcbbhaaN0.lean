/- Short words: proofs by a tactic that stands as an automatic argument. -/
import Derived.RowKit
set_option linter.unusedVariables false
namespace Go.Proofs.Ytpkajhmchcbbhaa.P
theorem qn0 {p : Prop} (h : p := by first | (with_reducible assumption) | assumption) : p := h
theorem qn1 {p : Prop} (h : p := by (try simp only [List.map_toArray, List.map_cons, List.map_nil]); first | done | rfl | (simp only [List.length_drop, List.length_take]; rfl)) : p := h
theorem qn2 {p : Prop} (h : p := by (with_reducible exact HB.out)) : p := h
theorem qn3 {p : Prop} (h : p := by repeat (first | (with_reducible first | exact HB.out | apply below_alloc | apply pw_below_drewN | apply below_drew1) | exact HB.out)) : p := h
theorem qn4 {p : Prop} (h : p := by first | (simp only [putAll, Act.put, List.setIfInBounds_toArray, List.set_cons_zero, List.set_cons_succ]; done) | (simp only [putAll, Act.put, List.setIfInBounds_toArray, List.set_cons_zero, List.set_cons_succ]; rfl)) : p := h
theorem qn5 {p : Prop} (h : p := by first | rfl | (simp; done) | (simp [*]; done)) : p := h
theorem qn6 {p : Prop} (h : p := by repeat (first | (with_reducible first | exact HB.out | apply below_alloc | apply pw_below_drewN | apply below_drew1 | refine below_set ?_ GE344.out) | exact HB.out)) : p := h
theorem qn7 {p : Prop} (h : p := by have := World.block_lt_of_cell? _ _ hx148_0; first | rwa [add_block] at this | exact this) : p := h
theorem qn8 {p : Prop} (h : p := by repeat (first | (with_reducible first | exact HB.out | apply below_alloc | apply pw_below_drewN | apply below_drew1 | refine below_set ?_ GE207.out) | exact HB.out)) : p := h
theorem qn9 {p : Prop} (h : p := by have := World.block_lt_of_cell? _ _ hx149_0; first | rwa [add_block] at this | exact this) : p := h
theorem qn10 {p : Prop} (h : p := by have := World.block_lt_of_cell? _ _ hw233_2; first | rwa [add_block] at this | exact this) : p := h
theorem qn11 {p : Prop} (h : p := by have := World.block_lt_of_cell? _ _ hw233_1; first | rwa [add_block] at this | exact this) : p := h
theorem qn12 {p : Prop} (h : p := by have := World.block_lt_of_cell? _ _ hw233_0; first | rwa [add_block] at this | exact this) : p := h
theorem qn13 {p : Prop} (h : p := by have := World.block_lt_of_cell? _ _ hw232_2; first | rwa [add_block] at this | exact this) : p := h
theorem qn14 {p : Prop} (h : p := by have := World.block_lt_of_cell? _ _ hw232_1; first | rwa [add_block] at this | exact this) : p := h
theorem qn15 {p : Prop} (h : p := by have := World.block_lt_of_cell? _ _ hw232_0; first | rwa [add_block] at this | exact this) : p := h
theorem qn16 {p : Prop} (h : p := by first | (rw [add_block]; exact hn148_1) | (show (Addr.add _ _).block ≠ _; rw [add_block]; exact hn148_1) | exact hn148_1) : p := h
theorem qn17 {p : Prop} (h : p := by first | (rw [add_block]; exact hn148_0) | (show (Addr.add _ _).block ≠ _; rw [add_block]; exact hn148_0) | exact hn148_0) : p := h
theorem qn18 {p : Prop} (h : p := by (with_reducible repeat (first | refine blk_drewN ?_ _ | refine blk_drew ?_ | refine blk_alloc ?_ _)); exact BK207.out) : p := h
theorem qn19 {p : Prop} (h : p := by repeat (first | (with_reducible exact HR293_0.out) | (with_reducible refine Kd.C_alloc ?_ _) | (with_reducible refine Kd.C_drewN ?_ _) | (with_reducible refine Kd.C_drew ?_) | exact HR293_0.out)) : p := h
theorem qn20 {p : Prop} (h : p := by first | (rw [add_block]; exact hn149_1) | (show (Addr.add _ _).block ≠ _; rw [add_block]; exact hn149_1) | exact hn149_1) : p := h
theorem qn21 {p : Prop} (h : p := by first | (rw [add_block]; exact hn149_0) | (show (Addr.add _ _).block ≠ _; rw [add_block]; exact hn149_0) | exact hn149_0) : p := h
theorem qn22 {p : Prop} (h : p := by (with_reducible repeat (first | refine blk_drewN ?_ _ | refine blk_drew ?_ | refine blk_alloc ?_ _)); exact BK344.out) : p := h
theorem qn23 {p : Prop} (h : p := by show w.heap.size ≤ w.heap.size + 1; omega) : p := h
theorem qn24 {p : Prop} (h : p := by repeat (first | with_reducible exact HB.out | with_reducible refine below_set ?_ GE282.out | with_reducible refine below_set ?_ GE283.out)) : p := h
theorem qn25 {p : Prop} (h : p := by have := World.block_lt_of_cell? _ _ hx151_0; first | rwa [add_block] at this | exact this) : p := h
theorem qn26 {p : Prop} (h : p := by have := World.block_lt_of_cell? _ _ hx150_0; first | rwa [add_block] at this | exact this) : p := h
theorem qn27 {p : Prop} (h : p := by have h_ := Kd.R_ne HO210.out BK212.out (by decide); intro e_; exact h_ (by rw [e_]; rfl)) : p := h
theorem qn28 {p : Prop} (h : p := by have h_ := Kd.R_ne HO210.out BK207.out (by decide); intro e_; exact h_ (by rw [e_]; rfl)) : p := h
theorem qn29 {p : Prop} (h : p := by (try simp only [List.map_toArray, List.map_cons, List.map_nil]); first | done | (simp only [hji14]; rfl) | rfl | (simp only [List.length_drop, List.length_take]; rfl)) : p := h
theorem qn30 {p : Prop} (h : p := by repeat (first | (with_reducible first | exact HB.out | apply below_alloc | apply pw_below_drewN | apply below_drew1 | refine below_set ?_ GE269.out) | exact HB.out)) : p := h
theorem qn31 {p : Prop} (h : p := by first | (rw [add_block]; exact hn151_1) | (show (Addr.add _ _).block ≠ _; rw [add_block]; exact hn151_1) | exact hn151_1) : p := h
theorem qn32 {p : Prop} (h : p := by first | (rw [add_block]; exact hn151_0) | (show (Addr.add _ _).block ≠ _; rw [add_block]; exact hn151_0) | exact hn151_0) : p := h
theorem qn33 {p : Prop} (h : p := by first | (rw [add_block]; exact hn150_1) | (show (Addr.add _ _).block ≠ _; rw [add_block]; exact hn150_1) | exact hn150_1) : p := h
theorem qn34 {p : Prop} (h : p := by first | (rw [add_block]; exact hn150_0) | (show (Addr.add _ _).block ≠ _; rw [add_block]; exact hn150_0) | exact hn150_0) : p := h
theorem qn35 {p : Prop} (h : p := by (with_reducible repeat (first | refine blk_drewN ?_ _ | refine blk_drew ?_ | refine blk_alloc ?_ _)); exact BK269.out) : p := h
theorem qn36 {p : Prop} (h : p := by exact Kd.S_mono HO_4.out (fun _ hk => ⟨trivial, hk⟩)) : p := h
theorem qn37 {p : Prop} (h : p := by show q + 1 ≠ w.heap.size + 1; omega) : p := h
theorem qn38 {p : Prop} (h : p := by first | exact Nat.ne_of_lt (Nat.lt_of_lt_of_le qn15 GW231.out) | (rw [add_block]; exact Nat.ne_of_lt (Nat.lt_of_lt_of_le qn15 GW231.out)) | (show (Addr.add _ _).block ≠ _; rw [add_block]; exact Nat.ne_of_lt (Nat.lt_of_lt_of_le qn15 GW231.out)) | (dsimp only; exact Nat.ne_of_lt (Nat.lt_of_lt_of_le qn15 GW231.out))) : p := h
theorem qn39 {p : Prop} (h : p := by first | exact Nat.ne_of_lt (Nat.lt_of_lt_of_le qn14 GW231.out) | (rw [add_block]; exact Nat.ne_of_lt (Nat.lt_of_lt_of_le qn14 GW231.out)) | (show (Addr.add _ _).block ≠ _; rw [add_block]; exact Nat.ne_of_lt (Nat.lt_of_lt_of_le qn14 GW231.out)) | (dsimp only; exact Nat.ne_of_lt (Nat.lt_of_lt_of_le qn14 GW231.out))) : p := h
theorem qn40 {p : Prop} (h : p := by first | exact Nat.ne_of_lt (Nat.lt_of_lt_of_le qn13 GW231.out) | (rw [add_block]; exact Nat.ne_of_lt (Nat.lt_of_lt_of_le qn13 GW231.out)) | (show (Addr.add _ _).block ≠ _; rw [add_block]; exact Nat.ne_of_lt (Nat.lt_of_lt_of_le qn13 GW231.out)) | (dsimp only; exact Nat.ne_of_lt (Nat.lt_of_lt_of_le qn13 GW231.out))) : p := h
theorem qn41 {p : Prop} (h : p := by first | exact Nat.ne_of_lt (Nat.lt_of_lt_of_le qn12 GW231.out) | (rw [add_block]; exact Nat.ne_of_lt (Nat.lt_of_lt_of_le qn12 GW231.out)) | (show (Addr.add _ _).block ≠ _; rw [add_block]; exact Nat.ne_of_lt (Nat.lt_of_lt_of_le qn12 GW231.out)) | (dsimp only; exact Nat.ne_of_lt (Nat.lt_of_lt_of_le qn12 GW231.out))) : p := h
theorem qn42 {p : Prop} (h : p := by first | exact Nat.ne_of_lt (Nat.lt_of_lt_of_le qn11 GW231.out) | (rw [add_block]; exact Nat.ne_of_lt (Nat.lt_of_lt_of_le qn11 GW231.out)) | (show (Addr.add _ _).block ≠ _; rw [add_block]; exact Nat.ne_of_lt (Nat.lt_of_lt_of_le qn11 GW231.out)) | (dsimp only; exact Nat.ne_of_lt (Nat.lt_of_lt_of_le qn11 GW231.out))) : p := h
theorem qn43 {p : Prop} (h : p := by first | exact Nat.ne_of_lt (Nat.lt_of_lt_of_le qn10 GW231.out) | (rw [add_block]; exact Nat.ne_of_lt (Nat.lt_of_lt_of_le qn10 GW231.out)) | (show (Addr.add _ _).block ≠ _; rw [add_block]; exact Nat.ne_of_lt (Nat.lt_of_lt_of_le qn10 GW231.out)) | (dsimp only; exact Nat.ne_of_lt (Nat.lt_of_lt_of_le qn10 GW231.out))) : p := h
theorem qn44 {p : Prop} (h : p := by first | exact q293 | exact of_decide_eq_true qn0 | (have e_ := (Kd.S_reads' HO_10.out).1; omega)) : p := h
end Go.Proofs.Ytpkajhmchcbbhaa.P
