/- Part 5 of 44. -/
import Derived.Test.YtpkajhmchcbbhaaL0
import Derived.Test.YtpkajhmchcbbhaaL2
import Derived.Test.YtpkajhmchcbbhaaL1
import Derived.Test.YtpkajhmchcbbhaaL4
import Derived.Test.YtpkajhmchcbbhaaL3
import Derived.Test.YtpkajhmchcbbhaaProg
import Derived.Below
import Derived.Deep.Draws
import Derived.Deep.AppendLies
import Derived.Maps.AppendAt
import Derived.OwnWalk
import Derived.Laws.BytesArg
import Derived.Laws.MakeOwn
import Derived.Laws.OwnMore
import Derived.Deep.OwnRows
import Derived.Tactics
import Derived.Lib.ConvBytes
import Derived.Laws.Slices
import Derived.WalkKit
import Derived.KernelRfl
import Derived.RowKit3
import Derived.Deep.LoopGhost
import Derived.Deep.QuietTactic
import Derived.BigQuiet
import Derived.WideLaws
import Derived.Deep.DeepCutAuto
import Derived.Deep.CutBlock
import Derived.Deep.RegionHeld3
import Derived.Laws.Rows
import Derived.Lib.AppendStr
import Derived.ArgAppend
import Derived.Laws.IdiomCopy
import Derived.OrdersHeld
import Derived.Laws.BitsLemmas
import Derived.RowKit
set_option linter.unusedSimpArgs false
set_option linter.unusedVariables false
section
namespace Go.Proofs.Ytpkajhmchcbbhaa.P
open Go.RowKit Go.Proofs.YtpkajhmchcbbhaaW.PrintWords Go.Proofs.YtpkajhmchcbbhaaW.PrintLast Go.Proofs.YtpkajhmchcbbhaaW.PrintMore
attribute [local go_sem] max2_int min2_int max_two min_two max_three min_three max_four min_four
structure S43 where
 f0 : Int
 f1 : Int
def z43 : S43 := ⟨(0 : Int), (0 : Int)⟩
def k43 : Kd S43 := Kd.iso (Kd.pair (Kd.int .i64) (Kd.int .i64)) (fun x : S43 => (x.f0, x.f1))
theorem k43_open {w : World} {x : S43} {cs : List Value} (h : k43.K w x cs) : cs = [.int .i64 x.f0, .int .i64 x.f1] := by
 obtain ⟨_, _, rfl, rfl, rfl⟩ := h
 exact rfl
theorem k43_openM {w : World} {base : Nat} {ok : Nat → Prop} {x : S43} {cs : List Value} (h : k43.M w base ok x cs) : cs = [.int .i64 x.f0, .int .i64 x.f1] := by
 obtain ⟨_, _, rfl, rfl, rfl⟩ := h
 exact rfl
theorem k43_mk (w : World) (x : S43)  : k43.K w x [.int .i64 x.f0, .int .i64 x.f1] := ⟨[.int .i64 x.f0], [.int .i64 x.f1], rfl, rfl, rfl⟩
theorem k43_mkM (w : World) (base : Nat) (ok : Nat → Prop) (x : S43)  : k43.M w base ok x [.int .i64 x.f0, .int .i64 x.f1] := ⟨[.int .i64 x.f0], [.int .i64 x.f1], rfl, rfl, rfl⟩
def rd_T43 (xs : List S43) (i : Int) : S43 := xs.getD i.toNat z43
theorem at_T43 {w : World} {A : Option Addr} {n : Nat} {xs : List S43} (h : Kd.C k43 w A n xs) (i : Int) (h0 : 0 ≤ i) (h1 : i < n) : ∃ ad , A = some ad ∧ w.cell? (ad.add (i.toNat * 2)) = some (.int .i64 (rd_T43 xs i).f0) ∧ w.cell? ⟨(ad.add (i.toNat * 2)).block, (ad.add (i.toNat * 2)).off + 1, none⟩ = some (.int .i64 (rd_T43 xs i).f1) := by
 obtain ⟨ad, c, e, _, hK, hc0⟩ := Kd.C_get h z43 i h0 h1
 have hc : ∀ j u, c[j]? = some u → w.cell? (ad.add (i.toNat * 2 + j)) = some u := hc0
 obtain rfl := k43_open hK
 exact ⟨ad, e, hc 0 _ rfl, by rw [← add_field _ _ 1 (by omega)]; exact hc 1 _ rfl⟩
structure S70 where
 f0 : Int
 f1 : S43
def z70 : S70 := ⟨(0 : Int), z43⟩
def k70 : Kd S70 := Kd.iso (Kd.pair (Kd.int .i64) k43) (fun x : S70 => (x.f0, x.f1))
theorem k70_open {w : World} {x : S70} {cs : List Value} (h : k70.K w x cs) : cs = [.int .i64 x.f0, .int .i64 x.f1.f0, .int .i64 x.f1.f1] := by
 obtain ⟨_, _, rfl, rfl, s1⟩ := h
 obtain rfl := k43_open s1
 exact rfl
theorem k70_openM {w : World} {base : Nat} {ok : Nat → Prop} {x : S70} {cs : List Value} (h : k70.M w base ok x cs) : cs = [.int .i64 x.f0, .int .i64 x.f1.f0, .int .i64 x.f1.f1] := by
 obtain ⟨_, _, rfl, rfl, s1⟩ := h
 obtain rfl := k43_openM s1
 exact rfl
theorem k70_mk (w : World) (x : S70)  : k70.K w x [.int .i64 x.f0, .int .i64 x.f1.f0, .int .i64 x.f1.f1] := ⟨[.int .i64 x.f0], [.int .i64 x.f1.f0, .int .i64 x.f1.f1], rfl, rfl, (k43_mk w x.f1 )⟩
theorem k70_mkM (w : World) (base : Nat) (ok : Nat → Prop) (x : S70)  : k70.M w base ok x [.int .i64 x.f0, .int .i64 x.f1.f0, .int .i64 x.f1.f1] := ⟨[.int .i64 x.f0], [.int .i64 x.f1.f0, .int .i64 x.f1.f1], rfl, rfl, (k43_mkM w base ok x.f1 )⟩
def rd_T70 (xs : List S70) (i : Int) : S70 := xs.getD i.toNat z70
theorem at_T70 {w : World} {A : Option Addr} {n : Nat} {xs : List S70} (h : Kd.C k70 w A n xs) (i : Int) (h0 : 0 ≤ i) (h1 : i < n) : ∃ ad , A = some ad ∧ w.cell? (ad.add (i.toNat * 3)) = some (.int .i64 (rd_T70 xs i).f0) ∧ w.cell? ⟨(ad.add (i.toNat * 3)).block, (ad.add (i.toNat * 3)).off + 1, none⟩ = some (.int .i64 (rd_T70 xs i).f1.f0) ∧ w.cell? ⟨(ad.add (i.toNat * 3)).block, (ad.add (i.toNat * 3)).off + 2, none⟩ = some (.int .i64 (rd_T70 xs i).f1.f1) := by
 obtain ⟨ad, c, e, _, hK, hc0⟩ := Kd.C_get h z70 i h0 h1
 have hc : ∀ j u, c[j]? = some u → w.cell? (ad.add (i.toNat * 3 + j)) = some u := hc0
 obtain rfl := k70_open hK
 exact ⟨ad, e, hc 0 _ rfl, by rw [← add_field _ _ 1 (by omega)]; exact hc 1 _ rfl, by rw [← add_field _ _ 2 (by omega)]; exact hc 2 _ rfl⟩
structure S24 where
 f0 : (List S70)
 f1 : Int
def z24 : S24 := ⟨([] : List S70), (0 : Int)⟩
end Go.Proofs.Ytpkajhmchcbbhaa.P
end
section
namespace Go.Proofs.Ytpkajhmchcbbhaa.P
open Go.RowKit Go.Proofs.YtpkajhmchcbbhaaW.PrintWords Go.Proofs.YtpkajhmchcbbhaaW.PrintLast Go.Proofs.YtpkajhmchcbbhaaW.PrintMore
abbrev SRow := S70
abbrev SRange := S43
abbrev kRow := k70
abbrev zRow := z70
def inB (lo hi n : Int) : Bool := !(decide (n < lo) || decide (hi < n))
def idxF {α : Type} (p : α → Bool) : List α → Int
 | [] => -1
 | x :: l => if p x then 0 else if idxF p l < 0 then -1 else idxF p l + 1
def dipN (l : List SRow) (i : Nat) : Int := (l.getD i zRow).f0
def loR (l : List SRow) (i : Nat) : Int := (l.getD i zRow).f1.f0
def hiR (l : List SRow) (i : Nat) : Int := (l.getD i zRow).f1.f1
def firstD (l : List SRow) : Int := dipN l 0
def lastD (l : List SRow) : Int := dipN l (l.length - 1)
def dipsOk : Int → List SRow → Bool
 | _, [] => true
 | last, r :: l => !(decide (r.f0 ≤ last) || decide (4000 < r.f0)) && dipsOk r.f0 l
def litresOk (r : SRow) : Bool := inB 0 100000 r.f1.f0 && inB 0 100000 r.f1.f1 && decide (r.f1.f0 ≤ r.f1.f1)
def checkTank (l : List SRow) (p : Int) : Int :=
 if l.length < 2 ∨ 16 < l.length then 6 else if dipsOk (-1) l = false then 3 else if inB 0 50 p = false then 2 else if l.any (fun r => !litresOk r) then 2 else 0
def chartOk : Int → List SRow → List Int → Bool
 | last, r :: l, n :: c => inB (mx last r.f1.f0) r.f1.f1 n && chartOk n l c
 | _, _, _ => true
def checkChart (l : List SRow) (p : Int) (c : List Int) : Int :=
 if checkTank l p ≠ 0 then checkTank l p else if c.length ≠ l.length then 15 else if chartOk 0 l c then 0 else 21
def clashAux : List SRow → Int → Int × Int × Int
 | [], _ => (0, 0, 5)
 | r :: l, i => if idxF (fun q : SRow => decide (q.f1.f1 < r.f1.f0)) l < 0 then clashAux l (i + 1) else (i, i + 1 + idxF (fun q : SRow => decide (q.f1.f1 < r.f1.f0)) l, 0)
def lowN (l : List SRow) : Nat → Int
 | 0 => loR l 0
 | i + 1 => mx (loR l (i + 1)) (lowN l i)
def highR (l : List SRow) : Nat → Int
 | 0 => hiR l (l.length - 1)
 | j + 1 => mn (hiR l (l.length - 1 - (j + 1))) (highR l j)
def highN (l : List SRow) (i : Nat) : Int := highR l (l.length - 1 - i)
def tightOk (l : List SRow) : Bool := (List.range l.length).all fun i => decide (lowN l i ≤ highN l i)
def tightL (l : List SRow) : List SRange := (List.range l.length).map fun i => ⟨lowN l i, highN l i⟩
def lows (l : List SRow) : List Int := (List.range l.length).map (lowN l)
def highs (l : List SRow) : List Int := (List.range l.length).map (highN l)
def openE (l : List SRow) (p : Int) (dips : List Int) : Int :=
 if checkTank l p ≠ 0 then checkTank l p else if (dips.all fun d => inB (firstD l) (lastD l) d) = false then 3 else if tightOk l then 0 else 21
def posA (l : List SRow) (dip : Int) : Nat → Nat → Nat
 | 0, i => i
 | f + 1, i => if i < l.length - 1 ∧ dipN l i < dip then posA l dip f (i + 1) else i
def pos (l : List SRow) (dip : Int) : Nat := posA l dip l.length 1
def wts (l : List SRow) (dip : Int) : List Int := ((List.replicate 16 (0 : Int)).set (pos l dip - 1) (dipN l (pos l dip) - dip)).set (pos l dip) (dip - dipN l (pos l dip - 1))
def wden (l : List SRow) (dip : Int) : Int := dipN l (pos l dip) - dipN l (pos l dip - 1)
def dot : List Int → List Int → Int
 | x :: w, y :: c => x * y + dot w c
 | _, _ => 0
def gcdT (a b : Int) : Int := if _h : b = 0 then a else gcdT b (a.tmod b)
termination_by b.natAbs
decreasing_by
 have := Int.natAbs_tmod a b
 rw [this]
 exact Nat.mod_lt _ (by omega)
def leastN (num den : Int) : Int := num.tdiv (gcdT num den)
def leastD (num den : Int) : Int := den.tdiv (gcdT num den)
def trueLo (l : List SRow) (p dip : Int) : Int := mx (firstD l) (dip - p)
def trueHi (l : List SRow) (p dip : Int) : Int := mn (lastD l) (dip + p)
def endsE (l : List SRow) (p water level : Int) : Int :=
 if openE l p [water, level] ≠ 0 then openE l p [water, level] else if trueHi l p level < trueLo l p water then 24 else 0
def lowDips (l : List SRow) (p water level : Int) : Int × Int :=
 if trueHi l p water < trueLo l p level then (trueHi l p water, trueLo l p level) else (mx (trueLo l p water) (trueLo l p level), mx (trueLo l p water) (trueLo l p level))
def highDips (l : List SRow) (p water level : Int) : Int × Int := (trueLo l p water, trueHi l p level)
def bwts (l : List SRow) (d0 d1 : Int) : List Int := List.zipWith (fun x y => y * wden l d0 - x * wden l d1) (wts l d0) (wts l d1)
def bden (l : List SRow) (d0 d1 : Int) : Int := wden l d0 * wden l d1
def pad16 (c : List Int) : List Int := c ++ List.replicate (16 - c.length) 0
def mostC (l : List SRow) (d0 d1 : Int) : List Int :=
 if idxF (fun n : Int => decide (0 < n)) (bwts l d0 d1) < 0 then pad16 (lows l) else (pad16 (lows l)).take (idxF (fun n : Int => decide (0 < n)) (bwts l d0 d1)).toNat ++ (pad16 (highs l)).drop (idxF (fun n : Int => decide (0 < n)) (bwts l d0 d1)).toNat
def nearC (l : List SRow) (n : Int) : List Int := pad16 ((List.range l.length).map fun i => mx (lowN l i) (mn (highN l i) n))
def ins (n : Int) : List Int → List Int
 | [] => [n]
 | x :: l => if n < x then n :: x :: l else if n = x then x :: l else x :: ins n l
def cands (l : List SRow) : Nat → List Int
 | 0 => []
 | i + 1 => ins (highN l i) (ins (lowN l i) (cands l i))
def fewF (l : List SRow) (d0 d1 : Int) : List Int → Option (Int × List Int) → Option (Int × List Int)
 | [], x => x
 | n :: r, none => fewF l d0 d1 r (some (dot (bwts l d0 d1) (nearC l n), nearC l n))
 | n :: r, some (f, c) => if dot (bwts l d0 d1) (nearC l n) < f then fewF l d0 d1 r (some (dot (bwts l d0 d1) (nearC l n), nearC l n)) else fewF l d0 d1 r (some (f, c))
def fewR (l : List SRow) (d0 d1 : Int) : Int × List Int := (fewF l d0 d1 (cands l l.length) none).getD (0, [])
def mostR (l : List SRow) (d0 d1 : Int) : Int × List Int := (dot (bwts l d0 d1) (mostC l d0 d1), mostC l d0 d1)
def halveF (good : Int → Bool) (lo hi : Int) : Int :=
 if _h : lo ≤ hi then if good (lo + (hi - lo) / 2) then halveF good lo (lo + (hi - lo) / 2 - 1) else halveF good (lo + (hi - lo) / 2 + 1) hi else lo
termination_by (hi + 1 - lo).toNat
decreasing_by all_goals omega
def overF (l : List SRow) (c : List Int) (litres dip : Int) : Int := dot (wts l dip) c - wden l dip * litres
def dipsFrom (l : List SRow) (litres : Int) : Int := halveF (fun d => decide (0 ≤ overF l (highs l) litres d)) (firstD l) (lastD l)
def dipsTo (l : List SRow) (litres : Int) : Int := halveF (fun d => decide (0 < overF l (lows l) litres d)) (firstD l) (lastD l) - 1
def chart_within.f (a0 a1 : Int) (l2 : List Int) : Option Bool := some (l2.all fun n => inB a0 a1 n)
def chart_CheckTank.f (l : List SRow) (p : Int) : Option Int := some (checkTank l p)
def chart_Clash.f (l : List SRow) (p : Int) : Option (Int × Int × Int) := some (if checkTank l p = 0 then clashAux l 0 else (0, 0, checkTank l p))
def chart_Tight.f (l : List SRow) (p : Int) : Option (List SRange × Int) := some (if openE l p [] = 0 then (tightL l, 0) else ([], openE l p []))
def chart_Below.f (l : List SRow) (p : Int) (c : List Int) (dip : Int) : Option (Int × Int × Int) :=
 some (if checkChart l p c ≠ 0 then (0, 0, checkChart l p c) else if inB (firstD l) (lastD l) dip = false then (0, 0, 3) else (leastN (dot (wts l dip) c) (wden l dip), leastD (dot (wts l dip) c) (wden l dip), 0))
def chart_Metered.f (l : List SRow) (p frm tu : Int) : Option (Int × Int × Int) :=
 some (if checkTank l p ≠ 0 then (0, 0, checkTank l p) else if frm < 0 ∨ (l.length : Int) ≤ frm ∨ tu < 0 ∨ (l.length : Int) ≤ tu then (0, 0, 3) else if tu < frm then (0, 0, 2)
  else if tightOk l = false then (0, 0, 21) else if frm = tu then (0, 0, 0) else (mx 0 (lowN l tu.toNat - highN l frm.toNat), highN l tu.toNat - lowN l frm.toNat, 0))
def chart_Net.f (l : List SRow) (p water level : Int) : Option (Int × Int × Int × Int × Int) :=
 some (if endsE l p water level ≠ 0 then (0, 0, 0, 0, endsE l p water level)
  else (leastN (fewR l (lowDips l p water level).1 (lowDips l p water level).2).1 (bden l (lowDips l p water level).1 (lowDips l p water level).2), leastD (fewR l (lowDips l p water level).1 (lowDips l p water level).2).1 (bden l (lowDips l p water level).1 (lowDips l p water level).2),
   leastN (mostR l (highDips l p water level).1 (highDips l p water level).2).1 (bden l (highDips l p water level).1 (highDips l p water level).2), leastD (mostR l (highDips l p water level).1 (highDips l p water level).2).1 (bden l (highDips l p water level).1 (highDips l p water level).2), 0))
def chart_End.f (l : List SRow) (p water level : Int) (high : Bool) : Option (List Int × Int × Int × Int) :=
 some (if endsE l p water level ≠ 0 then ([], 0, 0, endsE l p water level)
  else if high then ((mostR l (highDips l p water level).1 (highDips l p water level).2).2.take l.length, (highDips l p water level).1, (highDips l p water level).2, 0)
  else ((fewR l (lowDips l p water level).1 (lowDips l p water level).2).2.take l.length, (lowDips l p water level).1, (lowDips l p water level).2, 0))
def chart_Dips.f (l : List SRow) (p litres : Int) : Option (Int × Int × Int) :=
 some (if checkTank l p ≠ 0 then (0, 0, checkTank l p) else if inB 0 100000 litres = false then (0, 0, 3) else if tightOk l = false then (0, 0, 21)
  else if dipsTo l litres < dipsFrom l litres then (0, 0, 17) else (dipsFrom l litres, dipsTo l litres, 0))
end Go.Proofs.Ytpkajhmchcbbhaa.P
end
section
namespace Go.Proofs.Ytpkajhmchcbbhaa.P
open Go.RowKit Go.Proofs.YtpkajhmchcbbhaaW.PrintWords Go.Proofs.YtpkajhmchcbbhaaW.PrintLast Go.Proofs.YtpkajhmchcbbhaaW.PrintMore
attribute [local go_sem] max2_int min2_int max_two min_two max_three min_three max_four min_four
def forecourtref01_valid.f (a0_0 : Int) (a0_1 : Int) (a1 : Int) (a2 : Int) : Option (Bool) := if a0_0 ≥ a1 then (if a0_0 ≤ a0_1 then (some (decide (a0_1 ≤ a2))) else (some false)) else (some false)
set_option maxHeartbeats 8000000 in
set_option maxRecDepth 100000 in
theorem forecourtref01_valid.calls (a0_0 : Int) (a0_1 : Int) (a1 : Int) (a2 : Int) (r : Bool) (w : World) (h : forecourtref01_valid.f a0_0 a0_1 a1 a2 = some r) :
  Calls Try.prog 62 #[.agg #[.int .i64 a0_0, .int .i64 a0_1], .int .i64 a1, .int .i64 a2] w fun e w' => e = .returned (.bool r) ∧ Below w.heap.size w w' := by
 have hu43 := Try.underlying43
 have HB := Aside0.mk (Below.refl w.heap.size w)
 have H : (if a0_0 ≥ a1 then (if a0_0 ≤ a0_1 then (some (decide (a0_1 ≤ a2))) else (some false)) else (some false)) = some r := h
 clear h
 by_cases c4 : a0_0 ≥ a1
 ·rw [if_pos c4] at H
  have c4b0 : decide (a1 ≤ a0_0) = true := decide_eq_true c4
  clear c4
  by_cases c5 : a0_0 ≤ a0_1
  ·rw [if_pos c5] at H
   have c5b0 : decide (a0_0 ≤ a0_1) = true := decide_eq_true c5
   clear c5
   obtain rfl := Option.some.inj H
   go_enter Try.func62, Try.ntmps62
   go_wp2_with (first | ((with_reducible refine gate_dst (N := 3) rfl ?_); refine box_event ?hg (N := 3) ?hd (cs := #[.int .i64 a0_0, .int .i64 a0_1]) (t := 43) ?hr ?_; (case hd => rfl); (case hg => rfl); (case hr => first | (go_simp; done) | (go_simp; rfl)); intro gb102 hg w6 hbox hb; have n0_ := Aside0.mk (below_step ql0 hb); have n1_ := Aside0.mk (hbox); have n2_ := Aside0.mk ((by rw [hg]; exact (below_size ql0) : w.heap.size ≤ gb102)); have n3_ := Aside0.mk ((by rw [hg]; exact (below_size ql0) : w.heap.size ≤ gb102)); clear HB; have HB := n0_; have BK102 := n1_; have GW102 := n2_; have GE102 := n3_; clear n0_ n1_ n2_ n3_; clear hb hbox hg; have hcz7_0 : w6.cell? ⟨gb102, 0, none⟩ = some (.int .i64 a0_0) := (blk_cell BK102.out 0).trans rfl; have hcz7_1 : w6.cell? ⟨gb102, 1, none⟩ = some (.int .i64 a0_1) := (blk_cell BK102.out 1).trans rfl; have hfz7_0 := blk_frozen BK102.out 0; have hfz7_1 := blk_frozen BK102.out 1))
   go_ret
   exact ⟨by first | rfl | (simp [errW_none, errW_some] <;> rfl) | (simp [*, errW_none, errW_some] <;> rfl), by repeat (first | (with_reducible first | exact HB.out | apply below_alloc | apply pw_below_drewN | apply below_drew1 | refine below_set ?_ GE102.out) | exact HB.out)⟩
  rw [if_neg c5] at H
  have c5b0 : decide (a0_0 ≤ a0_1) = false := decide_eq_false c5
  clear c5
  obtain rfl := Option.some.inj H
  go_enter Try.func62, Try.ntmps62
  go_wp2_with (first | ((with_reducible refine gate_dst (N := 3) rfl ?_); refine box_event ?hg (N := 3) ?hd (cs := #[.int .i64 a0_0, .int .i64 a0_1]) (t := 43) ?hr ?_; (case hd => rfl); (case hg => rfl); (case hr => first | (go_simp; done) | (go_simp; rfl)); intro gb102 hg w8 hbox hb; have n0_ := Aside0.mk (below_step ql0 hb); have n1_ := Aside0.mk (hbox); have n2_ := Aside0.mk ((by rw [hg]; exact (below_size ql0) : w.heap.size ≤ gb102)); have n3_ := Aside0.mk ((by rw [hg]; exact (below_size ql0) : w.heap.size ≤ gb102)); clear HB; have HB := n0_; have BK102 := n1_; have GW102 := n2_; have GE102 := n3_; clear n0_ n1_ n2_ n3_; clear hb hbox hg; have hcz9_0 : w8.cell? ⟨gb102, 0, none⟩ = some (.int .i64 a0_0) := (blk_cell BK102.out 0).trans rfl; have hcz9_1 : w8.cell? ⟨gb102, 1, none⟩ = some (.int .i64 a0_1) := (blk_cell BK102.out 1).trans rfl; have hfz9_0 := blk_frozen BK102.out 0; have hfz9_1 := blk_frozen BK102.out 1))
  go_ret
  exact ⟨by first | rfl | (simp [errW_none, errW_some] <;> rfl) | (simp [*, errW_none, errW_some] <;> rfl), by repeat (first | (with_reducible first | exact HB.out | apply below_alloc | apply pw_below_drewN | apply below_drew1 | refine below_set ?_ GE102.out) | exact HB.out)⟩
 rw [if_neg c4] at H
 have c4b0 : decide (a1 ≤ a0_0) = false := decide_eq_false c4
 clear c4
 obtain rfl := Option.some.inj H
 go_enter Try.func62, Try.ntmps62
 go_wp2_with (first | ((with_reducible refine gate_dst (N := 3) rfl ?_); refine box_event ?hg (N := 3) ?hd (cs := #[.int .i64 a0_0, .int .i64 a0_1]) (t := 43) ?hr ?_; (case hd => rfl); (case hg => rfl); (case hr => first | (go_simp; done) | (go_simp; rfl)); intro gb102 hg w10 hbox hb; have n0_ := Aside0.mk (below_step ql0 hb); have n1_ := Aside0.mk (hbox); have n2_ := Aside0.mk ((by rw [hg]; exact (below_size ql0) : w.heap.size ≤ gb102)); have n3_ := Aside0.mk ((by rw [hg]; exact (below_size ql0) : w.heap.size ≤ gb102)); clear HB; have HB := n0_; have BK102 := n1_; have GW102 := n2_; have GE102 := n3_; clear n0_ n1_ n2_ n3_; clear hb hbox hg; have hcz11_0 : w10.cell? ⟨gb102, 0, none⟩ = some (.int .i64 a0_0) := (blk_cell BK102.out 0).trans rfl; have hcz11_1 : w10.cell? ⟨gb102, 1, none⟩ = some (.int .i64 a0_1) := (blk_cell BK102.out 1).trans rfl; have hfz11_0 := blk_frozen BK102.out 0; have hfz11_1 := blk_frozen BK102.out 1))
 go_ret
 exact ⟨by first | rfl | (simp [errW_none, errW_some] <;> rfl) | (simp [*, errW_none, errW_some] <;> rfl), by repeat (first | (with_reducible first | exact HB.out | apply below_alloc | apply pw_below_drewN | apply below_drew1 | refine below_set ?_ GE102.out) | exact HB.out)⟩
end Go.Proofs.Ytpkajhmchcbbhaa.P
end
