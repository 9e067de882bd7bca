/- Part 5 of 38. -/
import Derived.Test.YtpkajhmchcbbhaaH0
import Derived.Test.YtpkajhmchcbbhaaH2
import Derived.Test.YtpkajhmchcbbhaaH1
import Derived.Test.YtpkajhmchcbbhaaH4
import Derived.Test.YtpkajhmchcbbhaaH3
import Derived.Test.YtpkajhmchcbbhaaProg
import Derived.Below
import Derived.Deep.Draws
import Derived.Deep.AppendLies
import Derived.Maps.AppendAt
import Derived.OwnWalk
import Derived.Laws.BytesArg
import Derived.Laws.MakeOwn
import Derived.Laws.OwnMore
import Derived.Deep.OwnRows
import Derived.Tactics
import Derived.Lib.ConvBytes
import Derived.Laws.Slices
import Derived.WalkKit
import Derived.KernelRfl
import Derived.RowKit3
import Derived.Deep.LoopGhost
import Derived.Deep.QuietTactic
import Derived.BigQuiet
import Derived.WideLaws
import Derived.Deep.DeepCutAuto
import Derived.Deep.CutBlock
import Derived.Deep.RegionHeld3
import Derived.Laws.Rows
import Derived.Lib.AppendStr
import Derived.ArgAppend
import Derived.Laws.IdiomCopy
import Derived.OrdersHeld
import Derived.Laws.BitsLemmas
import Derived.RowKit
set_option linter.unusedSimpArgs false
set_option linter.unusedVariables false
section
namespace Go.Proofs.Ytpkajhmchcbbhaa.P
open Go.RowKit Go.Proofs.YtpkajhmchcbbhaaW.PrintWords Go.Proofs.YtpkajhmchcbbhaaW.PrintLast Go.Proofs.YtpkajhmchcbbhaaW.PrintMore
attribute [local go_sem] max2_int min2_int max_two min_two max_three min_three max_four min_four
structure S43 where
 f0 : Int
 f1 : Int
def z43 : S43 := ⟨(0 : Int), (0 : Int)⟩
def k43 : Kd S43 := Kd.iso (Kd.pair (Kd.int .i64) (Kd.int .i64)) (fun x : S43 => (x.f0, x.f1))
theorem k43_open {w : World} {x : S43} {cs : List Value} (h : k43.K w x cs) : cs = [.int .i64 x.f0, .int .i64 x.f1] := by
 obtain ⟨_, _, rfl, rfl, rfl⟩ := h
 exact rfl
theorem k43_openM {w : World} {base : Nat} {ok : Nat → Prop} {x : S43} {cs : List Value} (h : k43.M w base ok x cs) : cs = [.int .i64 x.f0, .int .i64 x.f1] := by
 obtain ⟨_, _, rfl, rfl, rfl⟩ := h
 exact rfl
theorem k43_mk (w : World) (x : S43)  : k43.K w x [.int .i64 x.f0, .int .i64 x.f1] := ⟨[.int .i64 x.f0], [.int .i64 x.f1], rfl, rfl, rfl⟩
theorem k43_mkM (w : World) (base : Nat) (ok : Nat → Prop) (x : S43)  : k43.M w base ok x [.int .i64 x.f0, .int .i64 x.f1] := ⟨[.int .i64 x.f0], [.int .i64 x.f1], rfl, rfl, rfl⟩
def rd_T43 (xs : List S43) (i : Int) : S43 := xs.getD i.toNat z43
theorem at_T43 {w : World} {A : Option Addr} {n : Nat} {xs : List S43} (h : Kd.C k43 w A n xs) (i : Int) (h0 : 0 ≤ i) (h1 : i < n) : ∃ ad , A = some ad ∧ w.cell? (ad.add (i.toNat * 2)) = some (.int .i64 (rd_T43 xs i).f0) ∧ w.cell? ⟨(ad.add (i.toNat * 2)).block, (ad.add (i.toNat * 2)).off + 1, none⟩ = some (.int .i64 (rd_T43 xs i).f1) := by
 obtain ⟨ad, c, e, _, hK, hc0⟩ := Kd.C_get h z43 i h0 h1
 have hc : ∀ j u, c[j]? = some u → w.cell? (ad.add (i.toNat * 2 + j)) = some u := hc0
 obtain rfl := k43_open hK
 exact ⟨ad, e, hc 0 _ rfl, by rw [← add_field _ _ 1 (by omega)]; exact hc 1 _ rfl⟩
structure S70 where
 f0 : Int
 f1 : S43
def z70 : S70 := ⟨(0 : Int), z43⟩
def k70 : Kd S70 := Kd.iso (Kd.pair (Kd.int .i64) k43) (fun x : S70 => (x.f0, x.f1))
theorem k70_open {w : World} {x : S70} {cs : List Value} (h : k70.K w x cs) : cs = [.int .i64 x.f0, .int .i64 x.f1.f0, .int .i64 x.f1.f1] := by
 obtain ⟨_, _, rfl, rfl, s1⟩ := h
 obtain rfl := k43_open s1
 exact rfl
theorem k70_openM {w : World} {base : Nat} {ok : Nat → Prop} {x : S70} {cs : List Value} (h : k70.M w base ok x cs) : cs = [.int .i64 x.f0, .int .i64 x.f1.f0, .int .i64 x.f1.f1] := by
 obtain ⟨_, _, rfl, rfl, s1⟩ := h
 obtain rfl := k43_openM s1
 exact rfl
theorem k70_mk (w : World) (x : S70)  : k70.K w x [.int .i64 x.f0, .int .i64 x.f1.f0, .int .i64 x.f1.f1] := ⟨[.int .i64 x.f0], [.int .i64 x.f1.f0, .int .i64 x.f1.f1], rfl, rfl, (k43_mk w x.f1 )⟩
theorem k70_mkM (w : World) (base : Nat) (ok : Nat → Prop) (x : S70)  : k70.M w base ok x [.int .i64 x.f0, .int .i64 x.f1.f0, .int .i64 x.f1.f1] := ⟨[.int .i64 x.f0], [.int .i64 x.f1.f0, .int .i64 x.f1.f1], rfl, rfl, (k43_mkM w base ok x.f1 )⟩
def rd_T70 (xs : List S70) (i : Int) : S70 := xs.getD i.toNat z70
theorem at_T70 {w : World} {A : Option Addr} {n : Nat} {xs : List S70} (h : Kd.C k70 w A n xs) (i : Int) (h0 : 0 ≤ i) (h1 : i < n) : ∃ ad , A = some ad ∧ w.cell? (ad.add (i.toNat * 3)) = some (.int .i64 (rd_T70 xs i).f0) ∧ w.cell? ⟨(ad.add (i.toNat * 3)).block, (ad.add (i.toNat * 3)).off + 1, none⟩ = some (.int .i64 (rd_T70 xs i).f1.f0) ∧ w.cell? ⟨(ad.add (i.toNat * 3)).block, (ad.add (i.toNat * 3)).off + 2, none⟩ = some (.int .i64 (rd_T70 xs i).f1.f1) := by
 obtain ⟨ad, c, e, _, hK, hc0⟩ := Kd.C_get h z70 i h0 h1
 have hc : ∀ j u, c[j]? = some u → w.cell? (ad.add (i.toNat * 3 + j)) = some u := hc0
 obtain rfl := k70_open hK
 exact ⟨ad, e, hc 0 _ rfl, by rw [← add_field _ _ 1 (by omega)]; exact hc 1 _ rfl, by rw [← add_field _ _ 2 (by omega)]; exact hc 2 _ rfl⟩
structure S24 where
 f0 : (List S70)
 f1 : Int
def z24 : S24 := ⟨([] : List S70), (0 : Int)⟩
end Go.Proofs.Ytpkajhmchcbbhaa.P
end
section
namespace Go.Proofs.Ytpkajhmchcbbhaa.P
open Go.RowKit Go.Proofs.YtpkajhmchcbbhaaW.PrintWords Go.Proofs.YtpkajhmchcbbhaaW.PrintLast Go.Proofs.YtpkajhmchcbbhaaW.PrintMore
abbrev SRow := S70
abbrev SRange := S43
abbrev kRow := k70
abbrev zRow := z70
def inB (lo hi n : Int) : Bool := !(decide (n < lo) || decide (hi < n))
def idxF {α : Type} (p : α → Bool) : List α → Int
 | [] => -1
 | x :: l => if p x then 0 else if idxF p l < 0 then -1 else idxF p l + 1
def dipN (l : List SRow) (i : Nat) : Int := (l.getD i zRow).f0
def loR (l : List SRow) (i : Nat) : Int := (l.getD i zRow).f1.f0
def hiR (l : List SRow) (i : Nat) : Int := (l.getD i zRow).f1.f1
def firstD (l : List SRow) : Int := dipN l 0
def lastD (l : List SRow) : Int := dipN l (l.length - 1)
def dipsOk : Int → List SRow → Bool
 | _, [] => true
 | last, r :: l => !(decide (r.f0 ≤ last) || decide (4000 < r.f0)) && dipsOk r.f0 l
def litresOk (r : SRow) : Bool := inB 0 100000 r.f1.f0 && inB 0 100000 r.f1.f1 && decide (r.f1.f0 ≤ r.f1.f1)
def checkTank (l : List SRow) (p : Int) : Int :=
 if l.length < 2 ∨ 16 < l.length then 6 else if dipsOk (-1) l = false then 3 else if inB 0 50 p = false then 2 else if l.any (fun r => !litresOk r) then 2 else 0
def chartOk : Int → List SRow → List Int → Bool
 | last, r :: l, n :: c => inB (mx last r.f1.f0) r.f1.f1 n && chartOk n l c
 | _, _, _ => true
def checkChart (l : List SRow) (p : Int) (c : List Int) : Int :=
 if checkTank l p ≠ 0 then checkTank l p else if c.length ≠ l.length then 15 else if chartOk 0 l c then 0 else 21
def clashAux : List SRow → Int → Int × Int × Int
 | [], _ => (0, 0, 5)
 | r :: l, i => if idxF (fun q : SRow => decide (q.f1.f1 < r.f1.f0)) l < 0 then clashAux l (i + 1) else (i, i + 1 + idxF (fun q : SRow => decide (q.f1.f1 < r.f1.f0)) l, 0)
def lowN (l : List SRow) : Nat → Int
 | 0 => loR l 0
 | i + 1 => mx (loR l (i + 1)) (lowN l i)
def highR (l : List SRow) : Nat → Int
 | 0 => hiR l (l.length - 1)
 | j + 1 => mn (hiR l (l.length - 1 - (j + 1))) (highR l j)
def highN (l : List SRow) (i : Nat) : Int := highR l (l.length - 1 - i)
def tightOk (l : List SRow) : Bool := (List.range l.length).all fun i => decide (lowN l i ≤ highN l i)
def tightL (l : List SRow) : List SRange := (List.range l.length).map fun i => ⟨lowN l i, highN l i⟩
def lows (l : List SRow) : List Int := (List.range l.length).map (lowN l)
def highs (l : List SRow) : List Int := (List.range l.length).map (highN l)
def openE (l : List SRow) (p : Int) (dips : List Int) : Int :=
 if checkTank l p ≠ 0 then checkTank l p else if (dips.all fun d => inB (firstD l) (lastD l) d) = false then 3 else if tightOk l then 0 else 21
def posA (l : List SRow) (dip : Int) : Nat → Nat → Nat
 | 0, i => i
 | f + 1, i => if i < l.length - 1 ∧ dipN l i < dip then posA l dip f (i + 1) else i
def pos (l : List SRow) (dip : Int) : Nat := posA l dip l.length 1
def wts (l : List SRow) (dip : Int) : List Int := ((List.replicate 16 (0 : Int)).set (pos l dip - 1) (dipN l (pos l dip) - dip)).set (pos l dip) (dip - dipN l (pos l dip - 1))
def wden (l : List SRow) (dip : Int) : Int := dipN l (pos l dip) - dipN l (pos l dip - 1)
def dot : List Int → List Int → Int
 | x :: w, y :: c => x * y + dot w c
 | _, _ => 0
def gcdT (a b : Int) : Int := if _h : b = 0 then a else gcdT b (a.tmod b)
termination_by b.natAbs
decreasing_by
 have := Int.natAbs_tmod a b
 rw [this]
 exact Nat.mod_lt _ (by omega)
def leastN (num den : Int) : Int := num.tdiv (gcdT num den)
def leastD (num den : Int) : Int := den.tdiv (gcdT num den)
def trueLo (l : List SRow) (p dip : Int) : Int := mx (firstD l) (dip - p)
def trueHi (l : List SRow) (p dip : Int) : Int := mn (lastD l) (dip + p)
def endsE (l : List SRow) (p water level : Int) : Int :=
 if openE l p [water, level] ≠ 0 then openE l p [water, level] else if trueHi l p level < trueLo l p water then 24 else 0
def lowDips (l : List SRow) (p water level : Int) : Int × Int :=
 if trueHi l p water < trueLo l p level then (trueHi l p water, trueLo l p level) else (mx (trueLo l p water) (trueLo l p level), mx (trueLo l p water) (trueLo l p level))
def highDips (l : List SRow) (p water level : Int) : Int × Int := (trueLo l p water, trueHi l p level)
def bwts (l : List SRow) (d0 d1 : Int) : List Int := List.zipWith (fun x y => y * wden l d0 - x * wden l d1) (wts l d0) (wts l d1)
def bden (l : List SRow) (d0 d1 : Int) : Int := wden l d0 * wden l d1
def pad16 (c : List Int) : List Int := c ++ List.replicate (16 - c.length) 0
def mostC (l : List SRow) (d0 d1 : Int) : List Int :=
 if idxF (fun n : Int => decide (0 < n)) (bwts l d0 d1) < 0 then pad16 (lows l) else (pad16 (lows l)).take (idxF (fun n : Int => decide (0 < n)) (bwts l d0 d1)).toNat ++ (pad16 (highs l)).drop (idxF (fun n : Int => decide (0 < n)) (bwts l d0 d1)).toNat
def nearC (l : List SRow) (n : Int) : List Int := pad16 ((List.range l.length).map fun i => mx (lowN l i) (mn (highN l i) n))
def ins (n : Int) : List Int → List Int
 | [] => [n]
 | x :: l => if n < x then n :: x :: l else if n = x then x :: l else x :: ins n l
def cands (l : List SRow) : Nat → List Int
 | 0 => []
 | i + 1 => ins (highN l i) (ins (lowN l i) (cands l i))
def fewF (l : List SRow) (d0 d1 : Int) : List Int → Option (Int × List Int) → Option (Int × List Int)
 | [], x => x
 | n :: r, none => fewF l d0 d1 r (some (dot (bwts l d0 d1) (nearC l n), nearC l n))
 | n :: r, some (f, c) => if dot (bwts l d0 d1) (nearC l n) < f then fewF l d0 d1 r (some (dot (bwts l d0 d1) (nearC l n), nearC l n)) else fewF l d0 d1 r (some (f, c))
def fewR (l : List SRow) (d0 d1 : Int) : Int × List Int := (fewF l d0 d1 (cands l l.length) none).getD (0, [])
def mostR (l : List SRow) (d0 d1 : Int) : Int × List Int := (dot (bwts l d0 d1) (mostC l d0 d1), mostC l d0 d1)
def halveF (good : Int → Bool) (lo hi : Int) : Int :=
 if _h : lo ≤ hi then if good (lo + (hi - lo) / 2) then halveF good lo (lo + (hi - lo) / 2 - 1) else halveF good (lo + (hi - lo) / 2 + 1) hi else lo
termination_by (hi + 1 - lo).toNat
decreasing_by all_goals omega
def overF (l : List SRow) (c : List Int) (litres dip : Int) : Int := dot (wts l dip) c - wden l dip * litres
def dipsFrom (l : List SRow) (litres : Int) : Int := halveF (fun d => decide (0 ≤ overF l (highs l) litres d)) (firstD l) (lastD l)
def dipsTo (l : List SRow) (litres : Int) : Int := halveF (fun d => decide (0 < overF l (lows l) litres d)) (firstD l) (lastD l) - 1
def chart_within.f (a0 a1 : Int) (l2 : List Int) : Option Bool := some (l2.all fun n => inB a0 a1 n)
def chart_CheckTank.f (l : List SRow) (p : Int) : Option Int := some (checkTank l p)
def chart_Clash.f (l : List SRow) (p : Int) : Option (Int × Int × Int) := some (if checkTank l p = 0 then clashAux l 0 else (0, 0, checkTank l p))
def chart_Tight.f (l : List SRow) (p : Int) : Option (List SRange × Int) := some (if openE l p [] = 0 then (tightL l, 0) else ([], openE l p []))
def chart_Below.f (l : List SRow) (p : Int) (c : List Int) (dip : Int) : Option (Int × Int × Int) :=
 some (if checkChart l p c ≠ 0 then (0, 0, checkChart l p c) else if inB (firstD l) (lastD l) dip = false then (0, 0, 3) else (leastN (dot (wts l dip) c) (wden l dip), leastD (dot (wts l dip) c) (wden l dip), 0))
def chart_Metered.f (l : List SRow) (p frm tu : Int) : Option (Int × Int × Int) :=
 some (if checkTank l p ≠ 0 then (0, 0, checkTank l p) else if frm < 0 ∨ (l.length : Int) ≤ frm ∨ tu < 0 ∨ (l.length : Int) ≤ tu then (0, 0, 3) else if tu < frm then (0, 0, 2)
  else if tightOk l = false then (0, 0, 21) else if frm = tu then (0, 0, 0) else (mx 0 (lowN l tu.toNat - highN l frm.toNat), highN l tu.toNat - lowN l frm.toNat, 0))
def chart_Net.f (l : List SRow) (p water level : Int) : Option (Int × Int × Int × Int × Int) :=
 some (if endsE l p water level ≠ 0 then (0, 0, 0, 0, endsE l p water level)
  else (leastN (fewR l (lowDips l p water level).1 (lowDips l p water level).2).1 (bden l (lowDips l p water level).1 (lowDips l p water level).2), leastD (fewR l (lowDips l p water level).1 (lowDips l p water level).2).1 (bden l (lowDips l p water level).1 (lowDips l p water level).2),
   leastN (mostR l (highDips l p water level).1 (highDips l p water level).2).1 (bden l (highDips l p water level).1 (highDips l p water level).2), leastD (mostR l (highDips l p water level).1 (highDips l p water level).2).1 (bden l (highDips l p water level).1 (highDips l p water level).2), 0))
def chart_End.f (l : List SRow) (p water level : Int) (high : Bool) : Option (List Int × Int × Int × Int) :=
 some (if endsE l p water level ≠ 0 then ([], 0, 0, endsE l p water level)
  else if high then ((mostR l (highDips l p water level).1 (highDips l p water level).2).2.take l.length, (highDips l p water level).1, (highDips l p water level).2, 0)
  else ((fewR l (lowDips l p water level).1 (lowDips l p water level).2).2.take l.length, (lowDips l p water level).1, (lowDips l p water level).2, 0))
def chart_Dips.f (l : List SRow) (p litres : Int) : Option (Int × Int × Int) :=
 some (if checkTank l p ≠ 0 then (0, 0, checkTank l p) else if inB 0 100000 litres = false then (0, 0, 3) else if tightOk l = false then (0, 0, 21)
  else if dipsTo l litres < dipsFrom l litres then (0, 0, 17) else (dipsFrom l litres, dipsTo l litres, 0))
end Go.Proofs.Ytpkajhmchcbbhaa.P
end
section
namespace Go.Proofs.Ytpkajhmchcbbhaa.P
open Go.RowKit Go.Proofs.YtpkajhmchcbbhaaW.PrintWords Go.Proofs.YtpkajhmchcbbhaaW.PrintLast Go.Proofs.YtpkajhmchcbbhaaW.PrintMore
attribute [local go_sem] max2_int min2_int max_two min_two max_three min_three max_four min_four
def chart_common_int64.l0 : Nat → Int → Int → Option (Int)
 | 0, _, _ => none
 | k + 1, x0, x1 => if x1 = 0 then (some x0) else (chart_common_int64.l0 k x1 (Int.tmod x0 x1))
def chart_common_int64.f (k : Nat) (a0 : Int) (a1 : Int) : Option (Int) := chart_common_int64.l0 k a0 a1
set_option maxHeartbeats 8000000 in
set_option maxRecDepth 100000 in
theorem chart_common_int64.calls (k : Nat) (a0 : Int) (a1 : Int) (r : Int) (w : World) (h : chart_common_int64.f k a0 a1 = some r) :
  Calls Try.prog 80 #[.int .i64 a0, .int .i64 a1] w fun e w' => e = .returned (.int .i64 r) ∧ Drawn0 w w' := by
 have H : (chart_common_int64.l0 k a0 a1) = some r := h
 clear h
 have H' := Aside0.mk H
 clear H
 go_enter Try.func80, Try.ntmps80
 go_wp2
 repeat (go_quiet (fail); try go_wp2)
 go_loopg [0, 1] k (fun kq v0 v1 w' => ∃ (x0_1 : Int) (x1_1 : Int), v0 = .int .i64 x0_1 ∧ v1 = .int .i64 x1_1 ∧ Aside0 (chart_common_int64.l0 kq x0_1 x1_1 = some r) ∧ Aside0 (kq ≤ k) ∧ Drawn0 w w')
 case atStart => exact ⟨(a0), (a1), qh4, qh4, H', ⟨Nat.le_refl _⟩, by repeat (first | exact Drawn0.refl _ | apply Drawn0.step)⟩
 case round =>
  clear H'
  try clear p2
  obtain ⟨x0_1, x1_1, rfl, rfl, HA, HK1, ⟨m1, rfl⟩⟩ := hrel
  cases gk with
  | zero => exact absurd HA.out (by simp [chart_common_int64.l0])
  | succ k1 =>
   have H := HA.out
   clear HA
   simp only [chart_common_int64.l0] at H
   by_cases c3 : x1_1 = 0
   ·rw [if_pos c3] at H
    have c3b0 : (x1_1 == 0) = true := beq_iff_eq.mpr c3
    have c3b1 : (x1_1 != 0) = false := bne_eq_false_iff_eq.mpr c3
    clear c3
    obtain rfl := Option.some.inj H
    go_wp2
    repeat (go_quiet (fail); try go_wp2)
    go_ret
    exact ⟨by first | rfl | (simp; done) | (simp [*]; done), by repeat (first | exact Drawn0.refl _ | apply Drawn0.step)⟩
   rw [if_neg c3] at H
   have c3b0 : (x1_1 == 0) = false := beq_eq_false_iff_ne.mpr c3
   have c3b1 : (x1_1 != 0) = true := bne_iff_ne.mpr c3
   have H' := Aside0.mk H
   clear H
   go_wp2
   repeat (go_quiet (fail); try go_wp2)
   go_roundg k1
   case measure => have := HK1.out; omega
   case rel => exact ⟨(x1_1), (Int.tmod x0_1 x1_1), qh4, qh4, H', ⟨by have := HK1.out; omega⟩, by repeat (first | exact Drawn0.refl _ | apply Drawn0.step)⟩
end Go.Proofs.Ytpkajhmchcbbhaa.P
end
section
namespace Go.Proofs.Ytpkajhmchcbbhaa.P
open Go.RowKit Go.Proofs.YtpkajhmchcbbhaaW.PrintWords Go.Proofs.YtpkajhmchcbbhaaW.PrintLast Go.Proofs.YtpkajhmchcbbhaaW.PrintMore
attribute [local go_sem] max2_int min2_int max_two min_two max_three min_three max_four min_four
def chart_least.f (k : Nat) (a0 : Int) (a1 : Int) : Option (Int × Int) := (chart_common_int64.f k a0 a1).bind fun t350 => (if t350 = 0 then (none) else (some (wrap64 (Int.tdiv a0 t350), wrap64 (Int.tdiv a1 t350))))
def chart_least.T2 : Bool × List (List Nat × List Nat) := (true, [([], []), ([], []), ([0, 1], [0, 1]), ([], []), ([], []), ([3, 4], [3, 4]), ([2, 5], [2, 5]), ([6, 0, 1, 2, 3, 4, 5, 6], [6])])
def chart_least.B2 : List Nat := [0, 0, 3, 0, 0, 24, 63, 127]
theorem chart_least.tab2 : rtab .any (opsOf Try.f65 2) = chart_least.T2 := by kernel_rfl
theorem chart_least.bits2 : waitsOk chart_least.T2.2 chart_least.B2 = true := by kernel_rfl
set_option maxHeartbeats 8000000 in
set_option maxRecDepth 100000 in
theorem chart_least.calls (k : Nat) (a0 : Int) (a1 : Int) (r1 : Int) (r2 : Int) (w : World) (h : chart_least.f k a0 a1 = some (r1, r2)) :
  Calls Try.prog 65 #[.int .i64 a0, .int .i64 a1] w fun e w' => e = .returned (.agg #[.int .i64 r1, .int .i64 r2]) ∧ Below w.heap.size w w' := by
 have hu39 := Try.underlying39
 have HB := Aside0.mk (Below.refl w.heap.size w)
 have H : ((chart_common_int64.f k a0 a1).bind fun t350 => (if t350 = 0 then (none) else (some (wrap64 (Int.tdiv a0 t350), wrap64 (Int.tdiv a1 t350))))) = some (r1, r2) := h
 clear h
 replace H := Option.bind_eq_some_iff.mp H
 obtain ⟨t350, A30, H⟩ := H
 replace H : (if t350 = 0 then (none) else (some (wrap64 (Int.tdiv a0 t350), wrap64 (Int.tdiv a1 t350)))) = some (r1, r2) := H
 have A3 := Aside0.mk A30
 clear A30
 by_cases c4 : t350 = 0
 ·rw [if_pos c4] at H
  exact absurd H (by simp)
 rw [if_neg c4] at H
 have c4b0 : (t350 == 0) = false := beq_eq_false_iff_ne.mpr c4
 have c4b1 : (t350 != 0) = true := bne_iff_ne.mpr c4
 simp only [Option.some.injEq, Prod.mk.injEq] at H
 obtain ⟨rfl, rfl⟩ := H
 go_enter Try.func65, Try.ntmps65
 try go_wp2_with (first | ((with_reducible refine gate_dst (N := 4) rfl ?_); refine box_event ?hg (N := 4) ?hd (cs := #[.int .i64 0, .int .i64 0]) (t := 39) ?hr ?_; (case hd => rfl); (case hg => rfl); (case hr => first | (go_simp; done) | (go_simp; rfl)); intro gb349 hg w5 hbox hb; have n0_ := Aside0.mk (below_step qh0 hb); have n1_ := Aside0.mk (hbox); have n2_ := Aside0.mk ((by rw [hg]; exact (below_size qh0) : w.heap.size ≤ gb349)); have n3_ := Aside0.mk ((by rw [hg]; exact (below_size qh0) : w.heap.size ≤ gb349)); clear HB; have HB := n0_; have BK349 := n1_; have GW349 := n2_; have GE349 := n3_; clear n0_ n1_ n2_ n3_; clear hb hbox hg) | ((with_reducible refine gate_callee (f := 80) rfl ?_); refine goesL_ (some 8) rfl rfl Try.func80 (by kernel_rfl) rfl #[.int .i64 a0, .int .i64 a1] rfl qh3 ?_; (with_reducible refine (chart_common_int64.calls k a0 a1 t350 _ A3.out).mono ?_); rintro e w' ⟨rfl, ⟨nd, rfl⟩⟩; refine ⟨_, rfl, ?_⟩; (try (rw [drewN_self w5]; generalize hq_ : World.drewN w5 _ = w5; have n0_ : Aside0 (w5.heap[gb349]? = some (.cells #[.int .i64 0, .int .i64 0] 39 (0, 0))) := ⟨by rw [← hq_]; exact (by (with_reducible repeat (first | refine blk_drewN ?_ _ | refine blk_drew ?_ | refine blk_alloc ?_ _)); exact BK349.out)⟩; have n1_ : Aside0 (Below w.heap.size w w5) := ⟨by rw [← hq_]; exact (by repeat (first | (with_reducible first | exact HB.out | apply below_alloc | apply pw_below_drewN | apply below_drew1 | refine below_set ?_ GE349.out) | exact HB.out))⟩; clear BK349 HB hq_; have BK349 := n0_; have HB := n1_; clear n0_ n1_))))
 have n0_ := Aside0.mk (blk_drew BK349.out)
 have n1_ := Aside0.mk (below_drew1 HB.out)
 clear BK349 HB
 have BK349 := n0_
 have HB := n1_
 clear n0_ n1_
 refine start_ (n := 8) (S := fun w' => True) (ds := []) #[false, false, false, false, false, false, false, false] (by kernel_rfl) rfl rfl trivial (fun hHeld => ?_); refine with_tabW chart_least.tab2 chart_least.bits2 (fun HT_ HW_ => ?_)
 generalize w5.drew = w6 at BK349 HB hHeld ⊢
 refine pureT (i := 0) (N := some 9) HT_.out ?_
 refine pureT (i := 1) (N := some 10) HT_.out ?_
 refine pureT (i := 2) (N := some 11) HT_.out ?_
 refine pureT (i := 3) (N := some 12) HT_.out ?_
 refine pureT (i := 4) (N := some 13) HT_.out ?_
 refine pureT (i := 5) (N := some 14) HT_.out ?_
 refine pureT (i := 6) (N := some 15) HT_.out ?_
 refine one_ (i := 7) (N := none) #[true, true, true, true, true, true, true, true] rfl rfl (one_of HT_.out (by kernel_rfl)) (by decide) (fun K hK => ?_)
 have hs7 : w6.cell? ⟨gb349, 0, none⟩ = some (.int .i64 0) := (blk_cell BK349.out 0).trans rfl
 have hfs7 := blk_frozen BK349.out 0
 have hs8 : w6.cell? ⟨gb349, 1, none⟩ = some (.int .i64 0) := (blk_cell BK349.out 1).trans rfl
 have hfs8 := blk_frozen BK349.out 1
 refine skip_ (w1 := ?_) (by rfl) rfl ?_ ?_
 rotate_left
 ·go_simp
  rfl
 refine hK.out _ _ trivial (fun hHeld => ?_)
 clear hK K
 refine done_ (done_of HT_.out (by kernel_rfl)) ?_
 try go_wp2
 refine bodyPost_ret (results_cell_row rfl _ _ gb349 39 #[.int .i64 (wrap64 (Int.tdiv a0 t350)), .int .i64 (wrap64 (Int.tdiv a1 t350))] (0, 0) _ rfl (by (with_reducible repeat (first | refine blk_drewN ?_ _ | refine blk_drew ?_ | refine blk_alloc ?_ _)); refine blk_put (cs := #[.int .i64 (wrap64 (Int.tdiv a0 t350)), .int .i64 0]) ?_ 1 _ rfl; (with_reducible repeat (first | refine blk_drewN ?_ _ | refine blk_drew ?_ | refine blk_alloc ?_ _)); refine blk_put (cs := #[.int .i64 0, .int .i64 0]) ?_ 0 _ rfl; (with_reducible repeat (first | refine blk_drewN ?_ _ | refine blk_drew ?_ | refine blk_alloc ?_ _)); exact BK349.out) Try.underlying39 rfl (by kernel_rfl)) rfl ?_
 exact ⟨by first | rfl | (simp [errW_none, errW_some] <;> rfl) | (simp [*, errW_none, errW_some] <;> rfl), by repeat (first | (with_reducible first | exact HB.out | apply below_alloc | apply pw_below_drewN | apply below_drew1 | refine below_set ?_ GE349.out) | exact HB.out)⟩
end Go.Proofs.Ytpkajhmchcbbhaa.P
end
section
namespace Go.Proofs.Ytpkajhmchcbbhaa.P
open Go.RowKit Go.Proofs.YtpkajhmchcbbhaaW.PrintWords Go.Proofs.YtpkajhmchcbbhaaW.PrintLast Go.Proofs.YtpkajhmchcbbhaaW.PrintMore
attribute [local go_sem] max2_int min2_int max_two min_two max_three min_three max_four min_four
def forecourtlaw01_rg.f (a0 : Int) (a1 : Int) : Option (Int × Int) := some (a0, a1)
set_option maxHeartbeats 8000000 in
set_option maxRecDepth 100000 in
theorem forecourtlaw01_rg.calls (a0 : Int) (a1 : Int) (r1 : Int) (r2 : Int) (w : World) (h : forecourtlaw01_rg.f a0 a1 = some (r1, r2)) :
  Calls Try.prog 47 #[.int .i64 a0, .int .i64 a1] w fun e w' => e = .returned (.agg #[.int .i64 r1, .int .i64 r2]) ∧ Below w.heap.size w w' := by
 have hu43 := Try.underlying43
 have HB := Aside0.mk (Below.refl w.heap.size w)
 have H : (some (a0, a1)) = some (r1, r2) := h
 clear h
 simp only [Option.some.injEq, Prod.mk.injEq] at H
 obtain ⟨rfl, rfl⟩ := H
 go_enter Try.func47, Try.ntmps47
 go_wp2_with (first | ((with_reducible refine gate_dst (N := 4) rfl ?_); refine box_event ?hg (N := 4) ?hd (cs := #[.int .i64 0, .int .i64 0]) (t := 43) ?hr ?_; (case hd => rfl); (case hg => rfl); (case hr => first | (go_simp; done) | (go_simp; rfl)); intro gb533 hg w3 hbox hb; have n0_ := Aside0.mk (below_step qh0 hb); have n1_ := Aside0.mk (hbox); have n2_ := Aside0.mk ((by rw [hg]; exact (below_size qh0) : w.heap.size ≤ gb533)); have n3_ := Aside0.mk ((by rw [hg]; exact (below_size qh0) : w.heap.size ≤ gb533)); clear HB; have HB := n0_; have BK533 := n1_; have GW533 := n2_; have GE533 := n3_; clear n0_ n1_ n2_ n3_; clear hb hbox hg; have hcz4_0 : w3.cell? ⟨gb533, 0, none⟩ = some (.int .i64 0) := (blk_cell BK533.out 0).trans rfl; have hcz4_1 : w3.cell? ⟨gb533, 1, none⟩ = some (.int .i64 0) := (blk_cell BK533.out 1).trans rfl; have hfz4_0 := blk_frozen BK533.out 0; have hfz4_1 := blk_frozen BK533.out 1))
 refine bodyPost_ret (results_cell_row rfl _ _ gb533 43 #[.int .i64 a0, .int .i64 a1] (0, 0) _ rfl (by (with_reducible repeat (first | refine blk_drewN ?_ _ | refine blk_drew ?_ | refine blk_alloc ?_ _)); refine blk_put (cs := #[.int .i64 a0, .int .i64 0]) ?_ 1 _ rfl; (with_reducible repeat (first | refine blk_drewN ?_ _ | refine blk_drew ?_ | refine blk_alloc ?_ _)); refine blk_put (cs := #[.int .i64 0, .int .i64 0]) ?_ 0 _ rfl; (with_reducible repeat (first | refine blk_drewN ?_ _ | refine blk_drew ?_ | refine blk_alloc ?_ _)); exact BK533.out) Try.underlying43 rfl (by kernel_rfl)) rfl ?_
 exact ⟨by first | rfl | (simp [errW_none, errW_some] <;> rfl) | (simp [*, errW_none, errW_some] <;> rfl), by repeat (first | (with_reducible first | exact HB.out | apply below_alloc | apply pw_below_drewN | apply below_drew1 | refine below_set ?_ GE533.out) | exact HB.out)⟩
end Go.Proofs.Ytpkajhmchcbbhaa.P
end
section
namespace Go.Proofs.Ytpkajhmchcbbhaa.P
open Go.RowKit Go.Proofs.YtpkajhmchcbbhaaW.PrintWords Go.Proofs.YtpkajhmchcbbhaaW.PrintLast Go.Proofs.YtpkajhmchcbbhaaW.PrintMore
attribute [local go_sem] max2_int min2_int max_two min_two max_three min_three max_four min_four
def forecourtlaw01_Row.f (a0 : Int) (a1 : Int) (a2 : Int) : Option (Int × Int × Int) := (forecourtlaw01_rg.f a1 a2).bind fun bt535 => (some (a0, bt535.1, bt535.2))
set_option maxHeartbeats 8000000 in
set_option maxRecDepth 100000 in
theorem forecourtlaw01_Row.calls (a0 : Int) (a1 : Int) (a2 : Int) (r1 : Int) (r2 : Int) (r3 : Int) (w : World) (h : forecourtlaw01_Row.f a0 a1 a2 = some (r1, r2, r3)) :
  Calls Try.prog 46 #[.int .i64 a0, .int .i64 a1, .int .i64 a2] w fun e w' => e = .returned (.agg #[.int .i64 r1, .int .i64 r2, .int .i64 r3]) ∧ Below w.heap.size w w' := by
 have hu70 := Try.underlying70
 have HB := Aside0.mk (Below.refl w.heap.size w)
 have H : ((forecourtlaw01_rg.f a1 a2).bind fun bt535 => (some (a0, bt535.1, bt535.2))) = some (r1, r2, r3) := h
 clear h
 replace H := Option.bind_eq_some_iff.mp H
 obtain ⟨⟨t535, t536⟩, A40, H⟩ := H
 replace H : (some (a0, t535, t536)) = some (r1, r2, r3) := H
 have A4 := Aside0.mk A40
 clear A40
 simp only [Option.some.injEq, Prod.mk.injEq] at H
 obtain ⟨rfl, rfl, rfl⟩ := H
 go_enter Try.func46, Try.ntmps46
 go_wp2_with (first | ((with_reducible refine gate_dst (N := 6) rfl ?_); refine box_event ?hg (N := 6) ?hd (cs := #[.int .i64 0, .int .i64 0, .int .i64 0]) (t := 70) ?hr ?_; (case hd => rfl); (case hg => rfl); (case hr => first | (go_simp; done) | (go_simp; rfl)); intro gb534 hg w5 hbox hb; have n0_ := Aside0.mk (below_step qh0 hb); have n1_ := Aside0.mk (hbox); have n2_ := Aside0.mk ((by rw [hg]; exact (below_size qh0) : w.heap.size ≤ gb534)); have n3_ := Aside0.mk ((by rw [hg]; exact (below_size qh0) : w.heap.size ≤ gb534)); clear HB; have HB := n0_; have BK534 := n1_; have GW534 := n2_; have GE534 := n3_; clear n0_ n1_ n2_ n3_; clear hb hbox hg) | ((with_reducible refine gate_callee (f := 47) rfl ?_); refine goesL_ (some 10) rfl rfl Try.func47 (by kernel_rfl) rfl #[.int .i64 a1, .int .i64 a2] rfl qh3 ?_; (with_reducible refine (forecourtlaw01_rg.calls a1 a2 t535 t536 _ A4.out).mono ?_); rintro e w6 ⟨rfl, hb⟩; refine ⟨_, rfl, ?_⟩; have n0_ := Aside0.mk (blk_below (g := gb534) (o := .cells #[.int .i64 0, .int .i64 0, .int .i64 0] 70 (0, 0)) (by (with_reducible repeat (first | refine blk_drewN ?_ _ | refine blk_drew ?_ | refine blk_alloc ?_ _)); exact BK534.out) hb); have n1_ := Aside0.mk (below_step (by repeat (first | (with_reducible first | exact HB.out | apply below_alloc | apply pw_below_drewN | apply below_drew1 | refine below_set ?_ GE534.out) | exact HB.out)) hb); clear BK534; clear HB; have BK534 := n0_; have HB := n1_; clear n0_ n1_; (try clear hb); (try clear hb2); (try clear hk); (try clear hi); have hcz7_0 : w6.cell? ⟨gb534, 0, none⟩ = some (.int .i64 0) := (blk_cell BK534.out 0).trans rfl; have hcz7_1 : w6.cell? ⟨gb534, 1, none⟩ = some (.int .i64 0) := (blk_cell BK534.out 1).trans rfl; have hcz7_2 : w6.cell? ⟨gb534, 2, none⟩ = some (.int .i64 0) := (blk_cell BK534.out 2).trans rfl; have hfz7_0 := blk_frozen BK534.out 0; have hfz7_1 := blk_frozen BK534.out 1; have hfz7_2 := blk_frozen BK534.out 2))
 refine bodyPost_ret (results_cell_row rfl _ _ gb534 70 #[.int .i64 a0, .int .i64 t535, .int .i64 t536] (0, 0) _ rfl (by (with_reducible repeat (first | refine blk_drewN ?_ _ | refine blk_drew ?_ | refine blk_alloc ?_ _)); refine blk_put (cs := #[.int .i64 a0, .int .i64 t535, .int .i64 0]) ?_ 2 _ rfl; (with_reducible repeat (first | refine blk_drewN ?_ _ | refine blk_drew ?_ | refine blk_alloc ?_ _)); refine blk_put (cs := #[.int .i64 a0, .int .i64 0, .int .i64 0]) ?_ 1 _ rfl; (with_reducible repeat (first | refine blk_drewN ?_ _ | refine blk_drew ?_ | refine blk_alloc ?_ _)); refine blk_put (cs := #[.int .i64 0, .int .i64 0, .int .i64 0]) ?_ 0 _ rfl; (with_reducible repeat (first | refine blk_drewN ?_ _ | refine blk_drew ?_ | refine blk_alloc ?_ _)); exact BK534.out) Try.underlying70 rfl (by kernel_rfl)) rfl ?_
 exact ⟨by first | rfl | (simp [errW_none, errW_some] <;> rfl) | (simp [*, errW_none, errW_some] <;> rfl), by repeat (first | (with_reducible first | exact HB.out | apply below_alloc | apply pw_below_drewN | apply below_drew1 | refine below_set ?_ GE534.out) | exact HB.out)⟩
end Go.Proofs.Ytpkajhmchcbbhaa.P
end
section
namespace Go.Proofs.Ytpkajhmchcbbhaa.P
open Go.RowKit Go.Proofs.YtpkajhmchcbbhaaW.PrintWords Go.Proofs.YtpkajhmchcbbhaaW.PrintLast Go.Proofs.YtpkajhmchcbbhaaW.PrintMore
attribute [local go_sem] max2_int min2_int max_two min_two max_three min_three max_four min_four
def forecourtlaw01_Tank.f  : Option ((List (S70)) × Int) := (forecourtlaw01_Row.f 0 0 0).bind fun bt746 => ((forecourtlaw01_Row.f 100 380 420).bind fun bt749 => ((forecourtlaw01_Row.f 200 400 900).bind fun bt752 => ((forecourtlaw01_Row.f 400 1900 2100).bind fun bt755 => (some ((([(⟨bt746.1, (⟨bt746.2.1, bt746.2.2⟩ : S43)⟩ : S70), (⟨bt749.1, (⟨bt749.2.1, bt749.2.2⟩ : S43)⟩ : S70), (⟨bt752.1, (⟨bt752.2.1, bt752.2.2⟩ : S43)⟩ : S70), (⟨bt755.1, (⟨bt755.2.1, bt755.2.2⟩ : S43)⟩ : S70)] : List (S70))), 0)))))
set_option maxHeartbeats 8000000 in
set_option maxRecDepth 100000 in
theorem forecourtlaw01_Tank.calls  (r1 : List (S70)) (r2 : Int) (w : World) (h : forecourtlaw01_Tank.f  = some (r1, r2)) :
  Calls Try.prog 51 #[] w fun e w' => ∃ v0_ : Value, e = .returned (.agg #[v0_, .int .i64 r2]) ∧ Kd.R k70 70 w' w.heap.size (fun _ => True) v0_ r1 ∧ Below w.heap.size w w' := by
 have hu24 := Try.underlying24
 have HB := Aside0.mk (Below.refl w.heap.size w)
 have H : ((forecourtlaw01_Row.f 0 0 0).bind fun bt746 => ((forecourtlaw01_Row.f 100 380 420).bind fun bt749 => ((forecourtlaw01_Row.f 200 400 900).bind fun bt752 => ((forecourtlaw01_Row.f 400 1900 2100).bind fun bt755 => (some ((([(⟨bt746.1, (⟨bt746.2.1, bt746.2.2⟩ : S43)⟩ : S70), (⟨bt749.1, (⟨bt749.2.1, bt749.2.2⟩ : S43)⟩ : S70), (⟨bt752.1, (⟨bt752.2.1, bt752.2.2⟩ : S43)⟩ : S70), (⟨bt755.1, (⟨bt755.2.1, bt755.2.2⟩ : S43)⟩ : S70)] : List (S70))), 0)))))) = some (r1, r2) := h
 clear h
 replace H := Option.bind_eq_some_iff.mp H
 obtain ⟨⟨t746, t747, t748⟩, A10, H⟩ := H
 replace H : ((forecourtlaw01_Row.f 100 380 420).bind fun bt749 => ((forecourtlaw01_Row.f 200 400 900).bind fun bt752 => ((forecourtlaw01_Row.f 400 1900 2100).bind fun bt755 => (some ((([(⟨t746, (⟨t747, t748⟩ : S43)⟩ : S70), (⟨bt749.1, (⟨bt749.2.1, bt749.2.2⟩ : S43)⟩ : S70), (⟨bt752.1, (⟨bt752.2.1, bt752.2.2⟩ : S43)⟩ : S70), (⟨bt755.1, (⟨bt755.2.1, bt755.2.2⟩ : S43)⟩ : S70)] : List (S70))), 0))))) = some (r1, r2) := H
 have A1 := Aside0.mk A10
 clear A10
 replace H := Option.bind_eq_some_iff.mp H
 obtain ⟨⟨t749, t750, t751⟩, A20, H⟩ := H
 replace H : ((forecourtlaw01_Row.f 200 400 900).bind fun bt752 => ((forecourtlaw01_Row.f 400 1900 2100).bind fun bt755 => (some ((([(⟨t746, (⟨t747, t748⟩ : S43)⟩ : S70), (⟨t749, (⟨t750, t751⟩ : S43)⟩ : S70), (⟨bt752.1, (⟨bt752.2.1, bt752.2.2⟩ : S43)⟩ : S70), (⟨bt755.1, (⟨bt755.2.1, bt755.2.2⟩ : S43)⟩ : S70)] : List (S70))), 0)))) = some (r1, r2) := H
 have A2 := Aside0.mk A20
 clear A20
 replace H := Option.bind_eq_some_iff.mp H
 obtain ⟨⟨t752, t753, t754⟩, A30, H⟩ := H
 replace H : ((forecourtlaw01_Row.f 400 1900 2100).bind fun bt755 => (some ((([(⟨t746, (⟨t747, t748⟩ : S43)⟩ : S70), (⟨t749, (⟨t750, t751⟩ : S43)⟩ : S70), (⟨t752, (⟨t753, t754⟩ : S43)⟩ : S70), (⟨bt755.1, (⟨bt755.2.1, bt755.2.2⟩ : S43)⟩ : S70)] : List (S70))), 0))) = some (r1, r2) := H
 have A3 := Aside0.mk A30
 clear A30
 replace H := Option.bind_eq_some_iff.mp H
 obtain ⟨⟨t755, t756, t757⟩, A40, H⟩ := H
 replace H : (some ((([(⟨t746, (⟨t747, t748⟩ : S43)⟩ : S70), (⟨t749, (⟨t750, t751⟩ : S43)⟩ : S70), (⟨t752, (⟨t753, t754⟩ : S43)⟩ : S70), (⟨t755, (⟨t756, t757⟩ : S43)⟩ : S70)] : List (S70))), 0)) = some (r1, r2) := H
 have A4 := Aside0.mk A40
 clear A40
 obtain ⟨y758, hy758⟩ : ∃ y_ : List (S70), y_ = (([(⟨t746, (⟨t747, t748⟩ : S43)⟩ : S70), (⟨t749, (⟨t750, t751⟩ : S43)⟩ : S70), (⟨t752, (⟨t753, t754⟩ : S43)⟩ : S70), (⟨t755, (⟨t756, t757⟩ : S43)⟩ : S70)] : List (S70))) := ⟨_, rfl⟩
 replace H : (some (y758, 0)) = some (r1, r2) := by first | (rw [hy758]; with_reducible exact H) | (have H2_ := (Option.bind_some _ _).symm.trans H; rw [hy758]; with_reducible exact H2_) | (have H2_ := (Option.bind_some _ _).symm.trans H; with_reducible exact H2_) | with_reducible exact H | (rw [hy758]; exact H) | exact H
 have Ny758 := Aside0.mk hy758
 clear hy758
 simp only [Option.some.injEq, Prod.mk.injEq] at H
 obtain ⟨rfl, rfl⟩ := H
 go_enter Try.func51, Try.ntmps51
 go_wp2_with (first | ((with_reducible refine gate_dst (N := 0) rfl ?_); refine box_event ?hg (N := 0) ?hd (cs := #[.slice none 0 0, .int .i64 0]) (t := 24) ?hr ?_; (case hd => rfl); (case hg => rfl); (case hr => first | (go_simp; done) | (go_simp; rfl)); intro gb745 hg w5 hbox hb; have n0_ := Aside0.mk (below_step qh2 hb); have n1_ := Aside0.mk (hbox); have n2_ := Aside0.mk ((by rw [hg]; exact (below_size qh2) : w.heap.size ≤ gb745)); have n3_ := Aside0.mk ((by rw [hg]; exact (below_size qh2) : w.heap.size ≤ gb745)); clear HB; have HB := n0_; have BK745 := n1_; have GW745 := n2_; have GE745 := n3_; clear n0_ n1_ n2_ n3_; clear hb hbox hg) | ((with_reducible refine gate_callee (f := 46) rfl ?_); refine goesL_ (some 1) rfl rfl Try.func46 (by kernel_rfl) rfl #[.int .i64 0, .int .i64 0, .int .i64 0] rfl qh3 ?_; (with_reducible refine (forecourtlaw01_Row.calls 0 0 0 t746 t747 t748 _ A1.out).mono ?_); rintro e w6 ⟨rfl, hb⟩; refine ⟨_, rfl, ?_⟩; have n0_ := Aside0.mk (blk_below (g := gb745) (o := .cells #[.slice none 0 0, .int .i64 0] 24 (0, 0)) (by exact BK745.out) hb); have n1_ := Aside0.mk (below_step qh2 hb); clear BK745; clear HB; have BK745 := n0_; have HB := n1_; clear n0_ n1_; (try clear hb); (try clear hb2); (try clear hk); (try clear hi)) | ((with_reducible refine gate_callee (f := 46) rfl ?_); refine goesL_ (some 2) rfl rfl Try.func46 (by kernel_rfl) rfl #[.int .i64 100, .int .i64 380, .int .i64 420] rfl qh3 ?_; (with_reducible refine (forecourtlaw01_Row.calls 100 380 420 t749 t750 t751 _ A2.out).mono ?_); rintro e w7 ⟨rfl, hb⟩; refine ⟨_, rfl, ?_⟩; have n0_ := Aside0.mk (blk_below (g := gb745) (o := .cells #[.slice none 0 0, .int .i64 0] 24 (0, 0)) (by exact BK745.out) hb); have n1_ := Aside0.mk (below_step qh2 hb); clear BK745; clear HB; have BK745 := n0_; have HB := n1_; clear n0_ n1_; (try clear hb); (try clear hb2); (try clear hk); (try clear hi)) | ((with_reducible refine gate_callee (f := 46) rfl ?_); refine goesL_ (some 3) rfl rfl Try.func46 (by kernel_rfl) rfl #[.int .i64 200, .int .i64 400, .int .i64 900] rfl qh3 ?_; (with_reducible refine (forecourtlaw01_Row.calls 200 400 900 t752 t753 t754 _ A3.out).mono ?_); rintro e w8 ⟨rfl, hb⟩; refine ⟨_, rfl, ?_⟩; have n0_ := Aside0.mk (blk_below (g := gb745) (o := .cells #[.slice none 0 0, .int .i64 0] 24 (0, 0)) (by exact BK745.out) hb); have n1_ := Aside0.mk (below_step qh2 hb); clear BK745; clear HB; have BK745 := n0_; have HB := n1_; clear n0_ n1_; (try clear hb); (try clear hb2); (try clear hk); (try clear hi)) | ((with_reducible refine gate_callee (f := 46) rfl ?_); refine goesL_ (some 4) rfl rfl Try.func46 (by kernel_rfl) rfl #[.int .i64 400, .int .i64 1900, .int .i64 2100] rfl qh3 ?_; (with_reducible refine (forecourtlaw01_Row.calls 400 1900 2100 t755 t756 t757 _ A4.out).mono ?_); rintro e w9 ⟨rfl, hb⟩; refine ⟨_, rfl, ?_⟩; have n0_ := Aside0.mk (blk_below (g := gb745) (o := .cells #[.slice none 0 0, .int .i64 0] 24 (0, 0)) (by exact BK745.out) hb); have n1_ := Aside0.mk (below_step qh2 hb); clear BK745; clear HB; have BK745 := n0_; have HB := n1_; clear n0_ n1_; (try clear hb); (try clear hb2); (try clear hk); (try clear hi)) | ((with_reducible refine gate_dst (N := 5) rfl ?_); refine Kd.R_lit k70 _ 70 ?hg (N := 5) ?hd (xs := ([(⟨t746, (⟨t747, t748⟩ : S43)⟩ : S70), (⟨t749, (⟨t750, t751⟩ : S43)⟩ : S70), (⟨t752, (⟨t753, t754⟩ : S43)⟩ : S70), (⟨t755, (⟨t756, t757⟩ : S43)⟩ : S70)] : List (S70))) (inner := [.int .i64 t746, .int .i64 t747, .int .i64 t748, .int .i64 t749, .int .i64 t750, .int .i64 t751, .int .i64 t752, .int .i64 t753, .int .i64 t754, .int .i64 t755, .int .i64 t756, .int .i64 t757]) (ok := fun _ => True) (okp := fun _ => True) ?hr ?hp (fun _ hk => hk) trivial (Below.refl _ _) (Nat.le_refl _) (by simp) ?_; (case hd => rfl); (case hg => rfl); (case hr => first | (go_simp; done) | (go_simp; rfl)); (case hp => exact (Reps.c3 (show Kd.M k70 _ _ _ (⟨t746, (⟨t747, t748⟩ : S43)⟩ : S70) [.int .i64 t746, .int .i64 t747, .int .i64 t748] from (k70_mkM _ _ _ (⟨t746, (⟨t747, t748⟩ : S43)⟩ : S70) )) (Reps.c3 (show Kd.M k70 _ _ _ (⟨t749, (⟨t750, t751⟩ : S43)⟩ : S70) [.int .i64 t749, .int .i64 t750, .int .i64 t751] from (k70_mkM _ _ _ (⟨t749, (⟨t750, t751⟩ : S43)⟩ : S70) )) (Reps.c3 (show Kd.M k70 _ _ _ (⟨t752, (⟨t753, t754⟩ : S43)⟩ : S70) [.int .i64 t752, .int .i64 t753, .int .i64 t754] from (k70_mkM _ _ _ (⟨t752, (⟨t753, t754⟩ : S43)⟩ : S70) )) (Reps.c3 (show Kd.M k70 _ _ _ (⟨t755, (⟨t756, t757⟩ : S43)⟩ : S70) [.int .i64 t755, .int .i64 t756, .int .i64 t757] from (k70_mkM _ _ _ (⟨t755, (⟨t756, t757⟩ : S43)⟩ : S70) )) (Reps.none _ _)))))); intro v759 w10 ho11 hb hg_ hnew_; clear hg_ hnew_; (first | rw [← Ny758.out] at ho11 | (simp only [Int.reduceToNat] at ho11; rw [← Ny758.out] at ho11)); have n0_ := Aside0.mk (Kd.R_lower ho11 (below_size qh2)); have n1_ := Aside0.mk (blk_below (g := gb745) (o := .cells #[.slice none 0 0, .int .i64 0] 24 (0, 0)) (by exact BK745.out) hb); have n2_ := Aside0.mk (below_step qh2 hb); clear BK745; clear HB; have HO760 := n0_; have BK745 := n1_; have HB := n2_; clear n0_ n1_ n2_; clear hb ho11; obtain ⟨Ao12, co12, eo12⟩ := Kd.R_slice HO760.out; subst eo12; have hcz13_0 : w10.cell? ⟨gb745, 0, none⟩ = some (.slice none 0 0) := (blk_cell BK745.out 0).trans rfl; have hcz13_1 : w10.cell? ⟨gb745, 1, none⟩ = some (.int .i64 0) := (blk_cell BK745.out 1).trans rfl; have hfz13_0 := blk_frozen BK745.out 0; have hfz13_1 := blk_frozen BK745.out 1))
 refine bodyPost_ret (results_cell_row rfl _ _ gb745 24 #[.slice Ao12 y758.length co12, .int .i64 0] (0, 0) _ rfl (by (skip); refine blk_put (cs := #[.slice Ao12 y758.length co12, .int .i64 0]) ?_ 1 _ rfl; (skip); refine blk_put (cs := #[.slice none 0 0, .int .i64 0]) ?_ 0 _ rfl; (skip); exact BK745.out) Try.underlying24 rfl (by kernel_rfl)) rfl ?_
 exact ⟨_, by first | rfl | (simp [errW_none, errW_some] <;> rfl) | (simp [*, errW_none, errW_some] <;> rfl), by (skip); exact Kd.R_mono (Kd.R_far (p := ⟨gb745, 1, none⟩) (Kd.R_far (p := ⟨gb745, 0, none⟩) (Kd.R_types HO760.out BK745.out (by decide)) (fun _ hk => hk.2) (.slice Ao12 y758.length co12)) (fun _ hk => hk.2) (.int .i64 0)) (fun _ hk => trivial), by (with_reducible refine below_set ?_ GE745.out; with_reducible refine below_set ?_ GE745.out; with_reducible exact HB.out)⟩
end Go.Proofs.Ytpkajhmchcbbhaa.P
end
