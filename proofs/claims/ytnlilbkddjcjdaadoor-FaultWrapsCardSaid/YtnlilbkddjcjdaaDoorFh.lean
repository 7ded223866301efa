/-
  slices.Backward over marks: the iterator's contract.
-/
import Derived.Test.YtnlilbkddjcjdaaDoorFg
import Derived.RangeFuncNested
import Derived.RangeFuncBound
import Derived.RangeFuncCalls
import Derived.RangeFuncLeaves
import Derived.Shelf.Abstract
import Derived.Shelf.RegionOpen
import Derived.WalkKit
import Derived.OwnWalkIn
import Derived.TacticsInMore
import Derived.LoopNIn
import Derived.LoopIn
namespace Go.Proofs.YtnlilbkddjcjdaaDoor.Fa
open Go.RowKit Go.Shelf Go.Proofs.YtnlilbkddjcjdaaDoorW.PrintWords Go.Proofs.YtnlilbkddjcjdaaDoor.PFaultWraps

attribute [local go_sem] Oper.semAt_some

/-- What has come when k rounds are over. -/
def bwd (l : List S27) (k : Nat) : List (Nat × S27) := (List.range k).map fun j => (l.length - 1 - j, (l[l.length - 1 - j]?).getD z27)
theorem bwd_succ (l : List S27) (k : Nat) : bwd l (k + 1) = bwd l k ++ [(l.length - 1 - k, (l[l.length - 1 - k]?).getD z27)] := by simp [bwd, List.range_succ]
theorem bwd_length (l : List S27) (k : Nat) : (bwd l k).length = k := by simp [bwd]

/-- What a round keeps: what lies below n₀, and the variable s of Backward. -/
def KpB (n₀ Bs : Nat) (W W' : World) : Prop := Below n₀ W W' ∧ ∀ v, W.cell? ⟨Bs, 0, none⟩ = some v → W'.cell? ⟨Bs, 0, none⟩ = some v
theorem KpB.refl (n₀ Bs : Nat) (W : World) : KpB n₀ Bs W W := ⟨Below.refl _ _, fun _ h => h⟩
theorem KpB.trans {n₀ Bs : Nat} {A B C : World} (h : KpB n₀ Bs A B) (k : KpB n₀ Bs B C) : KpB n₀ Bs A C := ⟨h.1.trans k.1, fun v e => k.2 v (h.2 v e)⟩
theorem KpB.box {n₀ Bs : Nat} {w : World} (hn : n₀ ≤ w.heap.size) (hB : Bs < w.heap.size) (W : World) (l : Nat) (o o' : Obj) (hl : w.heap.size ≤ l) (h : W.heap[l]? = some o) (hc : o.isCells = false) (hw : o.isWalk = false) : KpB n₀ Bs W (W.putObj l o') :=
  ⟨belowK_b hn W l o o' hl h hc hw, fun _ e => ((belowK_b (Nat.le_refl _) W l o o' hl h hc hw).cell (p := ⟨Bs, 0, none⟩) hB).trans e⟩

set_option maxRecDepth 100000 in
set_option maxHeartbeats 1000000 in
theorem c65 (F : Fence) (n : Nat) (h65 : F.fn 65) (hro : F.round = none) (A : Option Addr) (len cap : Nat) (w : World) :
    CallsIn F n Tryd.prog 65 #[.slice A len cap] w fun e w' => e = .returned (.func (.func 98) #[] #[.pointer (some ⟨w.heap.size, 0, none⟩)]) ∧ w' = w.alloc (.cells #[.slice A len cap] 23) := by
  refine callsIn_of_wp Tryd.func65 rfl h65 ?_ hro
  simp only [Tryd.ntmps65, List.size_toArray, List.length_cons, List.length_nil, Nat.reduceAdd, Nat.reduceSub, Array.replicate_succ, Array.replicate_zero, List.push_toArray, List.append_toArray, List.nil_append, List.cons_append]
  gi_wp2
  go_ret
  exact ⟨rfl, rfl⟩

set_option maxRecDepth 100000 in
set_option maxHeartbeats 2000000 in
theorem c98 (F : Fence) (n : Nat) (h98 : F.fn 98) (hro : F.round = none) (hn : 1 ≤ n) (l Bs : Nat) (w0 : World) (A : Option Addr) (cap : Nat) (ms : List S27) (hr : Kd.C k27 w0 A ms.length ms) (hm : ms.length ≤ 1000000000) (J Jx : List (Nat × S27) → World → Prop)
    (hY : ∀ pre x W, J pre W → pre.length < ms.length → YieldAt F (n - 1) Tryd.prog l #[.int .i64 (x.1 : Int), .agg #[.int .i64 x.2.f0, .int .i64 x.2.f1]] W fun e W' =>
      (e = .returned (.bool true) ∧ J (pre ++ [x]) W' ∧ KpB w0.heap.size Bs W W') ∨ (e = .returned (.bool false) ∧ Jx (pre ++ [x]) W'))
    (W : World) (hW : Below w0.heap.size w0 W) (hBs : W.cell? ⟨Bs, 0, none⟩ = some (.slice A ms.length cap)) (h0 : J [] W) :
    CallsIn F n Tryd.prog 98 #[.func (.yield l) #[] #[], .pointer (some ⟨Bs, 0, none⟩)] W fun e W' => (∃ v, e = .returned v) ∧
      ((∃ ys, ys = bwd ms ms.length ∧ J ys W') ∨ (∃ pre, True ∧ Jx pre W')) := by
  have HR := Lib.hid hr
  have HM := Lib.hid hm
  have HW := Lib.hid hW
  clear hr hm hW
  refine callsIn_of_wp Tryd.func98 rfl h98 ?_ hro
  simp only [Tryd.ntmps98, List.size_toArray, List.length_cons, List.length_nil, Nat.reduceAdd, Nat.reduceSub, Array.replicate_succ, Array.replicate_zero, List.push_toArray, List.append_toArray, List.nil_append, List.cons_append]
  have hw1 : IntKind.i64.wrap ((ms.length : Int) - 1) = (ms.length : Int) - 1 := by have := HM.out; rw [IntKind.wrap_i64]; omega
  gi_wp2
  gi_loopw [3] (fun i wr => ∃ k : Nat, k ≤ ms.length ∧ i = .int .i64 ((ms.length : Int) - 1 - k) ∧ J (bwd ms k) wr ∧ KpB w0.heap.size Bs W wr)
    (fun i _ => ((intOf i) + 1).toNat)
  case atStart => exact ⟨0, Nat.zero_le _, by simp, h0, KpB.refl _ _ _⟩
  case round =>
    obtain ⟨k, hk, rfl, hJs, hnx⟩ := hrel
    have hbx := hnx.2 _ hBs
    by_cases hlt : k < ms.length
    · obtain ⟨i, hi⟩ : ∃ i, i = ms.length - 1 - k := ⟨_, rfl⟩
      have hii : ((ms.length : Int) - 1 - k) = (i : Int) := by omega
      rw [hii]
      have hil : i < ms.length := by omega
      obtain ⟨ad, rfl, hc0, hc1⟩ := at_T27 (Kd.C_below HR.out (HW.out.trans hnx.1)) i (by omega) (by have := HM.out; omega)
      have hi1 : i ≤ 9223372036854775806 := by have := HM.out; omega
      have HD := Lib.hid (show rd_T27 ms (i : Int) = (ms[i]?).getD z27 by rw [rd_nat ms hil]; simp [hil])
      obtain ⟨fn, tmps, assign, body, hy, hR⟩ := hY _ (i, rd_T27 ms (i : Int)) wr hJs (by rw [bwd_length]; exact hlt)
      dsimp only at hy
      simp only [Int.toNat_natCast] at hc0 hc1
      have hw2 : IntKind.i64.wrap ((i : Int) - 1) = (i : Int) - 1 := by rw [IntKind.wrap_i64]; omega
      have hge : (0 : Int) ≤ (i : Int) := by omega
      have HI := Lib.hid hi
      have HII := Lib.hid hii
      clear hi hii
      gi_wp2
      refine hR.mono ?_
      rintro e W3 (⟨rfl, hJ3, hk3⟩ | ⟨rfl, hJx3⟩)
      · -- THE ROUND GOES ON
        gi_wp2
        go_roundw
        case rel => exact ⟨k + 1, by omega, by rw [show ((ms.length : Int) - 1 - ((k + 1 : Nat) : Int)) = (i : Int) - 1 by have := HII.out; omega], by rw [bwd_succ, ← HI.out, ← HD.out]; exact hJ3, hnx.trans hk3⟩
        case measure => simp [intOf]
      · gi_wp2
        refine bodyPost_ret (results_none rfl _ _ _) rfl ?_
        exact ⟨⟨_, rfl⟩, .inr ⟨_, trivial, hJx3⟩⟩
    · obtain rfl : k = ms.length := by omega
      have hii : ((ms.length : Int) - 1 - (ms.length : Nat)) = -1 := by omega
      rw [hii]
      gi_wp2
      go_end0
      exact ⟨⟨_, rfl⟩, .inl ⟨_, rfl, hJs⟩⟩

theorem c98_stops (F : Fence) (n : Nat) (h98 : F.fn 98) (hro : F.round = none) (hn : 1 ≤ n) (Bs : Nat) (w0 : World) (A : Option Addr) (cap : Nat) (ms : List S27) (hr : Kd.C k27 w0 A ms.length ms) (hm : ms.length ≤ 1000000000)
    (w : World) (hb : Below w0.heap.size w0 w) (hl : Bs < w.heap.size) (hBs : w.cell? ⟨Bs, 0, none⟩ = some (.slice A ms.length cap)) :
    SeqStopsK F n Tryd.prog 98 #[.pointer (some ⟨Bs, 0, none⟩)] (fun x : Nat × S27 => #[Value.int .i64 (x.1 : Int), .agg #[.int .i64 x.2.f0, .int .i64 x.2.f1]]) (KpB w0.heap.size Bs) (fun ys => ys = bwd ms ms.length) (fun _ => True) ms.length w := fun l J Jx W hW _ _ hY h0 =>
  c98 F n h98 hro hn l Bs w0 A cap ms hr hm J Jx hY W (below_then hb hb.size hW) ((hW.cell (p := ⟨Bs, 0, none⟩) hl).trans hBs) h0
end Go.Proofs.YtnlilbkddjcjdaaDoor.Fa
