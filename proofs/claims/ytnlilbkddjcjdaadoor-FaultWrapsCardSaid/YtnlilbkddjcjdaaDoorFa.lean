/-
  Contracts of the small functions that fault.Check calls.
-/
import Derived.Test.YtnlilbkddjcjdaaDoorFwC
import Derived.WalkKit
import Derived.WalkSpells
import Derived.Lib.Hide
namespace Go.Proofs.YtnlilbkddjcjdaaDoor.Fa
open Go.RowKit Go.Proofs.YtnlilbkddjcjdaaDoorW.PrintWords Go.Proofs.YtnlilbkddjcjdaaDoor.PFaultWraps

/-- May a mark be? -/
def okM (x : S27) : Bool := decide (0 ≤ x.f0 ∧ x.f0 ≤ 1048576 ∧ 0 ≤ x.f1 ∧ x.f1 ≤ 1048576)

theorem mark_f (x : S27) : fault_mark.f x.f0 x.f1 = some (okM x) := by
  unfold fault_mark.f okM mn mx
  repeat' split
  all_goals (congr 1; first | (rw [decide_eq_decide]; omega) | (rw [eq_comm, decide_eq_false_iff_not]; omega))

theorem refmark_f (x : S27) : thimblerigref06_mark.f x.f0 x.f1 = some (okM x) := by
  unfold thimblerigref06_mark.f okM
  repeat' split
  all_goals (congr 1; first | (rw [decide_eq_decide]; omega) | (rw [eq_comm, decide_eq_false_iff_not]; omega))

set_option maxHeartbeats 400000 in
/-- fault.Check's own closure: is a mark none that may be? -/
theorem c35 (x : S27) (w : World) :
    Calls Tryd.prog 35 #[.agg #[.int .i64 x.f0, .int .i64 x.f1]] w fun e w' => e = .returned (.bool (!okM x)) ∧ Below w.heap.size w w' := by
  go_enter Tryd.func35, Tryd.ntmps35
  go_wp2_with fail
  refine (fault_mark.calls _ _ _ _ (mark_f x)).mono ?_
  rintro e w' ⟨rfl, hb⟩
  go_wp2_with fail
  go_ret
  exact ⟨rfl, below_then (below_alloc (Below.refl _ _) _) (by simp) hb⟩

theorem rd_nat (l : List S27) {k : Nat} (h : k < l.length) : rd_T27 l (k : Int) = l[k] := by
  unfold rd_T27
  simp [List.getD_eq_getElem?_getD, List.getElem?_eq_getElem h]

/-- The first mark from place i on that may not be, or -1. -/
def idxBad (l : List S27) : Int := match l.findIdx? (fun x => !okM x) with | some i => i | none => -1

theorem idxBad_at (l : List S27) (k : Nat) (hk : k < l.length) (h : okM (l[k]) = false) (hp : ∀ j (hj : j < k), okM (l[j]'(by omega)) = true) : idxBad l = k := by
  unfold idxBad
  have : l.findIdx? (fun x => !okM x) = some k := by
    rw [List.findIdx?_eq_some_iff_getElem]
    exact ⟨hk, by simpa using h, fun j hj => by simpa using hp j hj⟩
  rw [this]
theorem idxBad_none (l : List S27) (hp : ∀ j (hj : j < l.length), okM (l[j]) = true) : idxBad l = -1 := by
  unfold idxBad
  have : l.findIdx? (fun x => !okM x) = none := by
    rw [List.findIdx?_eq_none_iff]
    intro x hx
    obtain ⟨j, hj, rfl⟩ := List.getElem_of_mem hx
    simpa using hp j hj
  rw [this]

set_option maxHeartbeats 400000 in
set_option maxRecDepth 100000 in
/-- slices.IndexFunc with fault.Check's closure. -/
theorem c66 (A : Option Addr) (c : Nat) (l : List S27) (w : World) (hr : Kd.C k27 w A l.length l) (hm : l.length ≤ 1000000000) :
    Calls Tryd.prog 66 #[.slice A l.length c, .func (.func 35) #[] #[]] w fun e w' => e = .returned (.int .i64 (idxBad l)) ∧ Below w.heap.size w w' := by
  have HR := Lib.hid hr
  clear hr
  go_enter Tryd.func66, Tryd.ntmps66
  go_wp2_with fail
  go_loopw [5, 8] (fun _ i wr => ∃ k : Nat, k ≤ l.length ∧ i = .int .i64 k ∧ (Hid (∀ j (hj : j < k) (h : j < l.length), okM (l[j]'h) = true)) ∧ Below w.heap.size w wr) (fun _ i _ => l.length - (intOf i).toNat)
  case atStart => exact ⟨0, Nat.zero_le _, rfl, fun j hj => absurd hj (Nat.not_lt_zero _), Below.refl _ _⟩
  case round =>
    obtain ⟨k, hk, rfl, hp, hb⟩ := hrel
    by_cases hlt : k < l.length
    · obtain ⟨ad, rfl, hc0, hc1⟩ := at_T27 (Kd.C_below HR.out hb) k (by omega) (by omega)
      have hk1 : k ≤ 9223372036854775806 := by omega
      have HD := Lib.hid (rd_nat l hlt)
      clear hm
      simp only [Int.toNat_natCast] at hc0 hc1
      go_wp2_with fail
      refine (c35 _ _).mono ?_
      rintro e w' ⟨rfl, hb2⟩
      have hb' := below_then hb hb.size hb2
      rw [HD.out]
      clear hc0 hc1 hb hb2
      cases ho : okM (l[k])
      · have HI := Lib.hid (idxBad_at l k hlt ho (fun j hj => hp.out j hj _))
        clear ho hp
        go_wp2_with fail
        go_ret
        exact ⟨by rw [HI.out]; rfl, hb'⟩
      · have HP : Hid (∀ j (hj : j < k + 1) (h : j < l.length), okM (l[j]'h) = true) := by
          intro j hj h
          by_cases e : j = k
          · subst e; exact ho
          · exact hp.out j (by omega) h
        clear ho hp
        go_wp2_with fail
        go_roundw
        case rel => exact ⟨k + 1, hlt, by go_num, HP, hb'⟩
        case measure => simp [intOf]; omega
    · obtain rfl : k = l.length := by omega
      have HI := Lib.hid (idxBad_none l (fun j hj => hp.out j hj hj))
      clear hp hm hk hlt
      go_wp2_with fail
      go_ret
      exact ⟨by rw [HI.out]; rfl, hb⟩

set_option maxHeartbeats 400000 in
/-- slices.ContainsFunc with fault.Check's closure. -/
theorem c34 (A : Option Addr) (c : Nat) (l : List S27) (w : World) (hr : Kd.C k27 w A l.length l) (hm : l.length ≤ 1000000000) :
    Calls Tryd.prog 34 #[.slice A l.length c, .func (.func 35) #[] #[]] w fun e w' => e = .returned (.bool (decide (0 ≤ idxBad l))) ∧ Below w.heap.size w w' := by
  have HR := Lib.hid hr
  have HM := Lib.hid hm
  clear hr hm
  go_enter Tryd.func34, Tryd.ntmps34
  go_wp2_with fail
  refine (c66 A c l _ HR.out HM.out).mono ?_
  rintro e w' ⟨rfl, hb⟩
  go_wp2_with fail
  go_ret
  exact ⟨by simp, hb⟩
end Go.Proofs.YtnlilbkddjcjdaaDoor.Fa
