/-
  slices.Clone and slices.Insert over marks.
-/
import Derived.Test.YtnlilbkddjcjdaaDoorFb
namespace Go.Proofs.YtnlilbkddjcjdaaDoor.Fa
open Go.RowKit Go.Proofs.YtnlilbkddjcjdaaDoorW.PrintWords Go.Proofs.YtnlilbkddjcjdaaDoor.PFaultWraps

theorem C_none {α : Type} {d : Kd α} {w : World} {n : Nat} {xs : List α} (h : d.C w none n xs) : xs = [] := by
  rcases Nat.eq_zero_or_pos n with h0 | h0
  · exact List.eq_nil_of_length_eq_zero (h.1.trans h0)
  · obtain ⟨ad, e, _⟩ := h.2.2 h0
    cases e

theorem k27_KM {w W : World} {base : Nat} {ok : Nat → Prop} {x : S27} {cs : List Value} (h : k27.K w x cs) : k27.M W base ok x cs := by
  obtain rfl := k27_open h
  exact k27_mkM W base ok x

theorem R_empty {α : Type} (d : Kd α) (e : Nat) (W : World) (base : Nat) (hb : base ≤ W.heap.size) :
    d.R e (W.alloc (.cells #[] e)) base (fun _ => True) (.slice (some ⟨W.heap.size, 0, none⟩) 0 0) [] :=
  ⟨fun _ _ => trivial, OwnRow.lit (ps := []) (inner := []) W base (Reps.none _ _) hb (Nat.zero_le _)⟩

set_option maxHeartbeats 400000 in
set_option maxRecDepth 100000 in
theorem c29 (A : Option Addr) (c : Nat) (l : List S27) (w : World) (hr : Kd.C k27 w A l.length l) (hm : l.length ≤ 1000000000) :
    Calls Tryd.prog 29 #[.slice A l.length c] w fun e w' => ∃ v : Value, e = .returned v ∧ Kd.R k27 27 w' w.heap.size (fun _ => True) v l ∧ Below w.heap.size w w' := by
  have HR := Lib.hid hr
  have HM := Lib.hid hm
  clear hr hm
  rcases A with _ | ad
  · obtain rfl := C_none HR.out
    have heq := fun (W : World) => Lib.run_eql_slice_nil (P := Tryd.prog) W 23 27 none 0 c 0 0 Tryd.underlying23
    simp only [List.length_nil] at *
    go_enter Tryd.func29, Tryd.ntmps29
    go_wp2_with fail
    go_ret
    exact ⟨_, rfl, Kd.R_nil _ _ _ _ _, Below.refl _ _⟩
  · have heq := fun (W : World) => Lib.run_eql_slice_nil (P := Tryd.prog) W 23 27 (some ad) l.length c 0 0 Tryd.underlying23
    go_enter Tryd.func29, Tryd.ntmps29
    go_wp2_with (at_builtin; refine Kd.R_append_rows k27 (Rr := k27.K w) (w0 := w) w.heap.size (by rfl) (.tmp 5) (.tmp 6) 23 27 _ 16 (by rfl) Tryd.underlying23 info27 (by rfl) (by decide) (by decide) _ [] l (some ad) l.length c (fun _ => True) (fun _ => False) (by rfl) (by rfl) ?h1 ?h2 (fun _ _ h => k27_KM h) (fun _ h => h.elim) (fun _ _ => trivial) (below_alloc (Below.refl _ _) _) (by simp) ?h3 ?_)
    case h1 => exact R_empty k27 27 w _ (Nat.le_refl _)
    case h2 => exact Kd.C_below HR.out (below_alloc (Below.refl _ _) _)
    case h3 => have := HM.out; simp; omega
    rintro v1 w1 ho hb hg hat
    have HO := Lib.hid ho
    have HB := Lib.hid hb
    clear ho hb hg hat
    go_wp2_with fail
    go_ret
    exact ⟨_, rfl, HO.out, HB.out⟩
end Go.Proofs.YtnlilbkddjcjdaaDoor.Fa
