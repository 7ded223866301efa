/-
  fault.Wrap.
-/
import Derived.Test.YtnlilbkddjcjdaaDoorFd
import Derived.Deep.RegionHeld3
namespace Go.Proofs.YtnlilbkddjcjdaaDoor.Fa
open Go.RowKit Go.Proofs.YtnlilbkddjcjdaaDoorW.PrintWords Go.Proofs.YtnlilbkddjcjdaaDoor.PFaultWraps

/-- Wrap's answer. -/
def wrapF (c : Int) (l : List S27) (m : S27) : Int × List S27 × Int :=
  if mayF c l && okM m then (if l.length = 8 then (0, [], 4) else (c, m :: l, 0)) else (0, [], 8)

/-- What a call that answers a fault and an error leaves. -/
def PostW (w : World) (r : Int × List S27 × Int) (e : Ending) (w' : World) : Prop :=
  ∃ v : Value, e = .returned (.tuple #[.agg #[.int .i64 r.1, v], .int .i64 r.2.2]) ∧ Kd.R k27 27 w' w.heap.size (fun _ => True) v r.2.1 ∧ Below w.heap.size w w'

theorem R_store2 {α : Type} {d : Kd α} {e : Nat} {w : World} {base : Nat} {v : Value} {xs : List α} (h : d.R e w base (fun _ => True) v xs) {g : Nat} {t : TypeId} {cells : Array Value} (hb : w.heap[g]? = some (.cells cells t (0, 0))) (ht : ∀ q, q ∈ e :: d.E → q ≠ t) (i j : Nat) (u u' : Value) :
    d.R e ((w.setCell ⟨g, i, none⟩ u).setCell ⟨g, j, none⟩ u') base (fun _ => True) v xs :=
  Kd.R_mono (Kd.R_far (p := ⟨g, j, none⟩) (Kd.R_far (p := ⟨g, i, none⟩) (Kd.R_types h hb ht) (fun _ hk => hk.2) u) (fun _ hk => hk.2) u') (fun _ _ => trivial)

theorem heap_at {W : World} {n : Nat} (o : Obj) (h : n = W.heap.size) : (W.alloc o).heap[n]? = some o := by
  subst h; exact heap_alloc_new W o

theorem keep_cell {W w3 : World} (hb : Below W.heap.size W w3) {p : Addr} {v : Value} (h : W.cell? p = some v) : w3.cell? p = some v := (hb.cell (World.block_lt_of_cell? W p h)).trans h

theorem below_two {W w1 w2 : World} (h : Below W.heap.size W w1) (k : Below w1.heap.size w1 w2) : Below W.heap.size W w2 := below_then h h.size k

set_option maxHeartbeats 1000000 in
set_option maxRecDepth 100000 in
theorem c8 (c : Int) (A : Option Addr) (k : Nat) (l : List S27) (m : S27) (w : World) (hr : Kd.C k27 w A l.length l) (hk : l.length ≤ k) (hm : l.length ≤ 1000000000) :
    Calls Tryd.prog 8 #[.agg #[.int .i64 c, .slice A l.length k], .agg #[.int .i64 m.f0, .int .i64 m.f1]] w (PostW w (wrapF c l m)) := by
  have HR := Lib.hid hr
  have HM := Lib.hid hm
  have HK := Lib.hid hk
  clear hr hm hk
  go_enter Tryd.func8, Tryd.ntmps8
  go_wp2_with fail
  refine (c13 c A k l _ (Kd.C_below HR.out (by repeat (first | exact Below.refl _ _ | apply below_alloc))) HK.out HM.out).mono ?_
  rintro e w1 ⟨rfl, hb⟩
  have HB := Lib.hid hb
  have HZ := Lib.hid (show w.heap.size + 3 ≤ w1.heap.size by have := hb.size; simp at this; omega)
  have hz := HZ.out
  obtain ⟨hc, hf⟩ := bcell hb
  clear hb
  have HCH : Hid (chkF c l = if mayF c l then 0 else 8) := rfl
  cases hmay : mayF c l
  · have e0 : chkF c l = 8 := by rw [HCH.out, hmay]; rfl
    have HW := Lib.hid (show wrapF c l m = (0, [], 8) by unfold wrapF; rw [hmay]; rfl)
    rw [e0]
    clear HCH hmay e0
    go_wp2_with fail
    refine bodyPost_ret (v := .tuple #[.agg #[.int .i64 0, .slice none 0 0], .int .i64 8]) (by simp [results, Tryd.results8, go_sem, hc]) rfl ?_
    have hB3 := below_then (below_alloc (below_alloc (below_alloc (Below.refl w.heap.size w) _) _) _) (by simp; omega) HB.out
    exact ⟨_, by rw [HW.out], by rw [HW.out]; exact Kd.R_nil _ _ _ _ _, (hB3.setCell (by simp; omega) _).setCell (by simp; omega) _⟩
  · have hl8 : l.length ≤ 100 := by have := hmay; unfold mayF at this; simp at this; omega
    have e0 : chkF c l = 0 := by rw [HCH.out, hmay]; rfl
    rw [e0]
    clear HCH e0
    go_wp2_with fail
    refine (fault_mark.calls _ _ _ _ (mark_f m)).mono ?_
    rintro e w2 ⟨rfl, hb⟩
    have HB2 := Lib.hid (below_then HB.out HB.out.size hb)
    have hz2 : w.heap.size + 3 ≤ w2.heap.size := by have := hb.size; omega
    clear hb hc hf HB hz HZ
    obtain ⟨hc, hf⟩ := bcell HB2.out
    cases hok : okM m
    · have HW := Lib.hid (show wrapF c l m = (0, [], 8) by unfold wrapF; rw [hmay, hok]; rfl)
      clear hmay hok
      go_wp2_with fail
      refine bodyPost_ret (v := .tuple #[.agg #[.int .i64 0, .slice none 0 0], .int .i64 8]) (by simp [results, Tryd.results8, go_sem, hc]) rfl ?_
      have hB3 := below_then (below_alloc (below_alloc (below_alloc (Below.refl w.heap.size w) _) _) _) (by simp; omega) HB2.out
      exact ⟨_, by rw [HW.out], by rw [HW.out]; exact Kd.R_nil _ _ _ _ _, (hB3.setCell (by simp; omega) _).setCell (by simp; omega) _⟩
    · by_cases h8 : l.length = 8
      · have HW := Lib.hid (show wrapF c l m = (0, [], 4) by unfold wrapF; rw [hmay, hok]; simp [h8])
        have h8b : ((l.length : Int) == 8) = true := by simp [h8]
        clear hmay hok h8
        go_wp2_with fail
        refine bodyPost_ret (v := .tuple #[.agg #[.int .i64 0, .slice none 0 0], .int .i64 4]) (by simp [results, Tryd.results8, go_sem, hc]) rfl ?_
        have hB3 := below_then (below_alloc (below_alloc (below_alloc (Below.refl w.heap.size w) _) _) _) (by simp; omega) HB2.out
        exact ⟨_, by rw [HW.out], by rw [HW.out]; exact Kd.R_nil _ _ _ _ _, (hB3.setCell (by simp; omega) _).setCell (by simp; omega) _⟩
      · have HW := Lib.hid (show wrapF c l m = (c, m :: l, 0) by unfold wrapF; rw [hmay, hok]; simp [h8])
        have h8b : ((l.length : Int) == 8) = false := by simp; omega
        clear hmay hok h8
        go_wp2_with fail
        have HBW := Lib.hid (show Below w.heap.size w w2 from below_then (below_alloc (below_alloc (below_alloc (Below.refl w.heap.size w) _) _) _) (by simp; omega) HB2.out)
        have k0 : w2.cell? ⟨w.heap.size, 0, none⟩ = some (.int .i64 c) := by simp [go_sem, hc]
        have k1 : w2.cell? ⟨w.heap.size, 1, none⟩ = some (.slice A l.length k) := by simp [go_sem, hc]
        have k2 : w2.cell? ⟨w.heap.size + 1, 0, none⟩ = some (.int .i64 m.f0) := by simp [go_sem, hc]
        have k3 : w2.cell? ⟨w.heap.size + 1, 1, none⟩ = some (.int .i64 m.f1) := by simp [go_sem, hc]
        have K4 := Lib.hid (show w2.cell? ⟨w.heap.size + 1 + 1, 0, none⟩ = some (.int .i64 0) ∧ w2.cell? ⟨w.heap.size + 1 + 1, 1, none⟩ = some (.slice none 0 0) ∧ w2.frozen? ⟨w.heap.size + 1 + 1, 0, none⟩ = false ∧ w2.frozen? ⟨w.heap.size + 1 + 1, 1, none⟩ = false by simp [go_sem, hc, hf])
        clear hc hf h8b
        have HL := Lib.hid hl8
        clear hl8
        have k4 : w2.cell? ⟨w.heap.size + 1 + 1, 0, none⟩ = some (.int .i64 0) := K4.out.1
        have k5 : w2.cell? ⟨w.heap.size + 1 + 1, 1, none⟩ = some (.slice none 0 0) := K4.out.2.1
        have k6 : w2.frozen? ⟨w.heap.size + 1 + 1, 0, none⟩ = false := K4.out.2.2.1
        have k7 : w2.frozen? ⟨w.heap.size + 1 + 1, 1, none⟩ = false := K4.out.2.2.2
        have lt0 : w.heap.size < w2.heap.size := by omega
        have lt1 : w.heap.size + 1 < w2.heap.size := by omega
        have lt2 : w.heap.size + 1 + 1 < w2.heap.size := by omega
        go_region_held3 (fun w' => w'.cell? ⟨w.heap.size, 0, none⟩ = some (.int .i64 c) ∧ w'.cell? ⟨w.heap.size, 1, none⟩ = some (.slice A l.length k) ∧ w'.cell? ⟨w.heap.size + 1, 0, none⟩ = some (.int .i64 m.f0) ∧ w'.cell? ⟨w.heap.size + 1, 1, none⟩ = some (.int .i64 m.f1)) (simp [go_sem, *]) (first | (go_at_call 29; go_must (refine (c29 A k l _ (Kd.C_below HR.out (by repeat (with_reducible first | exact HBW.out | apply below_alloc | apply below_drew))) HM.out).mono ?_; rintro e w3 ⟨v3, rfl, ho3, hb3⟩; have HB23 := Lib.hid (below_two (W := w2) (by repeat (with_reducible first | exact Below.refl _ _ | apply below_alloc | apply below_drew)) hb3); obtain ⟨in3, own3⟩ := Kd.R_own ho3; have HV3 := Lib.hid (fun kk e => Nat.le_trans (by simp) (own_base own3 kk e) : ∀ kk, v3.ownBlock = some kk → w2.heap.size ≤ kk); have HO3 := Lib.hid (Kd.R_lower (base' := w.heap.size) ho3 (by simp; omega)); have HB3 := Lib.hid hb3; have OWN3 := Lib.hid own3; clear ho3 hb3 own3; have lt0' := Nat.lt_of_lt_of_le lt0 HB23.out.size; have lt1' := Nat.lt_of_lt_of_le lt1 HB23.out.size; have lt2' := Nat.lt_of_lt_of_le lt2 HB23.out.size; obtain ⟨hc3, hf3⟩ := bcell HB23.out)) | (go_at_call 28; go_must ((with_reducible refine (c28 w.heap.size v3 l m _ _ ?_ ?_ ?_ ?_ HL.out).mono ?_); (· first | (with_reducible exact HO3.out) | exact Kd.R_below HO3.out (below_alloc (Below.refl _ _) _)); (· first | (with_reducible exact heap_alloc_new _ _) | exact (HB3.out.block _ (by simp)).trans (heap_alloc_new _ _)); (· first | exact fun e => absurd (own_lt OWN3.out _ e) (Nat.lt_irrefl _) | exact fun e => absurd (own_base OWN3.out _ e) (by simp)); (· first | exact Nat.le_of_lt lt0' | (simp; omega)); rintro e w4 ⟨v4, rfl, ho4, hg4⟩; obtain ⟨A4, c4, rfl⟩ := Kd.R_slice ho4; have HB24 := Lib.hid (Below.grown (a := w2) (B := w2.heap.size) (by repeat (with_reducible first | exact HB23.out | apply below_alloc)) hg4 (by have hs_ := HB23.out.size; simp; omega) HV3.out); have HO4 := Lib.hid ho4; clear ho4 hg4; clear hc3 hf3 lt0' lt1' lt2'; have lt0' := Nat.lt_of_lt_of_le lt0 HB24.out.size; have lt1' := Nat.lt_of_lt_of_le lt1 HB24.out.size; have lt2' := Nat.lt_of_lt_of_le lt2 HB24.out.size; obtain ⟨hc3, hf3⟩ := bcell HB24.out)))
        all_goals go_wp2_with fail
        all_goals (refine bodyPost_ret (v := .tuple #[.agg #[.int .i64 c, .slice A4 (m :: l).length c4], .int .i64 0]) (by simp [results, Tryd.results8, go_sem, *]) rfl ?_)
        all_goals (
          have hblk : w4.heap[w.heap.size + 1 + 1]? = some (.cells #[.int .i64 0, .slice none 0 0] 25 (0, 0)) := (HB24.out.block _ lt2).trans ((HB2.out.block _ (by simp)).trans (heap_at _ (by simp)))
          have hbel : Below w.heap.size w w4 := HBW.out.trans (HB24.out.mono (by omega))
          exact ⟨_, by rw [HW.out], by rw [HW.out]; exact R_store2 HO4.out hblk (by decide) _ _ _ _, (hbel.setCell (by simp; omega) _).setCell (by simp; omega) _⟩)
end Go.Proofs.YtnlilbkddjcjdaaDoor.Fa
