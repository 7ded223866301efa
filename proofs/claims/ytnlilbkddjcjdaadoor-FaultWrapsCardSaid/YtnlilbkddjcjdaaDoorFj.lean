/-
  fault.Open.
-/
import Derived.Test.YtnlilbkddjcjdaaDoorFi
namespace Go.Proofs.YtnlilbkddjcjdaaDoor.Fa
open Go.RowKit Go.Proofs.YtnlilbkddjcjdaaDoorW.PrintWords Go.Proofs.YtnlilbkddjcjdaaDoor.PFaultWraps

theorem c33 (c : Int) (A : Option Addr) (cap : Nat) (l : List S27) (w : World) (hr : Kd.C k27 w A l.length l) (hm : l.length ≤ 1000000000) :
    Calls Tryd.prog 33 #[.agg #[.int .i64 c, .slice A l.length cap]] w (PostC w c l) := by
  refine (callsIn_wide (n := 3)).1 ?_
  exact c33_in _ 3 trivial trivial trivial rfl (by omega) c A cap l w hr hm

theorem EType.below {w w' : World} (h : EType w) (hb : Below w.heap.size w w') : EType w' := keep_cell hb h

theorem R_set_low {α : Type} {d : Kd α} {e : Nat} {w : World} {base : Nat} {v : Value} {xs : List α} (h : d.R e w base (fun _ => True) v xs) (p : Addr) (hp : p.block < base) (u : Value) : d.R e (w.setCell p u) base (fun _ => True) v xs :=
  Kd.R_mono (Kd.R_far (p := p) (Kd.R_bound h) (fun k hk => by have := hk.2.1; omega) u) (fun _ _ => trivial)

/-- Open's answer. -/
def openF (c : Int) (l : List S27) : (Int × List S27) × S27 × Int :=
  if mayF c l then (match l with | [] => ((0, []), ⟨0, 0⟩, 6) | m :: r => ((c, r), m, 0)) else ((0, []), ⟨0, 0⟩, 8)

/-- What Open leaves. -/
def PostO (w : World) (r : (Int × List S27) × S27 × Int) (e : Ending) (w' : World) : Prop :=
  ∃ v : Value, e = .returned (.tuple #[.agg #[.int .i64 r.1.1, v], .agg #[.int .i64 r.2.1.f0, .int .i64 r.2.1.f1], .int .i64 r.2.2]) ∧ Kd.R k27 27 w' w.heap.size (fun _ => True) v r.1.2 ∧ Below w.heap.size w w'

set_option maxHeartbeats 1000000 in
set_option maxRecDepth 100000 in
theorem c10 (c : Int) (A : Option Addr) (k : Nat) (l : List S27) (w : World) (he : EType w) (hr : Kd.C k27 w A l.length l) (hk : l.length ≤ k) (hm : l.length ≤ 1000000000) :
    Calls Tryd.prog 10 #[.agg #[.int .i64 c, .slice A l.length k]] w (PostO w (openF c l)) := by
  have HE := Lib.hid he
  have HR := Lib.hid hr
  have HM := Lib.hid hm
  have HK := Lib.hid hk
  clear hr hm hk he
  go_enter Tryd.func10, Tryd.ntmps10
  go_wp2_with fail
  refine (c13 c A k l _ (Kd.C_below HR.out (by repeat (with_reducible first | exact Below.refl _ _ | apply below_alloc))) HK.out HM.out).mono ?_
  rintro e w1 ⟨rfl, hb⟩
  have HB := Lib.hid hb
  have HZ := Lib.hid (show w.heap.size + 3 ≤ w1.heap.size by have := hb.size; simp at this; omega)
  have hz := HZ.out
  obtain ⟨hc, hf⟩ := bcell hb
  clear hb
  have HCH : Hid (chkF c l = if mayF c l then 0 else 8) := rfl
  cases hmay : mayF c l
  · have e0 : chkF c l = 8 := by rw [HCH.out, hmay]; rfl
    have HW := Lib.hid (show openF c l = ((0, []), ⟨0, 0⟩, 8) by unfold openF; rw [hmay]; rfl)
    rw [e0]
    clear HCH hmay e0
    have k0 : w1.cell? ⟨w.heap.size + 1, 0, none⟩ = some (.int .i64 0) := by simp [go_sem, hc]
    have k1 : w1.cell? ⟨w.heap.size + 1, 1, none⟩ = some (.slice none 0 0) := by simp [go_sem, hc]
    have k2 : w1.cell? ⟨w.heap.size + 1 + 1, 0, none⟩ = some (.int .i64 0) := by simp [go_sem, hc]
    have k3 : w1.cell? ⟨w.heap.size + 1 + 1, 1, none⟩ = some (.int .i64 0) := by simp [go_sem, hc]
    have f0 : w1.frozen? ⟨w.heap.size + 1, 0, none⟩ = false := by simp [go_sem, hf]
    have f1 : w1.frozen? ⟨w.heap.size + 1, 1, none⟩ = false := by simp [go_sem, hf]
    have f2 : w1.frozen? ⟨w.heap.size + 1 + 1, 0, none⟩ = false := by simp [go_sem, hf]
    have f3 : w1.frozen? ⟨w.heap.size + 1 + 1, 1, none⟩ = false := by simp [go_sem, hf]
    have hB3 := Lib.hid (below_then (below_alloc (below_alloc (below_alloc (Below.refl w.heap.size w) _) _) _) (by simp; omega) HB.out)
    clear hc hf
    go_wp2_with fail
    go_region_held3 (fun w' => w'.cell? ⟨w.heap.size + 1, 0, none⟩ = some (.int .i64 0) ∧ w'.cell? ⟨w.heap.size + 1, 1, none⟩ = some (.slice none 0 0) ∧ w'.cell? ⟨w.heap.size + 1 + 1, 0, none⟩ = some (.int .i64 0) ∧ w'.cell? ⟨w.heap.size + 1 + 1, 1, none⟩ = some (.int .i64 0)) (simp [go_sem, *]) (fail)
    all_goals go_wp2_with fail
    all_goals (refine bodyPost_ret (v := .tuple #[.agg #[.int .i64 0, .slice none 0 0], .agg #[.int .i64 0, .int .i64 0], .int .i64 8]) (by simp [results, Tryd.results10, go_sem, *]) rfl ?_)
    all_goals (refine ⟨_, by rw [HW.out], by rw [HW.out]; exact Kd.R_nil _ _ _ _ _, ?_⟩; repeat (with_reducible first | exact hB3.out | apply below_drew | (refine Below.setCell ?_ (by dsimp only; omega) _)))
  · have hl8 : l.length ≤ 100 := by have := hmay; unfold mayF at this; simp at this; omega
    have e0 : chkF c l = 0 := by rw [HCH.out, hmay]; rfl
    rw [e0]
    clear HCH e0
    have HB3 := Lib.hid (below_then (below_alloc (below_alloc (below_alloc (Below.refl w.heap.size w) _) _) _) (by simp; omega) HB.out)
    have j0 : w1.cell? ⟨w.heap.size, 0, none⟩ = some (.int .i64 c) := by simp [go_sem, hc]
    have j1 : w1.cell? ⟨w.heap.size, 1, none⟩ = some (.slice A l.length k) := by simp [go_sem, hc]
    have K4 := Lib.hid (show (w1.cell? ⟨w.heap.size + 1, 0, none⟩ = some (.int .i64 0) ∧ w1.cell? ⟨w.heap.size + 1, 1, none⟩ = some (.slice none 0 0) ∧ w1.cell? ⟨w.heap.size + 1 + 1, 0, none⟩ = some (.int .i64 0) ∧ w1.cell? ⟨w.heap.size + 1 + 1, 1, none⟩ = some (.int .i64 0)) ∧ w1.frozen? ⟨w.heap.size + 1, 0, none⟩ = false ∧ w1.frozen? ⟨w.heap.size + 1, 1, none⟩ = false ∧ w1.frozen? ⟨w.heap.size + 1 + 1, 0, none⟩ = false ∧ w1.frozen? ⟨w.heap.size + 1 + 1, 1, none⟩ = false by simp [go_sem, hc, hf])
    have HL := Lib.hid hl8
    clear hl8 hc hf
    have lt0 : w.heap.size < w1.heap.size := by omega
    have lt1 : w.heap.size + 1 < w1.heap.size := by omega
    have lt2 : w.heap.size + 1 + 1 < w1.heap.size := by omega
    cases l with
    | nil =>
      have HW := Lib.hid (show openF c [] = ((0, []), ⟨0, 0⟩, 6) by unfold openF; rw [hmay]; rfl)
      clear hmay
      go_wp2_with (go_at_call 33; refine (c33 c A k [] _ (Kd.C_below HR.out (below_alloc HB3.out _)) (by simp)).mono ?_; rintro e w2 ⟨hb2, v2, rfl, hv2⟩; obtain rfl : v2 = .iface 135 (.agg #[.int .i64 c]) := hv2)
      refine (as_miss c _ _ (HE.out.below (below_then (below_alloc HB3.out _) (by have := HB3.out.size; simp; omega) hb2)) (by have := hb2.size; simp at this ⊢; omega)).mono ?_
      rintro e w3 ⟨rfl, hb3⟩
      have HB13 := Lib.hid (below_two (below_two (below_alloc (Below.refl _ w1) _) hb2) hb3)
      have HB03 := Lib.hid (HB3.out.trans (HB13.out.mono (by omega)))
      clear hb2 hb3 HB
      obtain ⟨hc, hf⟩ := bcell HB13.out
      have k0 : w3.cell? ⟨w.heap.size + 1, 0, none⟩ = some (.int .i64 0) := by simp [hc, lt1, K4.out]
      have k1 : w3.cell? ⟨w.heap.size + 1, 1, none⟩ = some (.slice none 0 0) := by simp [hc, lt1, K4.out]
      have k2 : w3.cell? ⟨w.heap.size + 1 + 1, 0, none⟩ = some (.int .i64 0) := by simp [hc, lt2, K4.out]
      have k3 : w3.cell? ⟨w.heap.size + 1 + 1, 1, none⟩ = some (.int .i64 0) := by simp [hc, lt2, K4.out]
      have f0 : w3.frozen? ⟨w.heap.size + 1, 0, none⟩ = false := by simp [hf, lt1, K4.out]
      have f1 : w3.frozen? ⟨w.heap.size + 1, 1, none⟩ = false := by simp [hf, lt1, K4.out]
      have f2 : w3.frozen? ⟨w.heap.size + 1 + 1, 0, none⟩ = false := by simp [hf, lt2, K4.out]
      have f3 : w3.frozen? ⟨w.heap.size + 1 + 1, 1, none⟩ = false := by simp [hf, lt2, K4.out]
      clear hc hf j0 j1 lt0 lt1 lt2
      go_wp2_with fail
      go_region_held3 (fun w' => w'.cell? ⟨w.heap.size + 1, 0, none⟩ = some (.int .i64 0) ∧ w'.cell? ⟨w.heap.size + 1, 1, none⟩ = some (.slice none 0 0) ∧ w'.cell? ⟨w.heap.size + 1 + 1, 0, none⟩ = some (.int .i64 0) ∧ w'.cell? ⟨w.heap.size + 1 + 1, 1, none⟩ = some (.int .i64 0)) (simp [go_sem, *]) (fail)
      all_goals go_wp2_with fail
      all_goals (refine bodyPost_ret (v := .tuple #[.agg #[.int .i64 0, .slice none 0 0], .agg #[.int .i64 0, .int .i64 0], .int .i64 6]) (by simp [results, Tryd.results10, go_sem, *]) rfl ?_)
      all_goals (refine ⟨_, by rw [HW.out], by rw [HW.out]; exact Kd.R_nil _ _ _ _ _, ?_⟩; repeat (with_reducible first | exact HB03.out | apply below_drew | (refine Below.setCell ?_ (by dsimp only; omega) _)))
    | cons m r =>
      have HW := Lib.hid (show openF c (m :: r) = ((c, r), m, 0) by unfold openF; rw [hmay]; rfl)
      clear hmay
      go_wp2_with fail
      refine (c33 c A k (m :: r) _ (Kd.C_below HR.out (below_alloc HB3.out _)) HM.out).mono ?_
      rintro e w2 ⟨hb2, v2, rfl, b, hb, rfl, m0, m1⟩
      simp only [World.size_alloc] at hb
      have ht0 : w2.cell? ⟨w1.heap.size, 0, none⟩ = some (.pointer none) := by rw [(bcell hb2).1 _ _ (by simp)]; simp
      have hf0 : w2.frozen? ⟨w1.heap.size, 0, none⟩ = false := by rw [(bcell hb2).2 _ _ (by simp)]; simp
      have HE2 := Lib.hid (HE.out.below (below_then (below_alloc HB3.out _) (by have := HB3.out.size; simp; omega) hb2))
      have HT := Lib.hid ht0
      have HF := Lib.hid hf0
      clear ht0 hf0
      go_wp2_with fail
      refine (as_hit _ _ _ _ HE2.out HT.out HF.out).mono ?_
      rintro e w4 ⟨rfl, w3, rfl, hb3⟩
      have HB13 := Lib.hid (below_two (below_two (below_alloc (Below.refl _ w1) _) hb2) hb3)
      have HB03 := Lib.hid (HB3.out.trans (HB13.out.mono (by omega)))
      have m0' := keep_cell hb3 m0
      have m1' := keep_cell hb3 m1
      have ht3 := keep_cell hb3 HT.out
      have hf3 : w3.frozen? ⟨w1.heap.size, 0, none⟩ = false := by rw [(bcell hb3).2 _ _ (World.block_lt_of_cell? w2 _ HT.out)]; exact HF.out
      clear m0 m1 hb2 hb3 HB HT HF
      obtain ⟨hc, hf⟩ := bcell HB13.out
      have k0 : w3.cell? ⟨w.heap.size + 1, 0, none⟩ = some (.int .i64 0) := by simp [hc, lt1, K4.out]
      have k1 : w3.cell? ⟨w.heap.size + 1, 1, none⟩ = some (.slice none 0 0) := by simp [hc, lt1, K4.out]
      have k2 : w3.cell? ⟨w.heap.size + 1 + 1, 0, none⟩ = some (.int .i64 0) := by simp [hc, lt2, K4.out]
      have k3 : w3.cell? ⟨w.heap.size + 1 + 1, 1, none⟩ = some (.int .i64 0) := by simp [hc, lt2, K4.out]
      have f0 : w3.frozen? ⟨w.heap.size + 1, 0, none⟩ = false := by simp [hf, lt1, K4.out]
      have f1 : w3.frozen? ⟨w.heap.size + 1, 1, none⟩ = false := by simp [hf, lt1, K4.out]
      have f2 : w3.frozen? ⟨w.heap.size + 1 + 1, 0, none⟩ = false := by simp [hf, lt2, K4.out]
      have f3 : w3.frozen? ⟨w.heap.size + 1 + 1, 1, none⟩ = false := by simp [hf, lt2, K4.out]
      have i0 : w3.cell? ⟨w.heap.size, 0, none⟩ = some (.int .i64 c) := by simp [hc, lt0, j0]
      have i1 : w3.cell? ⟨w.heap.size, 1, none⟩ = some (.slice A (m :: r).length k) := by rw [hc _ _ lt0]; exact j1
      clear hc hf j0 j1
      go_wp2_with fail
      have HD := Lib.hid (Kd.C_drop (k := k27) (m := 1) (Kd.C_below HR.out HB03.out) (by simp) HK.out)
      have ht4 : (w3.setCell ⟨w1.heap.size, 0, none⟩ (.pointer (some ⟨b, 0, none⟩))).cell? ⟨w1.heap.size, 0, none⟩ = some (.pointer (some ⟨b, 0, none⟩)) := World.cell?_setCell_same' _ _ _ (by rw [ht3]; rfl)
      have hne : ∀ q : Addr, q.block ≠ w1.heap.size → (w3.setCell ⟨w1.heap.size, 0, none⟩ (.pointer (some ⟨b, 0, none⟩))).cell? q = w3.cell? q := fun q hq => World.cell?_setCell_other _ _ _ _ (fun e => hq (by rw [← e]))
      have hlk : r.length + 1 ≤ k := HK.out
      have m0 : (w3.setCell ⟨w1.heap.size, 0, none⟩ (.pointer (some ⟨b, 0, none⟩))).cell? ⟨b, 0, none⟩ = some (.int .i64 m.f0) := by rw [hne _ (by dsimp only; omega)]; exact m0'
      have m1 : (w3.setCell ⟨w1.heap.size, 0, none⟩ (.pointer (some ⟨b, 0, none⟩))).cell? ⟨b, 1, none⟩ = some (.int .i64 m.f1) := by rw [hne _ (by dsimp only; omega)]; exact m1'
      have n0 : (w3.setCell ⟨w1.heap.size, 0, none⟩ (.pointer (some ⟨b, 0, none⟩))).cell? ⟨w.heap.size, 0, none⟩ = some (.int .i64 c) := by rw [hne _ (by dsimp only; omega)]; exact i0
      have n1 : (w3.setCell ⟨w1.heap.size, 0, none⟩ (.pointer (some ⟨b, 0, none⟩))).cell? ⟨w.heap.size, 1, none⟩ = some (.slice A (r.length + 1) k) := by rw [hne _ (by dsimp only; omega)]; exact i1
      have s0 : (w3.setCell ⟨w1.heap.size, 0, none⟩ (.pointer (some ⟨b, 0, none⟩))).cell? ⟨w.heap.size + 1, 0, none⟩ = some (.int .i64 0) := by rw [hne _ (by dsimp only; omega)]; exact k0
      have s1 : (w3.setCell ⟨w1.heap.size, 0, none⟩ (.pointer (some ⟨b, 0, none⟩))).cell? ⟨w.heap.size + 1, 1, none⟩ = some (.slice none 0 0) := by rw [hne _ (by dsimp only; omega)]; exact k1
      have s2 : (w3.setCell ⟨w1.heap.size, 0, none⟩ (.pointer (some ⟨b, 0, none⟩))).cell? ⟨w.heap.size + 1 + 1, 0, none⟩ = some (.int .i64 0) := by rw [hne _ (by dsimp only; omega)]; exact k2
      have s3 : (w3.setCell ⟨w1.heap.size, 0, none⟩ (.pointer (some ⟨b, 0, none⟩))).cell? ⟨w.heap.size + 1 + 1, 1, none⟩ = some (.int .i64 0) := by rw [hne _ (by dsimp only; omega)]; exact k3
      have g0 : (w3.setCell ⟨w1.heap.size, 0, none⟩ (.pointer (some ⟨b, 0, none⟩))).frozen? ⟨w.heap.size + 1, 0, none⟩ = false := by rw [World.frozen?_setCell]; exact f0
      have g1 : (w3.setCell ⟨w1.heap.size, 0, none⟩ (.pointer (some ⟨b, 0, none⟩))).frozen? ⟨w.heap.size + 1, 1, none⟩ = false := by rw [World.frozen?_setCell]; exact f1
      have g2 : (w3.setCell ⟨w1.heap.size, 0, none⟩ (.pointer (some ⟨b, 0, none⟩))).frozen? ⟨w.heap.size + 1 + 1, 0, none⟩ = false := by rw [World.frozen?_setCell]; exact f2
      have g3 : (w3.setCell ⟨w1.heap.size, 0, none⟩ (.pointer (some ⟨b, 0, none⟩))).frozen? ⟨w.heap.size + 1 + 1, 1, none⟩ = false := by rw [World.frozen?_setCell]; exact f3
      have HB4 := Lib.hid (show Below w.heap.size w (w3.setCell ⟨w1.heap.size, 0, none⟩ (.pointer (some ⟨b, 0, none⟩))) from HB03.out.setCell (by dsimp only; omega) _)
      have HD4 := Lib.hid (show Kd.C k27 (w3.setCell ⟨w1.heap.size, 0, none⟩ (.pointer (some ⟨b, 0, none⟩))) (if k = 1 then A else A.map (·.add (1 * 2))) r.length r from Kd.C_drop (k := k27) (m := 1) (Kd.C_below HR.out HB4.out) (by simp) HK.out)
      have l0 : w.heap.size < (w3.setCell ⟨w1.heap.size, 0, none⟩ (.pointer (some ⟨b, 0, none⟩))).heap.size := by simp; have := HB13.out.size; omega
      have l1 : w.heap.size + 1 < (w3.setCell ⟨w1.heap.size, 0, none⟩ (.pointer (some ⟨b, 0, none⟩))).heap.size := by simp; have := HB13.out.size; omega
      have l2 : w.heap.size + 1 + 1 < (w3.setCell ⟨w1.heap.size, 0, none⟩ (.pointer (some ⟨b, 0, none⟩))).heap.size := by simp; have := HB13.out.size; omega
      have l3 : w1.heap.size < (w3.setCell ⟨w1.heap.size, 0, none⟩ (.pointer (some ⟨b, 0, none⟩))).heap.size := World.block_lt_of_cell? _ _ ht4
      have l4 : b < (w3.setCell ⟨w1.heap.size, 0, none⟩ (.pointer (some ⟨b, 0, none⟩))).heap.size := World.block_lt_of_cell? _ _ m0
      obtain ⟨w4, hw4⟩ : ∃ w4, w3.setCell ⟨w1.heap.size, 0, none⟩ (.pointer (some ⟨b, 0, none⟩)) = w4 := ⟨_, rfl⟩
      rw [hw4] at ht4 m0 m1 n0 n1 s0 s1 s2 s3 g0 g1 g2 g3 HB4 HD4 l0 l1 l2 l3 l4 ⊢
      obtain ⟨B, hBe, hBC⟩ : ∃ B, (if k = 1 then A else Option.map (fun x : Addr => { block := x.block, off := x.off + 2, spot := none }) A) = B ∧ Kd.C k27 w4 B r.length r := ⟨_, rfl, HD4.out⟩
      have HBC := Lib.hid hBC
      clear hBC HD4
      have q1 : ¬ (w.heap.size + 1 = w1.heap.size) := by omega
      have q2 : ¬ (w1.heap.size = w.heap.size + 1) := by omega
      have q3 : ¬ (w.heap.size + 1 + 1 = w1.heap.size) := by omega
      have q4 : ¬ (w1.heap.size = w.heap.size + 1 + 1) := by omega
      have q5 : ¬ (w.heap.size + 1 = b) := by omega
      have q6 : ¬ (b = w.heap.size + 1) := by omega
      have q7 : ¬ (w.heap.size + 1 + 1 = b) := by omega
      have q8 : ¬ (b = w.heap.size + 1 + 1) := by omega
      clear hw4 ht3 hf3 hne m0' m1' i0 i1 k0 k1 k2 k3 f0 f1 f2 f3 HD HB03 HB13 lt0 lt1 lt2 hz
      obtain ⟨n, hn⟩ : ∃ n, n = r.length + 1 := ⟨_, rfl⟩
      have hn1 : n - 1 = r.length := by omega
      have hs2 : (1 : Int) ≤ (n : Int) := by omega
      have hs3 : 1 ≤ n := by omega
      rw [← hn] at n1
      clear hn
      have HL9 := Lib.hid (show r.length ≤ 1000000000 by have := HM.out; simp at this; omega)
      go_region_held3 (fun w' => w'.cell? ⟨w1.heap.size, 0, none⟩ = some (.pointer (some ⟨b, 0, none⟩)) ∧ w'.cell? ⟨b, 0, none⟩ = some (.int .i64 m.f0) ∧ w'.cell? ⟨b, 1, none⟩ = some (.int .i64 m.f1) ∧ w'.cell? ⟨w.heap.size, 0, none⟩ = some (.int .i64 c) ∧ w'.cell? ⟨w.heap.size, 1, none⟩ = some (.slice A n k)) (simp [go_sem, *]) (first | (go_at_call 29; go_must (refine (c29 B (k - 1) r _ (Kd.C_below HBC.out (by repeat (with_reducible first | exact Below.refl _ _ | apply below_alloc | apply below_drew))) HL9.out).mono ?_; rintro e w5 ⟨v5, rfl, ho5, hb5⟩; have HB45 := Lib.hid (below_two (W := w4) (by repeat (with_reducible first | exact Below.refl _ _ | apply below_alloc | apply below_drew)) hb5); obtain ⟨A5, c5, rfl⟩ := Kd.R_slice ho5; have HO5 := Lib.hid (Kd.R_lower (base' := w4.heap.size) ho5 (by simp)); clear ho5 hb5; obtain ⟨hc5, hf5⟩ := bcell HB45.out)))
      all_goals go_wp2_with fail
      all_goals (refine bodyPost_ret (v := .tuple #[.agg #[.int .i64 c, .slice A5 r.length c5], .agg #[.int .i64 m.f0, .int .i64 m.f1], .int .i64 0]) (by simp [results, Tryd.results10, go_sem, *]) rfl ?_)
      all_goals (refine ⟨_, by rw [HW.out], ?_, ?_⟩)
      · rw [HW.out]
        exact Kd.R_lower (R_set_low (R_set_low (R_set_low (R_set_low HO5.out _ l1 _) _ l1 _) _ l2 _) _ l2 _) (Nat.le_of_lt l0)
      · have hbel : Below w.heap.size w w5 := HB4.out.trans (HB45.out.mono (by omega))
        repeat (with_reducible first | exact hbel | apply below_drew | (refine Below.setCell ?_ (by dsimp only; omega) _))
end Go.Proofs.YtnlilbkddjcjdaaDoor.Fa
