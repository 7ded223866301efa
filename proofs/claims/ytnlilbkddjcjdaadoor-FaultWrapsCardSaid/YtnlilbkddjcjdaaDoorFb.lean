/-
  fault.Check.
-/
import Derived.Test.YtnlilbkddjcjdaaDoorFa
namespace Go.Proofs.YtnlilbkddjcjdaaDoor.Fa
open Go.RowKit Go.Proofs.YtnlilbkddjcjdaaDoorW.PrintWords Go.Proofs.YtnlilbkddjcjdaaDoor.PFaultWraps

theorem bcell {W w1 : World} (hb : Below W.heap.size W w1) : (∀ b o, b < W.heap.size → w1.cell? ⟨b, o, none⟩ = W.cell? ⟨b, o, none⟩) ∧ (∀ b o, b < W.heap.size → w1.frozen? ⟨b, o, none⟩ = W.frozen? ⟨b, o, none⟩) :=
  ⟨fun b o h => hb.cell (p := ⟨b, o, none⟩) h, fun b o h => hb.frozen (p := ⟨b, o, none⟩) h⟩

/-- A block of whole numbers reads as these. -/
theorem C_int_block {w : World} {b : Nat} {kk : IntKind} {t : TypeId} {fr : Nat × Nat} (xs : List Int) (hb : w.heap[b]? = some (.cells (nums kk xs).toArray t fr)) (hl : xs.length ≤ 9223372036854775807) :
    Kd.C (Kd.int kk) w (some ⟨b, 0, none⟩) xs.length xs := by
  refine ⟨rfl, hl, fun _ => ⟨_, rfl, fun j p hj => ⟨[.int kk p], rfl, rfl, fun i u hu => ?_⟩⟩⟩
  have hi : i = 0 := by
    have := (List.getElem?_eq_some_iff.1 hu).1
    simp at this
    omega
  subst hi
  simp at hu
  subst hu
  rw [Nat.add_zero, show (Kd.int kk).sz = 1 from rfl, Nat.mul_one, add_plain, cell_of_row w b j _ t fr hb]
  simp [nums, hj]

/-- All errors. -/
def known : List Int := [2, 4, 6, 8, 9, 10, 50, 110, 180, 230, 250, 260, 261]
def isKnown (c : Int) : Bool := decide (c = 2 ∨ c = 4 ∨ c = 6 ∨ c = 8 ∨ c = 9 ∨ c = 10 ∨ c = 50 ∨ c = 110 ∨ c = 180 ∨ c = 230 ∨ c = 250 ∨ c = 260 ∨ c = 261)
/-- May a fault be? -/
def mayF (c : Int) (l : List S27) : Bool := isKnown c && decide (l.length ≤ 8) && l.all okM

/-- Check's answer. -/
def chkF (c : Int) (l : List S27) : Int := if mayF c l then 0 else 8

theorem idx_f (xs : List Int) (c : Int) (hl : xs.length ≤ 1000000000) (d : Nat) : ∀ (k i : Nat), i + d = xs.length → d < k →
    ∃ r, api_Errno_67.l0 k xs c (xs.length : Int) (i : Int) = some r ∧ (0 ≤ r ↔ c ∈ xs.drop i) := by
  induction d with
  | zero =>
    intro k i hi hk
    obtain ⟨k, rfl⟩ : ∃ m, k = m + 1 := ⟨k - 1, by omega⟩
    refine ⟨-1, ?_, ?_⟩
    · simp only [api_Errno_67.l0]; rw [if_neg (by omega)]
    · rw [List.drop_of_length_le (by omega)]; simp
  | succ d ih =>
    intro k i hi hk
    obtain ⟨k, rfl⟩ : ∃ m, k = m + 1 := ⟨k - 1, by omega⟩
    have hlt : i < xs.length := by omega
    have hrd : rd xs (i : Int) = xs[i] := by simp [rd, List.getD_eq_getElem?_getD, List.getElem?_eq_getElem hlt]
    have hw : wrap64 ((i : Int) + 1) = ((i + 1 : Nat) : Int) := by unfold wrap64; omega
    by_cases hc : c = xs[i]
    · refine ⟨i, ?_, ?_⟩
      · simp only [api_Errno_67.l0]; rw [if_pos (by omega), if_pos (by omega), if_pos (by omega), hrd, if_pos hc]
      · rw [List.drop_eq_getElem_cons hlt, ← hc]; simp
    · obtain ⟨r, hr, hm⟩ := ih k (i + 1) (by omega) (by omega)
      refine ⟨r, ?_, ?_⟩
      · simp only [api_Errno_67.l0]; rw [if_pos (by omega), if_pos (by omega), if_pos (by omega), hrd, if_neg hc, hw]; exact hr
      · rw [hm, List.drop_eq_getElem_cons hlt, List.mem_cons]
        exact ⟨.inr, fun h => h.resolve_left hc⟩

theorem known_f (c : Int) : api_Errno_36.f 14 known c = some (isKnown c) := by
  obtain ⟨r, hr, hm⟩ := idx_f known c (by decide) 13 14 0 rfl (by decide)
  unfold api_Errno_36.f api_Errno_67.f
  rw [show ((0 : Nat) : Int) = 0 from rfl] at hr
  rw [hr]
  simp only [Option.bind_some]
  congr 1
  unfold isKnown
  rw [decide_eq_decide, ge_iff_le, hm]
  simp [known]

theorem idxBad_all (l : List S27) : decide (0 ≤ idxBad l) = !l.all okM := by
  unfold idxBad
  cases h : l.findIdx? (fun x => !okM x) with
  | none =>
    rw [List.findIdx?_eq_none_iff] at h
    have : l.all okM = true := by
      rw [List.all_eq_true]
      intro x hx
      simpa using h x hx
    rw [this]; rfl
  | some i =>
    rw [List.findIdx?_eq_some_iff_getElem] at h
    obtain ⟨hi, hx, _⟩ := h
    have : l.all okM = false := by
      rw [List.all_eq_false]
      exact ⟨l[i], List.getElem_mem hi, by simpa using hx⟩
    rw [this]
    simp

set_option maxHeartbeats 400000 in
set_option maxRecDepth 100000 in
theorem c13 (c : Int) (A : Option Addr) (k : Nat) (l : List S27) (w : World) (hr : Kd.C k27 w A l.length l) (hk : l.length ≤ k) (hm : l.length ≤ 1000000000) :
    Calls Tryd.prog 13 #[.agg #[.int .i64 c, .slice A l.length k]] w fun e w' => e = .returned (.int .i64 (chkF c l)) ∧ Below w.heap.size w w' := by
  have HR := Lib.hid hr
  have HM := Lib.hid hm
  have HK := Lib.hid hk
  clear hr hm hk
  go_enter Tryd.func13, Tryd.ntmps13
  go_wp2_with fail
  refine (c34 A k l _ (Kd.C_below HR.out (below_alloc (below_alloc (Below.refl _ _) _) _)) HM.out).mono ?_
  rintro e w1 ⟨rfl, hb⟩
  have hz : w.heap.size + 2 ≤ w1.heap.size := by have := hb.size; simp at this; omega
  have HB := Lib.hid hb
  obtain ⟨hc, hf⟩ := bcell hb
  clear hb
  go_wp2_with fail
  have hkb : w1.heap[w.heap.size + 1]? = some (.cells (nums .i64 known).toArray 22 (0, 0)) := by
    rw [HB.out.block _ (by simp)]
    exact heap_alloc2_new _ _ _
  refine (api_Errno_36.calls 14 _ 13 known c _ _ (C_int_block known hkb (by decide)) (by decide) (known_f c)).mono ?_
  rintro e w2 ⟨rfl, ⟨n, rfl⟩⟩
  have hbad : decide (0 ≤ idxBad l) = !l.all okM := idxBad_all l
  have HBAD := Lib.hid hbad
  have hfin : Below w.heap.size w (w1.drewN n) := pw_below_drewN (below_then (below_alloc (below_alloc (Below.refl _ _) _) _) (by simp; omega) HB.out) n
  have HF := Lib.hid hfin
  clear hfin hbad hkb HR
  rw [HBAD.out]
  have HMAY : Hid (chkF c l = if (isKnown c && decide (l.length ≤ 8) && l.all okM) then 0 else 8) := rfl
  cases h1 : isKnown c
  · go_wp2_with fail
    go_ret
    exact ⟨by rw [HMAY.out, h1]; rfl, HF.out⟩
  · by_cases h2 : l.length ≤ 8
    · have hd : decide ((8 : Int) < (l.length : Int)) = false := by simp; omega
      cases h3 : l.all okM
      · go_wp2_with fail
        go_ret
        exact ⟨by rw [HMAY.out, h1, h3]; simp, HF.out⟩
      · go_wp2_with fail
        go_ret
        exact ⟨by rw [HMAY.out, h1, h3]; simp [h2], HF.out⟩
    · have hd : decide ((8 : Int) < (l.length : Int)) = true := by simp; omega
      go_wp2_with fail
      go_ret
      exact ⟨by rw [HMAY.out, h1]; simp [h2], HF.out⟩
end Go.Proofs.YtnlilbkddjcjdaaDoor.Fa
