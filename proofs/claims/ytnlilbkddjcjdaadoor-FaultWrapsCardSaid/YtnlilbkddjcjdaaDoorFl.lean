/-
  The law FaultWraps: the walk.
-/
import Derived.Test.YtnlilbkddjcjdaaDoorFk
namespace Go.Proofs.YtnlilbkddjcjdaaDoor.Fa
open Go.RowKit Go.Proofs.YtnlilbkddjcjdaaDoorW.PrintWords Go.Proofs.YtnlilbkddjcjdaaDoor.PFaultWraps

theorem C_of_R {w : World} {base : Nat} {A : Option Addr} {n c : Nat} {l : List S27} (h : Kd.R k27 27 w base (fun _ => True) (.slice A n c) l) : n = l.length ∧ n ≤ c ∧ Kd.C k27 w A l.length l := by
  obtain ⟨A', c', he, h1, h2⟩ := Kd.R_reads h
  cases he
  exact ⟨rfl, h1, h2⟩

set_option maxHeartbeats 1000000 in
set_option maxRecDepth 100000 in
theorem c3_long (c : Int) (A : Option Addr) (k : Nat) (l : List S27) (m : S27) (w : World) (h : 20 < l.length) :
    Calls Tryd.prog 3 #[.agg #[.int .i64 c, .slice A l.length k], .agg #[.int .i64 m.f0, .int .i64 m.f1]] w fun e w' => e = .returned (.bool true) ∧ Below w.heap.size w w' := by
  have h' : (20 : Int) < (l.length : Int) := by omega
  clear h
  go_enter Tryd.func3, Tryd.ntmps3
  go_wp2_with fail
  go_ret
  exact ⟨rfl, below_alloc (below_alloc (Below.refl _ _) _) _⟩

/-- What the two loops of the law leave: blocks that hold no marks lie as they lay; blocks of marks keep their shape. -/
def Tn (B W : World) : Prop :=
  (∀ (k : Nat) cur t fr, t ≠ 27 → B.heap[k]? = some (.cells cur t fr) → W.heap[k]? = some (.cells cur t fr)) ∧
  (∀ (k : Nat) cur fr, B.heap[k]? = some (.cells cur 27 fr) → ∃ cur', W.heap[k]? = some (.cells cur' 27 fr) ∧ cur'.size = cur.size)
theorem Tn.refl (B : World) : Tn B B := ⟨fun _ _ _ _ _ h => h, fun _ cur _ h => ⟨cur, h, rfl⟩⟩
theorem Tn.set {B W : World} (h : Tn B W) {g : Nat} {cur : Array Value} {fr : Nat × Nat} (hg : B.heap[g]? = some (.cells cur 27 fr)) (o : Nat) (v : Value) : Tn B (W.setCell ⟨g, o, none⟩ v) := by
  refine ⟨fun k c t f ht hk => ?_, fun k c f hk => ?_⟩
  · have hne : k ≠ g := by
      rintro rfl
      rw [hg] at hk
      cases hk
      exact ht rfl
    exact (Below.heap_setCell W ⟨g, o, none⟩ v k hne).trans (h.1 k c t f ht hk)
  · obtain ⟨c', h1, h2⟩ := h.2 k c f hk
    by_cases hne : k = g
    · subst hne
      refine ⟨c'.set! o v, ?_, ?_⟩
      · simp [World.setCell, Array.getElem?_modify, h1]
      · simpa using h2
    · exact ⟨c', (Below.heap_setCell W ⟨g, o, none⟩ v k hne).trans h1, h2⟩
/-- A row of marks that a call has made, as the loop that writes it needs it. -/
theorem row_open {w6 w10 : World} {base : Nat} {A : Option Addr} {cp : Nat} {l : List S27} (h : Kd.R k27 27 w6 base (fun _ => True) (.slice A l.length cp) l) (hb : Below w6.heap.size w6 w10) (hp : 0 < l.length) :
    ∃ g cur, A = some ⟨g, 0, none⟩ ∧ base ≤ g ∧ w10.heap[g]? = some (.cells cur 27 (0, 0)) ∧ l.length * 2 ≤ cur.size := by
  obtain ⟨g, cap, cur, h1, h2, h3, h4, h5, h6, h7⟩ := R27_open h hp
  cases h1
  refine ⟨g, cur, rfl, h2, (hb.block g (Array.getElem?_eq_some_iff.1 h3).1).trans h3, by omega⟩
theorem cell_of_block {W : World} {g : Nat} {cur : Array Value} {t : TypeId} {fr : Nat × Nat} (h : W.heap[g]? = some (.cells cur t fr)) (o : Nat) (ho : o < cur.size) : ∃ v, W.cell? ⟨g, o, none⟩ = some v := by
  exact ⟨cur[o], by simp [World.cell?, h, ho]⟩
theorem frozen_of_block {W : World} {g : Nat} {cur : Array Value} {t : TypeId} (h : W.heap[g]? = some (.cells cur t (0, 0))) (o : Nat) : W.frozen? ⟨g, o, none⟩ = false := by
  simp [World.frozen?, h]

set_option maxHeartbeats 1000000 in
set_option maxRecDepth 100000 in
theorem c3 (c : Int) (A : Option Addr) (k : Nat) (l : List S27) (m : S27) (w : World) (he : EType w) (hr : Kd.C k27 w A l.length l) (hk : l.length ≤ k) (hl : l.length ≤ 20) :
    Calls Tryd.prog 3 #[.agg #[.int .i64 c, .slice A l.length k], .agg #[.int .i64 m.f0, .int .i64 m.f1]] w fun e w' => e = .returned (.bool true) ∧ Below w.heap.size w w' := by
  have HE := Lib.hid he
  have HR := Lib.hid hr
  have HK := Lib.hid hk
  have HL := Lib.hid hl
  have hl' : (l.length : Int) ≤ 20 := by omega
  clear hr hk he hl
  go_enter Tryd.func3, Tryd.ntmps3
  go_wp2_with fail
  -- own := ref.Twin(f)
  refine (thimblerigref06_Twin.calls c A k l c l _ (Kd.C_below HR.out (below_alloc (below_alloc (Below.refl _ _) _) _)) HK.out (twin_f c l (by have := HL.out; omega))).mono ?_
  rintro e w1 ⟨v1, rfl, ho1, hb1⟩
  obtain ⟨A1, k1, rfl⟩ := Kd.R_slice ho1
  obtain ⟨-, hk1, hC1⟩ := C_of_R ho1
  have f0 := keep_cell hb1 (p := ⟨w.heap.size, 0, none⟩) (v := .int .i64 c) (by simp)
  have f1 := keep_cell hb1 (p := ⟨w.heap.size, 1, none⟩) (v := .slice A l.length k) (by simp)
  have m0 := keep_cell hb1 (p := ⟨w.heap.size + 1, 0, none⟩) (v := .int .i64 m.f0) (by simp)
  have m1 := keep_cell hb1 (p := ⟨w.heap.size + 1, 1, none⟩) (v := .int .i64 m.f1) (by simp)
  have ltf := World.block_lt_of_cell? _ _ f0
  have ltm := World.block_lt_of_cell? _ _ m0
  dsimp only at ltf ltm
  have HB1 := Lib.hid (below_two (below_alloc (below_alloc (Below.refl _ w) _) _) hb1)
  have HC1 := Lib.hid hC1
  have HK1 := Lib.hid hk1
  clear hC1 hk1 ho1 hb1
  go_wp2_with fail
  -- x, e := fault.Wrap(own, m)
  obtain ⟨rx, hrx⟩ : ∃ r, wrapF c l m = r := ⟨_, rfl⟩
  obtain ⟨cx, lx, ex⟩ := rx
  have HWF := Lib.hid hrx
  have HLX := Lib.hid (show lx.length ≤ 21 by have := wrapF_len c l m HL.out; rw [hrx] at this; exact this)
  clear hrx
  refine (c8 c A1 k1 l m _ (Kd.C_below HC1.out (below_alloc (Below.refl _ _) _)) HK1.out (by have := HL.out; omega)).mono ?_
  rw [HWF.out]
  rintro e w2 ⟨v2, rfl, ho2, hb2⟩
  dsimp only at ho2
  obtain ⟨A2, k2, rfl⟩ := Kd.R_slice ho2
  obtain ⟨-, hk2, hC2⟩ := C_of_R ho2
  have B_ := below_two (below_alloc (Below.refl _ w1) _) hb2
  replace f0 := keep_cell B_ f0
  replace f1 := keep_cell B_ f1
  replace m0 := keep_cell B_ m0
  replace m1 := keep_cell B_ m1
  replace ltf := Nat.lt_of_lt_of_le ltf B_.size
  replace ltm := Nat.lt_of_lt_of_le ltm B_.size
  have Z := Lib.hid B_
  have o0 := keep_cell hb2 (p := ⟨w1.heap.size, 0, none⟩) (v := .int .i64 c) (by simp)
  have o1 := keep_cell hb2 (p := ⟨w1.heap.size, 1, none⟩) (v := .slice A1 l.length k1) (by simp)
  have lto := World.block_lt_of_cell? _ _ o0
  dsimp only at lto
  have HO2 := Lib.hid ho2
  have HC2 := Lib.hid hC2
  have HK2 := Lib.hid hk2
  clear hC2 hk2 ho2 hb2 B_
  go_wp2_with fail
  -- y, e' := ref.Wrap(f, m)
  refine (thimblerigref06_Wrap.calls 60 c A k l m.f0 m.f1 cx lx ex _ (Kd.C_below (Kd.C_below HR.out (below_then HB1.out HB1.out.size Z.out)) (below_alloc (Below.refl _ _) _)) HK.out ((wrap_f c l m HL.out).trans (congrArg some HWF.out))).mono ?_
  rintro e w3 ⟨v3, rfl, ho3, hb3⟩
  obtain ⟨A3, k3, rfl⟩ := Kd.R_slice ho3
  obtain ⟨-, hk3, hC3⟩ := C_of_R ho3
  have B_ := below_two (below_alloc (Below.refl _ w2) _) hb3
  replace f0 := keep_cell B_ f0
  replace f1 := keep_cell B_ f1
  replace m0 := keep_cell B_ m0
  replace m1 := keep_cell B_ m1
  replace o0 := keep_cell B_ o0
  replace o1 := keep_cell B_ o1
  replace ltf := Nat.lt_of_lt_of_le ltf B_.size
  replace ltm := Nat.lt_of_lt_of_le ltm B_.size
  replace lto := Nat.lt_of_lt_of_le lto B_.size
  replace Z := Lib.hid (below_then Z.out Z.out.size B_)
  have HL13 := Lib.hid Z.out.size
  have B2 := Lib.hid B_
  have x0 := keep_cell hb3 (p := ⟨w2.heap.size, 0, none⟩) (v := .int .i64 cx) (by simp)
  have x1 := keep_cell hb3 (p := ⟨w2.heap.size, 1, none⟩) (v := .slice A2 lx.length k2) (by simp)
  have ltx := World.block_lt_of_cell? _ _ x0
  dsimp only at ltx
  have bx := (hb3.block w2.heap.size (by simp)).trans (heap_at (.cells #[.int .i64 cx, .slice A2 lx.length k2] 25) rfl)
  have HC3 := Lib.hid hC3
  have HK3 := Lib.hid hk3
  clear hC3 hk3 ho3 hb3 B_
  go_wp2_with fail
  -- g, p, a := fault.Open(own)
  obtain ⟨rg, hrg⟩ : ∃ r, openF c l = r := ⟨_, rfl⟩
  obtain ⟨⟨cg, lg⟩, mp, eg⟩ := rg
  have HOF := Lib.hid hrg
  have HLG := Lib.hid (show lg.length ≤ 20 by have := openF_len c l HL.out; rw [hrg] at this; exact this)
  clear hrg
  refine (c10 c A1 k1 l _ (HE.out.below (below_alloc (below_then HB1.out HB1.out.size Z.out) _)) (Kd.C_below HC1.out (below_alloc Z.out _)) HK1.out (by have := HL.out; omega)).mono ?_
  rw [HOF.out]
  rintro e w4 ⟨v4, rfl, ho4, hb4⟩
  dsimp only at ho4
  obtain ⟨A4, k4, rfl⟩ := Kd.R_slice ho4
  obtain ⟨-, hk4, hC4⟩ := C_of_R ho4
  have B_ := below_two (below_alloc (Below.refl _ w3) _) hb4
  replace bx := (B_.block _ ltx).trans bx
  replace f0 := keep_cell B_ f0
  replace f1 := keep_cell B_ f1
  replace m0 := keep_cell B_ m0
  replace m1 := keep_cell B_ m1
  replace o0 := keep_cell B_ o0
  replace o1 := keep_cell B_ o1
  replace x0 := keep_cell B_ x0
  replace x1 := keep_cell B_ x1
  replace ltf := Nat.lt_of_lt_of_le ltf B_.size
  replace ltm := Nat.lt_of_lt_of_le ltm B_.size
  replace lto := Nat.lt_of_lt_of_le lto B_.size
  replace ltx := Nat.lt_of_lt_of_le ltx B_.size
  replace Z := Lib.hid (below_then Z.out Z.out.size B_)
  replace B2 := Lib.hid (below_then B2.out B2.out.size B_)
  have B3 := Lib.hid B_
  have y0 := keep_cell hb4 (p := ⟨w3.heap.size, 0, none⟩) (v := .int .i64 cx) (by simp)
  have y1 := keep_cell hb4 (p := ⟨w3.heap.size, 1, none⟩) (v := .slice A3 lx.length k3) (by simp)
  have lty := World.block_lt_of_cell? _ _ y0
  dsimp only at lty
  have HO4 := Lib.hid ho4
  have HC4 := Lib.hid hC4
  have HK4 := Lib.hid hk4
  clear hC4 hk4 ho4 hb4 B_
  go_wp2_with fail
  -- h, q, b := ref.Open(f)
  refine (thimblerigref06_Open.calls 60 c A k l cg lg mp.f0 mp.f1 eg _ (Kd.C_below HR.out (below_alloc (below_alloc (below_then HB1.out HB1.out.size Z.out) _) _)) HK.out ((open_f c l HL.out).trans (by rw [HOF.out]))).mono ?_
  rintro e w5 ⟨v5, rfl, ho5, hb5⟩
  obtain ⟨A5, k5, rfl⟩ := Kd.R_slice ho5
  obtain ⟨-, hk5, hC5⟩ := C_of_R ho5
  have B_ := below_two (below_alloc (below_alloc (Below.refl _ w4) _) _) hb5
  replace bx := (B_.block _ ltx).trans bx
  replace f0 := keep_cell B_ f0
  replace f1 := keep_cell B_ f1
  replace m0 := keep_cell B_ m0
  replace m1 := keep_cell B_ m1
  replace o0 := keep_cell B_ o0
  replace o1 := keep_cell B_ o1
  replace x0 := keep_cell B_ x0
  replace x1 := keep_cell B_ x1
  replace y0 := keep_cell B_ y0
  replace y1 := keep_cell B_ y1
  replace ltf := Nat.lt_of_lt_of_le ltf B_.size
  replace ltm := Nat.lt_of_lt_of_le ltm B_.size
  replace lto := Nat.lt_of_lt_of_le lto B_.size
  replace ltx := Nat.lt_of_lt_of_le ltx B_.size
  replace lty := Nat.lt_of_lt_of_le lty B_.size
  replace Z := Lib.hid (below_then Z.out Z.out.size B_)
  replace B2 := Lib.hid (below_then B2.out B2.out.size B_)
  replace B3 := Lib.hid (below_then B3.out B3.out.size B_)
  have B4 := Lib.hid B_
  have g0 := keep_cell hb5 (p := ⟨w4.heap.size, 0, none⟩) (v := .int .i64 cg) (by simp)
  have g1 := keep_cell hb5 (p := ⟨w4.heap.size, 1, none⟩) (v := .slice A4 lg.length k4) (by simp)
  have ltg := World.block_lt_of_cell? _ _ g0
  dsimp only at ltg
  have bg := (hb5.block w4.heap.size (by simp; omega)).trans (((below_alloc (Below.refl _ (w4.alloc (.cells #[.int .i64 cg, .slice A4 lg.length k4] 25))) (.cells #[.int .i64 mp.f0, .int .i64 mp.f1] 27)).block w4.heap.size (by simp)).trans (heap_at (W := w4) (.cells #[.int .i64 cg, .slice A4 lg.length k4] 25) rfl))
  have p0 := keep_cell hb5 (p := ⟨w4.heap.size + 1, 0, none⟩) (v := .int .i64 mp.f0) (by simp)
  have p1 := keep_cell hb5 (p := ⟨w4.heap.size + 1, 1, none⟩) (v := .int .i64 mp.f1) (by simp)
  have ltp := World.block_lt_of_cell? _ _ p0
  dsimp only at ltp
  have HC5 := Lib.hid hC5
  have HK5 := Lib.hid hk5
  clear hC5 hk5 ho5 hb5 B_
  go_wp2_with fail
  obtain ⟨w6, hw6⟩ : ∃ w6, (w5.alloc (.cells #[.int .i64 cg, .slice A5 lg.length k5] 25)).alloc (.cells #[.int .i64 mp.f0, .int .i64 mp.f1] 27) = w6 := ⟨_, rfl⟩
  have h0 : ((w5.alloc (.cells #[.int .i64 cg, .slice A5 lg.length k5] 25)).alloc (.cells #[.int .i64 mp.f0, .int .i64 mp.f1] 27)).cell? ⟨w5.heap.size, 0, none⟩ = some (.int .i64 cg) := by simp
  have h1 : ((w5.alloc (.cells #[.int .i64 cg, .slice A5 lg.length k5] 25)).alloc (.cells #[.int .i64 mp.f0, .int .i64 mp.f1] 27)).cell? ⟨w5.heap.size, 1, none⟩ = some (.slice A5 lg.length k5) := by simp
  have q0 : ((w5.alloc (.cells #[.int .i64 cg, .slice A5 lg.length k5] 25)).alloc (.cells #[.int .i64 mp.f0, .int .i64 mp.f1] 27)).cell? ⟨w5.heap.size + 1, 0, none⟩ = some (.int .i64 mp.f0) := by simp
  have q1 : ((w5.alloc (.cells #[.int .i64 cg, .slice A5 lg.length k5] 25)).alloc (.cells #[.int .i64 mp.f0, .int .i64 mp.f1] 27)).cell? ⟨w5.heap.size + 1, 1, none⟩ = some (.int .i64 mp.f1) := by simp
  have B_ := below_alloc (below_alloc (Below.refl _ w5) (.cells #[.int .i64 cg, .slice A5 lg.length k5] 25)) (.cells #[.int .i64 mp.f0, .int .i64 mp.f1] 27)
  rw [hw6] at h0 h1 q0 q1 B_ ⊢
  clear hw6
  replace bx := (B_.block _ ltx).trans bx
  replace bg := (B_.block _ ltg).trans bg
  replace f0 := keep_cell B_ f0
  replace f1 := keep_cell B_ f1
  replace m0 := keep_cell B_ m0
  replace m1 := keep_cell B_ m1
  replace o0 := keep_cell B_ o0
  replace o1 := keep_cell B_ o1
  replace x0 := keep_cell B_ x0
  replace x1 := keep_cell B_ x1
  replace y0 := keep_cell B_ y0
  replace y1 := keep_cell B_ y1
  replace g0 := keep_cell B_ g0
  replace g1 := keep_cell B_ g1
  replace p0 := keep_cell B_ p0
  replace p1 := keep_cell B_ p1
  replace ltf := Nat.lt_of_lt_of_le ltf B_.size
  replace ltm := Nat.lt_of_lt_of_le ltm B_.size
  replace lto := Nat.lt_of_lt_of_le lto B_.size
  replace ltx := Nat.lt_of_lt_of_le ltx B_.size
  replace lty := Nat.lt_of_lt_of_le lty B_.size
  replace ltg := Nat.lt_of_lt_of_le ltg B_.size
  replace ltp := Nat.lt_of_lt_of_le ltp B_.size
  have lth := World.block_lt_of_cell? _ _ h0
  have ltq := World.block_lt_of_cell? _ _ q0
  dsimp only at lth ltq
  replace Z := Lib.hid (below_then Z.out Z.out.size B_)
  replace B2 := Lib.hid (below_then B2.out B2.out.size B_)
  replace B3 := Lib.hid (below_then B3.out B3.out.size B_)
  replace B4 := Lib.hid (below_then B4.out B4.out.size B_)
  have HW6 := Lib.hid (below_then HB1.out HB1.out.size Z.out)
  -- the rows in w6
  have C0 := Lib.hid (Kd.C_below HR.out HW6.out)
  have C1 := Lib.hid (Kd.C_below HC1.out Z.out)
  have CX := Lib.hid (Kd.C_below HC2.out B2.out)
  have CY := Lib.hid (Kd.C_below HC3.out B3.out)
  have CG := Lib.hid (Kd.C_below HC4.out B4.out)
  have CH := Lib.hid (Kd.C_below HC5.out B_)
  have R2 := Lib.hid (Kd.R_below HO2.out B2.out)
  have R4 := Lib.hid (Kd.R_below HO4.out B4.out)
  have BX := Lib.hid bx
  have BG := Lib.hid bg
  clear B_ bx bg HO2 HO4 HC2 HC3 HC4 HC5 B3
  go_region_held3 (fun w' => w'.cell? ⟨w.heap.size, 0, none⟩ = some (.int .i64 c) ∧ w'.cell? ⟨w.heap.size, 1, none⟩ = some (.slice A l.length k) ∧ w'.cell? ⟨w1.heap.size, 0, none⟩ = some (.int .i64 c) ∧ w'.cell? ⟨w1.heap.size, 1, none⟩ = some (.slice A1 l.length k1) ∧ w'.cell? ⟨w2.heap.size, 0, none⟩ = some (.int .i64 cx) ∧ w'.cell? ⟨w2.heap.size, 1, none⟩ = some (.slice A2 lx.length k2) ∧ w'.cell? ⟨w3.heap.size, 0, none⟩ = some (.int .i64 cx) ∧ w'.cell? ⟨w3.heap.size, 1, none⟩ = some (.slice A3 lx.length k3) ∧ w'.cell? ⟨w4.heap.size, 0, none⟩ = some (.int .i64 cg) ∧ w'.cell? ⟨w4.heap.size, 1, none⟩ = some (.slice A4 lg.length k4) ∧ w'.cell? ⟨w4.heap.size + 1, 0, none⟩ = some (.int .i64 mp.f0) ∧ w'.cell? ⟨w4.heap.size + 1, 1, none⟩ = some (.int .i64 mp.f1) ∧ w'.cell? ⟨w5.heap.size, 0, none⟩ = some (.int .i64 cg) ∧ w'.cell? ⟨w5.heap.size, 1, none⟩ = some (.slice A5 lg.length k5) ∧ w'.cell? ⟨w5.heap.size + 1, 0, none⟩ = some (.int .i64 mp.f0) ∧ w'.cell? ⟨w5.heap.size + 1, 1, none⟩ = some (.int .i64 mp.f1)) (simp [go_sem, *]) (first | (go_at_call 12; go_must (first | ((with_reducible refine (thimblerigref06_Same.calls 60 cx A2 k2 lx cx A3 k3 lx true _ ?_ HK2.out ?_ HK3.out ?_).mono ?_); (· exact Kd.C_below CX.out (by repeat (with_reducible first | exact Below.refl _ _ | apply below_drew))); (· exact Kd.C_below CY.out (by repeat (with_reducible first | exact Below.refl _ _ | apply below_drew))); (· exact same_self cx lx (by have := HLX.out; omega)); rintro e w7 ⟨rfl, hb7⟩; have B67 := Lib.hid (below_two (W := w6) (by repeat (with_reducible first | exact Below.refl _ _ | apply below_drew)) hb7); clear hb7; obtain ⟨hc7, hf7⟩ := bcell B67.out) | ((with_reducible refine (thimblerigref06_Same.calls 60 cg A4 k4 lg cg A5 k5 lg true _ ?_ HK4.out ?_ HK5.out ?_).mono ?_); (· exact Kd.C_below CG.out (by repeat (with_reducible first | exact B67.out | apply below_drew))); (· exact Kd.C_below CH.out (by repeat (with_reducible first | exact B67.out | apply below_drew))); (· exact same_self cg lg (by have := HLG.out; omega)); rintro e w8 ⟨rfl, hb8⟩; have B68 := Lib.hid (below_two (W := w6) (by repeat (with_reducible first | exact B67.out | apply below_drew)) hb8); clear hb8 hc7 hf7; obtain ⟨hc8, hf8⟩ := bcell B68.out))) | (go_at_call 13; go_must (refine (c13 c A1 k1 l _ (Kd.C_below C1.out (by repeat (with_reducible first | exact B68.out | apply below_drew))) HK1.out (by have := HL.out; omega)).mono ?_; rintro e w9 ⟨rfl, hb9⟩; have B69 := Lib.hid (below_two (W := w6) (by repeat (with_reducible first | exact B68.out | apply below_drew)) hb9); clear hb9 hc8 hf8; obtain ⟨hc9, hf9⟩ := bcell B69.out)) | (go_at_call 14; go_must (refine (thimblerigref06_Check.calls 60 c A k l (chkF c l) _ (Kd.C_below C0.out (by repeat (with_reducible first | exact B69.out | apply below_drew))) HK.out (check_f c l HL.out)).mono ?_; rintro e w10 ⟨rfl, hb10⟩; have BT := Lib.hid (below_two (W := w6) (by repeat (with_reducible first | exact B69.out | apply below_drew)) hb10); clear hb10 hc9 hf9; obtain ⟨hc10, hf10⟩ := bcell BT.out)))
  all_goals go_wp2_with fail
  clear hc10 hf10
  have hBX : w10.heap[w2.heap.size]? = some (.cells #[.int .i64 cx, .slice A2 lx.length k2] 25 (0, 0)) := (BT.out.block _ ltx).trans BX.out
  have hBG : w10.heap[w4.heap.size]? = some (.cells #[.int .i64 cg, .slice A4 lg.length k4] 25 (0, 0)) := (BT.out.block _ ltg).trans BG.out
  have HBX := Lib.hid hBX
  have HBG := Lib.hid hBG
  have HX := Lib.hid (fun hp => row_open R2.out BT.out hp)
  have HG := Lib.hid (fun hp => row_open R4.out BT.out hp)
  have E2 := keep_cell BT.out f0
  have E3 := keep_cell BT.out f1
  have E4 := keep_cell BT.out o0
  have E5 := keep_cell BT.out o1
  have HF := Lib.hid (And.intro E2 (And.intro E3 (And.intro E4 E5)))
  have HW1 := Lib.hid (below_then Z.out Z.out.size BT.out)
  have HW0 := Lib.hid (below_then HW6.out HW6.out.size BT.out)
  have hs1 : w.heap.size ≤ w1.heap.size := HB1.out.size
  have HLE := Lib.hid hs1
  clear hBX hBG E2 E3 E4 E5 f0 f1 m0 m1 o0 o1 x0 x1 y0 y1 g0 g1 p0 p1 h0 h1 q0 q1 ltf ltm lto ltx lty ltg ltp lth ltq CX CY CG CH C0 C1 B67 B68 B69
  go_loopw [17] (fun i wr => ∃ j : Nat, j ≤ lx.length ∧ i = .int .i64 j ∧ Hid (Tn w10 wr ∧ Below (w1.heap.size + 1) w10 wr)) (fun i _ => lx.length - (intOf i).toNat)
  case atStart => exact ⟨0, Nat.zero_le _, rfl, ⟨Tn.refl _, Below.refl _ _⟩⟩
  case round =>
    obtain ⟨j, hj, rfl, hT⟩ := hrel
    have hb6 := hT.out.1.1 _ _ _ _ (by decide) HBX.out
    have x1 : wr.cell? ⟨w2.heap.size, 1, none⟩ = some (.slice A2 lx.length k2) := by simp [World.cell?, hb6]
    by_cases hlt : j < lx.length
    · obtain ⟨g, cur, rfl, hgb, hgc, hsz⟩ := HX.out (by omega)
      obtain ⟨cur', hc', hs'⟩ := hT.out.1.2 g cur (0, 0) hgc
      obtain ⟨old, hold⟩ := cell_of_block hc' (j * 2 + 1) (by omega)
      have hfr := frozen_of_block hc' (j * 2 + 1)
      have hj1 : j ≤ 9223372036854775806 := by have := HLX.out; omega
      have HGB := Lib.hid hgb
      have HGC := Lib.hid hgc
      clear hb6 hc' hs' hgb hgc hsz
      go_wp2_with fail
      go_roundw
      case rel => exact ⟨j + 1, hlt, by go_num, ⟨hT.out.1.set HGC.out _ _, hT.out.2.setCell (by have := HGB.out; simp at this; simpa using this) _⟩⟩
      case measure => simp [intOf]; omega
    · obtain rfl : j = lx.length := by omega
      clear hb6 hj hlt
      go_wp2_with fail
      clear x1
      go_loopw [18] (fun i wr => ∃ j : Nat, j ≤ lg.length ∧ i = .int .i64 j ∧ Hid (Tn w10 wr ∧ Below (w1.heap.size + 1) w10 wr)) (fun i _ => lg.length - (intOf i).toNat)
      case atStart => exact ⟨0, Nat.zero_le _, rfl, hT⟩
      case round =>
        obtain ⟨j, hj, rfl, hT2⟩ := hrel
        have hb6 := hT2.out.1.1 _ _ _ _ (by decide) HBG.out
        have x1 : wr.cell? ⟨w4.heap.size, 1, none⟩ = some (.slice A4 lg.length k4) := by simp [World.cell?, hb6]
        by_cases hlt : j < lg.length
        · obtain ⟨g, cur, rfl, hgb, hgc, hsz⟩ := HG.out (by omega)
          obtain ⟨cur', hc', hs'⟩ := hT2.out.1.2 g cur (0, 0) hgc
          obtain ⟨old, hold⟩ := cell_of_block hc' (j * 2 + 1) (by omega)
          have hfr := frozen_of_block hc' (j * 2 + 1)
          have hj1 : j ≤ 9223372036854775806 := by have := HLG.out; omega
          have HGB := Lib.hid hgb
          have HGC := Lib.hid hgc
          clear hb6 hc' hs' hgb hgc hsz
          go_wp2_with fail
          go_roundw
          case rel => exact ⟨j + 1, hlt, by go_num, ⟨hT2.out.1.set HGC.out _ _, hT2.out.2.setCell (by have := HGB.out; have := HL13.out; simp at *; omega) _⟩⟩
          case measure => simp [intOf]; omega
        · obtain rfl : j = lg.length := by omega
          have hs1 := HLE.out
          have e0 := (hT2.out.2.cell (p := ⟨w.heap.size, 0, none⟩) (by dsimp only; omega)).trans HF.out.1
          have e1 := (hT2.out.2.cell (p := ⟨w.heap.size, 1, none⟩) (by dsimp only; omega)).trans HF.out.2.1
          have e2 := (hT2.out.2.cell (p := ⟨w1.heap.size, 0, none⟩) (by dsimp only; omega)).trans HF.out.2.2.1
          have e3 := (hT2.out.2.cell (p := ⟨w1.heap.size, 1, none⟩) (by dsimp only; omega)).trans HF.out.2.2.2
          have HT := Lib.hid (Below.trans HW1.out (hT2.out.2.mono (by omega)))
          have HT0 := Lib.hid (Below.trans HW0.out (hT2.out.2.mono (by omega)))
          clear hb6 hj hlt hs1
          go_wp2_with fail
          refine (thimblerigref06_Same.calls 60 c A1 k1 l c A k l true _ (Kd.C_below HC1.out HT.out) HK1.out (Kd.C_below HR.out HT0.out) HK.out (same_self c l (by have := HL.out; omega))).mono ?_
          rintro e w12 ⟨rfl, hb12⟩
          have HEND := Lib.hid (below_then HT0.out HT0.out.size hb12)
          clear hb12 x1 e0 e1 e2 e3
          go_wp2_with fail
          go_ret
          exact ⟨rfl, HEND.out⟩
end Go.Proofs.YtnlilbkddjcjdaaDoor.Fa
