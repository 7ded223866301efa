/-
  fault.chain.
-/
import Derived.Test.YtnlilbkddjcjdaaDoorFh
import Derived.RangeFuncBox
namespace Go.Proofs.YtnlilbkddjcjdaaDoor.Fa
open Go.RowKit Go.Shelf Go.Proofs.YtnlilbkddjcjdaaDoorW.PrintWords Go.Proofs.YtnlilbkddjcjdaaDoor.PFaultWraps

attribute [local go_sem] Oper.semAt_some

/-- The error value that chain holds when marks have been met: the bare fault, or the last mark met. -/
def ErrIs (n0 : Nat) (c : Int) : Option S27 → Value → World → Prop
  | none, v, _ => v = .iface 135 (.agg #[.int .i64 c])
  | some m, v, W => ∃ b, n0 ≤ b ∧ v = .iface 75 (.pointer (some ⟨b, 0, none⟩)) ∧ W.cell? ⟨b, 0, none⟩ = some (.int .i64 m.f0) ∧ W.cell? ⟨b, 1, none⟩ = some (.int .i64 m.f1)
theorem ErrIs.via {n0 : Nat} {c : Int} {o : Option S27} {v : Value} {A B : World} (h : ErrIs n0 c o v A) (hc : ∀ a u, A.cell? a = some u → B.cell? a = some u) : ErrIs n0 c o v B := by
  cases o with
  | none => exact h
  | some m =>
    obtain ⟨b, h1, h2, h3, h4⟩ := h
    exact ⟨b, h1, h2, hc _ _ h3, hc _ _ h4⟩

theorem ErrIs.iface {n0 : Nat} {c : Int} {o : Option S27} {v : Value} {A : World} (h : ErrIs n0 c o v A) : ∃ t u, v = .iface t u := by
  cases o with
  | none => exact ⟨_, _, h⟩
  | some m =>
    obtain ⟨b, h1, h2, h3, h4⟩ := h
    exact ⟨_, _, h2⟩

/-- What chain leaves. -/
def PostC (w : World) (c : Int) (l : List S27) (e : Ending) (w' : World) : Prop :=
  Below w.heap.size w w' ∧ ∃ v, e = .returned v ∧ ErrIs w.heap.size c l.head? v w'

theorem bwd_last (l : List S27) : (bwd l l.length).getLast?.map (·.2) = l.head? := by
  cases l with
  | nil => rfl
  | cons m r =>
    rw [List.length_cons, bwd_succ]
    simp

set_option maxRecDepth 100000 in
set_option maxHeartbeats 2000000 in
theorem c33_in (F : Fence) (n : Nat) (h33 : F.fn 33) (h65 : F.fn 65) (h98 : F.fn 98) (hro : F.round = none) (hn : 3 ≤ n) (c : Int) (A : Option Addr) (cap : Nat) (l : List S27) (w : World) (hr : Kd.C k27 w A l.length l) (hm : l.length ≤ 1000000000) :
    CallsIn F n Tryd.prog 33 #[.agg #[.int .i64 c, .slice A l.length cap]] w (PostC w c l) := by
  have HR := Lib.hid hr
  have HM := Lib.hid hm
  clear hr hm
  have h1 : 1 ≤ n := by omega
  refine callsIn_of_wp_marks Tryd.func33 rfl h33 ?_ hro
  simp only [Tryd.ntmps33, List.size_toArray, List.length_cons, List.length_nil, Nat.reduceAdd, Nat.reduceSub, Array.replicate_succ, Array.replicate_zero, List.push_toArray, List.append_toArray, List.nil_append, List.cons_append]
  gi_wp2_with (gi_at_call 65; refine (c65 F (n - 1) h65 hro _ _ _ _).mono ?_; rintro e w' ⟨rfl, rfl⟩)
  have bE := (Boxed.new (w.alloc (.cells #[.int .i64 c, .slice A l.length cap] 25)) 78 (.iface 135 (.agg #[.int .i64 c]))).alloc (.cells #[.slice A l.length cap] 23)
  have bS := Boxed.new ((w.alloc (.cells #[.int .i64 c, .slice A l.length cap] 25)).alloc (.cells #[.iface 135 (.agg #[.int .i64 c])] 78)) 23 (.slice A l.length cap)
  simp only [World.size_alloc] at bE bS
  have hB0 : Below w.heap.size w (((w.alloc (.cells #[.int .i64 c, .slice A l.length cap] 25)).alloc (.cells #[.iface 135 (.agg #[.int .i64 c])] 78)).alloc (.cells #[.slice A l.length cap] 23)) := below_alloc (below_alloc (below_alloc (Below.refl _ _) _) _) _
  have hsz : (((w.alloc (.cells #[.int .i64 c, .slice A l.length cap] 25)).alloc (.cells #[.iface 135 (.agg #[.int .i64 c])] 78)).alloc (.cells #[.slice A l.length cap] 23)).heap.size = w.heap.size + 3 := by simp
  obtain ⟨W0, hW0⟩ : ∃ W0, (((w.alloc (.cells #[.int .i64 c, .slice A l.length cap] 25)).alloc (.cells #[.iface 135 (.agg #[.int .i64 c])] 78)).alloc (.cells #[.slice A l.length cap] 23)) = W0 := ⟨_, rfl⟩
  rw [hW0] at bE bS hB0 hsz ⊢
  clear hW0
  refine wpIn_rangeFunc_ownH hro h1 (gf := 98) (lb := #[.pointer (some ⟨w.heap.size + 1 + 1, 0, none⟩)]) rfl h98 (enters_of Tryd.func98 (by kernel_rfl) rfl)
    (c98_stops F (n - 1) h98 hro (by omega) (w.heap.size + 1 + 1) w A cap l HR.out HM.out W0 hB0 (by omega) bS.cell) KpB.trans (KpB.box (by omega) (by omega)) (Below.refl _ _) (fun _ => rfl)
    (fun pre W => ((∃ v, Boxed W (w.heap.size + 1) 78 v ∧ ErrIs w.heap.size c (pre.getLast?.map (·.2)) v W) ∧ Boxed W (w.heap.size + 1 + 1) 23 (.slice A l.length cap)) ∧ Below w.heap.size w W)
    (fun _ _ _ => False)
    (OwnFrom.and (OwnFrom.and (Own.from (fun s X Y row hs hg hr => by obtain ⟨v, hb, he⟩ := hs; exact ⟨v, boxed_own _ _ (fun (_ : Unit) => v) () X Y row hb hg hr, he.via (fun a u hu => cell_kept hu hg hr)⟩) _) (Own.from (boxed_own _ _ _) _)) (ownFrom_below (Nat.le_refl _) (by omega)))
    (fun _ _ _ _ _ hs _ _ => hs)
    ⟨⟨⟨_, bE, rfl⟩, bS⟩, hB0⟩
    (fun x a' W => ∃ Bx, (w.heap.size + 1 + 1 < Bx ∧ W.cell? ⟨Bx, 0, none⟩ = some (.int .i64 x.2.f0) ∧ W.cell? ⟨Bx, 1, none⟩ = some (.int .i64 x.2.f1)) ∧ a' = { tmps := #[.agg #[.int .i64 c, .slice A l.length cap], .pointer (some ⟨w.heap.size, 0, none⟩), .pointer (some ⟨w.heap.size + 1, 0, none⟩), undef, .pointer (some ⟨Bx, 0, none⟩), .pointer (some ⟨w.heap.size, 0, none⟩), .int .i64 c, .agg #[.int .i64 c], .iface 135 (.agg #[.int .i64 c]), .pointer (some ⟨w.heap.size, 1, none⟩), .slice A l.length cap, .func (.func 98) #[] #[.pointer (some ⟨w.heap.size + 1 + 1, 0, none⟩)], .int .i64 (x.1 : Int), .agg #[.int .i64 x.2.f0, .int .i64 x.2.f1], undef, undef, undef, undef, undef, undef], defers := [] })
    (fun x a' _ X Y row hs hg hr => by obtain ⟨Bx, ⟨h1, h2, h3⟩, h4⟩ := hs; exact ⟨Bx, ⟨h1, cell_kept h2 hg (fun r e => (hr r e).2), cell_kept h3 hg (fun r e => (hr r e).2)⟩, h4⟩)
    ?assign ?body ?done ?stop
  case assign =>
    rintro lo pre x W K ⟨⟨⟨v, bE1, he1⟩, bS1⟩, hB1⟩ hK
    gi_wp2
    have hs1 := hB1.size
    have hs2 := bS1.lt
    refine hK _ _ ((KeepsOthers.alloc _ _).from _) ⟨(Below.refl _ W).alloc hB1.size _, fun v hv => ((Below.refl _ W).alloc (Nat.le_refl _) _).cell (p := ⟨w.heap.size + 1 + 1, 0, none⟩) hs2 |>.trans hv⟩ ⟨⟨⟨v, bE1.alloc _, he1.via (fun a u hu => keep_cell (below_alloc (Below.refl _ _) _) hu)⟩, bS1.alloc _⟩, hB1.alloc hB1.size _⟩ ⟨W.heap.size, ⟨hs2, by simp, by simp⟩, rfl⟩
  case body =>
    rintro lo pre x a' W hl ⟨r, hr⟩ ⟨⟨⟨v, bE1, he1⟩, bS1⟩, hB1⟩ ⟨Bx, ⟨hBx, cx0, cx1⟩, rfl⟩ hlt
    obtain ⟨tv, pv, rfl⟩ := he1.iface
    have cE := bE1.cell
    have fE := bE1.frozen
    have hlt1 := bE1.lt
    gi_wp2
    have hs1 := hB1.size
    have hs2 := bS1.lt
    have hb2 : Below w.heap.size W ((W.setCell ⟨w.heap.size + 1, 0, none⟩ (.iface 75 (.pointer (some ⟨W.heap.size, 0, none⟩)))).alloc (.cells #[.int .i64 x.2.f0, .int .i64 x.2.f1, .iface tv pv] 82)) := ((Below.refl _ W).setCell (p := ⟨w.heap.size + 1, 0, none⟩) (by simp) _).alloc (by simpa using hs1) _
    refine ⟨((KeepsOthers.setCell _ _ _).trans (KeepsOthers.alloc _ _)).from _, ⟨hb2, fun u hu => ?_⟩, ⟨⟨_, (bE1.set _).alloc _, ?_⟩, (bS1.other (by omega) _).alloc _⟩, hB1.trans hb2⟩
    · simp [go_sem, hu, hs2]
    · have e1 : (pre ++ [x]).getLast?.map (·.2) = some x.2 := by simp
      rw [e1]
      exact ⟨W.heap.size, hs1, rfl, by simp [go_sem], by simp [go_sem]⟩
  case done =>
    rintro D ys W hD rfl ⟨⟨⟨v, bE1, he1⟩, bS1⟩, hB1⟩ hK
    obtain ⟨tv, pv, rfl⟩ := he1.iface
    have cE := bE1.cell
    have fE := bE1.frozen
    gi_wp2
    have hK' := (KeepsOthers.setCell W ⟨w.heap.size + 1, 0, none⟩ (.iface tv pv)).same D _ hK rfl
    refine ⟨by simp, .inl ⟨_, _, rfl, run_takeDeferred hK', ?_⟩⟩
    have bE2 := (bE1.set (.iface tv pv)).cell
    have hsame : ∀ a u, W.cell? a = some u → (W.setCell ⟨w.heap.size + 1, 0, none⟩ (.iface tv pv)).cell? a = some u := by
      intro a u hu
      by_cases ha : a = ⟨w.heap.size + 1, 0, none⟩
      · subst ha; rw [cE] at hu; rw [bE2]; exact hu
      · rw [World.cell?_setCell_other _ _ _ _ (Ne.symm ha)]; exact hu
    have hc5 := fun a u (hu : (W.setCell ⟨w.heap.size + 1, 0, none⟩ (.iface tv pv)).cell? a = some u) => cell_kept hu (grownBy_putObj' _ D (.deferred none)) (fun r e => by cases e; exact ⟨_, hK', rfl⟩)
    refine ⟨.iface tv pv, ?_, (hB1.setCell (p := ⟨w.heap.size + 1, 0, none⟩) (by simp) _).trans (belowK_b (w := w) (Nat.le_refl _) _ D _ _ (by omega) hK' rfl rfl), _, rfl, ?_⟩
    · have := hc5 _ _ bE2
      simp [results, Tryd.f33, go_sem, this]
    · rw [← bwd_last]
      exact he1.via (fun a u hu => hc5 _ _ (hsame a u hu))
  case stop =>
    rintro D c pre W _ _ h _
    exact h.elim
end Go.Proofs.YtnlilbkddjcjdaaDoor.Fa
