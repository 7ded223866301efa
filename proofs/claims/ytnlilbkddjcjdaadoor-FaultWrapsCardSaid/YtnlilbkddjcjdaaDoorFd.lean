/-
  slices.Insert over marks, at place 0, of one mark that lies in a block of its own.
-/
import Derived.Test.YtnlilbkddjcjdaaDoorFc
import Derived.Test.YtnlilbkddjcjdaaDoorGa
import Derived.StillTailTactics
namespace Go.Proofs.YtnlilbkddjcjdaaDoor.Fa
open Go.RowKit Go.Proofs.YtnlilbkddjcjdaaDoorW.PrintWords Go.Proofs.YtnlilbkddjcjdaaDoor.PFaultWraps

/-- The cells of marks, one behind the other. -/
def cells27 (l : List S27) : List Value := l.flatMap fun x => [.int .i64 x.f0, .int .i64 x.f1]
theorem cells27_cons (x : S27) (l : List S27) : cells27 (x :: l) = .int .i64 x.f0 :: .int .i64 x.f1 :: cells27 l := rfl
theorem length_cells27 (l : List S27) : (cells27 l).length = l.length * 2 := by
  induction l with
  | nil => rfl
  | cons x l ih => rw [cells27_cons]; simp [ih]; omega
theorem cells27_one (l : List S27) : ∀ u ∈ cells27 l, u.oneCell' = true := by
  intro u hu
  simp only [cells27, List.mem_flatMap] at hu
  obtain ⟨x, _, hx⟩ := hu
  simp at hx
  rcases hx with rfl | rfl <;> rfl
theorem reps27 {R : S27 → List Value → Prop} (hR : ∀ x cs, R x cs → cs = [.int .i64 x.f0, .int .i64 x.f1]) (l : List S27) : ∀ cs, Reps R 2 l cs → cs = cells27 l := by
  induction l with
  | nil => intro cs h; exact List.eq_nil_of_length_eq_zero (by rw [h.1]; rfl)
  | cons x l ih =>
    intro cs h
    have h0 := hR _ _ (h.2 0 x rfl)
    simp at h0
    have hl : cs.length = (l.length + 1) * 2 := h.1
    have ht : cs.drop 2 = cells27 l := by
      refine ih _ ⟨by rw [List.length_drop, hl]; omega, fun j p hj => ?_⟩
      have := h.2 (j + 1) p (by simpa using hj)
      rw [List.drop_drop, show 2 + j * 2 = (j + 1) * 2 from by omega]
      exact this
    rw [cells27_cons, ← ht, ← List.take_append_drop 2 cs, h0]
    simp
theorem reps27_mk {R : S27 → List Value → Prop} (hR : ∀ x, R x [.int .i64 x.f0, .int .i64 x.f1]) (l : List S27) : Reps R 2 l (cells27 l) := by
  induction l with
  | nil => exact Reps.none _ _
  | cons x l ih =>
    refine ⟨length_cells27 _, fun j p hj => ?_⟩
    cases j with
    | zero =>
      simp at hj
      subst hj
      exact hR _
    | succ j =>
      have := ih.2 j p (by simpa using hj)
      rw [show (j + 1) * 2 = 2 + j * 2 from by omega, ← List.drop_drop]
      exact this

/-- A row of marks of the call's own, by its block. -/
theorem R27_mk {w : World} {base g n cap : Nat} {cur : Array Value} (l : List S27) (hg : w.heap[g]? = some (.cells cur 27 (0, 0))) (hb : base ≤ g) (hn : n = l.length) (hc : n ≤ cap) (hm : cap ≤ maxLen) (hs : cur.size = cap * 2)
    (ht : cur.toList.take (n * 2) = cells27 l) : Kd.R k27 27 w base (fun _ => True) (.slice (some ⟨g, 0, none⟩) n cap) l := by
  subst hn
  exact ⟨fun _ _ => trivial, cells27 l, ⟨length_cells27 l, .inr ⟨g, cap, cur, rfl, hb, hg, hc, hm, hs, ht⟩⟩, reps27_mk (fun x => k27_mkM w base _ x) l⟩
theorem R27_open {w : World} {base : Nat} {ok : Nat → Prop} {v : Value} {l : List S27} (h : Kd.R k27 27 w base ok v l) (hp : 0 < l.length) :
    ∃ g cap cur, v = .slice (some ⟨g, 0, none⟩) l.length cap ∧ base ≤ g ∧ w.heap[g]? = some (.cells cur 27 (0, 0)) ∧ l.length ≤ cap ∧ cap ≤ maxLen ∧ cur.size = cap * 2 ∧ cur.toList.take (l.length * 2) = cells27 l := by
  obtain ⟨_, inner, ⟨hl, ho⟩, hr⟩ := h
  obtain rfl := reps27 (fun x cs h => k27_openM h) l inner hr
  rcases ho with ⟨_, h0⟩ | ⟨g, cap, cur, h1, h2, h3, h4, h5, h6, h7⟩
  · omega
  · exact ⟨g, cap, cur, h1, h2, h3, h4, h5, h6, h7⟩

theorem C27_block {w : World} {g : Nat} {cur : Array Value} {t : TypeId} {fr : Nat × Nat} (l : List S27) (hg : w.heap[g]? = some (.cells cur t fr)) (hl : l.length ≤ 1000000000) (ht : cur.toList.take (l.length * 2) = cells27 l) :
    Kd.C k27 w (some ⟨g, 0, none⟩) l.length l := by
  refine ⟨rfl, by omega, fun _ => ⟨_, rfl, fun j p hj => ⟨_, rfl, k27_mk w p, fun i u hu => ?_⟩⟩⟩
  have hjl := (List.getElem?_eq_some_iff.1 hj).1
  have h2 := (reps27_mk (R := fun x cs => cs = [.int .i64 x.f0, .int .i64 x.f1]) (fun _ => rfl) l).2 j p hj
  have hi : i < 2 := (List.getElem?_eq_some_iff.1 hu).1
  rw [add_plain, cell_of_row w g _ cur t fr hg, show k27.sz = 2 from rfl, ← Array.getElem?_toList]
  rw [← h2, ← ht, List.getElem?_take, if_pos hi, List.getElem?_drop, List.getElem?_take, if_pos (by omega)] at hu
  exact hu

set_option maxHeartbeats 1000000 in
set_option maxRecDepth 100000 in
theorem c28_empty (base : Nat) (sv : Value) (x : S27) (g : Nat) (w : World) (HO : Kd.R k27 27 w base (fun _ => True) sv []) (hg : w.heap[g]? = some (.cells #[.int .i64 x.f0, .int .i64 x.f1] 27 (0, 0))) (hbase : base ≤ w.heap.size) :
    Calls Tryd.prog 28 #[sv, .int .i64 0, .slice (some ⟨g, 0, none⟩) 1 1] w fun e w' => ∃ v, e = .returned v ∧ Kd.R k27 27 w' base (fun _ => True) v [x] ∧ w.grownBy w' sv.ownBlock := by
  have hv := C27_block [x] hg (by simp) rfl
  have HV := Lib.hid hv
  have HG := Lib.hid hg
  have HBB := Lib.hid hbase
  obtain ⟨A, c, rfl⟩ := Kd.R_slice HO
  have HO' := Lib.hid HO
  clear HO hv hg hbase
  simp only [List.length_nil] at *
  go_enter Tryd.func28, Tryd.ntmps28
  go_wp2_with (at_builtin; refine Kd.R_append_rows k27 (Rr := k27.K w) (w0 := w) base (by rfl) (.tmp 23) (.tmp 24) 23 27 _ 16 (by rfl) Tryd.underlying23 info27 (by rfl) (by decide) (by decide) _ [] [x] (some ⟨g, 0, none⟩) 1 1 (fun _ => True) (fun _ => False) (by rfl) (by rfl) (by exact HO'.out) (by exact HV.out) (fun _ _ h => k27_KM h) (fun _ h => h.elim) (fun _ _ => trivial) (Below.refl _ _) (by exact HBB.out) (by decide) ?_; rintro v1 w1 ho hb hg hat; have HO1 := Lib.hid ho; have HG1 := Lib.hid hg; clear ho hb hg hat)
  all_goals (go_ret; exact ⟨_, rfl, HO1.out, HG1.out⟩)

theorem run58 (w : World) (g g1 o m c : Nat) (k : Nat) (cur : Array Value) (h : Array Value) (hg : w.heap[g]? = some (.cells h 27 (0, 0))) (hg1 : w.heap[g1]? = some (.cells cur 27 (0, 0))) (hne : g ≠ g1) (hk : cur.size = k + 1) :
    (callFunc 58 #[.slice (some ⟨g, 0, none⟩) 1 1, .slice (some ⟨g1, o, none⟩) m c]).run Tryd.prog w = .ok (.value (.bool false)) w := by
  rw [run_callFunc_extern Tryd.func58 (by kernel_rfl) (by kernel_rfl) (by kernel_rfl) (e := Extern.SlicesOverlaps.overlaps #[23, 23] #[4]) (by kernel_rfl),
    Lib.run_overlaps_apart w 23 4 27 Tryd.underlying23 2 (fun W => by obtain ⟨i, hi, h2⟩ := Option.map_eq_some_iff.1 info27; simp only [Prod.mk.injEq] at h2; simp [sizeOf, typeInfo, hi, h2.2.1]) ⟨g, 0, none⟩ ⟨g1, o, none⟩ 1 1 m c hne 27 27 h.size cur.size (by simp [World.shape?, hg]) (by simp [World.shape?, hg1]) (by omega) (by simp [World.frozen?, hg]) (by simp [World.frozen?, hg])]
  rfl

theorem row_cells {w : World} {g : Nat} {cur cs : List Value} {t : TypeId} {fr : Nat × Nat} (hg : Nat → w.heap[g]? = some (.cells cur.toArray t fr)) (hc : ∀ (j : Nat) v, cs[j]? = some v → cur[j]? = some v) :
    ∀ (j : Nat) v, cs[j]? = some v → w.cell? ((⟨g, 0, none⟩ : Addr).add j) = some v := by
  intro j v h
  rw [add_plain, cell_of_row w g j _ t fr (hg 0)]
  simpa using hc j v h
theorem grown_setRow (w : World) (g : Nat) (cs : Array Value) : w.grownBy ((World.drew w).setRow g cs) (some g) :=
  ⟨rfl, rfl, rfl, by simp [World.setRow], fun k hk h => setRow_other w.drew g k cs (fun e => h (by rw [e]))⟩
theorem grown_setRow' (w : World) (g : Nat) (cs : Array Value) : w.grownBy (w.setRow g cs) (some g) :=
  ⟨rfl, rfl, rfl, by simp [World.setRow], fun k hk h => setRow_other w g k cs (fun e => h (by rw [e]))⟩
theorem splice_two (zs cs : List Value) (a b : Value) (hl : 2 + cs.length ≤ zs.length) : splice (splice zs 0 [a, b]) 2 cs = a :: b :: (cs ++ zs.drop (2 + cs.length)) := by
  match zs with
  | [] => simp at hl
  | [_] => simp at hl; omega
  | z0 :: z1 :: zs => simp [splice, Nat.add_comm 2]
theorem splice_two' (cur : List Value) (m : Nat) (a b : Value) (hl : 2 + m ≤ cur.length) : splice (splice cur 2 (cur.take m)) 0 [a, b] = a :: b :: (cur.take m ++ cur.drop (2 + m)) := by
  have h : (cur.take m).length = m := by rw [List.length_take]; omega
  match cur with
  | [] => simp at hl
  | [_] => simp at hl; omega
  | z0 :: z1 :: zs =>
    simp only [splice, h]
    simp [Nat.add_comm 2]
theorem take_some {α : Type} {l : List α} {n j : Nat} {v : α} (h : (l.take n)[j]? = some v) : l[j]? = some v := by
  rw [List.getElem?_take] at h
  split at h
  · exact h
  · cases h

set_option maxHeartbeats 1000000 in
set_option maxRecDepth 100000 in
/-- There is room. -/
theorem c28_room (n cap g1 : Nat) (cur : List Value) (x : S27) (g : Nat) (w : World) (hg1 : w.heap[g1]? = some (.cells cur.toArray 27 (0, 0))) (hg : w.heap[g]? = some (.cells #[.int .i64 x.f0, .int .i64 x.f1] 27 (0, 0))) (hne : g ≠ g1)
    (hn0 : 0 < n) (hn : n + 1 ≤ cap) (hcm : cap ≤ maxLen) (hcs : cur.length = cap * 2) (hone : ∀ u ∈ cur.take (n * 2), u.oneCell' = true) :
    Calls Tryd.prog 28 #[.slice (some ⟨g1, 0, none⟩) n cap, .int .i64 0, .slice (some ⟨g, 0, none⟩) 1 1] w fun e w' => e = .returned (.slice (some ⟨g1, 0, none⟩) (n + 1) cap) ∧ w.grownBy w' (some g1) ∧ 
      w'.heap[g1]? = some (.cells (splice (splice cur 2 (cur.take (n * 2))) 0 [.int .i64 x.f0, .int .i64 x.f1]).toArray 27 (0, 0)) := by
  unfold maxLen at hcm
  have hov := run58 w g g1 2 n (cap - 1) (cap * 2 - 1) cur.toArray _ hg hg1 hne (by simp; omega)
  have HG1 := Lib.hid hg1
  have HG := Lib.hid hg
  have HNE := Lib.hid hne
  have HS := Lib.hid hcs
  have HO := Lib.hid hone
  clear hg1 hg hne hcs hone
  have hc0 : 0 < cap := by omega
  have hz : (n == 0) = false := by simp; omega
  go_enter Tryd.func28, Tryd.ntmps28
  go_wp2_with fail
  clear hov
  have hw1 : IntKind.i64.wrap 1 = 1 := by rw [IntKind.wrap_i64]; rfl
  have hle1 : (1 : Int) ≤ (n : Int) + 1 := by omega
  have hc1 : ¬ cap = 1 := by omega
  have hle0 : (0 : Int) ≤ (n : Int) + 1 := by omega
  go_still_tail 8, (by kernel_rfl)
  refine Ga.wpList_copy_sz (P := Tryd.prog) (by rfl) (.tmp 73) (.tmp 76) 23 23 (by rfl) 27 2 Tryd.underlying23 (by obtain ⟨i, hi, h2⟩ := Option.map_eq_some_iff.1 info27; simp only [Prod.mk.injEq] at h2; simp [hi, h2.2.1]) g1 2 n (cap - 1) ⟨g1, 0, none⟩ (n + 1) cap (by rfl) (by rfl) cur 27 HG1.out (cur.take (n * 2)) ?h1 ?h2 ?h3 HO.out ?_
  case h1 => rw [List.length_take, HS.out, show Nat.min (n + 1) n = n from Nat.min_eq_right (by omega)]; omega
  case h2 => exact row_cells (fun j => HG1.out) (fun j v h => take_some h)
  case h3 => rw [List.length_take, HS.out]; omega
  intro w1 hw1e
  have HG1' := Lib.hid (show w1.heap[g1]? = some (.cells (splice cur 2 (cur.take (n * 2))).toArray 27 (0, 0)) by rw [hw1e]; exact setRow_heap _ g1 _ _ 27 _ HG1.out)
  have HG' := Lib.hid (show w1.heap[g]? = some (.cells #[.int .i64 x.f0, .int .i64 x.f1] 27 (0, 0)) by rw [hw1e]; exact (setRow_other _ g1 g _ HNE.out).trans HG.out)
  have HGR := Lib.hid (show w.grownBy w1 (some g1) by rw [hw1e]; exact grown_setRow w g1 _)
  have HS' := Lib.hid (show (splice cur 2 (cur.take (n * 2))).length = cap * 2 by rw [length_splice _ _ _ (by rw [List.length_take, HS.out]; omega), HS.out])
  obtain ⟨w2, hw2⟩ : ∃ w2, w2 = w1.setRow g1 (splice (splice cur 2 (cur.take (n * 2))) 0 [.int .i64 x.f0, .int .i64 x.f1]).toArray := ⟨_, rfl⟩
  have hcp := Ga.run_copy_sz (P := Tryd.prog) w1 23 23 3 27 2 g1 0 (n + 1) cap ⟨g, 0, none⟩ 1 1 _ 27 [.int .i64 x.f0, .int .i64 x.f1] Tryd.underlying23 (by obtain ⟨i, hi, h2⟩ := Option.map_eq_some_iff.1 info27; simp only [Prod.mk.injEq] at h2; simp [hi, h2.2.1]) HG1'.out (by rw [show Nat.min 1 (n + 1) = 1 from Nat.min_eq_left (by omega)]; rfl) (row_cells (cur := [.int .i64 x.f0, .int .i64 x.f1]) (fun _ => HG'.out) (fun _ _ h => h)) (by rw [HS'.out]; simp; omega) (cells27_one [x])
  rw [← hw2] at hcp
  have HG2 := Lib.hid (show w2.heap[g1]? = some (.cells (splice (splice cur 2 (cur.take (n * 2))) 0 [.int .i64 x.f0, .int .i64 x.f1]).toArray 27 (0, 0)) by rw [hw2]; exact setRow_heap _ g1 _ _ 27 _ HG1'.out)
  have HGR2 := Lib.hid (show w.grownBy w2 (some g1) by rw [hw2]; exact HGR.out.trans (grown_setRow' w1 g1 _))
  clear hw1e HG1 HG HO hw2 HG1' HG' HGR HS'
  go_wp2_with fail
  go_ret
  exact ⟨rfl, HGR2.out, HG2.out⟩

theorem size27 : (Tryd.prog.info? 27).map (·.size) = some 2 := by
  obtain ⟨i, hi, h2⟩ := Option.map_eq_some_iff.1 info27
  simp only [Prod.mk.injEq] at h2
  simp [hi, h2.2.1]

set_option maxHeartbeats 1000000 in
set_option maxRecDepth 100000 in
/-- There is no room. -/
theorem c28_grow (n cap g1 : Nat) (cur : List Value) (x : S27) (g : Nat) (w : World) (hg1 : w.heap[g1]? = some (.cells cur.toArray 27 (0, 0))) (hg : w.heap[g]? = some (.cells #[.int .i64 x.f0, .int .i64 x.f1] 27 (0, 0))) (hne : g ≠ g1)
    (hn0 : 0 < n) (hn : n ≤ 100) (hnc : n ≤ cap) (hnr : cap < n + 1) (hcs : cur.length = cap * 2) (hone : ∀ u ∈ cur.take (n * 2), u.oneCell' = true) :
    Calls Tryd.prog 28 #[.slice (some ⟨g1, 0, none⟩) n cap, .int .i64 0, .slice (some ⟨g, 0, none⟩) 1 1] w fun e w' => ∃ cap' rest, e = .returned (.slice (some ⟨w.heap.size, 0, none⟩) (n + 1) cap') ∧ Below w.heap.size w w' ∧ n + 1 ≤ cap' ∧ cap' ≤ maxLen ∧
      w'.heap[w.heap.size]? = some (.cells (.int .i64 x.f0 :: .int .i64 x.f1 :: (cur.take (n * 2) ++ rest)).toArray 27 (0, 0)) ∧ 2 + n * 2 + rest.length = cap' * 2 := by
  obtain ⟨i27, hi27, h27⟩ := Option.map_eq_some_iff.1 info27
  simp only [Prod.mk.injEq] at h27
  obtain ⟨hz27, hs27, hb27⟩ := h27
  have HG1 := Lib.hid hg1
  have HG := Lib.hid hg
  have HNE := Lib.hid hne
  have HS := Lib.hid hcs
  have HO := Lib.hid hone
  have HI := Lib.hid (And.intro hi27 (And.intro hz27 (And.intro hs27 hb27)))
  clear hg1 hg hne hcs hone hi27 hz27 hs27 hb27
  have hc0 : 0 < cap := by omega
  have hz : (n == 0) = false := by simp; omega
  go_enter Tryd.func28, Tryd.ntmps28
  go_wp2_with (at_builtin; go_must (refine Ga.wpList_append_zeros_new (P := Tryd.prog) (by rfl) (.tmp 34) (.tmp 39) 23 3 27 i27 _ .i64 (by rfl) Tryd.underlying23 Tryd.underlying3 HI.out.1 HI.out.2.1 (some ⟨g1, 0, none⟩) cap (n + 1) .i64 (by rfl) (by rfl) (by rw [HI.out.2.2.1]; decide) (by omega) (by rw [HI.out.2.2.2]; omega) (by rw [HI.out.2.2.2]; decide) (by rw [HI.out.2.2.1]; rfl) ?_; intro c' zs W1 hc1 hc2 hzl hzb hbW; have HZL := Lib.hid (show zs.length = c' * 2 by rw [hzl, HI.out.2.2.1]); have HZB := Lib.hid hzb; have HBW := Lib.hid hbW; have HMX := Lib.hid hc2; have HGW := Lib.hid ((hbW.block g (lt_of_block HG.out)).trans HG.out); have HG1W := Lib.hid ((hbW.block g1 (lt_of_block HG1.out)).trans HG1.out); clear hzl hzb hbW hc2; obtain ⟨W2, hW2⟩ : ∃ W2, W2 = W1.setRow w.heap.size (splice zs 0 [.int .i64 x.f0, .int .i64 x.f1]).toArray := ⟨_, rfl⟩; have hcp := Ga.run_copy_sz (P := Tryd.prog) W1 23 23 3 27 2 w.heap.size 0 (n + 1) c' ⟨g, 0, none⟩ 1 1 zs 27 [.int .i64 x.f0, .int .i64 x.f1] Tryd.underlying23 size27 HZB.out (by rw [show Nat.min 1 (n + 1) = 1 from Nat.min_eq_left (by omega)]; rfl) (row_cells (cur := [.int .i64 x.f0, .int .i64 x.f1]) (fun _ => HGW.out) (fun _ _ h => h)) (by rw [HZL.out]; simp; omega) (cells27_one [x]); rw [← hW2] at hcp; have HW2 := Lib.hid hW2; clear hW2))
  have HZ2 := Lib.hid (show (splice zs 0 [.int .i64 x.f0, .int .i64 x.f1]).length = c' * 2 by rw [length_splice _ _ _ (by rw [HZL.out]; simp; omega), HZL.out])
  have HB2 := Lib.hid (show W2.heap[w.heap.size]? = some (.cells (splice zs 0 [.int .i64 x.f0, .int .i64 x.f1]).toArray 27 (0, 0)) by rw [HW2.out]; exact setRow_heap _ _ _ _ 27 _ HZB.out)
  have hlt1 : g1 < w.heap.size := lt_of_block HG1.out
  have HG12 := Lib.hid (show W2.heap[g1]? = some (.cells cur.toArray 27 (0, 0)) by rw [HW2.out]; exact (setRow_other _ _ g1 _ (by omega)).trans HG1W.out)
  have HBel := Lib.hid (show Below w.heap.size w W2 by rw [HW2.out]; exact below_setRow HBW.out (Nat.le_refl _) _)
  clear HW2 HZB HBW hcp HGW HG1W
  have hw1 : IntKind.i64.wrap 1 = 1 := by rw [IntKind.wrap_i64]; rfl
  have hle1 : (1 : Int) ≤ (n : Int) + 1 := by omega
  have hle0 : (0 : Int) ≤ (n : Int) := by omega
  have hcc1 : ¬ c' = 1 := by omega
  have hcc0 : ¬ cap = 0 := by omega
  go_still_tail 8, (by kernel_rfl)
  refine Ga.wpList_copy_sz (P := Tryd.prog) (by rfl) (.tmp 50) (.tmp 53) 23 23 (by rfl) 27 2 Tryd.underlying23 size27 w.heap.size 2 n (c' - 1) ⟨g1, 0, none⟩ n cap (by rfl) (by rfl) (splice zs 0 [.int .i64 x.f0, .int .i64 x.f1]) 27 HB2.out (cur.take (n * 2)) ?h1 ?h2 ?h3 HO.out ?_
  case h1 => rw [List.length_take, HS.out, show Nat.min n n = n from Nat.min_self n]; omega
  case h2 => exact row_cells (fun _ => HG12.out) (fun j v h => take_some h)
  case h3 => rw [List.length_take, HS.out, HZ2.out]; omega
  intro w3 hw3
  have HB3 := Lib.hid (show w3.heap[w.heap.size]? = some (.cells (splice (splice zs 0 [.int .i64 x.f0, .int .i64 x.f1]) 2 (cur.take (n * 2))).toArray 27 (0, 0)) by rw [hw3]; exact setRow_heap _ _ _ _ 27 _ HB2.out)
  have HBel3 := Lib.hid (show Below w.heap.size w w3 by rw [hw3]; exact below_setRow HBel.out.drew (Nat.le_refl _) _)
  clear hw3 HB2 HBel hw1 hle1 hle0
  go_wp2_with fail
  go_ret
  refine ⟨c', zs.drop (2 + n * 2), rfl, HBel3.out, hc1, HMX.out, ?_, ?_⟩
  · rw [HB3.out, splice_two _ _ _ _ (by rw [List.length_take, HS.out, HZL.out]; omega), show (cur.take (n * 2)).length = n * 2 by rw [List.length_take, HS.out]; omega]
  · rw [List.length_drop, HZL.out]; omega

/-- slices.Insert at place 0 of one mark. -/
theorem c28 (base : Nat) (sv : Value) (xs : List S27) (x : S27) (g : Nat) (w : World) (HO : Kd.R k27 27 w base (fun _ => True) sv xs) (hg : w.heap[g]? = some (.cells #[.int .i64 x.f0, .int .i64 x.f1] 27 (0, 0))) (hne : sv.ownBlock ≠ some g) (hbase : base ≤ w.heap.size) (hl : xs.length ≤ 100) :
    Calls Tryd.prog 28 #[sv, .int .i64 0, .slice (some ⟨g, 0, none⟩) 1 1] w fun e w' => ∃ v, e = .returned v ∧ Kd.R k27 27 w' base (fun _ => True) v (x :: xs) ∧ w.grownBy w' sv.ownBlock := by
  rcases Nat.eq_zero_or_pos xs.length with h0 | h0
  · obtain rfl := List.eq_nil_of_length_eq_zero h0
    exact c28_empty base sv x g w HO hg hbase
  · obtain ⟨g1, cap, cur, rfl, hb, hg1, hc, hm, hs, ht⟩ := R27_open HO h0
    have hne' : g ≠ g1 := fun e => hne (by rw [e]; rfl)
    have hg1' : w.heap[g1]? = some (.cells cur.toList.toArray 27 (0, 0)) := by simpa using hg1
    have hone : ∀ u ∈ cur.toList.take (xs.length * 2), u.oneCell' = true := by rw [ht]; exact cells27_one xs
    by_cases hr : xs.length + 1 ≤ cap
    · refine (c28_room xs.length cap g1 cur.toList x g w hg1' hg hne' h0 hr hm (by simpa using hs) hone).mono ?_
      rintro e w' ⟨rfl, hgr, hh⟩
      refine ⟨_, rfl, R27_mk (x :: xs) hh hb rfl hr hm ?_ ?_, hgr⟩
      · rw [List.size_toArray, splice_two' _ _ _ _ (by simp [hs]; omega)]
        simp [hs]
        omega
      · rw [splice_two' _ _ _ _ (by simp [hs]; omega), ht, show (xs.length + 1) * 2 = 2 + (cells27 xs).length by rw [length_cells27]; omega]
        simp [cells27_cons, Nat.add_comm 2]
    · refine (c28_grow xs.length cap g1 cur.toList x g w hg1' hg hne' h0 hl hc (by omega) (by simpa using hs) hone).mono ?_
      rintro e w' ⟨cap', rest, rfl, hbel, h1, h2, hh, hlen⟩
      refine ⟨_, rfl, R27_mk (x :: xs) hh hbase rfl h1 h2 ?_ ?_, grown_of_below hbel _⟩
      · rw [List.size_toArray]
        simp [hs]
        omega
      · rw [ht, show (xs.length + 1) * 2 = 2 + (cells27 xs).length by rw [length_cells27]; omega]
        simp [cells27_cons, Nat.add_comm 2]
end Go.Proofs.YtnlilbkddjcjdaaDoor.Fa
