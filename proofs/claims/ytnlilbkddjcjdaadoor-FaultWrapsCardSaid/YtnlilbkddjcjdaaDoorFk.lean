/-
  PLAIN LAWS: what the reference's functions compute is what the program's functions compute.
-/
import Derived.Test.YtnlilbkddjcjdaaDoorFj
namespace Go.Proofs.YtnlilbkddjcjdaaDoor.Fa
open Go.RowKit Go.Proofs.YtnlilbkddjcjdaaDoorW.PrintWords Go.Proofs.YtnlilbkddjcjdaaDoor.PFaultWraps

theorem twin_f (c : Int) (l : List S27) (hl : l.length ≤ 100) : thimblerigref06_Twin.f c l = some (c, l) := by
  unfold thimblerigref06_Twin.f
  simp only [Option.bind_some, List.nil_append, List.length_nil]
  rw [if_pos (by omega)]

theorem marks_f (c : Int) (l : List S27) (hl : l.length ≤ 1000) (d : Nat) : ∀ (k i : Nat), i + d = l.length → d < k → thimblerigref06_May.l1 k (i : Int) c l = some ((l.drop i).all okM) := by
  induction d with
  | zero =>
    intro k i hi hk
    obtain ⟨k, rfl⟩ : ∃ m, k = m + 1 := ⟨k - 1, by omega⟩
    simp only [thimblerigref06_May.l1]
    rw [if_neg (by omega), List.drop_of_length_le (by omega)]
    rfl
  | succ d ih =>
    intro k i hi hk
    obtain ⟨k, rfl⟩ : ∃ m, k = m + 1 := ⟨k - 1, by omega⟩
    have hlt : i < l.length := by omega
    have hw : wrap64 ((i : Int) + 1) = ((i + 1 : Nat) : Int) := by unfold wrap64; omega
    simp only [thimblerigref06_May.l1]
    rw [if_pos (by omega), if_pos (by omega), refmark_f, rd_nat l hlt, List.drop_eq_getElem_cons hlt, List.all_cons, hw]
    cases ho : okM l[i]
    · simp
    · rw [Option.bind_some, if_pos rfl, ih k (i + 1) (by omega) (by omega)]
      rfl

theorem codes_f (c : Int) (l : List S27) (xs : List Int) (hx : xs.length ≤ 1000) (d : Nat) : ∀ (k i : Nat) (b : Bool), i + d = xs.length →
    thimblerigref06_May.l0 (k + d + 1) b xs (i : Int) c l = thimblerigref06_May.j1 k (if b || (xs.drop i).any (c == ·) then decide ((l.length : Int) > 8) else true) c l := by
  induction d with
  | zero =>
    intro k i b hi
    simp only [thimblerigref06_May.l0]
    rw [if_neg (by omega), List.drop_of_length_le (by omega)]
    cases b <;> simp
  | succ d ih =>
    intro k i b hi
    have hlt : i < xs.length := by omega
    have hrd : rd xs (i : Int) = xs[i] := by simp [rd, List.getD_eq_getElem?_getD, List.getElem?_eq_getElem hlt]
    have hw : wrap64 ((i : Int) + 1) = ((i + 1 : Nat) : Int) := by unfold wrap64; omega
    rw [show k + (d + 1) + 1 = (k + d + 1) + 1 from by omega, thimblerigref06_May.l0, if_pos (by omega), hw, List.drop_eq_getElem_cons hlt, List.any_cons]
    cases b
    · rw [if_neg (by decide), if_pos (by omega), hrd, ih k (i + 1) _ (by omega)]
      simp
    · rw [if_pos rfl, ih k (i + 1) _ (by omega)]
      simp

theorem may_f (c : Int) (l : List S27) (hl : l.length ≤ 20) : thimblerigref06_May.f 60 c l = some (mayF c l) := by
  unfold thimblerigref06_May.f thimblerigref06_codes.f
  rw [Option.bind_some]
  have h := codes_f c l known (by decide) 13 46 0 false rfl
  rw [show ((0 : Nat) : Int) = 0 from rfl] at h
  rw [show (60 : Nat) = 46 + 13 + 1 from rfl]
  refine h.trans ?_
  have hk : (false || (known.drop 0).any (c == ·)) = isKnown c := by
    unfold isKnown
    simp [known]
    try rw [Bool.eq_iff_iff]; simp
  rw [hk, thimblerigref06_May.j1]
  unfold mayF
  cases hkn : isKnown c
  · simp
  · by_cases h8 : l.length ≤ 8
    · have hm := marks_f c l (by omega) l.length 45 0 (by omega) (by omega)
      rw [show ((0 : Nat) : Int) = 0 from rfl] at hm
      simp [h8]
      rw [if_neg (by omega)]
      simpa using hm
    · simp [h8]
      omega

theorem check_f (c : Int) (l : List S27) (hl : l.length ≤ 20) : thimblerigref06_Check.f 60 c l = some (chkF c l) := by
  unfold thimblerigref06_Check.f chkF
  rw [may_f c l hl, Option.bind_some]
  cases mayF c l <;> rfl

theorem wrap_f (c : Int) (l : List S27) (m : S27) (hl : l.length ≤ 20) : thimblerigref06_Wrap.f 60 c l m.f0 m.f1 = some (wrapF c l m) := by
  unfold thimblerigref06_Wrap.f wrapF
  rw [may_f c l hl, Option.bind_some]
  cases hm : mayF c l
  · simp [thimblerigref06_Wrap.j0]
  · have h8 : l.length ≤ 8 := by unfold mayF at hm; simp at hm; omega
    simp only [if_true, refmark_f, Option.bind_some, thimblerigref06_Wrap.j0]
    cases okM m
    · simp
    · by_cases h : l.length = 8
      · simp [h]
      · rw [if_neg (by decide), if_neg (by omega)]
        simp [h]
        omega

theorem open_f (c : Int) (l : List S27) (hl : l.length ≤ 20) : thimblerigref06_Open.f 60 c l = some ((openF c l).1.1, (openF c l).1.2, (openF c l).2.1.f0, (openF c l).2.1.f1, (openF c l).2.2) := by
  unfold thimblerigref06_Open.f openF
  rw [may_f c l hl, Option.bind_some]
  cases mayF c l
  · simp
  · cases l with
    | nil => simp
    | cons m r =>
      have h0 : rd_T27 (m :: r) 0 = m := rd_nat (m :: r) (k := 0) (by simp)
      simp at hl
      have hlt : r.length < 8796093022208 := by omega
      simp [h0, hlt]
      rw [if_neg (by omega), if_pos (by omega)]

theorem same_f (c : Int) (l : List S27) (hl : l.length ≤ 50) (d : Nat) : ∀ (k i : Nat), i + d = l.length → d < k → thimblerigref06_Same.l0 k (i : Int) c l c l = some true := by
  induction d with
  | zero =>
    intro k i hi hk
    obtain ⟨k, rfl⟩ : ∃ m, k = m + 1 := ⟨k - 1, by omega⟩
    simp only [thimblerigref06_Same.l0]
    rw [if_neg (by omega)]
    simp
  | succ d ih =>
    intro k i hi hk
    obtain ⟨k, rfl⟩ : ∃ m, k = m + 1 := ⟨k - 1, by omega⟩
    have hw : wrap64 ((i : Int) + 1) = ((i + 1 : Nat) : Int) := by unfold wrap64; omega
    simp only [thimblerigref06_Same.l0]
    rw [if_pos (by omega), if_pos (by omega), if_pos (by omega), hw, ih k (i + 1) (by omega) (by omega)]
    simp
theorem same_self (c : Int) (l : List S27) (hl : l.length ≤ 50) : thimblerigref06_Same.f 60 c l c l = some true := by
  unfold thimblerigref06_Same.f
  rw [if_pos rfl]
  exact same_f c l hl l.length 60 0 (by omega) (by omega)

theorem wrapF_len (c : Int) (l : List S27) (m : S27) (hl : l.length ≤ 20) : (wrapF c l m).2.1.length ≤ 21 := by
  unfold wrapF
  repeat' split
  all_goals (simp; try omega)
theorem openF_len (c : Int) (l : List S27) (hl : l.length ≤ 20) : (openF c l).1.2.length ≤ 20 := by
  unfold openF
  repeat' split
  all_goals (simp; try (simp at hl; omega))
end Go.Proofs.YtnlilbkddjcjdaaDoor.Fa
