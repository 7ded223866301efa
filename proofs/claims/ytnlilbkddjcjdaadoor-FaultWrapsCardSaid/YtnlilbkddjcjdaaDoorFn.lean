/-
  PROVED: the tied card of FaultWraps: wherever the arguments can be read as data and the variable errors.errorType holds what the program's own text lays in it, thimbleriglaw06.FaultWraps returns true, and both arguments read afterwards as they read before.
-/
import Derived.Test.YtnlilbkddjcjdaaDoorFm
import Derived.Test.YtnlilbkddjcjdaaDoorTie
import Derived.Test.YtnlilbkddjcjdaaDoorCards
import Derived.SevenTiedAt
namespace Go.Proofs.YtnlilbkddjcjdaaDoor
open Go

theorem faultWraps_card : Rows.FaultWrapsCardSaid :=
  Claim7.holds_tied_plain_at .later [] [.handle] true (true, "a8cbc8076a308a26c1a4b4239d0fbc1326cc170d1fae25e07ab08d1052b858d0") true
    Fa.faultWraps_holds (fun _ h => by cases h) (by kernel_rfl) (fun _ h => by cases h) faultWraps_row_tie rfl ⟨rfl, rfl⟩ (by kernel_rfl) rfl
    (fun f fn hf hfn => by
      obtain rfl : f = 3 := Option.some.inj ((show Tryd.prog.funcNamed "thimblerig/thimbleriglaw06.FaultWraps" = some 3 by kernel_rfl).symm.trans hf) |>.symm
      obtain rfl : fn = Tryd.f3 := (Option.some.inj (Tryd.func3.symm.trans hfn)).symm
      exact ⟨by kernel_rfl, fun j t ht => by
        rw [Tryd.params3] at ht
        have hm : t ∈ [25, 27] := by simpa using Array.mem_of_getElem? ht
        have hall : ([25, 27].all fun u => !Tryd.prog.wantsStandIn u) = true := by kernel_rfl
        exact (show Tryd.prog.wantsStandIn t = false by simpa using List.all_eq_true.1 hall t hm)⟩)
    (by kernel_rfl)
#print axioms faultWraps_card
end Go.Proofs.YtnlilbkddjcjdaaDoor
