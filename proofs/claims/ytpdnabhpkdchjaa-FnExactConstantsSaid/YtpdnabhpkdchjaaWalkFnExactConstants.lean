/- The walk of the law FnExactConstants: the call returns true; there are no conditions. -/
import Derived.Test.YtpdnabhpkdchjaaArgs
namespace Go.Proofs.Ytpdnabhpkdchjaa.WalkFnExactConstants
open Go.RowKit Go.Proofs.YtpdnabhpkdchjaaW.PrintWords
theorem walk (w : World) : Calls Try.prog 3 #[] w fun e w' => e = .returned (.bool true) ∧ Below w.heap.size w w' := by
  go_enter Try.func3, Try.ntmps3
  go_wp2
  go_ret
  exact ⟨rfl, Below.refl _ _⟩
end Go.Proofs.Ytpdnabhpkdchjaa.WalkFnExactConstants
