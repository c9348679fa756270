/- ViewUntil: the law. -/
import Derived.Test.YtkiofjedeecijaaVw11
namespace Go.SX
open Go Go.RowKit Go.Proofs
set_option linter.unusedVariables false
theorem ViewUntil_law (A : Option Addr) (c : Nat) (ss : List SH) (st : Int) (hsc : ∀ s ∈ ss, s.bs.length ≤ s.c) :
    Spec Try.prog 4 [.slice A ss.length c, .int .i64 st] [] [sliceC A c 4 ss.length (recs SH.cells ss), allC (ss.map SH.rd)] (fun v l' => v = .bool true ∧ l' = []) := by
  refine ((ViewUntil_core A c ss st hsc _ rfl (rows_made ss _ (Nat.min_le_right _ _))).frame (l := []) (l1 := []) .nil ?_).mono fun v l' ⟨l2, ⟨h1, h2⟩, h3⟩ => ⟨h1, by rw [h3, h2]; rfl⟩
  exact .cons (.here (Sub.refl _)) (.cons (.there (.here (Sub.refl _))) (.cons (.there (.here (made_sub ss _ (Nat.min_le_left _ _)))) .nil))
end Go.SX
