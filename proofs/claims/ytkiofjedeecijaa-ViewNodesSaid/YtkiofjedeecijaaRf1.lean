/- Bytes compared, and cloned. -/
import Derived.Test.YtkiofjedeecijaaRf0
namespace Go.SX
open Go Go.RowKit Go.Proofs
set_option linter.unusedVariables false
set_option linter.unusedSimpArgs false
set_option maxHeartbeats 4000000
theorem eqStr (xs ys : List UInt8) : ((⟨xs.toArray⟩ : ByteArray).toList == (⟨ys.toArray⟩ : ByteArray).toList) = decide (xs = ys) := by
  rw [ByteArray.toList_eq, ByteArray.toList_eq]
  by_cases h : xs = ys <;> simp [h]
theorem EqBytes_spec (A B : Option Addr) (c n d m : Nat) (xs ys : List UInt8) : Spec Try.prog 12 [.slice A n c, .slice B m d] [] [bR A c n xs, bR B d m ys] (fun v l' => v = .bool (decide (xs = ys)) ∧ l' = []) := by
  refine Spec.intro Try.func12 rfl rfl Try.ntmps12 rfl fun w0 => ?_
  (all_goals (refine WC.auto ?_; (conv => whnf))); repeat' (first
          | ((with_reducible refine WB.auto ?_); (conv => whnf))
          | ((with_reducible refine WCB.auto ?_); (conv => whnf))
          | ((with_reducible refine Ob.at ?_); first | (refine Ob.mk (by first | omega | exact u8_bound _ | (have := u8_bound; omega) | (simp only [List.length_drop, List.length_take, List.length_append, List.length_replicate, List.length_set, List.length_cons, List.length_nil, Nat.min_def]; omega)) ?_; (conv => whnf)) | (refine Ob.mk' ?_ ?_; (conv => whnf)))
          | (refine spl_mk (fun hc => ?_) (fun hc => ?_) <;> (try simp only [Bool.not_eq_false', and_self, and_true, true_and, not_true, Bool.not_eq_true', Bool.not_false, Bool.not_true, decide_eq_true_eq, decide_eq_false_iff_not, Bool.false_eq_true, reduceCtorEq, Bool.true_eq_false, ne_eq, Decidable.not_not, Int.not_lt, Int.not_le, beq_self_eq_true, eq_self, not_true_eq_false, not_false_eq_true, Bool.not_eq_eq_eq_not, Bool.not_eq_true, Bool.not_eq_false, beq_iff_eq, beq_eq_false_iff_ne] at hc) <;> (try (exfalso; omega)) <;> (conv => whnf))
          | ((with_reducible refine NatK.at ?_); first | ((with_reducible refine NatK.cast ?_); (conv => whnf)) | (refine NatK.sym (by first | omega | exact u8_bound _ | (have := u8_bound; omega) | (simp only [List.length_drop, List.length_take, List.length_append, List.length_replicate, List.length_set, List.length_cons, List.length_nil, Nat.min_def]; omega)) (fun m hm => ?_); (conv => whnf)))
          | (intro q hq; (conv => whnf))
          | ((with_reducible refine W.at 6 ?_); first | (refine W.ev (Ev.toStr rfl rdA) rfl rfl rfl ?_; all_goals ((refine W.auto ?_); (conv => whnf))))
          | ((with_reducible refine W.at 8 ?_); first | (refine W.ev (Ev.toStr rfl rdA) rfl rfl rfl ?_; all_goals ((refine W.auto ?_); (conv => whnf))))
          | refine Exists.intro _ (And.intro (resv_rfl rfl) ?_))
  all_goals first | exact ⟨_, ⟨congrArg Value.bool (eqStr _ _), rfl⟩, _, pksA⟩ | skip

end Go.SX
