/- Clone. -/
import Derived.Test.YtkiofjedeecijaaRf1
namespace Go.SX
open Go Go.RowKit Go.Proofs
set_option linter.unusedVariables false
set_option linter.unusedSimpArgs false
set_option maxHeartbeats 4000000
theorem Clone_spec (A : Option Addr) (c n : Nat) (bs : List UInt8) (hb : n ≤ 140737488351232) :
    Spec Try.prog 50 [.slice A n c] [] [bR A c n bs] (fun v l' => ∃ A' c', v = .slice A' n c' ∧ l' = [bO A' c' 5 n bs]) := by
  refine Spec.fact (Rd.here (Sub.refl _)) bR_len fun hl => ?_
  cases A with
  | none =>
    refine Spec.fact (Rd.here (Sub.refl _)) (sliceC_nil rfl) fun hb0 => ?_
    obtain rfl : bs = [] := by simpa [u8s] using hb0
    obtain rfl : n = 0 := by simpa using hl.1.symm
    refine Spec.intro Try.func50 rfl rfl Try.ntmps50 rfl fun w0 => ?_
    (all_goals (refine WC.auto ?_; (conv => whnf))); repeat' (first
          | ((with_reducible refine WB.auto ?_); (conv => whnf))
          | ((with_reducible refine WCB.auto ?_); (conv => whnf))
          | ((with_reducible refine Ob.at ?_); first | (refine Ob.mk (by first | omega | exact u8_bound _ | (have := u8_bound; omega) | (simp only [List.length_drop, List.length_take, List.length_append, List.length_replicate, List.length_set, List.length_cons, List.length_nil, Nat.min_def]; omega)) ?_; (conv => whnf)) | (refine Ob.mk' ?_ ?_; (conv => whnf)))
          | (refine spl_mk (fun hc => ?_) (fun hc => ?_) <;> (try simp only [Bool.not_eq_false', and_self, and_true, true_and, not_true, Bool.not_eq_true', Bool.not_false, Bool.not_true, decide_eq_true_eq, decide_eq_false_iff_not, Bool.false_eq_true, reduceCtorEq, Bool.true_eq_false, ne_eq, Decidable.not_not, Int.not_lt, Int.not_le, beq_self_eq_true, eq_self, not_true_eq_false, not_false_eq_true, Bool.not_eq_eq_eq_not, Bool.not_eq_true, Bool.not_eq_false, beq_iff_eq, beq_eq_false_iff_ne] at hc) <;> (try (exfalso; omega)) <;> (conv => whnf))
          | ((with_reducible refine NatK.at ?_); first | ((with_reducible refine NatK.cast ?_); (conv => whnf)) | (refine NatK.sym (by first | omega | exact u8_bound _ | (have := u8_bound; omega) | (simp only [List.length_drop, List.length_take, List.length_append, List.length_replicate, List.length_set, List.length_cons, List.length_nil, Nat.min_def]; omega)) (fun m hm => ?_); (conv => whnf)))
          | (intro q hq; (conv => whnf))
          | ((with_reducible refine W.at 5 ?_); first | ((refine W.stp (Stp.buildB [] rfl rfl rfl rfl rfl) rfl rfl rfl ?_; rintro _ _ ⟨g5, rfl, rfl⟩); all_goals ((refine W.auto ?_); (conv => whnf))))
          | ((with_reducible refine W.at 7 ?_); first | ((refine W.stp (Stp.copyB rfl rfl rdA rfl (by omega) (by omega)) rfl rfl rfl ?_; rintro _ _ ⟨A2, c2, rfl, rfl⟩); all_goals ((refine W.auto ?_); (conv => whnf))) | ((refine W.stp (Stp.appendB rfl rfl pkA rdA rfl (by omega) (by omega)) rfl rfl rfl ?_; rintro _ _ ⟨A2, c2, rfl, rfl⟩); all_goals ((refine W.auto ?_); (conv => whnf))))
          | refine Exists.intro _ (And.intro (resv_rfl rfl) ?_))
    all_goals first | exact ⟨_, ⟨_, _, rfl, rfl⟩, _, pksA⟩ | skip
  | some a =>
    refine Spec.intro Try.func50 rfl rfl Try.ntmps50 rfl fun w0 => ?_
    (all_goals (refine WC.auto ?_; (conv => whnf))); repeat' (first
          | ((with_reducible refine WB.auto ?_); (conv => whnf))
          | ((with_reducible refine WCB.auto ?_); (conv => whnf))
          | ((with_reducible refine Ob.at ?_); first | (refine Ob.mk (by first | omega | exact u8_bound _ | (have := u8_bound; omega) | (simp only [List.length_drop, List.length_take, List.length_append, List.length_replicate, List.length_set, List.length_cons, List.length_nil, Nat.min_def]; omega)) ?_; (conv => whnf)) | (refine Ob.mk' ?_ ?_; (conv => whnf)))
          | (refine spl_mk (fun hc => ?_) (fun hc => ?_) <;> (try simp only [Bool.not_eq_false', and_self, and_true, true_and, not_true, Bool.not_eq_true', Bool.not_false, Bool.not_true, decide_eq_true_eq, decide_eq_false_iff_not, Bool.false_eq_true, reduceCtorEq, Bool.true_eq_false, ne_eq, Decidable.not_not, Int.not_lt, Int.not_le, beq_self_eq_true, eq_self, not_true_eq_false, not_false_eq_true, Bool.not_eq_eq_eq_not, Bool.not_eq_true, Bool.not_eq_false, beq_iff_eq, beq_eq_false_iff_ne] at hc) <;> (try (exfalso; omega)) <;> (conv => whnf))
          | ((with_reducible refine NatK.at ?_); first | ((with_reducible refine NatK.cast ?_); (conv => whnf)) | (refine NatK.sym (by first | omega | exact u8_bound _ | (have := u8_bound; omega) | (simp only [List.length_drop, List.length_take, List.length_append, List.length_replicate, List.length_set, List.length_cons, List.length_nil, Nat.min_def]; omega)) (fun m hm => ?_); (conv => whnf)))
          | (intro q hq; (conv => whnf))
          | ((with_reducible refine W.at 5 ?_); first | ((refine W.stp (Stp.buildB [] rfl rfl rfl rfl rfl) rfl rfl rfl ?_; rintro _ _ ⟨g5, rfl, rfl⟩); all_goals ((refine W.auto ?_); (conv => whnf))))
          | ((with_reducible refine W.at 7 ?_); first | ((refine W.stp (Stp.copyB rfl rfl rdA rfl (by omega) (by omega)) rfl rfl rfl ?_; rintro _ _ ⟨A2, c2, rfl, rfl⟩); all_goals ((refine W.auto ?_); (conv => whnf))) | ((refine W.stp (Stp.appendB rfl rfl pkA rdA rfl (by omega) (by omega)) rfl rfl rfl ?_; rintro _ _ ⟨A2, c2, rfl, rfl⟩); all_goals ((refine W.auto ?_); (conv => whnf))))
          | refine Exists.intro _ (And.intro (resv_rfl rfl) ?_))
    all_goals (simp only [Nat.zero_add, List.nil_append]; (first | exact ⟨_, ⟨_, _, rfl, rfl⟩, _, pksA⟩ | skip))

end Go.SX
