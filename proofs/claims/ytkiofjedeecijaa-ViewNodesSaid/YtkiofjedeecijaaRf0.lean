/- Helpers of the reference, and of the library: Bring, EqBytes, CopyBytes, Clone. -/
import Derived.Test.YtkiofjedeecijaaTy
namespace Go.SX
open Go Go.RowKit Go.Proofs
set_option linter.unusedVariables false
set_option linter.unusedSimpArgs false
set_option maxHeartbeats 4000000
theorem bring_arith (i n : Int) (h : 0 < n) : (-n < i.tmod n ∧ i.tmod n < n) ∧ (0 ≤ i.tmod n → i.tmod n = i % n) ∧ (i.tmod n < 0 → i.tmod n + n = i % n) ∧ 0 ≤ i % n ∧ i % n < n := by
  refine ⟨⟨by have := Int.lt_tmod_of_pos i h; omega, Int.tmod_lt_of_pos i h⟩, ?_⟩
  have h1 := Int.emod_nonneg i (show n ≠ 0 by omega)
  have h2 := Int.emod_lt_of_pos i h
  rw [Int.tmod_eq_emod]
  split
  · refine ⟨?_, ?_, ?_, ?_⟩ <;> (try intro _) <;> omega
  · refine ⟨?_, ?_, ?_, ?_⟩ <;> (try intro _) <;> omega
theorem Bring_spec (i n : Int) (h : 0 < n ∧ n ≤ 9223372036854775807) : Spec Try.prog 14 [.int .i64 i, .int .i64 n] [] [] (fun v l' => (∃ m, v = .int .i64 m ∧ m = i % n ∧ 0 ≤ m ∧ m < n) ∧ l' = []) := by
  obtain ⟨hb, he⟩ := bring_arith i n h.1
  refine Spec.intro Try.func14 rfl rfl Try.ntmps14 rfl fun w0 => ?_
  (all_goals (refine WC.auto ?_; (conv => whnf))); repeat' (first
          | ((with_reducible refine WB.auto ?_); (conv => whnf))
          | ((with_reducible refine WCB.auto ?_); (conv => whnf))
          | ((with_reducible refine Ob.at ?_); first | (refine Ob.mk (by first | omega | exact u8_bound _ | (have := u8_bound; omega) | (simp only [List.length_drop, List.length_take, List.length_append, List.length_replicate, List.length_set, List.length_cons, List.length_nil, Nat.min_def]; omega)) ?_; (conv => whnf)) | (refine Ob.mk' ?_ ?_; (conv => whnf)))
          | (refine spl_mk (fun hc => ?_) (fun hc => ?_) <;> (try simp only [Bool.not_eq_false', and_self, and_true, true_and, not_true, Bool.not_eq_true', Bool.not_false, Bool.not_true, decide_eq_true_eq, decide_eq_false_iff_not, Bool.false_eq_true, reduceCtorEq, Bool.true_eq_false, ne_eq, Decidable.not_not, Int.not_lt, Int.not_le, beq_self_eq_true, eq_self, not_true_eq_false, not_false_eq_true, Bool.not_eq_eq_eq_not, Bool.not_eq_true, Bool.not_eq_false, beq_iff_eq, beq_eq_false_iff_ne] at hc) <;> (try (exfalso; omega)) <;> (conv => whnf))
          | ((with_reducible refine NatK.at ?_); first | ((with_reducible refine NatK.cast ?_); (conv => whnf)) | (refine NatK.sym (by first | omega | exact u8_bound _ | (have := u8_bound; omega) | (simp only [List.length_drop, List.length_take, List.length_append, List.length_replicate, List.length_set, List.length_cons, List.length_nil, Nat.min_def]; omega)) (fun m hm => ?_); (conv => whnf)))
          | (intro q hq; (conv => whnf))
          | ((with_reducible refine W.at 7 ?_); first | (refine W.ev (Ev.rem rfl rfl (by omega)) rfl rfl rfl ?_; all_goals ((refine W.auto ?_); (conv => whnf))) | (refine W.ev (Ev.remt rfl rfl (by omega)) rfl rfl rfl ?_; all_goals ((refine W.auto ?_); (conv => whnf))))
          | refine Exists.intro _ (And.intro (resv_rfl rfl) ?_))
  all_goals first | exact ⟨_, ⟨⟨_, rfl, by omega⟩, rfl⟩, _, pksA⟩ | skip

end Go.SX
