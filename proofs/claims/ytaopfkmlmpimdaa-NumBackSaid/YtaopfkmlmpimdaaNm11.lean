/- Numbers: the chapter's numbers. -/
import Derived.Test.YtaopfkmlmpimdaaNm10
namespace Go.SX
open Go Go.RowKit Go.Proofs
set_option linter.unusedVariables false
set_option linter.unusedSimpArgs false
set_option maxHeartbeats 4000000






theorem wk_num : nwNum ⟨[], 0⟩ 2 258 = ⟨[1, 2], 0⟩ := rfl
theorem wk_cnt : nwCount ⟨[1, 2], 0⟩ 300 = ⟨[1, 2, 130, 44], 0⟩ := by
  have h : cntB 300 = [130, 44] := by
    unfold cntB
    rw [show (300 : Int) / 128 = 2 by decide, hiI_pos (by omega), show (2 : Int) / 128 = 0 by decide, hiI_zero (by omega)]; rfl
  unfold nwCount; rw [h]; rfl
theorem wk_txt : nwText ⟨[1, 2, 130, 44], 0⟩ [97, 98] = ⟨[1, 2, 130, 44, 2, 97, 98], 0⟩ := by
  have h : cntB 2 = [2] := by
    unfold cntB
    rw [show (2 : Int) / 128 = 0 by decide, hiI_zero (by omega)]; rfl
  unfold nwText nwCount
  rw [show (([97, 98] : List UInt8).length : Int) = 2 from rfl, h]; rfl
theorem wk_n1 : nwNum ⟨[], 0⟩ 3 1 = ⟨[], 2⟩ := rfl
theorem wk_n2 : nwNum ⟨[], 0⟩ 1 256 = ⟨[], 9⟩ := rfl
theorem wk_n3 : nwCount ⟨[], 0⟩ (-1) = ⟨[], 9⟩ := by unfold nwCount; rw [show cntErr (-1) = 9 from rfl, nwPut_bad _ _ (by decide) _ []]; rfl
theorem wk_r1 : nrCount ⟨[128, 1], 0⟩ 9 = (0, ⟨[], 4⟩) := rfl
theorem wk_r2 : nrCount ⟨[130], 0⟩ 9 = (0, ⟨[], 3⟩) := rfl
theorem wk_r3 : nrCount ⟨[10], 0⟩ 9 = (0, ⟨[], 5⟩) := rfl
theorem wrong_spec (g : Nat) (a : NWA) (s : NW) (h : s.b.length ≤ 1000000000) : Spec Try.prog 49 [.pointer (some ⟨g, 0, none⟩)] [] [nwC g a s] (fun v l' => v = .int .i64 s.e ∧ l' = []) := by
  refine Spec.intro Try.func49 rfl rfl Try.ntmps49 rfl fun w0 => ?_
  (all_goals (refine WC.auto ?_; (conv => whnf))); repeat' (first
          | ((with_reducible refine WB.auto ?_); (conv => whnf))
          | ((with_reducible refine WCB.auto ?_); (conv => whnf))
          | ((with_reducible refine Ob.at ?_); first | (refine Ob.mk (by first | omega | exact u8_bound _ | (have := u8_bound; omega) | (simp only [List.length_drop, List.length_take, List.length_append, List.length_replicate, List.length_set, List.length_cons, List.length_nil, Nat.min_def]; omega)) ?_; (conv => whnf)) | (refine Ob.mk' ?_ ?_; (conv => whnf)))
          | (refine spl_mk (fun hc => ?_) (fun hc => ?_) <;> (try simp only [Bool.not_eq_false', and_self, and_true, true_and, not_true, Bool.not_eq_true', Bool.not_false, Bool.not_true, decide_eq_true_eq, decide_eq_false_iff_not, Bool.false_eq_true, reduceCtorEq, Bool.true_eq_false, ne_eq, Decidable.not_not, Int.not_lt, Int.not_le, beq_self_eq_true, eq_self, not_true_eq_false, not_false_eq_true, Bool.not_eq_eq_eq_not, Bool.not_eq_true, Bool.not_eq_false, beq_iff_eq, beq_eq_false_iff_ne] at hc) <;> (try (exfalso; omega)) <;> (conv => whnf))
          | ((with_reducible refine NatK.at ?_); first | ((with_reducible refine NatK.cast ?_); (conv => whnf)) | (refine NatK.sym (by first | omega | exact u8_bound _ | (have := u8_bound; omega) | (simp only [List.length_drop, List.length_take, List.length_append, List.length_replicate, List.length_set, List.length_cons, List.length_nil, Nat.min_def]; omega)) (fun m hm => ?_); (conv => whnf)))
          | (intro q hq; (conv => whnf))
          | ((with_reducible refine W.at 7 ?_); first | ((first | (refine W.stp (Stp.cal rfl rfl (Bytes_spec _ _ _ h) pksA rdsA) rfl rfl rfl ?_; rintro _ _ ⟨_, ⟨A7, c7, k7, hk7, rfl, rfl⟩, rfl⟩) | (refine W.stp (Stp.cal rfl rfl (Spec.ask fun (hq : _) => Bytes_spec _ _ _ hq) pksA rdsA) rfl rfl rfl ?_; rintro _ _ ⟨_, ⟨A7, c7, k7, hk7, rfl, rfl⟩, rfl⟩)); all_goals ((refine W.auto ?_); (conv => whnf))))
          | refine Exists.intro _ (And.intro (resv_rfl rfl) ?_))
  all_goals first
    | (exfalso; rw [hk7] at hc; unfold nwOut at hc; rw [if_pos (by assumption)] at hc; simp at hc; done)
    | first | exact ⟨_, ⟨rfl, rfl⟩, _, pksA⟩ | skip
    | skip

theorem works_spec : Spec Try.prog 24 [] [] [] (fun v l' => v = .bool true ∧ l' = []) := by
  refine Spec.intro Try.func24 rfl rfl Try.ntmps24 rfl fun w0 => ?_
  (all_goals (refine WC.auto ?_; (conv => whnf))); repeat' (first
          | ((with_reducible refine WB.auto ?_); (conv => whnf))
          | ((with_reducible refine WCB.auto ?_); (conv => whnf))
          | ((with_reducible refine Ob.at ?_); first | (refine Ob.mk (by first | omega | exact u8_bound _ | (have := u8_bound; omega) | (simp only [List.length_drop, List.length_take, List.length_append, List.length_replicate, List.length_set, List.length_cons, List.length_nil, Nat.min_def]; omega)) ?_; (conv => whnf)) | (refine Ob.mk' ?_ ?_; (conv => whnf)))
          | (refine spl_mk (fun hc => ?_) (fun hc => ?_) <;> (try simp only [Bool.not_eq_false', and_self, and_true, true_and, not_true, Bool.not_eq_true', Bool.not_false, Bool.not_true, decide_eq_true_eq, decide_eq_false_iff_not, Bool.false_eq_true, reduceCtorEq, Bool.true_eq_false, ne_eq, Decidable.not_not, Int.not_lt, Int.not_le, beq_self_eq_true, eq_self, not_true_eq_false, not_false_eq_true, Bool.not_eq_eq_eq_not, Bool.not_eq_true, Bool.not_eq_false, beq_iff_eq, beq_eq_false_iff_ne] at hc) <;> (try (exfalso; omega)) <;> (conv => whnf))
          | ((with_reducible refine NatK.at ?_); first | ((with_reducible refine NatK.cast ?_); (conv => whnf)) | (refine NatK.sym (by first | omega | exact u8_bound _ | (have := u8_bound; omega) | (simp only [List.length_drop, List.length_take, List.length_append, List.length_replicate, List.length_set, List.length_cons, List.length_nil, Nat.min_def]; omega)) (fun m hm => ?_); (conv => whnf)))
          | (intro q hq; (conv => whnf))
          | ((with_reducible refine W.at 10 ?_); first | ((refine W.stp (Stp.cal rfl rfl (Write0_spec) pksA rdsA) rfl rfl rfl ?_; rintro _ _ ⟨_, ⟨g10, a10, rfl, rfl⟩, rfl⟩); all_goals ((refine W.auto ?_); (conv => whnf))))
          | ((with_reducible refine W.at 11 ?_); first | ((first | (refine W.stp (Stp.cal rfl rfl (Spec.ask fun (hq : _ ∧ _) => Num_spec _ _ _ _ _ hq.1 hq.2) pksA rdsA) rfl rfl rfl ?_; rintro _ _ ⟨_, ⟨a11, rfl, rfl⟩, rfl⟩; (first | rw [wk_num] | rw [wk_n1] | rw [wk_n2])) | (refine W.stp (Stp.cal rfl rfl (Spec.ask fun (hq : _ ∧ _) => Num_spec _ _ _ _ _ hq.1 hq.2) pksA rdsA) rfl rfl rfl ?_; rintro _ _ ⟨_, ⟨a11, rfl, rfl⟩, rfl⟩)); all_goals ((refine W.auto ?_); (conv => whnf))))
          | ((with_reducible refine W.at 12 ?_); first | ((first | (refine W.stp (Stp.cal rfl rfl (Spec.ask fun (hq : _ ∧ _) => Count_spec _ _ _ _ hq.1 hq.2) pksA rdsA) rfl rfl rfl ?_; rintro _ _ ⟨_, ⟨a12, rfl, rfl⟩, rfl⟩; (first | rw [wk_cnt] | rw [wk_n3])) | (refine W.stp (Stp.cal rfl rfl (Spec.ask fun (hq : _ ∧ _) => Count_spec _ _ _ _ hq.1 hq.2) pksA rdsA) rfl rfl rfl ?_; rintro _ _ ⟨_, ⟨a12, rfl, rfl⟩, rfl⟩)); all_goals ((refine W.auto ?_); (conv => whnf))))
          | ((with_reducible refine W.at 13 ?_); first | ((refine W.stp (Stp.buildB [97, 98] rfl rfl rfl rfl rfl) rfl rfl rfl ?_; rintro _ _ ⟨g13, rfl, rfl⟩); all_goals ((refine W.auto ?_); (conv => whnf))))
          | ((with_reducible refine W.at 14 ?_); first | ((refine W.stp (Stp.litB rfl pkA) rfl rfl rfl ?_; rintro _ _ ⟨rfl, rfl⟩); all_goals ((refine W.auto ?_); (conv => whnf))))
          | ((with_reducible refine W.at 15 ?_); first | ((refine W.stp (Stp.cal rfl rfl (Spec.ask fun (hq : _) => Text_spec _ _ _ _ _ _ _ rfl hq) pksA rdsA) rfl rfl rfl ?_; rintro _ _ ⟨_, ⟨a15, rfl, rfl⟩, rfl⟩; (rw [wk_txt])); all_goals ((refine W.auto ?_); (conv => whnf))))
          | ((with_reducible refine W.at 16 ?_); first | ((first | (refine W.stp (Stp.cal rfl rfl (Spec.ask fun (hq : _) => Bytes_spec _ _ _ hq) pksA rdsA) rfl rfl rfl ?_; rintro _ _ ⟨_, ⟨A16, c16, k16, hk16, rfl, rfl⟩, rfl⟩; (obtain rfl : k16 = 7 := hk16)) | (refine W.stp (Stp.cal rfl rfl (Spec.ask fun (hq : _) => Bytes_spec _ _ _ hq) pksA rdsA) rfl rfl rfl ?_; rintro _ _ ⟨_, ⟨A16, c16, k16, hk16, rfl, rfl⟩, rfl⟩)); all_goals ((refine W.auto ?_); (conv => whnf))))
          | ((with_reducible refine W.at 23 ?_); first | ((refine W.stp (Stp.buildB [1, 2, 130, 44, 2, 97, 98] rfl rfl rfl rfl rfl) rfl rfl rfl ?_; rintro _ _ ⟨g23, rfl, rfl⟩); all_goals ((refine W.auto ?_); (conv => whnf))))
          | ((with_reducible refine W.at 24 ?_); first | ((refine W.stp (Stp.cal rfl rfl (EqBytes_spec _ _ _ _ _ _ _ _) pksA rdsA) rfl rfl rfl ?_; rintro _ _ ⟨_, ⟨rfl, rfl⟩, rfl⟩); all_goals ((refine W.auto ?_); (conv => whnf))))
          | ((with_reducible refine W.at 26 ?_); first | ((refine W.stp (Stp.cal rfl rfl (Write0_spec) pksA rdsA) rfl rfl rfl ?_; rintro _ _ ⟨_, ⟨g26, a26, rfl, rfl⟩, rfl⟩); all_goals ((refine W.auto ?_); (conv => whnf))))
          | ((with_reducible refine W.at 27 ?_); first | ((first | (refine W.stp (Stp.cal rfl rfl (Spec.ask fun (hq : _ ∧ _) => Num_spec _ _ _ _ _ hq.1 hq.2) pksA rdsA) rfl rfl rfl ?_; rintro _ _ ⟨_, ⟨a27, rfl, rfl⟩, rfl⟩; (first | rw [wk_num] | rw [wk_n1] | rw [wk_n2])) | (refine W.stp (Stp.cal rfl rfl (Spec.ask fun (hq : _ ∧ _) => Num_spec _ _ _ _ _ hq.1 hq.2) pksA rdsA) rfl rfl rfl ?_; rintro _ _ ⟨_, ⟨a27, rfl, rfl⟩, rfl⟩)); all_goals ((refine W.auto ?_); (conv => whnf))))
          | ((with_reducible refine W.at 28 ?_); first | ((refine W.stp (Stp.cal rfl rfl (Spec.ask fun (hq : _) => wrong_spec _ _ _ hq) pksA rdsA) rfl rfl rfl ?_; rintro _ _ ⟨_, ⟨rfl, rfl⟩, rfl⟩); all_goals ((refine W.auto ?_); (conv => whnf))))
          | ((with_reducible refine W.at 31 ?_); first | ((refine W.stp (Stp.cal rfl rfl (Write0_spec) pksA rdsA) rfl rfl rfl ?_; rintro _ _ ⟨_, ⟨g31, a31, rfl, rfl⟩, rfl⟩); all_goals ((refine W.auto ?_); (conv => whnf))))
          | ((with_reducible refine W.at 32 ?_); first | ((first | (refine W.stp (Stp.cal rfl rfl (Spec.ask fun (hq : _ ∧ _) => Num_spec _ _ _ _ _ hq.1 hq.2) pksA rdsA) rfl rfl rfl ?_; rintro _ _ ⟨_, ⟨a32, rfl, rfl⟩, rfl⟩; (first | rw [wk_num] | rw [wk_n1] | rw [wk_n2])) | (refine W.stp (Stp.cal rfl rfl (Spec.ask fun (hq : _ ∧ _) => Num_spec _ _ _ _ _ hq.1 hq.2) pksA rdsA) rfl rfl rfl ?_; rintro _ _ ⟨_, ⟨a32, rfl, rfl⟩, rfl⟩)); all_goals ((refine W.auto ?_); (conv => whnf))))
          | ((with_reducible refine W.at 33 ?_); first | ((refine W.stp (Stp.cal rfl rfl (Spec.ask fun (hq : _) => wrong_spec _ _ _ hq) pksA rdsA) rfl rfl rfl ?_; rintro _ _ ⟨_, ⟨rfl, rfl⟩, rfl⟩); all_goals ((refine W.auto ?_); (conv => whnf))))
          | ((with_reducible refine W.at 37 ?_); first | ((refine W.stp (Stp.cal rfl rfl (Write0_spec) pksA rdsA) rfl rfl rfl ?_; rintro _ _ ⟨_, ⟨g37, a37, rfl, rfl⟩, rfl⟩); all_goals ((refine W.auto ?_); (conv => whnf))))
          | ((with_reducible refine W.at 38 ?_); first | ((first | (refine W.stp (Stp.cal rfl rfl (Spec.ask fun (hq : _ ∧ _) => Count_spec _ _ _ _ hq.1 hq.2) pksA rdsA) rfl rfl rfl ?_; rintro _ _ ⟨_, ⟨a38, rfl, rfl⟩, rfl⟩; (first | rw [wk_cnt] | rw [wk_n3])) | (refine W.stp (Stp.cal rfl rfl (Spec.ask fun (hq : _ ∧ _) => Count_spec _ _ _ _ hq.1 hq.2) pksA rdsA) rfl rfl rfl ?_; rintro _ _ ⟨_, ⟨a38, rfl, rfl⟩, rfl⟩)); all_goals ((refine W.auto ?_); (conv => whnf))))
          | ((with_reducible refine W.at 39 ?_); first | ((refine W.stp (Stp.cal rfl rfl (Spec.ask fun (hq : _) => wrong_spec _ _ _ hq) pksA rdsA) rfl rfl rfl ?_; rintro _ _ ⟨_, ⟨rfl, rfl⟩, rfl⟩); all_goals ((refine W.auto ?_); (conv => whnf))))
          | ((with_reducible refine W.at 42 ?_); first | ((refine W.stp (Stp.buildB [128, 1] rfl rfl rfl rfl rfl) rfl rfl rfl ?_; rintro _ _ ⟨g42, rfl, rfl⟩); all_goals ((refine W.auto ?_); (conv => whnf))))
          | ((with_reducible refine W.at 43 ?_); first | ((refine W.stp (Stp.cal rfl rfl (Read0_spec _ _ _ _ (by omega)) pksA rdsA) rfl rfl rfl ?_; rintro _ _ ⟨_, ⟨g43, a43, rfl, rfl⟩, rfl⟩); all_goals ((refine W.auto ?_); (conv => whnf))))
          | ((with_reducible refine W.at 44 ?_); first | ((refine W.stp (Stp.buildB [130] rfl rfl rfl rfl rfl) rfl rfl rfl ?_; rintro _ _ ⟨g44, rfl, rfl⟩); all_goals ((refine W.auto ?_); (conv => whnf))))
          | ((with_reducible refine W.at 45 ?_); first | ((refine W.stp (Stp.cal rfl rfl (Read0_spec _ _ _ _ (by omega)) pksA rdsA) rfl rfl rfl ?_; rintro _ _ ⟨_, ⟨g45, a45, rfl, rfl⟩, rfl⟩); all_goals ((refine W.auto ?_); (conv => whnf))))
          | ((with_reducible refine W.at 46 ?_); first | ((refine W.stp (Stp.buildB [10] rfl rfl rfl rfl rfl) rfl rfl rfl ?_; rintro _ _ ⟨g46, rfl, rfl⟩); all_goals ((refine W.auto ?_); (conv => whnf))))
          | ((with_reducible refine W.at 47 ?_); first | ((refine W.stp (Stp.cal rfl rfl (Read0_spec _ _ _ _ (by omega)) pksA rdsA) rfl rfl rfl ?_; rintro _ _ ⟨_, ⟨g47, a47, rfl, rfl⟩, rfl⟩); all_goals ((refine W.auto ?_); (conv => whnf))))
          | ((with_reducible refine W.at 49 ?_); first | ((refine W.stp (Stp.cal rfl rfl (Spec.ask fun (hq : _) => RCount_spec _ _ _ _ hq) pksA rdsA) rfl rfl rfl ?_; rintro _ _ ⟨_, ⟨a49, rfl, rfl⟩, rfl⟩; (first | rw [wk_r1] | rw [wk_r2] | rw [wk_r3])); all_goals ((refine W.auto ?_); (conv => whnf))))
          | ((with_reducible refine W.at 53 ?_); first | ((refine W.stp (Stp.cal rfl rfl (Err_spec _ _ _) pksA rdsA) rfl rfl rfl ?_; rintro _ _ ⟨_, ⟨rfl, rfl⟩, rfl⟩); all_goals ((refine W.auto ?_); (conv => whnf))))
          | ((with_reducible refine W.at 58 ?_); first | ((refine W.stp (Stp.cal rfl rfl (Spec.ask fun (hq : _) => RCount_spec _ _ _ _ hq) pksA rdsA) rfl rfl rfl ?_; rintro _ _ ⟨_, ⟨a58, rfl, rfl⟩, rfl⟩; (first | rw [wk_r1] | rw [wk_r2] | rw [wk_r3])); all_goals ((refine W.auto ?_); (conv => whnf))))
          | ((with_reducible refine W.at 63 ?_); first | ((refine W.stp (Stp.cal rfl rfl (Err_spec _ _ _) pksA rdsA) rfl rfl rfl ?_; rintro _ _ ⟨_, ⟨rfl, rfl⟩, rfl⟩); all_goals ((refine W.auto ?_); (conv => whnf))))
          | ((with_reducible refine W.at 68 ?_); first | ((refine W.stp (Stp.cal rfl rfl (Spec.ask fun (hq : _) => RCount_spec _ _ _ _ hq) pksA rdsA) rfl rfl rfl ?_; rintro _ _ ⟨_, ⟨a68, rfl, rfl⟩, rfl⟩; (first | rw [wk_r1] | rw [wk_r2] | rw [wk_r3])); all_goals ((refine W.auto ?_); (conv => whnf))))
          | ((with_reducible refine W.at 73 ?_); first | ((refine W.stp (Stp.cal rfl rfl (Err_spec _ _ _) pksA rdsA) rfl rfl rfl ?_; rintro _ _ ⟨_, ⟨rfl, rfl⟩, rfl⟩); all_goals ((refine W.auto ?_); (conv => whnf))))
          | refine Exists.intro _ (And.intro (resv_rfl rfl) ?_))
  all_goals first
    | first | exact ⟨_, ⟨rfl, rfl⟩, _, pksA⟩ | skip
    | skip

end Go.SX
