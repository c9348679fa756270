/- The disk: DiskPlays. -/
import Derived.Test.YtfagffimejmjfaaDk14
namespace Go.SX
open Go Go.RowKit Go.Proofs
set_option linter.unusedVariables false
set_option linter.unusedSimpArgs false
set_option maxHeartbeats 8000000
theorem DiskPlays_law (A : Option Addr) (c : Nat) (ds : List DkDo) (hok : ∀ d ∈ ds, d.n ≤ 9223372036854775807) :
    Spec Try.prog 7 [.slice A ds.length c] [] [sliceC A c 4 ds.length (recs DkDo.cells ds), allC (ds.map DkDo.inner)] (fun v l' => v = .bool true ∧ l' = []) := by
  refine Spec.fact (d := sliceC A c 4 ds.length (recs DkDo.cells ds)) (Rd.here (Sub.refl _)) (fun w h => (sliceC_len w h).2) fun hx => ?_
  obtain ⟨hx2, hx3⟩ := hx
  refine Spec.intro Try.func7 rfl rfl Try.ntmps7 rfl fun w0 => ?_
  /- loops of sealchain/sealchainlaw13.DiskPlays: 3 live [0, 3, 4] vary [5] -/
  (all_goals (refine WC.auto ?_; (conv => whnf))); repeat' (first
          | ((with_reducible refine Ob.at ?_); first | (refine Ob.mk (by first | omega | exact u8_bound _ | (have := u8_bound; omega) | (simp only [List.length_drop, List.length_take, List.length_append, List.length_replicate, List.length_set, List.length_cons, List.length_nil, Nat.min_def]; omega)) ?_; (conv => whnf)) | (refine Ob.mk' ?_ ?_; (conv => whnf)))
          | (refine spl_mk (fun hc => ?_) (fun hc => ?_) <;> (try simp only [Bool.not_eq_false', and_self, and_true, true_and, not_true, Bool.not_eq_true', Bool.not_false, Bool.not_true, decide_eq_true_eq, decide_eq_false_iff_not, Bool.false_eq_true, reduceCtorEq, Bool.true_eq_false, ne_eq, Decidable.not_not, Int.not_lt, Int.not_le, beq_self_eq_true, eq_self, not_true_eq_false, not_false_eq_true, Bool.not_eq_eq_eq_not, Bool.not_eq_true, Bool.not_eq_false, beq_iff_eq, beq_eq_false_iff_ne] at hc) <;> (try (exfalso; omega)) <;> (conv => whnf))
          | ((with_reducible refine NatK.at ?_); first | ((with_reducible refine NatK.cast ?_); (conv => whnf)) | (refine NatK.sym (by first | omega | exact u8_bound _ | (have := u8_bound; omega) | (simp only [List.length_drop, List.length_take, List.length_append, List.length_replicate, List.length_set, List.length_cons, List.length_nil, Nat.min_def]; omega)) (fun m hm => ?_); (conv => whnf)))
          | (intro q hq; (conv => whnf))
          | ((with_reducible refine W.at 6 ?_); first | ((refine W.stp (Stp.cal rfl rfl (dNew_spec) pksA rdsA) rfl rfl rfl ?_; rintro _ _ ⟨_, ⟨gd, a6, rfl, rfl⟩, rfl⟩); all_goals ((refine W.auto ?_); (conv => whnf))))
          | ((with_reducible refine W.at 7 ?_); first | ((first | (refine W.stp (Stp.cal rfl rfl (rdNew_spec) pksA rdsA) rfl rfl rfl ?_; rintro _ _ ⟨_, ⟨gm, b7, rfl, rfl⟩, rfl⟩) | (refine W.stp (Stp.cal rfl rfl (rdNew_spec) pksA rdsA) rfl rfl rfl ?_; rintro _ _ ⟨_, ⟨gm, b7, rfl, rfl⟩, rfl⟩)); all_goals ((refine W.auto ?_); (conv => whnf))))
          | ((with_reducible refine W.at 22 ?_); first | (refine W.ev (Ev.indexRec rfl rfl rdA (by omega) (by rfl)) rfl rfl rfl ?_; all_goals ((refine W.auto ?_); (conv => whnf))))
          | ((with_reducible refine W.at 23 ?_); first | (refine W.ev (Ev.loadRec rfl rfl rdA (by exact fun _ => rfl) (by omega) (by rfl)) rfl rfl rfl ?_; all_goals ((refine W.auto ?_); (conv => whnf))))
          | ((with_reducible refine W.at 24 ?_); first | ((refine W.stp (Stp.cal rfl rfl (step_spec gd gm a b s k (nth ds k) hj.1 (by omega) (hok _ (nth_mem (by omega)))) pksA rdsA) rfl rfl rfl ?_; rintro _ _ ⟨_, ⟨s2, a2, b2, rfl, hi2, rfl⟩, rfl⟩); all_goals ((refine W.auto ?_); (conv => whnf))))
          | ((with_reducible refine W.at 29 ?_); first | ((first | (refine W.stp (Stp.cal rfl rfl (same_spec gd gm _ _ _ (k + 1) hi2 (by omega)) pksA rdsA) rfl rfl rfl ?_; rintro _ _ ⟨_, ⟨rfl, rfl⟩, rfl⟩) | (refine W.stp (Stp.cal rfl rfl (same_spec gd gm _ _ _ k hj.1 (by omega)) pksA rdsA) rfl rfl rfl ?_; rintro _ _ ⟨_, ⟨rfl, rfl⟩, rfl⟩)); all_goals ((refine W.auto ?_); (conv => whnf))))
          | ((with_reducible refine W.at 34 ?_); first | ((first | (refine W.stp (Stp.cal rfl rfl (same_spec gd gm _ _ _ (k + 1) hi2 (by omega)) pksA rdsA) rfl rfl rfl ?_; rintro _ _ ⟨_, ⟨rfl, rfl⟩, rfl⟩) | (refine W.stp (Stp.cal rfl rfl (same_spec gd gm _ _ _ k hj.1 (by omega)) pksA rdsA) rfl rfl rfl ?_; rintro _ _ ⟨_, ⟨rfl, rfl⟩, rfl⟩)); all_goals ((refine W.auto ?_); (conv => whnf))))
          | ((with_reducible refine W.at 36 ?_); first | ((refine W.stp (Stp.cal rfl rfl (works_spec) pksA rdsA) rfl rfl rfl ?_; rintro _ _ ⟨_, ⟨rfl, rfl⟩, rfl⟩); all_goals ((refine W.auto ?_); (conv => whnf))))
          | ((with_reducible refine WC.atC (c := .loop (.seq (.seq (.region 3 _ _) _) _)) ?_); refine WC.loopL4 (X := Nat) (Y := DK) (Z := DkA) (U := DkA) (0) (dk0) (a6) (b7) (fun k s a b => DkInv s k ∧ k ≤ 80) (fun k s a b => [(5, .int .i64 (k : Int))]) (fun k s a b => [rdkC gm b s, diskC gd a s]) (fun k _ _ _ => 80 - k) [0, 3, 4] (⟨dk0_inv, by omega⟩) ?_; (conv => whnf); refine LoopQ4.mk (by ((repeat (first | exact trivial | refine And.intro rfl ?_)); fail_if_success (focus skip))) (⟨_, pksA⟩) ?_; rintro k s a b hj; refine WC.auto ?_; (conv => whnf))
          | (refine ⟨k + 1, _, _, _, ?_, by ((repeat (first | exact trivial | refine And.intro rfl ?_)); fail_if_success (focus skip)), ⟨_, pksA⟩, by omega⟩)
          | refine Exists.intro _ (And.intro (resv_rfl rfl) ?_))
  all_goals first
    | omega
    | exact ⟨hi2, by omega⟩
    | first | exact ⟨_, ⟨rfl, rfl⟩, _, pksA⟩ | skip
    | skip
end Go.SX
