/- Leaders: the set's elements, one by one; are there enough of them? -/
import Derived.Test.YtmcfcnlglohliaaDoorLd1
namespace Go.SX
open Go Go.RowKit Go.Proofs
set_option linter.unusedVariables false
set_option linter.unusedSimpArgs false
set_option maxHeartbeats 4000000
theorem setN_room {x s k : Nat} (hx : x < 8) (hs : s < 8) (h0 : 0 < x) (h : k + setN x = setN s) : k < 3 := by
  have h1 : ∀ x < 8, 0 < x → 0 < setN x := by decide
  have h2 : ∀ x < 8, setN x ≤ 3 := by decide
  have := h1 x hx h0
  have := h2 s hs
  omega
theorem all1_spec (l0 : Nat) (R : Loop) (C : Nat → Chunk) (gb s : Nat) (hs : s < 8) (bs : List UInt8) (hb : bs.length = 64)
    (hy : ∀ (k : Nat) (z : Int), k < 3 → YSpec Tryd.prog l0 [.int .i64 z] [loopC l0 R, C k] [] (fun v l' => v = .bool true ∧ l' = [loopC l0 R, C (k + 1)])) :
    Spec Tryd.prog 51 [.func (.yield l0) #[] #[], .pointer (some ⟨gb, 0, none⟩)] [loopC l0 R, C 0] [cellsC gb 77 [.int .u64 s], tzC bs]
      (fun v l' => l' = [loopC l0 R, C (setN s)]) := by
  refine Spec.intro Tryd.func51 rfl rfl Tryd.ntmps51 rfl fun w0 => ?_
  /- loops of (sealchain/lead.set[int]).all$1: 1 live [0] vary [3] -/
  (all_goals (refine WC.auto ?_; (conv => whnf))); repeat' (first
          | ((with_reducible refine WB.auto ?_); (conv => whnf))
          | ((with_reducible refine WCB.auto ?_); (conv => whnf))
          | ((with_reducible refine Ob.at ?_); first | (refine Ob.mk (by first | omega | exact u8_bound _ | (have := u8_bound; omega) | (simp only [List.length_drop, List.length_take, List.length_append, List.length_replicate, List.length_set, List.length_cons, List.length_nil, Nat.min_def]; omega)) ?_; (conv => whnf)) | (refine Ob.mk' ?_ ?_; (conv => whnf)))
          | (refine spl_mk (fun hc => ?_) (fun hc => ?_) <;> (try simp only [Bool.not_eq_false', and_self, and_true, true_and, not_true, Bool.not_eq_true', Bool.not_false, Bool.not_true, decide_eq_true_eq, decide_eq_false_iff_not, Bool.false_eq_true, reduceCtorEq, Bool.true_eq_false, ne_eq, Decidable.not_not, Int.not_lt, Int.not_le, beq_self_eq_true, eq_self, not_true_eq_false, not_false_eq_true, Bool.not_eq_eq_eq_not, Bool.not_eq_true, Bool.not_eq_false, beq_iff_eq, beq_eq_false_iff_ne] at hc) <;> (try (exfalso; omega)) <;> (conv => whnf))
          | ((with_reducible refine NatK.at ?_); first | ((with_reducible refine NatK.cast ?_); (conv => whnf)) | (refine NatK.sym (by first | omega | exact u8_bound _ | (have := u8_bound; omega) | (simp only [List.length_drop, List.length_take, List.length_append, List.length_replicate, List.length_set, List.length_cons, List.length_nil, Nat.min_def]; omega)) (fun m hm => ?_); (conv => whnf)))
          | (intro q hq; (conv => whnf))
          | ((with_reducible refine W.at 4 ?_); first | (refine W.ev (Ev.load rfl rfl rdA rfl) rfl rfl rfl ?_; all_goals ((refine W.auto ?_); (conv => whnf))))
          | ((with_reducible refine W.at 13 ?_); first | ((first | (refine W.stp (Stp.cal rfl rfl (tz_spec _ (by omega) (by omega) _ hb) pksA rdsA) rfl rfl rfl ?_; rintro _ _ ⟨_, ⟨z13, rfl, rfl⟩, rfl⟩) | (refine W.stp (Stp.cal rfl rfl (tz_spec _ (by assumption) (by assumption) _ (by assumption)) pksA rdsA) rfl rfl rfl ?_; rintro _ _ ⟨_, ⟨z13, rfl, rfl⟩, rfl⟩)); all_goals ((refine W.auto ?_); (conv => whnf))))
          | ((with_reducible refine W.at 14 ?_); first | ((refine W.stpY (StpY.yield rfl rfl (hy _ _ (setN_room hj.1 hs (by omega) hj.2)) pksA rdsA) rfl rfl rfl ?_; rintro _ _ ⟨_, ⟨rfl, rfl⟩, rfl⟩); all_goals ((refine W.auto ?_); (conv => whnf))))
          | ((with_reducible refine W.at 10 ?_); first | (refine W.ev (Ev.and rfl rfl) rfl rfl rfl ?_; (try (have hlb := setL_bit hj.1 (by omega : 0 < x); have hl2 := hlb.2.1; have hl3 := hlb.2.2; rw [hlb.1])); all_goals ((refine W.auto ?_); (conv => whnf))))
          | ((with_reducible refine WC.atC (c := .loop (.seq (.seq (.region 1 _ _) _) _)) ?_); refine WC.loopL2 (X := Nat) (Y := Nat) (s) (0) (fun x k => x < 8 ∧ k + setN x = setN s) (fun x k => [(3, .int .u64 (x : Int))]) (fun x k => [loopC l0 R, C k]) (fun x k => x) [0] (⟨by omega, by omega⟩) ?_; (conv => whnf); refine LoopQ2.mk (by ((repeat (first | exact trivial | refine And.intro rfl ?_)); fail_if_success (focus skip))) (⟨_, pksA⟩) ?_; rintro x k hj; refine WC.auto ?_; (conv => whnf))
          | (refine ⟨setL x, k + 1, ?_, by ((repeat (first | exact trivial | refine And.intro rfl ?_)); fail_if_success (focus skip)), (by (with_reducible refine chLeI ?_); exact ⟨_, pksA⟩), by omega⟩)
          | refine Exists.intro _ (And.intro (resv_rfl rfl) ?_))
  all_goals first
    | exact ⟨by omega, by omega⟩
    | (have hx0 : x = 0 := (by omega)
       subst hx0
       have hk : k = setN s := (by simpa [setN] using hj.2)
       subst hk
       exact ⟨_, rfl, ChLe.refl _⟩)
    | skip

theorem all_spec (s : Nat) : Spec Tryd.prog 46 [.int .u64 s] [] [] (fun v l' => ∃ g, v = .func (.func 51) #[] #[.pointer (some ⟨g, 0, none⟩)] ∧ l' = [cellsC g 77 [.int .u64 s]]) := by
  refine Spec.intro Tryd.func46 rfl rfl Tryd.ntmps46 rfl fun w0 => ?_
  (all_goals (refine WC.auto ?_; (conv => whnf))); repeat' (first
          | ((with_reducible refine WB.auto ?_); (conv => whnf))
          | ((with_reducible refine WCB.auto ?_); (conv => whnf))
          | ((with_reducible refine Ob.at ?_); first | (refine Ob.mk (by first | omega | exact u8_bound _ | (have := u8_bound; omega) | (simp only [List.length_drop, List.length_take, List.length_append, List.length_replicate, List.length_set, List.length_cons, List.length_nil, Nat.min_def]; omega)) ?_; (conv => whnf)) | (refine Ob.mk' ?_ ?_; (conv => whnf)))
          | (refine spl_mk (fun hc => ?_) (fun hc => ?_) <;> (try simp only [Bool.not_eq_false', and_self, and_true, true_and, not_true, Bool.not_eq_true', Bool.not_false, Bool.not_true, decide_eq_true_eq, decide_eq_false_iff_not, Bool.false_eq_true, reduceCtorEq, Bool.true_eq_false, ne_eq, Decidable.not_not, Int.not_lt, Int.not_le, beq_self_eq_true, eq_self, not_true_eq_false, not_false_eq_true, Bool.not_eq_eq_eq_not, Bool.not_eq_true, Bool.not_eq_false, beq_iff_eq, beq_eq_false_iff_ne] at hc) <;> (try (exfalso; omega)) <;> (conv => whnf))
          | ((with_reducible refine NatK.at ?_); first | ((with_reducible refine NatK.cast ?_); (conv => whnf)) | (refine NatK.sym (by first | omega | exact u8_bound _ | (have := u8_bound; omega) | (simp only [List.length_drop, List.length_take, List.length_append, List.length_replicate, List.length_set, List.length_cons, List.length_nil, Nat.min_def]; omega)) (fun m hm => ?_); (conv => whnf)))
          | (intro q hq; (conv => whnf))
          | ((with_reducible refine W.at 1 ?_); first | ((refine W.stp (Stp.box1 rfl rfl) rfl rfl rfl ?_; rintro _ _ ⟨g1, rfl, rfl⟩); all_goals ((refine W.auto ?_); (conv => whnf))))
          | refine Exists.intro _ (And.intro (resv_rfl rfl) ?_))
  all_goals first | exact ⟨_, ⟨_, rfl, rfl⟩, _, pksA⟩ | skip

theorem enough_spec (s : Nat) (hs : s < 8) (bs : List UInt8) (hb : bs.length = 64) : Spec Tryd.prog 34 [.int .u64 s] [] [tzC bs] (fun v l' => v = .bool (decide (2 ≤ (setN s : Int))) ∧ l' = []) := by
  refine Spec.introR Tryd.func34 rfl rfl Tryd.ntmps34 rfl fun w0 => ?_
  /- seq(0,seq(1,seq(seq(2,block(rangeFunc(skip(),block(3)))),seq(4,ret())))) -/
  refine WT.seq (WT.of ?_)
  (all_goals (refine WC.auto ?_; (conv => whnf))); repeat' (first
          | ((with_reducible refine WB.auto ?_); (conv => whnf))
          | ((with_reducible refine WCB.auto ?_); (conv => whnf))
          | ((with_reducible refine Ob.at ?_); first | (refine Ob.mk (by first | omega | exact u8_bound _ | (have := u8_bound; omega) | (simp only [List.length_drop, List.length_take, List.length_append, List.length_replicate, List.length_set, List.length_cons, List.length_nil, Nat.min_def]; omega)) ?_; (conv => whnf)) | (refine Ob.mk' ?_ ?_; (conv => whnf)))
          | (refine spl_mk (fun hc => ?_) (fun hc => ?_) <;> (try simp only [Bool.not_eq_false', and_self, and_true, true_and, not_true, Bool.not_eq_true', Bool.not_false, Bool.not_true, decide_eq_true_eq, decide_eq_false_iff_not, Bool.false_eq_true, reduceCtorEq, Bool.true_eq_false, ne_eq, Decidable.not_not, Int.not_lt, Int.not_le, beq_self_eq_true, eq_self, not_true_eq_false, not_false_eq_true, Bool.not_eq_eq_eq_not, Bool.not_eq_true, Bool.not_eq_false, beq_iff_eq, beq_eq_false_iff_ne] at hc) <;> (try (exfalso; omega)) <;> (conv => whnf))
          | ((with_reducible refine NatK.at ?_); first | ((with_reducible refine NatK.cast ?_); (conv => whnf)) | (refine NatK.sym (by first | omega | exact u8_bound _ | (have := u8_bound; omega) | (simp only [List.length_drop, List.length_take, List.length_append, List.length_replicate, List.length_set, List.length_cons, List.length_nil, Nat.min_def]; omega)) (fun m hm => ?_); (conv => whnf)))
          | (intro q hq; (conv => whnf))
          | ((with_reducible refine W.at 3 ?_); first | ((refine W.stp (Stp.alloc1 rfl) rfl rfl rfl ?_; rintro _ _ ⟨g3, rfl, rfl⟩); all_goals ((refine W.auto ?_); (conv => whnf))))
          | ((with_reducible refine W.atS 3 ?_); first | (refine stW1 rfl rfl rfl pkA ?_; (conv => whnf)))
          | ((with_reducible refine W.at 5 ?_); first | ((refine W.stp (Stp.cal rfl rfl (all_spec _) pksA rdsA) rfl rfl rfl ?_; rintro _ _ ⟨_, ⟨gs, rfl, rfl⟩, rfl⟩); all_goals ((refine W.auto ?_); (conv => whnf))))
          | ((with_reducible refine W.at 7 ?_); first | (refine W.ev (Ev.load rfl rfl rdA rfl) rfl rfl rfl ?_; all_goals ((refine W.auto ?_); (conv => whnf))) | (refine W.ev (Ev.loadI rfl rdA (by first | omega | (simp only [List.length_drop, List.length_take, List.length_append, List.length_replicate, List.length_set, List.length_cons, List.length_nil, Nat.min_def]; omega) | (simp; omega))) rfl rfl rfl ?_; all_goals ((refine W.auto ?_); (conv => whnf))))
          | ((with_reducible refine W.at 9 ?_); first | (refine W.ev (Ev.load rfl rfl rdA rfl) rfl rfl rfl ?_; all_goals ((refine W.auto ?_); (conv => whnf))) | (refine W.ev (Ev.loadI rfl rdA (by first | omega | (simp only [List.length_drop, List.length_take, List.length_append, List.length_replicate, List.length_set, List.length_cons, List.length_nil, Nat.min_def]; omega) | (simp; omega))) rfl rfl rfl ?_; all_goals ((refine W.auto ?_); (conv => whnf))))
          | refine Exists.intro _ (And.intro (resv_rfl rfl) ?_))
  refine WT.seq (WT.of ?_)
  (all_goals (refine WC.auto ?_; (conv => whnf))); repeat' (first
          | ((with_reducible refine WB.auto ?_); (conv => whnf))
          | ((with_reducible refine WCB.auto ?_); (conv => whnf))
          | ((with_reducible refine Ob.at ?_); first | (refine Ob.mk (by first | omega | exact u8_bound _ | (have := u8_bound; omega) | (simp only [List.length_drop, List.length_take, List.length_append, List.length_replicate, List.length_set, List.length_cons, List.length_nil, Nat.min_def]; omega)) ?_; (conv => whnf)) | (refine Ob.mk' ?_ ?_; (conv => whnf)))
          | (refine spl_mk (fun hc => ?_) (fun hc => ?_) <;> (try simp only [Bool.not_eq_false', and_self, and_true, true_and, not_true, Bool.not_eq_true', Bool.not_false, Bool.not_true, decide_eq_true_eq, decide_eq_false_iff_not, Bool.false_eq_true, reduceCtorEq, Bool.true_eq_false, ne_eq, Decidable.not_not, Int.not_lt, Int.not_le, beq_self_eq_true, eq_self, not_true_eq_false, not_false_eq_true, Bool.not_eq_eq_eq_not, Bool.not_eq_true, Bool.not_eq_false, beq_iff_eq, beq_eq_false_iff_ne] at hc) <;> (try (exfalso; omega)) <;> (conv => whnf))
          | ((with_reducible refine NatK.at ?_); first | ((with_reducible refine NatK.cast ?_); (conv => whnf)) | (refine NatK.sym (by first | omega | exact u8_bound _ | (have := u8_bound; omega) | (simp only [List.length_drop, List.length_take, List.length_append, List.length_replicate, List.length_set, List.length_cons, List.length_nil, Nat.min_def]; omega)) (fun m hm => ?_); (conv => whnf)))
          | (intro q hq; (conv => whnf))
          | ((with_reducible refine W.at 3 ?_); first | ((refine W.stp (Stp.alloc1 rfl) rfl rfl rfl ?_; rintro _ _ ⟨g3, rfl, rfl⟩); all_goals ((refine W.auto ?_); (conv => whnf))))
          | ((with_reducible refine W.atS 3 ?_); first | (refine stW1 rfl rfl rfl pkA ?_; (conv => whnf)))
          | ((with_reducible refine W.at 5 ?_); first | ((refine W.stp (Stp.cal rfl rfl (all_spec _) pksA rdsA) rfl rfl rfl ?_; rintro _ _ ⟨_, ⟨gs, rfl, rfl⟩, rfl⟩); all_goals ((refine W.auto ?_); (conv => whnf))))
          | ((with_reducible refine W.at 7 ?_); first | (refine W.ev (Ev.load rfl rfl rdA rfl) rfl rfl rfl ?_; all_goals ((refine W.auto ?_); (conv => whnf))) | (refine W.ev (Ev.loadI rfl rdA (by first | omega | (simp only [List.length_drop, List.length_take, List.length_append, List.length_replicate, List.length_set, List.length_cons, List.length_nil, Nat.min_def]; omega) | (simp; omega))) rfl rfl rfl ?_; all_goals ((refine W.auto ?_); (conv => whnf))))
          | ((with_reducible refine W.at 9 ?_); first | (refine W.ev (Ev.load rfl rfl rdA rfl) rfl rfl rfl ?_; all_goals ((refine W.auto ?_); (conv => whnf))) | (refine W.ev (Ev.loadI rfl rdA (by first | omega | (simp only [List.length_drop, List.length_take, List.length_append, List.length_replicate, List.length_set, List.length_cons, List.length_nil, Nat.min_def]; omega) | (simp; omega))) rfl rfl rfl ?_; all_goals ((refine W.auto ?_); (conv => whnf))))
          | refine Exists.intro _ (And.intro (resv_rfl rfl) ?_))
  refine WT.seq (WT.seq (WT.of ?_))
  (all_goals (refine WC.auto ?_; (conv => whnf))); repeat' (first
          | ((with_reducible refine WB.auto ?_); (conv => whnf))
          | ((with_reducible refine WCB.auto ?_); (conv => whnf))
          | ((with_reducible refine Ob.at ?_); first | (refine Ob.mk (by first | omega | exact u8_bound _ | (have := u8_bound; omega) | (simp only [List.length_drop, List.length_take, List.length_append, List.length_replicate, List.length_set, List.length_cons, List.length_nil, Nat.min_def]; omega)) ?_; (conv => whnf)) | (refine Ob.mk' ?_ ?_; (conv => whnf)))
          | (refine spl_mk (fun hc => ?_) (fun hc => ?_) <;> (try simp only [Bool.not_eq_false', and_self, and_true, true_and, not_true, Bool.not_eq_true', Bool.not_false, Bool.not_true, decide_eq_true_eq, decide_eq_false_iff_not, Bool.false_eq_true, reduceCtorEq, Bool.true_eq_false, ne_eq, Decidable.not_not, Int.not_lt, Int.not_le, beq_self_eq_true, eq_self, not_true_eq_false, not_false_eq_true, Bool.not_eq_eq_eq_not, Bool.not_eq_true, Bool.not_eq_false, beq_iff_eq, beq_eq_false_iff_ne] at hc) <;> (try (exfalso; omega)) <;> (conv => whnf))
          | ((with_reducible refine NatK.at ?_); first | ((with_reducible refine NatK.cast ?_); (conv => whnf)) | (refine NatK.sym (by first | omega | exact u8_bound _ | (have := u8_bound; omega) | (simp only [List.length_drop, List.length_take, List.length_append, List.length_replicate, List.length_set, List.length_cons, List.length_nil, Nat.min_def]; omega)) (fun m hm => ?_); (conv => whnf)))
          | (intro q hq; (conv => whnf))
          | ((with_reducible refine W.at 3 ?_); first | ((refine W.stp (Stp.alloc1 rfl) rfl rfl rfl ?_; rintro _ _ ⟨g3, rfl, rfl⟩); all_goals ((refine W.auto ?_); (conv => whnf))))
          | ((with_reducible refine W.atS 3 ?_); first | (refine stW1 rfl rfl rfl pkA ?_; (conv => whnf)))
          | ((with_reducible refine W.at 5 ?_); first | ((refine W.stp (Stp.cal rfl rfl (all_spec _) pksA rdsA) rfl rfl rfl ?_; rintro _ _ ⟨_, ⟨gs, rfl, rfl⟩, rfl⟩); all_goals ((refine W.auto ?_); (conv => whnf))))
          | ((with_reducible refine W.at 7 ?_); first | (refine W.ev (Ev.load rfl rfl rdA rfl) rfl rfl rfl ?_; all_goals ((refine W.auto ?_); (conv => whnf))) | (refine W.ev (Ev.loadI rfl rdA (by first | omega | (simp only [List.length_drop, List.length_take, List.length_append, List.length_replicate, List.length_set, List.length_cons, List.length_nil, Nat.min_def]; omega) | (simp; omega))) rfl rfl rfl ?_; all_goals ((refine W.auto ?_); (conv => whnf))))
          | ((with_reducible refine W.at 9 ?_); first | (refine W.ev (Ev.load rfl rfl rdA rfl) rfl rfl rfl ?_; all_goals ((refine W.auto ?_); (conv => whnf))) | (refine W.ev (Ev.loadI rfl rdA (by first | omega | (simp only [List.length_drop, List.length_take, List.length_append, List.length_replicate, List.length_set, List.length_cons, List.length_nil, Nat.min_def]; omega) | (simp; omega))) rfl rfl rfl ?_; all_goals ((refine W.auto ?_); (conv => whnf))))
          | refine Exists.intro _ (And.intro (resv_rfl rfl) ?_))
  all_goals refine WT.block (WT.range (gf := 51) (ls := [cellsC g3 3 [.int .i64 0]]) (rs := [cellsC gs 77 [.int .u64 s], tzC bs]) (M := fun l2 => l2 = [cellsC g3 3 [.int .i64 (setN s)]]) rfl pksA rdsA ?_ ?_)
  · intro l0 D fn tmps he
    refine (all1_spec l0 _ (fun k => cellsC g3 3 [.int .i64 (k : Int)]) gs s hs bs hb ?_).mono (fun v l' h => ⟨_, h, rfl⟩)
    intro k z hk
    refine YSpec.intro (ps := [6]) he (by kernel_rfl) rfl fun S w0 => ?_
    refine WC.skip ⟨_, ChLe.refl _, ?_⟩
    (all_goals (refine WC.auto ?_; (conv => whnf))); repeat' (first
          | ((with_reducible refine WB.auto ?_); (conv => whnf))
          | ((with_reducible refine WCB.auto ?_); (conv => whnf))
          | ((with_reducible refine Ob.at ?_); first | (refine Ob.mk (by first | omega | exact u8_bound _ | (have := u8_bound; omega) | (simp only [List.length_drop, List.length_take, List.length_append, List.length_replicate, List.length_set, List.length_cons, List.length_nil, Nat.min_def]; omega)) ?_; (conv => whnf)) | (refine Ob.mk' ?_ ?_; (conv => whnf)))
          | (refine spl_mk (fun hc => ?_) (fun hc => ?_) <;> (try simp only [Bool.not_eq_false', and_self, and_true, true_and, not_true, Bool.not_eq_true', Bool.not_false, Bool.not_true, decide_eq_true_eq, decide_eq_false_iff_not, Bool.false_eq_true, reduceCtorEq, Bool.true_eq_false, ne_eq, Decidable.not_not, Int.not_lt, Int.not_le, beq_self_eq_true, eq_self, not_true_eq_false, not_false_eq_true, Bool.not_eq_eq_eq_not, Bool.not_eq_true, Bool.not_eq_false, beq_iff_eq, beq_eq_false_iff_ne] at hc) <;> (try (exfalso; omega)) <;> (conv => whnf))
          | ((with_reducible refine NatK.at ?_); first | ((with_reducible refine NatK.cast ?_); (conv => whnf)) | (refine NatK.sym (by first | omega | exact u8_bound _ | (have := u8_bound; omega) | (simp only [List.length_drop, List.length_take, List.length_append, List.length_replicate, List.length_set, List.length_cons, List.length_nil, Nat.min_def]; omega)) (fun m hm => ?_); (conv => whnf)))
          | (intro q hq; (conv => whnf))
          | ((with_reducible refine W.at 3 ?_); first | ((refine W.stp (Stp.alloc1 rfl) rfl rfl rfl ?_; rintro _ _ ⟨g3, rfl, rfl⟩); all_goals ((refine W.auto ?_); (conv => whnf))))
          | ((with_reducible refine W.atS 3 ?_); first | (refine stW1 rfl rfl rfl pkA ?_; (conv => whnf)))
          | ((with_reducible refine W.at 5 ?_); first | ((refine W.stp (Stp.cal rfl rfl (all_spec _) pksA rdsA) rfl rfl rfl ?_; rintro _ _ ⟨_, ⟨gs, rfl, rfl⟩, rfl⟩); all_goals ((refine W.auto ?_); (conv => whnf))))
          | ((with_reducible refine W.at 7 ?_); first | (refine W.ev (Ev.load rfl rfl rdA rfl) rfl rfl rfl ?_; all_goals ((refine W.auto ?_); (conv => whnf))) | (refine W.ev (Ev.loadI rfl rdA (by first | omega | (simp only [List.length_drop, List.length_take, List.length_append, List.length_replicate, List.length_set, List.length_cons, List.length_nil, Nat.min_def]; omega) | (simp; omega))) rfl rfl rfl ?_; all_goals ((refine W.auto ?_); (conv => whnf))))
          | ((with_reducible refine W.at 9 ?_); first | (refine W.ev (Ev.load rfl rfl rdA rfl) rfl rfl rfl ?_; all_goals ((refine W.auto ?_); (conv => whnf))) | (refine W.ev (Ev.loadI rfl rdA (by first | omega | (simp only [List.length_drop, List.length_take, List.length_append, List.length_replicate, List.length_set, List.length_cons, List.length_nil, Nat.min_def]; omega) | (simp; omega))) rfl rfl rfl ?_; all_goals ((refine W.auto ?_); (conv => whnf))))
          | refine Exists.intro _ (And.intro (resv_rfl rfl) ?_))
    all_goals exact ⟨_, ⟨_, pksA⟩, rfl, rfl⟩
  · rintro D _ rfl
    (all_goals (refine WC.auto ?_; (conv => whnf))); repeat' (first
          | ((with_reducible refine WB.auto ?_); (conv => whnf))
          | ((with_reducible refine WCB.auto ?_); (conv => whnf))
          | ((with_reducible refine Ob.at ?_); first | (refine Ob.mk (by first | omega | exact u8_bound _ | (have := u8_bound; omega) | (simp only [List.length_drop, List.length_take, List.length_append, List.length_replicate, List.length_set, List.length_cons, List.length_nil, Nat.min_def]; omega)) ?_; (conv => whnf)) | (refine Ob.mk' ?_ ?_; (conv => whnf)))
          | (refine spl_mk (fun hc => ?_) (fun hc => ?_) <;> (try simp only [Bool.not_eq_false', and_self, and_true, true_and, not_true, Bool.not_eq_true', Bool.not_false, Bool.not_true, decide_eq_true_eq, decide_eq_false_iff_not, Bool.false_eq_true, reduceCtorEq, Bool.true_eq_false, ne_eq, Decidable.not_not, Int.not_lt, Int.not_le, beq_self_eq_true, eq_self, not_true_eq_false, not_false_eq_true, Bool.not_eq_eq_eq_not, Bool.not_eq_true, Bool.not_eq_false, beq_iff_eq, beq_eq_false_iff_ne] at hc) <;> (try (exfalso; omega)) <;> (conv => whnf))
          | ((with_reducible refine NatK.at ?_); first | ((with_reducible refine NatK.cast ?_); (conv => whnf)) | (refine NatK.sym (by first | omega | exact u8_bound _ | (have := u8_bound; omega) | (simp only [List.length_drop, List.length_take, List.length_append, List.length_replicate, List.length_set, List.length_cons, List.length_nil, Nat.min_def]; omega)) (fun m hm => ?_); (conv => whnf)))
          | (intro q hq; (conv => whnf))
          | ((with_reducible refine W.at 3 ?_); first | ((refine W.stp (Stp.alloc1 rfl) rfl rfl rfl ?_; rintro _ _ ⟨g3, rfl, rfl⟩); all_goals ((refine W.auto ?_); (conv => whnf))))
          | ((with_reducible refine W.atS 3 ?_); first | (refine stW1 rfl rfl rfl pkA ?_; (conv => whnf)))
          | ((with_reducible refine W.at 5 ?_); first | ((refine W.stp (Stp.cal rfl rfl (all_spec _) pksA rdsA) rfl rfl rfl ?_; rintro _ _ ⟨_, ⟨gs, rfl, rfl⟩, rfl⟩); all_goals ((refine W.auto ?_); (conv => whnf))))
          | ((with_reducible refine W.at 7 ?_); first | (refine W.ev (Ev.load rfl rfl rdA rfl) rfl rfl rfl ?_; all_goals ((refine W.auto ?_); (conv => whnf))) | (refine W.ev (Ev.loadI rfl rdA (by first | omega | (simp only [List.length_drop, List.length_take, List.length_append, List.length_replicate, List.length_set, List.length_cons, List.length_nil, Nat.min_def]; omega) | (simp; omega))) rfl rfl rfl ?_; all_goals ((refine W.auto ?_); (conv => whnf))))
          | ((with_reducible refine W.at 9 ?_); first | (refine W.ev (Ev.load rfl rfl rdA rfl) rfl rfl rfl ?_; all_goals ((refine W.auto ?_); (conv => whnf))) | (refine W.ev (Ev.loadI rfl rdA (by first | omega | (simp only [List.length_drop, List.length_take, List.length_append, List.length_replicate, List.length_set, List.length_cons, List.length_nil, Nat.min_def]; omega) | (simp; omega))) rfl rfl rfl ?_; all_goals ((refine W.auto ?_); (conv => whnf))))
          | refine Exists.intro _ (And.intro (resv_rfl rfl) ?_))
    all_goals exact ⟨[], ⟨_, pksA⟩, [.bool _], resM_mk ⟨rfl, trivial⟩, [], ⟨rfl, rfl⟩, ChLe.refl _⟩

end Go.SX
