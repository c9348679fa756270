/- The disk: Sync, Swap, Cut, Arm, Crash, Revive. -/
import Derived.Test.YtfagffimejmjfaaDk2
namespace Go.SX
open Go Go.RowKit Go.Proofs
set_option linter.unusedVariables false
set_option linter.unusedSimpArgs false
set_option maxHeartbeats 4000000
section
variable (g : Nat) (a : DkA) (s : DK)
theorem Sync_spec (h : DkOK s) : Spec Try.prog 11 [.pointer (some ⟨g, 0, none⟩)] [diskC g a s] [] (DkPost g (dkSync s)) := by
  refine Spec.disk fun hd => ?_
  obtain ⟨hd1, hd2, hd3, hd4, hd5⟩ := hd
  obtain ⟨hs1, hs2, hs3, hs4⟩ := h
  obtain ⟨b, sn, dead, arm, tr⟩ := s
  obtain ⟨aA, ac, ak, aAt, act, akt, ahs, agc⟩ := a
  dsimp only at *
  subst hd1 hd2 hd3
  have ht3 : (ahs.map BH.bs).length = ahs.length := List.length_map _
  cases dead <;> cases arm
  all_goals dsimp only [diskL, armL, armV, List.cons_append, List.nil_append]
  all_goals refine Spec.intro Try.func11 rfl rfl Try.ntmps11 rfl fun w0 => ?_
  all_goals (try have hs5 := hs4 _ rfl)
  (all_goals (refine WC.auto ?_; (conv => whnf))); repeat' (first
          | ((with_reducible refine WB.auto ?_); (conv => whnf))
          | ((with_reducible refine WCB.auto ?_); (conv => whnf))
          | ((with_reducible refine Ob.at ?_); first | (refine Ob.mk (by first | omega | exact u8_bound _ | (have := u8_bound; omega) | (simp only [List.length_drop, List.length_take, List.length_append, List.length_replicate, List.length_set, List.length_cons, List.length_nil, Nat.min_def]; omega)) ?_; (conv => whnf)) | (refine Ob.mk' ?_ ?_; (conv => whnf)))
          | (refine spl_mk (fun hc => ?_) (fun hc => ?_) <;> (try simp only [Bool.not_eq_false', and_self, and_true, true_and, not_true, Bool.not_eq_true', Bool.not_false, Bool.not_true, decide_eq_true_eq, decide_eq_false_iff_not, Bool.false_eq_true, reduceCtorEq, Bool.true_eq_false, ne_eq, Decidable.not_not, Int.not_lt, Int.not_le, beq_self_eq_true, eq_self, not_true_eq_false, not_false_eq_true, Bool.not_eq_eq_eq_not, Bool.not_eq_true, Bool.not_eq_false, beq_iff_eq, beq_eq_false_iff_ne] at hc) <;> (try (exfalso; omega)) <;> (conv => whnf))
          | ((with_reducible refine NatK.at ?_); first | ((with_reducible refine NatK.cast ?_); (conv => whnf)) | (refine NatK.sym (by first | omega | exact u8_bound _ | (have := u8_bound; omega) | (simp only [List.length_drop, List.length_take, List.length_append, List.length_replicate, List.length_set, List.length_cons, List.length_nil, Nat.min_def]; omega)) (fun m hm => ?_); (conv => whnf)))
          | (intro q hq; (conv => whnf))
          | ((with_reducible refine W.at 5 ?_); first | ((refine W.stp (Stp.cal rfl rfl (live_spec _ _ _ _ _ _ _ _ _ _ _ _) pksA rdsA) rfl rfl rfl ?_; rintro _ _ ⟨_, ⟨rfl, rfl⟩, rfl⟩); all_goals ((refine W.auto ?_); (conv => whnf))))
          | ((with_reducible refine W.at 12 ?_); first | (refine W.ev (Ev.load rfl rfl rdA rfl) rfl rfl rfl ?_; all_goals ((refine W.auto ?_); (conv => whnf))))
          | ((with_reducible refine W.at 14 ?_); first | ((first | (refine W.stp (Stp.cal rfl rfl (always_spec _) pksA rdsA) rfl rfl rfl ?_; rintro _ _ ⟨_, ⟨rfl, rfl⟩, rfl⟩) | (refine W.stp (Stp.calc rfl rfl (Spec.ask fun (hq : _ ∧ _) => arm1_call _ _ _ _ _ _ _ _ _ _ _ _ _ _ hq.1 hq.2) pksA rdsA) rfl rfl rfl ?_; rintro _ _ ⟨_, ⟨k14, hk14, rfl, rfl⟩, rfl⟩)); all_goals ((refine W.auto ?_); (conv => whnf))))
          | ((with_reducible refine W.at 20 ?_); first | (refine W.ev (Ev.load rfl rfl rdA rfl) rfl rfl rfl ?_; all_goals ((refine W.auto ?_); (conv => whnf))))
          | ((with_reducible refine W.atS 23 ?_); first | (refine stW1 rfl rfl rfl pkA ?_; (conv => whnf)))
          | refine Exists.intro _ (And.intro (resv_rfl rfl) ?_))
  all_goals first
    | exact DkPost.leaf2 (a' := ⟨_, _, _, _, _, _, _, agc⟩) (by (unfold dkSync; (try dsimp only); (try dsimp only [dkTear]); (repeat' split) <;> first | (exfalso; omega) | (exfalso; simp_all; done) | rfl)) pksA
    | skip
theorem Swap_spec (A : Option Addr) (c n : Nat) (x : List UInt8) (h : DkOK s) (ht : s.tr.length < 1000) (hn : n ≤ 1048577) : Spec Try.prog 14 [.pointer (some ⟨g, 0, none⟩), .slice A n c] [diskC g a s] [bR A c n x] (DkPost g (dkSwap s x)) := by
  refine Spec.disk fun hd => ?_
  refine Spec.fact (d := bR A c n x) (Rd.there (Rd.there (Rd.there (Rd.there (Rd.there ?_))))) bR_len fun hx => ?_
  · obtain ⟨b, n, dead, arm, tr⟩ := s; cases arm <;> first | exact Rd.here (Sub.refl _) | exact Rd.there (Rd.here (Sub.refl _))
  obtain ⟨hx1, hx2, hx3⟩ := hx
  subst hx1
  obtain ⟨hd1, hd2, hd3, hd4, hd5⟩ := hd
  obtain ⟨hs1, hs2, hs3, hs4⟩ := h
  obtain ⟨b, sn, dead, arm, tr⟩ := s
  obtain ⟨aA, ac, ak, aAt, act, akt, ahs, agc⟩ := a
  dsimp only at *
  subst hd1 hd2 hd3
  have ht3 : (ahs.map BH.bs).length = ahs.length := List.length_map _
  cases dead <;> cases arm
  all_goals dsimp only [diskL, armL, armV, List.cons_append, List.nil_append]
  all_goals refine Spec.intro Try.func14 rfl rfl Try.ntmps14 rfl fun w0 => ?_
  all_goals (try have hs5 := hs4 _ rfl)
  (all_goals (refine WC.auto ?_; (conv => whnf))); repeat' (first
          | ((with_reducible refine WB.auto ?_); (conv => whnf))
          | ((with_reducible refine WCB.auto ?_); (conv => whnf))
          | ((with_reducible refine WDB.auto ?_); (conv => whnf))
          | ((with_reducible refine Ob.at ?_); first | (refine Ob.mk (by first | omega | exact u8_bound _ | (have := u8_bound; omega) | (simp only [List.length_drop, List.length_take, List.length_append, List.length_replicate, List.length_set, List.length_cons, List.length_nil, Nat.min_def]; omega)) ?_; (conv => whnf)) | (refine Ob.mk' ?_ ?_; (conv => whnf)))
          | (refine spl_mk (fun hc => ?_) (fun hc => ?_) <;> (try simp only [Bool.not_eq_false', and_self, and_true, true_and, not_true, Bool.not_eq_true', Bool.not_false, Bool.not_true, decide_eq_true_eq, decide_eq_false_iff_not, Bool.false_eq_true, reduceCtorEq, Bool.true_eq_false, ne_eq, Decidable.not_not, Int.not_lt, Int.not_le, beq_self_eq_true, eq_self, not_true_eq_false, not_false_eq_true, Bool.not_eq_eq_eq_not, Bool.not_eq_true, Bool.not_eq_false, beq_iff_eq, beq_eq_false_iff_ne] at hc) <;> (try (exfalso; omega)) <;> (conv => whnf))
          | ((with_reducible refine NatK.at ?_); first | ((with_reducible refine NatK.cast ?_); (conv => whnf)) | (refine NatK.sym (by first | omega | exact u8_bound _ | (have := u8_bound; omega) | (simp only [List.length_drop, List.length_take, List.length_append, List.length_replicate, List.length_set, List.length_cons, List.length_nil, Nat.min_def]; omega)) (fun m hm => ?_); (conv => whnf)))
          | (intro q hq; (conv => whnf))
          | ((with_reducible refine WC.atR 9 ?_); refine WC.draw (id := 9) (ls := []) (.fl 0 (.fl 1 (.fl 2 (.fl 3 (.fl 5 (.two 4 (.one 6 (.one 7 (.one 8 (.fl 9 (.fl 10 (.one 11 .nil)))))) 6 (.two 4 (.one 7 (.one 8 (.fl 9 (.fl 10 (.one 11 .nil))))) 7 (.one 4 (.one 8 (.fl 9 (.fl 10 (.one 11 .nil)))))))))))) (by kernel_rfl) (by kernel_rfl) picksA ?_; refine WD.auto ?_; (conv => whnf))
          | ((with_reducible refine W.at 7 ?_); first | ((refine W.stp (Stp.cal rfl rfl (live_spec _ _ _ _ _ _ _ _ _ _ _ _) pksA rdsA) rfl rfl rfl ?_; rintro _ _ ⟨_, ⟨rfl, rfl⟩, rfl⟩); all_goals ((refine W.auto ?_); (conv => whnf))))
          | ((with_reducible refine W.at 17 ?_); first | (refine W.ev (Ev.load rfl rfl rdA rfl) rfl rfl rfl ?_; all_goals ((refine W.auto ?_); (conv => whnf))))
          | ((with_reducible refine W.at 19 ?_); first | ((first | (refine W.stp (Stp.cal rfl rfl (always_spec _) pksA rdsA) rfl rfl rfl ?_; rintro _ _ ⟨_, ⟨rfl, rfl⟩, rfl⟩) | (refine W.stp (Stp.calc rfl rfl (Spec.ask fun (hq : _ ∧ _) => arm1_call _ _ _ _ _ _ _ _ _ _ _ _ _ _ hq.1 hq.2) pksA rdsA) rfl rfl rfl ?_; rintro _ _ ⟨_, ⟨k19, hk19, rfl, rfl⟩, rfl⟩)); all_goals ((refine W.auto ?_); (conv => whnf))))
          | ((with_reducible refine W.at 24 ?_); first | ((refine W.stp (Stp.cal rfl rfl (copied_spec _ _ _ _ (by omega)) pksA rdsA) rfl rfl rfl ?_; rintro _ _ ⟨_, ⟨A24, c24, rfl, rfl⟩, rfl⟩); all_goals ((refine W.auto ?_); (conv => whnf))))
          | ((with_reducible refine W.atS 28 ?_); first | (refine stW1 rfl rfl rfl pkA ?_; (conv => whnf)))
          | ((with_reducible refine W.atS 30 ?_); first | (refine stW1 rfl rfl rfl pkA ?_; (conv => whnf)))
          | ((with_reducible refine WO.at 0 ?_); first | (refine WO.auto rfl rfl ?_; (conv => whnf); (fail_if_success (show False))) | (refine WO.off rfl rfl rfl rfl ?_; refine WD.auto ?_; (conv => whnf)))
          | ((with_reducible refine WO.at 1 ?_); first | (refine WO.auto rfl rfl ?_; (conv => whnf); (fail_if_success (show False))) | (refine WO.off rfl rfl rfl rfl ?_; refine WD.auto ?_; (conv => whnf)))
          | ((with_reducible refine WO.at 2 ?_); first | (refine WO.auto rfl rfl ?_; (conv => whnf); (fail_if_success (show False))) | (refine WO.off rfl rfl rfl rfl ?_; refine WD.auto ?_; (conv => whnf)))
          | ((with_reducible refine WO.at 3 ?_); first | (refine WO.auto rfl rfl ?_; (conv => whnf); (fail_if_success (show False))) | (refine WO.off rfl rfl rfl rfl ?_; refine WD.auto ?_; (conv => whnf)))
          | ((with_reducible refine WD.at 4 ?_); first | (refine WD.ev rfl (Ev.load rfl rfl rdA rfl) rfl rfl rfl ?_; all_goals (refine WD.auto ?_; (conv => whnf))))
          | ((with_reducible refine WO.at 4 ?_); first | (refine WO.ev rfl (Ev.load rfl rfl rdA rfl) rfl rfl rfl ?_; all_goals (refine WD.auto ?_; (conv => whnf))) | (refine WO.off rfl rfl rfl rfl ?_; refine WD.auto ?_; (conv => whnf)))
          | ((with_reducible refine WO.at 5 ?_); first | (refine WO.auto rfl rfl ?_; (conv => whnf); (fail_if_success (show False))) | (refine WO.off rfl rfl rfl rfl ?_; refine WD.auto ?_; (conv => whnf)))
          | ((with_reducible refine WO.at 6 ?_); first | ((refine WO.stp rfl (Stp.cal rfl rfl (copied_spec _ _ _ _ (by omega)) pksA rdsA) rfl rfl rfl ?_; rintro _ _ ⟨_, ⟨A37, c37, rfl, rfl⟩, rfl⟩); all_goals (refine WD.auto ?_; (conv => whnf))) | (refine WO.off rfl rfl rfl rfl ?_; refine WD.auto ?_; (conv => whnf)))
          | ((with_reducible refine WO.at 7 ?_); first | ((refine WO.stp rfl (Stp.buildSlice rfl rfl rfl rfl (by intro v hv; (repeat' (first | rfl | (cases hv; done) | (rcases List.mem_cons.1 hv with rfl | hv)))) rfl) rfl rfl rfl ?_; rintro _ _ ⟨g38, rfl, rfl⟩); all_goals (refine WD.auto ?_; (conv => whnf))) | (refine WO.off rfl rfl rfl rfl ?_; refine WD.auto ?_; (conv => whnf)))
          | ((with_reducible refine WO.at 8 ?_); first | ((refine WO.stp rfl (Stp.append rfl rfl pkA rdA (by exact (by intro v hv; (repeat' (first | rfl | (cases hv; done) | (rcases List.mem_cons.1 hv with rfl | hv))))) (by rfl) (by omega) (by omega) (by omega)) rfl rfl rfl ?_; rintro _ _ ⟨A2_39, c2_39, rfl, rfl⟩); all_goals (refine WD.auto ?_; (conv => whnf))) | ((refine WO.stp rfl (Stp.nil (Stp.append rfl rfl (by exact Pick.here) rdA (by exact (by intro v hv; (repeat' (first | rfl | (cases hv; done) | (rcases List.mem_cons.1 hv with rfl | hv))))) (by rfl) (by omega) (by omega) (by omega))) rfl rfl rfl ?_; rintro _ _ ⟨A2_39, c2_39, rfl, rfl⟩); all_goals (refine WD.auto ?_; (conv => whnf))) | (refine WO.off rfl rfl rfl rfl ?_; refine WD.auto ?_; (conv => whnf)))
          | ((with_reducible refine WO.at 9 ?_); first | (refine WO.auto rfl rfl ?_; (conv => whnf); (fail_if_success (show False))) | (refine WO.off rfl rfl rfl rfl ?_; refine WD.auto ?_; (conv => whnf)))
          | ((with_reducible refine WO.at 10 ?_); first | (refine WO.auto rfl rfl ?_; (conv => whnf); (fail_if_success (show False))) | (refine WO.off rfl rfl rfl rfl ?_; refine WD.auto ?_; (conv => whnf)))
          | ((with_reducible refine WO.at 11 ?_); first | (refine stO1 (i := 11) rfl rfl rfl rfl pkA ?_; (conv => whnf)) | (refine WO.off rfl rfl rfl rfl ?_; refine WD.auto ?_; (conv => whnf)))
          | (with_reducible refine WD.one ?_)
          | (with_reducible refine WD.two ?_ ?_)
          | (with_reducible refine WD.three ?_ ?_ ?_)
          | refine Exists.intro _ (And.intro (resv_rfl rfl) ?_))
  all_goals first
    | exact DkPost.leaf2 (a' := ⟨_, _, _, _, _, _, _, agc⟩) (by (unfold dkSwap; (try dsimp only); (try dsimp only [dkTear]); (repeat' split) <;> first | (exfalso; omega) | (exfalso; simp_all; done) | rfl)) pksA
    | skip
theorem Cut_spec (k : Int) (h : DkOK s) : Spec Try.prog 22 [.pointer (some ⟨g, 0, none⟩), .int .i64 k] [diskC g a s] [] (DkPost g (dkCut s k)) := by
  refine Spec.disk fun hd => ?_
  obtain ⟨hd1, hd2, hd3, hd4, hd5⟩ := hd
  obtain ⟨hs1, hs2, hs3, hs4⟩ := h
  obtain ⟨b, sn, dead, arm, tr⟩ := s
  obtain ⟨aA, ac, ak, aAt, act, akt, ahs, agc⟩ := a
  dsimp only at *
  subst hd1 hd2 hd3
  have ht3 : (ahs.map BH.bs).length = ahs.length := List.length_map _
  cases dead <;> cases arm
  all_goals dsimp only [diskL, armL, armV, List.cons_append, List.nil_append]
  all_goals refine Spec.intro Try.func22 rfl rfl Try.ntmps22 rfl fun w0 => ?_
  (all_goals (refine WC.auto ?_; (conv => whnf))); repeat' (first
          | ((with_reducible refine WB.auto ?_); (conv => whnf))
          | ((with_reducible refine WCB.auto ?_); (conv => whnf))
          | ((with_reducible refine Ob.at ?_); first | (refine Ob.mk (by first | omega | exact u8_bound _ | (have := u8_bound; omega) | (simp only [List.length_drop, List.length_take, List.length_append, List.length_replicate, List.length_set, List.length_cons, List.length_nil, Nat.min_def]; omega)) ?_; (conv => whnf)) | (refine Ob.mk' ?_ ?_; (conv => whnf)))
          | (refine spl_mk (fun hc => ?_) (fun hc => ?_) <;> (try simp only [Bool.not_eq_false', and_self, and_true, true_and, not_true, Bool.not_eq_true', Bool.not_false, Bool.not_true, decide_eq_true_eq, decide_eq_false_iff_not, Bool.false_eq_true, reduceCtorEq, Bool.true_eq_false, ne_eq, Decidable.not_not, Int.not_lt, Int.not_le, beq_self_eq_true, eq_self, not_true_eq_false, not_false_eq_true, Bool.not_eq_eq_eq_not, Bool.not_eq_true, Bool.not_eq_false, beq_iff_eq, beq_eq_false_iff_ne] at hc) <;> (try (exfalso; omega)) <;> (conv => whnf))
          | ((with_reducible refine NatK.at ?_); first | ((with_reducible refine NatK.cast ?_); (conv => whnf)) | (refine NatK.sym (by first | omega | exact u8_bound _ | (have := u8_bound; omega) | (simp only [List.length_drop, List.length_take, List.length_append, List.length_replicate, List.length_set, List.length_cons, List.length_nil, Nat.min_def]; omega)) (fun m hm => ?_); (conv => whnf)))
          | (intro q hq; (conv => whnf))
          | ((with_reducible refine W.at 7 ?_); first | ((refine W.stp (Stp.cal rfl rfl (live_spec _ _ _ _ _ _ _ _ _ _ _ _) pksA rdsA) rfl rfl rfl ?_; rintro _ _ ⟨_, ⟨rfl, rfl⟩, rfl⟩); all_goals ((refine W.auto ?_); (conv => whnf))))
          | ((with_reducible refine W.at 18 ?_); first | (refine W.ev (Ev.load rfl rfl rdA rfl) rfl rfl rfl ?_; all_goals ((refine W.auto ?_); (conv => whnf))))
          | ((with_reducible refine W.at 27 ?_); first | (refine W.ev (Ev.load rfl rfl rdA rfl) rfl rfl rfl ?_; all_goals ((refine W.auto ?_); (conv => whnf))))
          | ((with_reducible refine W.atS 32 ?_); first | (refine stW1 rfl rfl rfl pkA ?_; (conv => whnf)))
          | ((with_reducible refine W.atS 34 ?_); first | (refine stW1 rfl rfl rfl pkA ?_; (conv => whnf)))
          | refine Exists.intro _ (And.intro (resv_rfl rfl) ?_))
  all_goals first
    | exact DkPost.leaf2 (a' := ⟨_, _, _, _, _, _, _, agc⟩) (by (unfold dkCut; (try dsimp only); (repeat' split) <;> first | (exfalso; omega) | (exfalso; simp_all; done) | rfl)) pksA
    | skip
theorem Arm_spec (k : Int) (h : DkOK s) (hk : k ≤ 9223372036854775807) : Spec Try.prog 13 [.pointer (some ⟨g, 0, none⟩), .int .i64 k] [diskC g a s] [] (DkPost g (dkArm s k)) := by
  refine Spec.disk fun hd => ?_
  obtain ⟨hd1, hd2, hd3, hd4, hd5⟩ := hd
  obtain ⟨hs1, hs2, hs3, hs4⟩ := h
  obtain ⟨b, sn, dead, arm, tr⟩ := s
  obtain ⟨aA, ac, ak, aAt, act, akt, ahs, agc⟩ := a
  dsimp only at *
  subst hd1 hd2 hd3
  have ht3 : (ahs.map BH.bs).length = ahs.length := List.length_map _
  cases dead <;> cases arm
  all_goals dsimp only [diskL, armL, armV, List.cons_append, List.nil_append]
  all_goals refine Spec.intro Try.func13 rfl rfl Try.ntmps13 rfl fun w0 => ?_
  (all_goals (refine WC.auto ?_; (conv => whnf))); repeat' (first
          | ((with_reducible refine WB.auto ?_); (conv => whnf))
          | ((with_reducible refine WCB.auto ?_); (conv => whnf))
          | ((with_reducible refine Ob.at ?_); first | (refine Ob.mk (by first | omega | exact u8_bound _ | (have := u8_bound; omega) | (simp only [List.length_drop, List.length_take, List.length_append, List.length_replicate, List.length_set, List.length_cons, List.length_nil, Nat.min_def]; omega)) ?_; (conv => whnf)) | (refine Ob.mk' ?_ ?_; (conv => whnf)))
          | (refine spl_mk (fun hc => ?_) (fun hc => ?_) <;> (try simp only [Bool.not_eq_false', and_self, and_true, true_and, not_true, Bool.not_eq_true', Bool.not_false, Bool.not_true, decide_eq_true_eq, decide_eq_false_iff_not, Bool.false_eq_true, reduceCtorEq, Bool.true_eq_false, ne_eq, Decidable.not_not, Int.not_lt, Int.not_le, beq_self_eq_true, eq_self, not_true_eq_false, not_false_eq_true, Bool.not_eq_eq_eq_not, Bool.not_eq_true, Bool.not_eq_false, beq_iff_eq, beq_eq_false_iff_ne] at hc) <;> (try (exfalso; omega)) <;> (conv => whnf))
          | ((with_reducible refine NatK.at ?_); first | ((with_reducible refine NatK.cast ?_); (conv => whnf)) | (refine NatK.sym (by first | omega | exact u8_bound _ | (have := u8_bound; omega) | (simp only [List.length_drop, List.length_take, List.length_append, List.length_replicate, List.length_set, List.length_cons, List.length_nil, Nat.min_def]; omega)) (fun m hm => ?_); (conv => whnf)))
          | (intro q hq; (conv => whnf))
          | ((with_reducible refine W.at 3 ?_); first | ((refine W.stp (Stp.box1 rfl rfl) rfl rfl rfl ?_; rintro _ _ ⟨g3, rfl, rfl⟩); all_goals ((refine W.auto ?_); (conv => whnf))))
          | ((with_reducible refine W.at 7 ?_); first | ((refine W.stp (Stp.cal rfl rfl (live_spec _ _ _ _ _ _ _ _ _ _ _ _) pksA rdsA) rfl rfl rfl ?_; rintro _ _ ⟨_, ⟨rfl, rfl⟩, rfl⟩); all_goals ((refine W.auto ?_); (conv => whnf))))
          | ((with_reducible refine W.at 11 ?_); first | (refine W.ev (Ev.load rfl rfl rdA rfl) rfl rfl rfl ?_; all_goals ((refine W.auto ?_); (conv => whnf))) | (refine W.ev (Ev.loadI rfl rdA (by first | omega | (simp only [List.length_drop, List.length_take, List.length_append, List.length_replicate, List.length_set, List.length_cons, List.length_nil, Nat.min_def]; omega) | (simp; omega))) rfl rfl rfl ?_; all_goals ((refine W.auto ?_); (conv => whnf))))
          | ((with_reducible refine W.atS 16 ?_); first | (refine stW1 rfl rfl rfl pkA ?_; (conv => whnf)))
          | refine Exists.intro _ (And.intro (resv_rfl rfl) ?_))
  all_goals first
    | exact DkPost.leaf2 (a' := ⟨_, _, _, _, _, _, _, agc⟩) (by (unfold dkArm; (try dsimp only); (repeat' split) <;> first | (exfalso; omega) | (exfalso; simp_all; done) | rfl)) pksA
    | skip
  all_goals first
    | exact DkPost.leaf2 (a' := ⟨_, _, _, _, _, _, _, g3⟩) (by (unfold dkArm; (try dsimp only); (repeat' split) <;> first | (exfalso; omega) | (exfalso; simp_all; done) | rfl)) pksA
    | skip
theorem Crash_spec (k : Int) (h : DkOK s) (hk : k ≤ 9223372036854775807) : Spec Try.prog 20 [.pointer (some ⟨g, 0, none⟩), .int .i64 k] [diskC g a s] [] (DkPost g (dkCrash s k)) := by
  refine Spec.disk fun hd => ?_
  obtain ⟨hd1, hd2, hd3, hd4, hd5⟩ := hd
  obtain ⟨hs1, hs2, hs3, hs4⟩ := h
  obtain ⟨b, sn, dead, arm, tr⟩ := s
  obtain ⟨aA, ac, ak, aAt, act, akt, ahs, agc⟩ := a
  dsimp only at *
  subst hd1 hd2 hd3
  have ht3 : (ahs.map BH.bs).length = ahs.length := List.length_map _
  cases dead <;> cases arm
  all_goals dsimp only [diskL, armL, armV, List.cons_append, List.nil_append]
  all_goals refine Spec.intro Try.func20 rfl rfl Try.ntmps20 rfl fun w0 => ?_
  (all_goals (refine WC.auto ?_; (conv => whnf))); repeat' (first
          | ((with_reducible refine WB.auto ?_); (conv => whnf))
          | ((with_reducible refine WCB.auto ?_); (conv => whnf))
          | ((with_reducible refine Ob.at ?_); first | (refine Ob.mk (by first | omega | exact u8_bound _ | (have := u8_bound; omega) | (simp only [List.length_drop, List.length_take, List.length_append, List.length_replicate, List.length_set, List.length_cons, List.length_nil, Nat.min_def]; omega)) ?_; (conv => whnf)) | (refine Ob.mk' ?_ ?_; (conv => whnf)))
          | (refine spl_mk (fun hc => ?_) (fun hc => ?_) <;> (try simp only [Bool.not_eq_false', and_self, and_true, true_and, not_true, Bool.not_eq_true', Bool.not_false, Bool.not_true, decide_eq_true_eq, decide_eq_false_iff_not, Bool.false_eq_true, reduceCtorEq, Bool.true_eq_false, ne_eq, Decidable.not_not, Int.not_lt, Int.not_le, beq_self_eq_true, eq_self, not_true_eq_false, not_false_eq_true, Bool.not_eq_eq_eq_not, Bool.not_eq_true, Bool.not_eq_false, beq_iff_eq, beq_eq_false_iff_ne] at hc) <;> (try (exfalso; omega)) <;> (conv => whnf))
          | ((with_reducible refine NatK.at ?_); first | ((with_reducible refine NatK.cast ?_); (conv => whnf)) | (refine NatK.sym (by first | omega | exact u8_bound _ | (have := u8_bound; omega) | (simp only [List.length_drop, List.length_take, List.length_append, List.length_replicate, List.length_set, List.length_cons, List.length_nil, Nat.min_def]; omega)) (fun m hm => ?_); (conv => whnf)))
          | (intro q hq; (conv => whnf))
          | ((with_reducible refine W.at 7 ?_); first | ((refine W.stp (Stp.cal rfl rfl (none_spec _ _ _ _ _ _ _ _ _ _ _ _) pksA rdsA) rfl rfl rfl ?_; rintro _ _ ⟨_, ⟨rfl, rfl⟩, rfl⟩); all_goals ((refine W.auto ?_); (conv => whnf))))
          | ((with_reducible refine W.at 15 ?_); first | (refine W.ev (Ev.load rfl rfl rdA rfl) rfl rfl rfl ?_; all_goals ((refine W.auto ?_); (conv => whnf))))
          | ((with_reducible refine W.at 19 ?_); first | ((refine W.stp (Stp.cal rfl rfl (Spec.ask fun (hq : _ ∧ _) => tear_spec _ _ _ _ _ _ _ _ _ _ _ _ _ hq.1 hq.2) pksA rdsA) rfl rfl rfl ?_; rintro _ _ ⟨_, ⟨k19, hk19, rfl, rfl⟩, rfl⟩); all_goals ((refine W.auto ?_); (conv => whnf))))
          | refine Exists.intro _ (And.intro (resv_rfl rfl) ?_))
  all_goals first
    | exact DkPost.leaf2 (a' := ⟨_, _, _, _, _, _, _, agc⟩) (by (unfold dkCrash; (try dsimp only); (try dsimp only [dkTear]); (repeat' split) <;> first | (exfalso; omega) | (exfalso; simp_all; done) | rfl)) pksA
    | skip
theorem Revive_spec : Spec Try.prog 23 [.pointer (some ⟨g, 0, none⟩)] [diskC g a s] [] (DkPost g (dkRevive s)) := by
  refine Spec.disk fun hd => ?_
  obtain ⟨hd1, hd2, hd3, hd4, hd5⟩ := hd
  obtain ⟨b, sn, dead, arm, tr⟩ := s
  obtain ⟨aA, ac, ak, aAt, act, akt, ahs, agc⟩ := a
  dsimp only at *
  subst hd1 hd2 hd3
  cases arm
  all_goals dsimp only [diskL, armL, armV, List.cons_append, List.nil_append]
  all_goals refine Spec.intro Try.func23 rfl rfl Try.ntmps23 rfl fun w0 => ?_
  (all_goals (refine WC.auto ?_; (conv => whnf))); repeat' (first
          | ((with_reducible refine WB.auto ?_); (conv => whnf))
          | ((with_reducible refine WCB.auto ?_); (conv => whnf))
          | ((with_reducible refine Ob.at ?_); first | (refine Ob.mk (by first | omega | exact u8_bound _ | (have := u8_bound; omega) | (simp only [List.length_drop, List.length_take, List.length_append, List.length_replicate, List.length_set, List.length_cons, List.length_nil, Nat.min_def]; omega)) ?_; (conv => whnf)) | (refine Ob.mk' ?_ ?_; (conv => whnf)))
          | (refine spl_mk (fun hc => ?_) (fun hc => ?_) <;> (try simp only [Bool.not_eq_false', and_self, and_true, true_and, not_true, Bool.not_eq_true', Bool.not_false, Bool.not_true, decide_eq_true_eq, decide_eq_false_iff_not, Bool.false_eq_true, reduceCtorEq, Bool.true_eq_false, ne_eq, Decidable.not_not, Int.not_lt, Int.not_le, beq_self_eq_true, eq_self, not_true_eq_false, not_false_eq_true, Bool.not_eq_eq_eq_not, Bool.not_eq_true, Bool.not_eq_false, beq_iff_eq, beq_eq_false_iff_ne] at hc) <;> (try (exfalso; omega)) <;> (conv => whnf))
          | ((with_reducible refine NatK.at ?_); first | ((with_reducible refine NatK.cast ?_); (conv => whnf)) | (refine NatK.sym (by first | omega | exact u8_bound _ | (have := u8_bound; omega) | (simp only [List.length_drop, List.length_take, List.length_append, List.length_replicate, List.length_set, List.length_cons, List.length_nil, Nat.min_def]; omega)) (fun m hm => ?_); (conv => whnf)))
          | (intro q hq; (conv => whnf))
          | ((with_reducible refine W.at 4 ?_); first | ((refine W.stp (Stp.cal rfl rfl (none_spec _ _ _ _ _ _ _ _ _ _ _ _) pksA rdsA) rfl rfl rfl ?_; rintro _ _ ⟨_, ⟨rfl, rfl⟩, rfl⟩); all_goals ((refine W.auto ?_); (conv => whnf))))
          | ((with_reducible refine W.atS 8 ?_); first | (refine stW1 rfl rfl rfl pkA ?_; (conv => whnf)))
          | ((with_reducible refine W.atS 10 ?_); first | (refine stW1 rfl rfl rfl pkA ?_; (conv => whnf)))
          | refine Exists.intro _ (And.intro (resv_rfl rfl) ?_))
  all_goals exact DkPost.leaf2 (a' := ⟨_, _, _, _, _, _, _, 0⟩) (s' := ⟨_, _, false, none, _⟩) rfl pksA
end
end Go.SX
