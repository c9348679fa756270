/- The disk of the reference: what it answers. -/
import Derived.Test.YtfagffimejmjfaaDk9
namespace Go.SX
open Go Go.RowKit Go.Proofs
set_option linter.unusedVariables false
set_option linter.unusedSimpArgs false
set_option maxHeartbeats 4000000
section
variable (g : Nat) (a : DkA) (s : DK)
theorem rfails0 (A : Option Addr) (c k : Nat) (sy : Int) (dd : Bool) (At : Option Addr) (nt ct : Nat) :
    Spec Try.prog 42 [.pointer (some ⟨g, 0, none⟩)] [cellsC g 52 [.slice A k c, .int .i64 sy, .bool dd, .int .i64 (-1), .slice At nt ct]] []
    (fun v l' => v = .bool false ∧ l' = [cellsC g 52 [.slice A k c, .int .i64 sy, .bool dd, .int .i64 (-1), .slice At nt ct]]) := by
  refine Spec.intro Try.func42 rfl rfl Try.ntmps42 rfl fun w0 => ?_
  (all_goals (refine WC.auto ?_; (conv => whnf))); repeat' (first
          | ((with_reducible refine Ob.at ?_); first | (refine Ob.mk (by first | omega | exact u8_bound _ | (have := u8_bound; omega) | (simp only [List.length_drop, List.length_take, List.length_append, List.length_replicate, List.length_set, List.length_cons, List.length_nil, Nat.min_def]; omega)) ?_; (conv => whnf)) | (refine Ob.mk' ?_ ?_; (conv => whnf)))
          | (refine spl_mk (fun hc => ?_) (fun hc => ?_) <;> (try simp only [Bool.not_eq_false', and_self, and_true, true_and, not_true, Bool.not_eq_true', Bool.not_false, Bool.not_true, decide_eq_true_eq, decide_eq_false_iff_not, Bool.false_eq_true, reduceCtorEq, Bool.true_eq_false, ne_eq, Decidable.not_not, Int.not_lt, Int.not_le, beq_self_eq_true, eq_self, not_true_eq_false, not_false_eq_true, Bool.not_eq_eq_eq_not, Bool.not_eq_true, Bool.not_eq_false, beq_iff_eq, beq_eq_false_iff_ne] at hc) <;> (try (exfalso; omega)) <;> (conv => whnf))
          | ((with_reducible refine NatK.at ?_); first | ((with_reducible refine NatK.cast ?_); (conv => whnf)) | (refine NatK.sym (by first | omega | exact u8_bound _ | (have := u8_bound; omega) | (simp only [List.length_drop, List.length_take, List.length_append, List.length_replicate, List.length_set, List.length_cons, List.length_nil, Nat.min_def]; omega)) (fun m hm => ?_); (conv => whnf)))
          | (intro q hq; (conv => whnf))
          | ((with_reducible refine W.at 6 ?_); first | (refine W.ev (Ev.load rfl rfl rdA rfl) rfl rfl rfl ?_; all_goals ((refine W.auto ?_); (conv => whnf))) | (refine W.ev (Ev.loadI rfl rdA (by first | omega | (simp only [List.length_drop, List.length_take, List.length_append, List.length_replicate, List.length_set, List.length_cons, List.length_nil, Nat.min_def]; omega) | (simp; omega))) rfl rfl rfl ?_; all_goals ((refine W.auto ?_); (conv => whnf))))
          | ((with_reducible refine W.at 12 ?_); first | (refine W.ev (Ev.load rfl rfl rdA rfl) rfl rfl rfl ?_; all_goals ((refine W.auto ?_); (conv => whnf))) | (refine W.ev (Ev.loadI rfl rdA (by first | omega | (simp only [List.length_drop, List.length_take, List.length_append, List.length_replicate, List.length_set, List.length_cons, List.length_nil, Nat.min_def]; omega) | (simp; omega))) rfl rfl rfl ?_; all_goals ((refine W.auto ?_); (conv => whnf))))
          | ((with_reducible refine W.at 13 ?_); first | ((refine W.stp (Stp.cal rfl rfl (Spec.ask fun (hq : _ ∧ _) => rcut_spec _ _ _ _ _ _ _ _ _ _ _ hq.1 hq.2) pksA rdsA) rfl rfl rfl ?_; rintro _ _ ⟨_, ⟨k13, A13, c13, hk13, rfl, rfl⟩, rfl⟩); all_goals ((refine W.auto ?_); (conv => whnf))))
          | ((with_reducible refine W.atS 16 ?_); first | (refine stW1 rfl rfl rfl pkA ?_; (conv => whnf)))
          | refine Exists.intro _ (And.intro (resv_rfl rfl) ?_))
  all_goals first | exact ⟨_, ⟨rfl, rfl⟩, _, pksA⟩ | skip
theorem rfails1 (A : Option Addr) (c : Nat) (b : List UInt8) (sy : Int) (dd : Bool) (ar : Int) (At : Option Addr) (nt ct : Nat) (h : 0 ≤ sy ∧ sy ≤ b.length ∧ b.length ≤ 1048576 ∧ b.length ≤ c) (hc0 : 0 ≤ ar ∧ ar ≤ 9223372036854775807) :
    Spec Try.prog 42 [.pointer (some ⟨g, 0, none⟩)] [cellsC g 52 [.slice A b.length c, .int .i64 sy, .bool dd, .int .i64 ar, .slice At nt ct], bO A c 5 b.length b] []
    (fun v l' => ∃ k : Nat, ∃ A' c', (k : Int) = sy + min ((b.length : Int) - sy) ar ∧ v = .bool true ∧ l' = [cellsC g 52 [.slice A' k c', .int .i64 k, .bool true, .int .i64 ar, .slice At nt ct], bO A' c' 5 k (b.take k)]) := by
  refine Spec.intro Try.func42 rfl rfl Try.ntmps42 rfl fun w0 => ?_
  (all_goals (refine WC.auto ?_; (conv => whnf))); repeat' (first
          | ((with_reducible refine Ob.at ?_); first | (refine Ob.mk (by first | omega | exact u8_bound _ | (have := u8_bound; omega) | (simp only [List.length_drop, List.length_take, List.length_append, List.length_replicate, List.length_set, List.length_cons, List.length_nil, Nat.min_def]; omega)) ?_; (conv => whnf)) | (refine Ob.mk' ?_ ?_; (conv => whnf)))
          | (refine spl_mk (fun hc => ?_) (fun hc => ?_) <;> (try simp only [Bool.not_eq_false', and_self, and_true, true_and, not_true, Bool.not_eq_true', Bool.not_false, Bool.not_true, decide_eq_true_eq, decide_eq_false_iff_not, Bool.false_eq_true, reduceCtorEq, Bool.true_eq_false, ne_eq, Decidable.not_not, Int.not_lt, Int.not_le, beq_self_eq_true, eq_self, not_true_eq_false, not_false_eq_true, Bool.not_eq_eq_eq_not, Bool.not_eq_true, Bool.not_eq_false, beq_iff_eq, beq_eq_false_iff_ne] at hc) <;> (try (exfalso; omega)) <;> (conv => whnf))
          | ((with_reducible refine NatK.at ?_); first | ((with_reducible refine NatK.cast ?_); (conv => whnf)) | (refine NatK.sym (by first | omega | exact u8_bound _ | (have := u8_bound; omega) | (simp only [List.length_drop, List.length_take, List.length_append, List.length_replicate, List.length_set, List.length_cons, List.length_nil, Nat.min_def]; omega)) (fun m hm => ?_); (conv => whnf)))
          | (intro q hq; (conv => whnf))
          | ((with_reducible refine W.at 6 ?_); first | (refine W.ev (Ev.load rfl rfl rdA rfl) rfl rfl rfl ?_; all_goals ((refine W.auto ?_); (conv => whnf))) | (refine W.ev (Ev.loadI rfl rdA (by first | omega | (simp only [List.length_drop, List.length_take, List.length_append, List.length_replicate, List.length_set, List.length_cons, List.length_nil, Nat.min_def]; omega) | (simp; omega))) rfl rfl rfl ?_; all_goals ((refine W.auto ?_); (conv => whnf))))
          | ((with_reducible refine W.at 12 ?_); first | (refine W.ev (Ev.load rfl rfl rdA rfl) rfl rfl rfl ?_; all_goals ((refine W.auto ?_); (conv => whnf))) | (refine W.ev (Ev.loadI rfl rdA (by first | omega | (simp only [List.length_drop, List.length_take, List.length_append, List.length_replicate, List.length_set, List.length_cons, List.length_nil, Nat.min_def]; omega) | (simp; omega))) rfl rfl rfl ?_; all_goals ((refine W.auto ?_); (conv => whnf))))
          | ((with_reducible refine W.at 13 ?_); first | ((refine W.stp (Stp.cal rfl rfl (Spec.ask fun (hq : _ ∧ _) => rcut_spec _ _ _ _ _ _ _ _ _ _ _ hq.1 hq.2) pksA rdsA) rfl rfl rfl ?_; rintro _ _ ⟨_, ⟨k13, A13, c13, hk13, rfl, rfl⟩, rfl⟩); all_goals ((refine W.auto ?_); (conv => whnf))))
          | ((with_reducible refine W.atS 16 ?_); first | (refine stW1 rfl rfl rfl pkA ?_; (conv => whnf)))
          | refine Exists.intro _ (And.intro (resv_rfl rfl) ?_))
  all_goals first | exact ⟨_, ⟨_, _, _, by assumption, rfl, rfl⟩, _, pksA⟩ | skip


theorem rSync_spec (h : DkOK s) : Spec Try.prog 35 [.pointer (some ⟨g, 0, none⟩)] [rdkC g a s] [] (RdkPost g (dkSync s)) := by
  refine Spec.rdisk fun hd => ?_
  obtain ⟨hd1, hd2, hd3, hd4, hd5⟩ := hd
  obtain ⟨hs1, hs2, hs3, hs4⟩ := h
  obtain ⟨b, sn, dead, arm, tr⟩ := s
  obtain ⟨aA, ac, ak, aAt, act, akt, ahs, agc⟩ := a
  dsimp only at *
  subst hd1 hd2 hd3
  have ht3 : (ahs.map BH.bs).length = ahs.length := List.length_map _
  cases dead <;> cases arm
  all_goals dsimp only [rdkL, armI, List.cons_append, List.nil_append]
  all_goals refine Spec.intro Try.func35 rfl rfl Try.ntmps35 rfl fun w0 => ?_
  all_goals (try have hs5 := hs4 _ rfl)
  (all_goals (refine WC.auto ?_; (conv => whnf))); repeat' (first
          | ((with_reducible refine Ob.at ?_); first | (refine Ob.mk (by first | omega | exact u8_bound _ | (have := u8_bound; omega) | (simp only [List.length_drop, List.length_take, List.length_append, List.length_replicate, List.length_set, List.length_cons, List.length_nil, Nat.min_def]; omega)) ?_; (conv => whnf)) | (refine Ob.mk' ?_ ?_; (conv => whnf)))
          | (refine spl_mk (fun hc => ?_) (fun hc => ?_) <;> (try simp only [Bool.not_eq_false', and_self, and_true, true_and, not_true, Bool.not_eq_true', Bool.not_false, Bool.not_true, decide_eq_true_eq, decide_eq_false_iff_not, Bool.false_eq_true, reduceCtorEq, Bool.true_eq_false, ne_eq, Decidable.not_not, Int.not_lt, Int.not_le, beq_self_eq_true, eq_self, not_true_eq_false, not_false_eq_true, Bool.not_eq_eq_eq_not, Bool.not_eq_true, Bool.not_eq_false, beq_iff_eq, beq_eq_false_iff_ne] at hc) <;> (try (exfalso; omega)) <;> (conv => whnf))
          | ((with_reducible refine NatK.at ?_); first | ((with_reducible refine NatK.cast ?_); (conv => whnf)) | (refine NatK.sym (by first | omega | exact u8_bound _ | (have := u8_bound; omega) | (simp only [List.length_drop, List.length_take, List.length_append, List.length_replicate, List.length_set, List.length_cons, List.length_nil, Nat.min_def]; omega)) (fun m hm => ?_); (conv => whnf)))
          | (intro q hq; (conv => whnf))
          | ((with_reducible refine W.at 6 ?_); first | (refine W.ev (Ev.load rfl rfl rdA rfl) rfl rfl rfl ?_; all_goals ((refine W.auto ?_); (conv => whnf))))
          | ((with_reducible refine W.at 9 ?_); first | ((first | (refine W.stp (Stp.cal rfl rfl (rfails0 _ _ _ _ _ _ _ _ _) pksA rdsA) rfl rfl rfl ?_; rintro _ _ ⟨_, ⟨rfl, rfl⟩, rfl⟩) | (refine W.stp (Stp.cal rfl rfl (Spec.ask fun (hq : _ ∧ _) => rfails1 _ _ _ _ _ _ _ _ _ _ hq.1 hq.2) pksA rdsA) rfl rfl rfl ?_; rintro _ _ ⟨_, ⟨k9, A9, c9, hk9, rfl, rfl⟩, rfl⟩)); all_goals ((refine W.auto ?_); (conv => whnf))))
          | ((with_reducible refine W.at 15 ?_); first | (refine W.ev (Ev.load rfl rfl rdA rfl) rfl rfl rfl ?_; all_goals ((refine W.auto ?_); (conv => whnf))))
          | ((with_reducible refine W.atS 18 ?_); first | (refine stW1 rfl rfl rfl pkA ?_; (conv => whnf)))
          | refine Exists.intro _ (And.intro (resv_rfl rfl) ?_))
  all_goals first
    | exact RdkPost.leaf (a' := ⟨_, _, _, _, _, _, _, agc⟩) (by unfold dkSync dkTear; dsimp only; rw [← hk9]; rfl) pksA
    | (rename_i v0; exact RdkPost.leaf (a' := ⟨_, _, _, _, _, _, _, agc⟩) (s' := ⟨List.take k13 b, (k13 : Int), true, some v0, List.map BH.bs ahs⟩) (by unfold dkSwap dkTear; dsimp only; rw [if_neg (by simp), if_neg (by omega), ← hk13]; rfl) pksA)
    | exact RdkPost.leaf (a' := ⟨_, _, _, _, _, _, _, agc⟩) (by unfold dkCrash dkTear; dsimp only; rw [if_neg (by omega), ← hk14]; rfl) pksA
    | exact RdkPost.leaf (a' := ⟨_, _, _, _, _, _, _, agc⟩) (by (unfold dkWrite; (try dsimp only); (repeat' split) <;> first | (exfalso; omega) | (exfalso; simp_all; done) | rfl)) pksA
    | exact RdkPost.leaf (a' := ⟨_, _, _, _, _, _, _, agc⟩) (by (unfold dkSync; (try dsimp only); (try dsimp only [dkTear]); (repeat' split) <;> first | (exfalso; omega) | (exfalso; simp_all; done) | rfl)) pksA
    | exact RdkPost.leaf (a' := ⟨_, _, _, _, _, _, _, agc⟩) (by (unfold dkSwap; (try dsimp only); (try dsimp only [dkTear]); (repeat' split) <;> first | (exfalso; omega) | (exfalso; simp_all; done) | rfl)) pksA
    | exact RdkPost.leaf (a' := ⟨_, _, _, _, _, _, _, agc⟩) (by (unfold dkCut; (try dsimp only); (repeat' split) <;> first | (exfalso; omega) | (exfalso; simp_all; done) | rfl)) pksA
    | exact RdkPost.leaf (a' := ⟨_, _, _, _, _, _, _, agc⟩) (by (unfold dkArm; (try dsimp only); (repeat' split) <;> first | (exfalso; omega) | (exfalso; simp_all; done) | rfl)) pksA
    | exact RdkPost.leaf (a' := ⟨_, _, _, _, _, _, _, agc⟩) (by (unfold dkCrash; (try dsimp only); (try dsimp only [dkTear]); (repeat' split) <;> first | (exfalso; omega) | (exfalso; simp_all; done) | rfl)) pksA
    | (subst hm; exact RdkPost.leaf (a' := ⟨_, _, _, _, _, _, _, agc⟩) (s' := ⟨List.take m b, (m : Int), _, _, _⟩) (by (unfold dkCut; (try dsimp only); (repeat' split) <;> first | (exfalso; omega) | (exfalso; simp_all; done) | rfl)) pksA)
    | skip
theorem rSwap_spec (A : Option Addr) (c n : Nat) (x : List UInt8) (h : DkOK s) (ht : s.tr.length < 1000) (hn : n ≤ 1048577) : Spec Try.prog 36 [.pointer (some ⟨g, 0, none⟩), .slice A n c] [rdkC g a s] [bR A c n x] (RdkPost g (dkSwap s x)) := by
  refine Spec.fact (d := bR A c n x) (Rd.there (Rd.here (Sub.refl _))) bR_len fun hx => ?_
  obtain ⟨hx1, hx2, hx3⟩ := hx
  subst hx1
  refine Spec.rdisk fun hd => ?_
  obtain ⟨hd1, hd2, hd3, hd4, hd5⟩ := hd
  obtain ⟨hs1, hs2, hs3, hs4⟩ := h
  obtain ⟨b, sn, dead, arm, tr⟩ := s
  obtain ⟨aA, ac, ak, aAt, act, akt, ahs, agc⟩ := a
  dsimp only at *
  subst hd1 hd2 hd3
  have ht3 : (ahs.map BH.bs).length = ahs.length := List.length_map _
  cases dead <;> cases arm
  all_goals dsimp only [rdkL, armI, List.cons_append, List.nil_append]
  all_goals refine Spec.intro Try.func36 rfl rfl Try.ntmps36 rfl fun w0 => ?_
  all_goals (try have hs5 := hs4 _ rfl)
  (all_goals (refine WC.auto ?_; (conv => whnf))); repeat' (first
          | ((with_reducible refine Ob.at ?_); first | (refine Ob.mk (by first | omega | exact u8_bound _ | (have := u8_bound; omega) | (simp only [List.length_drop, List.length_take, List.length_append, List.length_replicate, List.length_set, List.length_cons, List.length_nil, Nat.min_def]; omega)) ?_; (conv => whnf)) | (refine Ob.mk' ?_ ?_; (conv => whnf)))
          | (refine spl_mk (fun hc => ?_) (fun hc => ?_) <;> (try simp only [Bool.not_eq_false', and_self, and_true, true_and, not_true, Bool.not_eq_true', Bool.not_false, Bool.not_true, decide_eq_true_eq, decide_eq_false_iff_not, Bool.false_eq_true, reduceCtorEq, Bool.true_eq_false, ne_eq, Decidable.not_not, Int.not_lt, Int.not_le, beq_self_eq_true, eq_self, not_true_eq_false, not_false_eq_true, Bool.not_eq_eq_eq_not, Bool.not_eq_true, Bool.not_eq_false, beq_iff_eq, beq_eq_false_iff_ne] at hc) <;> (try (exfalso; omega)) <;> (conv => whnf))
          | ((with_reducible refine NatK.at ?_); first | ((with_reducible refine NatK.cast ?_); (conv => whnf)) | (refine NatK.sym (by first | omega | exact u8_bound _ | (have := u8_bound; omega) | (simp only [List.length_drop, List.length_take, List.length_append, List.length_replicate, List.length_set, List.length_cons, List.length_nil, Nat.min_def]; omega)) (fun m hm => ?_); (conv => whnf)))
          | (intro q hq; (conv => whnf))
          | ((with_reducible refine WC.atR 9 ?_); refine WC.draw (id := 9) (ls := []) (.fl 0 (.fl 1 (.fl 2 (.fl 3 (.fl 5 (.two 4 (.one 6 (.one 7 (.one 8 (.fl 9 (.fl 10 (.one 11 .nil)))))) 6 (.two 4 (.one 7 (.one 8 (.fl 9 (.fl 10 (.one 11 .nil))))) 7 (.one 4 (.one 8 (.fl 9 (.fl 10 (.one 11 .nil)))))))))))) (by kernel_rfl) (by kernel_rfl) picksA ?_; refine WD.auto ?_; (conv => whnf))
          | ((with_reducible refine W.at 8 ?_); first | (refine W.ev (Ev.load rfl rfl rdA rfl) rfl rfl rfl ?_; all_goals ((refine W.auto ?_); (conv => whnf))))
          | ((with_reducible refine W.at 13 ?_); first | ((first | (refine W.stp (Stp.cal rfl rfl (rfails0 _ _ _ _ _ _ _ _ _) pksA rdsA) rfl rfl rfl ?_; rintro _ _ ⟨_, ⟨rfl, rfl⟩, rfl⟩) | (refine W.stp (Stp.cal rfl rfl (Spec.ask fun (hq : _ ∧ _) => rfails1 _ _ _ _ _ _ _ _ _ _ hq.1 hq.2) pksA rdsA) rfl rfl rfl ?_; rintro _ _ ⟨_, ⟨k13, A13, c13, hk13, rfl, rfl⟩, rfl⟩)); all_goals ((refine W.auto ?_); (conv => whnf))))
          | ((with_reducible refine W.at 16 ?_); first | ((refine W.stp (Stp.cal rfl rfl (CopyBytes_spec _ _ _ _ (by omega)) pksA rdsA) rfl rfl rfl ?_; rintro _ _ ⟨_, ⟨A16, c16, rfl, rfl⟩, rfl⟩); all_goals ((refine W.auto ?_); (conv => whnf))))
          | ((with_reducible refine W.atS 18 ?_); first | (refine stW1 rfl rfl rfl pkA ?_; (conv => whnf)))
          | ((with_reducible refine W.atS 23 ?_); first | (refine stW1 rfl rfl rfl pkA ?_; (conv => whnf)))
          | ((with_reducible refine WO.at 0 ?_); first | (refine WO.auto rfl rfl ?_; (conv => whnf); (fail_if_success (show False))) | (refine WO.off rfl rfl rfl rfl ?_; refine WD.auto ?_; (conv => whnf)))
          | ((with_reducible refine WO.at 1 ?_); first | (refine WO.auto rfl rfl ?_; (conv => whnf); (fail_if_success (show False))) | (refine WO.off rfl rfl rfl rfl ?_; refine WD.auto ?_; (conv => whnf)))
          | ((with_reducible refine WO.at 2 ?_); first | (refine WO.auto rfl rfl ?_; (conv => whnf); (fail_if_success (show False))) | (refine WO.off rfl rfl rfl rfl ?_; refine WD.auto ?_; (conv => whnf)))
          | ((with_reducible refine WO.at 3 ?_); first | (refine WO.auto rfl rfl ?_; (conv => whnf); (fail_if_success (show False))) | (refine WO.off rfl rfl rfl rfl ?_; refine WD.auto ?_; (conv => whnf)))
          | ((with_reducible refine WD.at 4 ?_); first | (refine WD.ev rfl (Ev.load rfl rfl rdA rfl) rfl rfl rfl ?_; all_goals (refine WD.auto ?_; (conv => whnf))))
          | ((with_reducible refine WO.at 4 ?_); first | (refine WO.ev rfl (Ev.load rfl rfl rdA rfl) rfl rfl rfl ?_; all_goals (refine WD.auto ?_; (conv => whnf))) | (refine WO.off rfl rfl rfl rfl ?_; refine WD.auto ?_; (conv => whnf)))
          | ((with_reducible refine WO.at 5 ?_); first | (refine WO.auto rfl rfl ?_; (conv => whnf); (fail_if_success (show False))) | (refine WO.off rfl rfl rfl rfl ?_; refine WD.auto ?_; (conv => whnf)))
          | ((with_reducible refine WO.at 6 ?_); first | ((refine WO.stp rfl (Stp.cal rfl rfl (CopyBytes_spec _ _ _ _ (by omega)) pksA rdsA) rfl rfl rfl ?_; rintro _ _ ⟨_, ⟨A30, c30, rfl, rfl⟩, rfl⟩); all_goals (refine WD.auto ?_; (conv => whnf))) | (refine WO.off rfl rfl rfl rfl ?_; refine WD.auto ?_; (conv => whnf)))
          | ((with_reducible refine WO.at 7 ?_); first | ((refine WO.stp rfl (Stp.buildSlice rfl rfl rfl rfl (by intro v hv; (repeat' (first | rfl | (cases hv; done) | (rcases List.mem_cons.1 hv with rfl | hv)))) rfl) rfl rfl rfl ?_; rintro _ _ ⟨g31, rfl, rfl⟩); all_goals (refine WD.auto ?_; (conv => whnf))) | (refine WO.off rfl rfl rfl rfl ?_; refine WD.auto ?_; (conv => whnf)))
          | ((with_reducible refine WO.at 8 ?_); first | ((refine WO.stp rfl (Stp.append rfl rfl pkA rdA (by exact (by intro v hv; (repeat' (first | rfl | (cases hv; done) | (rcases List.mem_cons.1 hv with rfl | hv))))) (by rfl) (by omega) (by omega) (by omega)) rfl rfl rfl ?_; rintro _ _ ⟨A2_32, c2_32, rfl, rfl⟩); all_goals (refine WD.auto ?_; (conv => whnf))) | ((refine WO.stp rfl (Stp.nil (Stp.append rfl rfl (by exact Pick.here) rdA (by exact (by intro v hv; (repeat' (first | rfl | (cases hv; done) | (rcases List.mem_cons.1 hv with rfl | hv))))) (by rfl) (by omega) (by omega) (by omega))) rfl rfl rfl ?_; rintro _ _ ⟨A2_32, c2_32, rfl, rfl⟩); all_goals (refine WD.auto ?_; (conv => whnf))) | (refine WO.off rfl rfl rfl rfl ?_; refine WD.auto ?_; (conv => whnf)))
          | ((with_reducible refine WO.at 9 ?_); first | (refine WO.auto rfl rfl ?_; (conv => whnf); (fail_if_success (show False))) | (refine WO.off rfl rfl rfl rfl ?_; refine WD.auto ?_; (conv => whnf)))
          | ((with_reducible refine WO.at 10 ?_); first | (refine WO.auto rfl rfl ?_; (conv => whnf); (fail_if_success (show False))) | (refine WO.off rfl rfl rfl rfl ?_; refine WD.auto ?_; (conv => whnf)))
          | ((with_reducible refine WO.at 11 ?_); first | (refine stO1 (i := 11) rfl rfl rfl rfl pkA ?_; (conv => whnf)) | (refine WO.off rfl rfl rfl rfl ?_; refine WD.auto ?_; (conv => whnf)))
          | (with_reducible refine WD.one ?_)
          | (with_reducible refine WD.two ?_ ?_)
          | (with_reducible refine WD.three ?_ ?_ ?_)
          | refine Exists.intro _ (And.intro (resv_rfl rfl) ?_))
  all_goals first
    | exact RdkPost.leaf (a' := ⟨_, _, _, _, _, _, _, agc⟩) (by unfold dkSync dkTear; dsimp only; rw [← hk9]; rfl) pksA
    | (rename_i v0; exact RdkPost.leaf (a' := ⟨_, _, _, _, _, _, _, agc⟩) (s' := ⟨List.take k13 b, (k13 : Int), true, some v0, List.map BH.bs ahs⟩) (by unfold dkSwap dkTear; dsimp only; rw [if_neg (by simp), if_neg (by omega), ← hk13]; rfl) pksA)
    | exact RdkPost.leaf (a' := ⟨_, _, _, _, _, _, _, agc⟩) (by unfold dkCrash dkTear; dsimp only; rw [if_neg (by omega), ← hk14]; rfl) pksA
    | exact RdkPost.leaf (a' := ⟨_, _, _, _, _, _, _, agc⟩) (by (unfold dkWrite; (try dsimp only); (repeat' split) <;> first | (exfalso; omega) | (exfalso; simp_all; done) | rfl)) pksA
    | exact RdkPost.leaf (a' := ⟨_, _, _, _, _, _, _, agc⟩) (by (unfold dkSync; (try dsimp only); (try dsimp only [dkTear]); (repeat' split) <;> first | (exfalso; omega) | (exfalso; simp_all; done) | rfl)) pksA
    | exact RdkPost.leaf (a' := ⟨_, _, _, _, _, _, _, agc⟩) (by (unfold dkSwap; (try dsimp only); (try dsimp only [dkTear]); (repeat' split) <;> first | (exfalso; omega) | (exfalso; simp_all; done) | rfl)) pksA
    | exact RdkPost.leaf (a' := ⟨_, _, _, _, _, _, _, agc⟩) (by (unfold dkCut; (try dsimp only); (repeat' split) <;> first | (exfalso; omega) | (exfalso; simp_all; done) | rfl)) pksA
    | exact RdkPost.leaf (a' := ⟨_, _, _, _, _, _, _, agc⟩) (by (unfold dkArm; (try dsimp only); (repeat' split) <;> first | (exfalso; omega) | (exfalso; simp_all; done) | rfl)) pksA
    | exact RdkPost.leaf (a' := ⟨_, _, _, _, _, _, _, agc⟩) (by (unfold dkCrash; (try dsimp only); (try dsimp only [dkTear]); (repeat' split) <;> first | (exfalso; omega) | (exfalso; simp_all; done) | rfl)) pksA
    | (subst hm; exact RdkPost.leaf (a' := ⟨_, _, _, _, _, _, _, agc⟩) (s' := ⟨List.take m b, (m : Int), _, _, _⟩) (by (unfold dkCut; (try dsimp only); (repeat' split) <;> first | (exfalso; omega) | (exfalso; simp_all; done) | rfl)) pksA)
    | skip
theorem rCut_spec (k : Int) (h : DkOK s) : Spec Try.prog 37 [.pointer (some ⟨g, 0, none⟩), .int .i64 k] [rdkC g a s] [] (RdkPost g (dkCut s k)) := by
  refine Spec.rdisk fun hd => ?_
  obtain ⟨hd1, hd2, hd3, hd4, hd5⟩ := hd
  obtain ⟨hs1, hs2, hs3, hs4⟩ := h
  obtain ⟨b, sn, dead, arm, tr⟩ := s
  obtain ⟨aA, ac, ak, aAt, act, akt, ahs, agc⟩ := a
  dsimp only at *
  subst hd1 hd2 hd3
  have ht3 : (ahs.map BH.bs).length = ahs.length := List.length_map _
  cases dead <;> cases arm
  all_goals dsimp only [rdkL, armI, List.cons_append, List.nil_append]
  all_goals refine Spec.intro Try.func37 rfl rfl Try.ntmps37 rfl fun w0 => ?_
  (all_goals (refine WC.auto ?_; (conv => whnf))); repeat' (first
          | ((with_reducible refine Ob.at ?_); first | (refine Ob.mk (by first | omega | exact u8_bound _ | (have := u8_bound; omega) | (simp only [List.length_drop, List.length_take, List.length_append, List.length_replicate, List.length_set, List.length_cons, List.length_nil, Nat.min_def]; omega)) ?_; (conv => whnf)) | (refine Ob.mk' ?_ ?_; (conv => whnf)))
          | (refine spl_mk (fun hc => ?_) (fun hc => ?_) <;> (try simp only [Bool.not_eq_false', and_self, and_true, true_and, not_true, Bool.not_eq_true', Bool.not_false, Bool.not_true, decide_eq_true_eq, decide_eq_false_iff_not, Bool.false_eq_true, reduceCtorEq, Bool.true_eq_false, ne_eq, Decidable.not_not, Int.not_lt, Int.not_le, beq_self_eq_true, eq_self, not_true_eq_false, not_false_eq_true, Bool.not_eq_eq_eq_not, Bool.not_eq_true, Bool.not_eq_false, beq_iff_eq, beq_eq_false_iff_ne] at hc) <;> (try (exfalso; omega)) <;> (conv => whnf))
          | ((with_reducible refine NatK.at ?_); first | ((with_reducible refine NatK.cast ?_); (conv => whnf)) | (refine NatK.sym (by first | omega | exact u8_bound _ | (have := u8_bound; omega) | (simp only [List.length_drop, List.length_take, List.length_append, List.length_replicate, List.length_set, List.length_cons, List.length_nil, Nat.min_def]; omega)) (fun m hm => ?_); (conv => whnf)))
          | (intro q hq; (conv => whnf))
          | ((with_reducible refine W.at 8 ?_); first | (refine W.ev (Ev.load rfl rfl rdA rfl) rfl rfl rfl ?_; all_goals ((refine W.auto ?_); (conv => whnf))))
          | ((with_reducible refine W.at 16 ?_); first | (refine W.ev (Ev.load rfl rfl rdA rfl) rfl rfl rfl ?_; all_goals ((refine W.auto ?_); (conv => whnf))))
          | ((with_reducible refine W.at 24 ?_); first | (refine W.ev (Ev.load rfl rfl rdA rfl) rfl rfl rfl ?_; all_goals ((refine W.auto ?_); (conv => whnf))))
          | ((with_reducible refine W.at 27 ?_); first | ((refine W.stp (Stp.cal rfl rfl (CopyBytes_spec _ _ _ _ (by omega)) pksA rdsA) rfl rfl rfl ?_; rintro _ _ ⟨_, ⟨A27, c27, rfl, rfl⟩, rfl⟩); all_goals ((refine W.auto ?_); (conv => whnf))))
          | ((with_reducible refine W.atS 29 ?_); first | (refine stW1 rfl rfl rfl pkA ?_; (conv => whnf)))
          | ((with_reducible refine W.atS 33 ?_); first | (refine stW1 rfl rfl rfl pkA ?_; (conv => whnf)))
          | refine Exists.intro _ (And.intro (resv_rfl rfl) ?_))
  all_goals first
    | exact RdkPost.leaf (a' := ⟨_, _, _, _, _, _, _, agc⟩) (by unfold dkSync dkTear; dsimp only; rw [← hk9]; rfl) pksA
    | (rename_i v0; exact RdkPost.leaf (a' := ⟨_, _, _, _, _, _, _, agc⟩) (s' := ⟨List.take k13 b, (k13 : Int), true, some v0, List.map BH.bs ahs⟩) (by unfold dkSwap dkTear; dsimp only; rw [if_neg (by simp), if_neg (by omega), ← hk13]; rfl) pksA)
    | exact RdkPost.leaf (a' := ⟨_, _, _, _, _, _, _, agc⟩) (by unfold dkCrash dkTear; dsimp only; rw [if_neg (by omega), ← hk14]; rfl) pksA
    | exact RdkPost.leaf (a' := ⟨_, _, _, _, _, _, _, agc⟩) (by (unfold dkWrite; (try dsimp only); (repeat' split) <;> first | (exfalso; omega) | (exfalso; simp_all; done) | rfl)) pksA
    | exact RdkPost.leaf (a' := ⟨_, _, _, _, _, _, _, agc⟩) (by (unfold dkSync; (try dsimp only); (try dsimp only [dkTear]); (repeat' split) <;> first | (exfalso; omega) | (exfalso; simp_all; done) | rfl)) pksA
    | exact RdkPost.leaf (a' := ⟨_, _, _, _, _, _, _, agc⟩) (by (unfold dkSwap; (try dsimp only); (try dsimp only [dkTear]); (repeat' split) <;> first | (exfalso; omega) | (exfalso; simp_all; done) | rfl)) pksA
    | exact RdkPost.leaf (a' := ⟨_, _, _, _, _, _, _, agc⟩) (by (unfold dkCut; (try dsimp only); (repeat' split) <;> first | (exfalso; omega) | (exfalso; simp_all; done) | rfl)) pksA
    | exact RdkPost.leaf (a' := ⟨_, _, _, _, _, _, _, agc⟩) (by (unfold dkArm; (try dsimp only); (repeat' split) <;> first | (exfalso; omega) | (exfalso; simp_all; done) | rfl)) pksA
    | exact RdkPost.leaf (a' := ⟨_, _, _, _, _, _, _, agc⟩) (by (unfold dkCrash; (try dsimp only); (try dsimp only [dkTear]); (repeat' split) <;> first | (exfalso; omega) | (exfalso; simp_all; done) | rfl)) pksA
    | (subst hm; exact RdkPost.leaf (a' := ⟨_, _, _, _, _, _, _, agc⟩) (s' := ⟨List.take m b, (m : Int), _, _, _⟩) (by (unfold dkCut; (try dsimp only); (repeat' split) <;> first | (exfalso; omega) | (exfalso; simp_all; done) | rfl)) pksA)
    | skip
theorem rArm_spec (k : Int) (h : DkOK s) : Spec Try.prog 38 [.pointer (some ⟨g, 0, none⟩), .int .i64 k] [rdkC g a s] [] (RdkPost g (dkArm s k)) := by
  refine Spec.rdisk fun hd => ?_
  obtain ⟨hd1, hd2, hd3, hd4, hd5⟩ := hd
  obtain ⟨hs1, hs2, hs3, hs4⟩ := h
  obtain ⟨b, sn, dead, arm, tr⟩ := s
  obtain ⟨aA, ac, ak, aAt, act, akt, ahs, agc⟩ := a
  dsimp only at *
  subst hd1 hd2 hd3
  have ht3 : (ahs.map BH.bs).length = ahs.length := List.length_map _
  cases dead <;> cases arm
  all_goals dsimp only [rdkL, armI, List.cons_append, List.nil_append]
  all_goals refine Spec.intro Try.func38 rfl rfl Try.ntmps38 rfl fun w0 => ?_
  (all_goals (refine WC.auto ?_; (conv => whnf))); repeat' (first
          | ((with_reducible refine Ob.at ?_); first | (refine Ob.mk (by first | omega | exact u8_bound _ | (have := u8_bound; omega) | (simp only [List.length_drop, List.length_take, List.length_append, List.length_replicate, List.length_set, List.length_cons, List.length_nil, Nat.min_def]; omega)) ?_; (conv => whnf)) | (refine Ob.mk' ?_ ?_; (conv => whnf)))
          | (refine spl_mk (fun hc => ?_) (fun hc => ?_) <;> (try simp only [Bool.not_eq_false', and_self, and_true, true_and, not_true, Bool.not_eq_true', Bool.not_false, Bool.not_true, decide_eq_true_eq, decide_eq_false_iff_not, Bool.false_eq_true, reduceCtorEq, Bool.true_eq_false, ne_eq, Decidable.not_not, Int.not_lt, Int.not_le, beq_self_eq_true, eq_self, not_true_eq_false, not_false_eq_true, Bool.not_eq_eq_eq_not, Bool.not_eq_true, Bool.not_eq_false, beq_iff_eq, beq_eq_false_iff_ne] at hc) <;> (try (exfalso; omega)) <;> (conv => whnf))
          | ((with_reducible refine NatK.at ?_); first | ((with_reducible refine NatK.cast ?_); (conv => whnf)) | (refine NatK.sym (by first | omega | exact u8_bound _ | (have := u8_bound; omega) | (simp only [List.length_drop, List.length_take, List.length_append, List.length_replicate, List.length_set, List.length_cons, List.length_nil, Nat.min_def]; omega)) (fun m hm => ?_); (conv => whnf)))
          | (intro q hq; (conv => whnf))
          | ((with_reducible refine W.at 8 ?_); first | (refine W.ev (Ev.load rfl rfl rdA rfl) rfl rfl rfl ?_; all_goals ((refine W.auto ?_); (conv => whnf))))
          | ((with_reducible refine W.atS 14 ?_); first | (refine stW1 rfl rfl rfl pkA ?_; (conv => whnf)))
          | refine Exists.intro _ (And.intro (resv_rfl rfl) ?_))
  all_goals first
    | exact RdkPost.leaf (a' := ⟨_, _, _, _, _, _, _, agc⟩) (by unfold dkSync dkTear; dsimp only; rw [← hk9]; rfl) pksA
    | (rename_i v0; exact RdkPost.leaf (a' := ⟨_, _, _, _, _, _, _, agc⟩) (s' := ⟨List.take k13 b, (k13 : Int), true, some v0, List.map BH.bs ahs⟩) (by unfold dkSwap dkTear; dsimp only; rw [if_neg (by simp), if_neg (by omega), ← hk13]; rfl) pksA)
    | exact RdkPost.leaf (a' := ⟨_, _, _, _, _, _, _, agc⟩) (by unfold dkCrash dkTear; dsimp only; rw [if_neg (by omega), ← hk14]; rfl) pksA
    | exact RdkPost.leaf (a' := ⟨_, _, _, _, _, _, _, agc⟩) (by (unfold dkWrite; (try dsimp only); (repeat' split) <;> first | (exfalso; omega) | (exfalso; simp_all; done) | rfl)) pksA
    | exact RdkPost.leaf (a' := ⟨_, _, _, _, _, _, _, agc⟩) (by (unfold dkSync; (try dsimp only); (try dsimp only [dkTear]); (repeat' split) <;> first | (exfalso; omega) | (exfalso; simp_all; done) | rfl)) pksA
    | exact RdkPost.leaf (a' := ⟨_, _, _, _, _, _, _, agc⟩) (by (unfold dkSwap; (try dsimp only); (try dsimp only [dkTear]); (repeat' split) <;> first | (exfalso; omega) | (exfalso; simp_all; done) | rfl)) pksA
    | exact RdkPost.leaf (a' := ⟨_, _, _, _, _, _, _, agc⟩) (by (unfold dkCut; (try dsimp only); (repeat' split) <;> first | (exfalso; omega) | (exfalso; simp_all; done) | rfl)) pksA
    | exact RdkPost.leaf (a' := ⟨_, _, _, _, _, _, _, agc⟩) (by (unfold dkArm; (try dsimp only); (repeat' split) <;> first | (exfalso; omega) | (exfalso; simp_all; done) | rfl)) pksA
    | exact RdkPost.leaf (a' := ⟨_, _, _, _, _, _, _, agc⟩) (by (unfold dkCrash; (try dsimp only); (try dsimp only [dkTear]); (repeat' split) <;> first | (exfalso; omega) | (exfalso; simp_all; done) | rfl)) pksA
    | (subst hm; exact RdkPost.leaf (a' := ⟨_, _, _, _, _, _, _, agc⟩) (s' := ⟨List.take m b, (m : Int), _, _, _⟩) (by (unfold dkCut; (try dsimp only); (repeat' split) <;> first | (exfalso; omega) | (exfalso; simp_all; done) | rfl)) pksA)
    | skip
theorem rCrash_spec (k : Int) (h : DkOK s) (hk : k ≤ 9223372036854775807) : Spec Try.prog 39 [.pointer (some ⟨g, 0, none⟩), .int .i64 k] [rdkC g a s] [] (RdkPost g (dkCrash s k)) := by
  refine Spec.rdisk fun hd => ?_
  obtain ⟨hd1, hd2, hd3, hd4, hd5⟩ := hd
  obtain ⟨hs1, hs2, hs3, hs4⟩ := h
  obtain ⟨b, sn, dead, arm, tr⟩ := s
  obtain ⟨aA, ac, ak, aAt, act, akt, ahs, agc⟩ := a
  dsimp only at *
  subst hd1 hd2 hd3
  have ht3 : (ahs.map BH.bs).length = ahs.length := List.length_map _
  cases dead <;> cases arm
  all_goals dsimp only [rdkL, armI, List.cons_append, List.nil_append]
  all_goals refine Spec.intro Try.func39 rfl rfl Try.ntmps39 rfl fun w0 => ?_
  (all_goals (refine WC.auto ?_; (conv => whnf))); repeat' (first
          | ((with_reducible refine Ob.at ?_); first | (refine Ob.mk (by first | omega | exact u8_bound _ | (have := u8_bound; omega) | (simp only [List.length_drop, List.length_take, List.length_append, List.length_replicate, List.length_set, List.length_cons, List.length_nil, Nat.min_def]; omega)) ?_; (conv => whnf)) | (refine Ob.mk' ?_ ?_; (conv => whnf)))
          | (refine spl_mk (fun hc => ?_) (fun hc => ?_) <;> (try simp only [Bool.not_eq_false', and_self, and_true, true_and, not_true, Bool.not_eq_true', Bool.not_false, Bool.not_true, decide_eq_true_eq, decide_eq_false_iff_not, Bool.false_eq_true, reduceCtorEq, Bool.true_eq_false, ne_eq, Decidable.not_not, Int.not_lt, Int.not_le, beq_self_eq_true, eq_self, not_true_eq_false, not_false_eq_true, Bool.not_eq_eq_eq_not, Bool.not_eq_true, Bool.not_eq_false, beq_iff_eq, beq_eq_false_iff_ne] at hc) <;> (try (exfalso; omega)) <;> (conv => whnf))
          | ((with_reducible refine NatK.at ?_); first | ((with_reducible refine NatK.cast ?_); (conv => whnf)) | (refine NatK.sym (by first | omega | exact u8_bound _ | (have := u8_bound; omega) | (simp only [List.length_drop, List.length_take, List.length_append, List.length_replicate, List.length_set, List.length_cons, List.length_nil, Nat.min_def]; omega)) (fun m hm => ?_); (conv => whnf)))
          | (intro q hq; (conv => whnf))
          | ((with_reducible refine W.at 10 ?_); first | (refine W.ev (Ev.load rfl rfl rdA rfl) rfl rfl rfl ?_; all_goals ((refine W.auto ?_); (conv => whnf))))
          | ((with_reducible refine W.at 14 ?_); first | ((refine W.stp (Stp.cal rfl rfl (Spec.ask fun (hq : _ ∧ _) => rcut_spec _ _ _ _ _ _ _ _ _ _ _ hq.1 hq.2) pksA rdsA) rfl rfl rfl ?_; rintro _ _ ⟨_, ⟨k14, A14, c14, hk14, rfl, rfl⟩, rfl⟩); all_goals ((refine W.auto ?_); (conv => whnf))))
          | ((with_reducible refine W.atS 17 ?_); first | (refine stW1 rfl rfl rfl pkA ?_; (conv => whnf)))
          | refine Exists.intro _ (And.intro (resv_rfl rfl) ?_))
  all_goals first
    | exact RdkPost.leaf (a' := ⟨_, _, _, _, _, _, _, agc⟩) (by unfold dkSync dkTear; dsimp only; rw [← hk9]; rfl) pksA
    | (rename_i v0; exact RdkPost.leaf (a' := ⟨_, _, _, _, _, _, _, agc⟩) (s' := ⟨List.take k13 b, (k13 : Int), true, some v0, List.map BH.bs ahs⟩) (by unfold dkSwap dkTear; dsimp only; rw [if_neg (by simp), if_neg (by omega), ← hk13]; rfl) pksA)
    | exact RdkPost.leaf (a' := ⟨_, _, _, _, _, _, _, agc⟩) (by unfold dkCrash dkTear; dsimp only; rw [if_neg (by omega), ← hk14]; rfl) pksA
    | exact RdkPost.leaf (a' := ⟨_, _, _, _, _, _, _, agc⟩) (by (unfold dkWrite; (try dsimp only); (repeat' split) <;> first | (exfalso; omega) | (exfalso; simp_all; done) | rfl)) pksA
    | exact RdkPost.leaf (a' := ⟨_, _, _, _, _, _, _, agc⟩) (by (unfold dkSync; (try dsimp only); (try dsimp only [dkTear]); (repeat' split) <;> first | (exfalso; omega) | (exfalso; simp_all; done) | rfl)) pksA
    | exact RdkPost.leaf (a' := ⟨_, _, _, _, _, _, _, agc⟩) (by (unfold dkSwap; (try dsimp only); (try dsimp only [dkTear]); (repeat' split) <;> first | (exfalso; omega) | (exfalso; simp_all; done) | rfl)) pksA
    | exact RdkPost.leaf (a' := ⟨_, _, _, _, _, _, _, agc⟩) (by (unfold dkCut; (try dsimp only); (repeat' split) <;> first | (exfalso; omega) | (exfalso; simp_all; done) | rfl)) pksA
    | exact RdkPost.leaf (a' := ⟨_, _, _, _, _, _, _, agc⟩) (by (unfold dkArm; (try dsimp only); (repeat' split) <;> first | (exfalso; omega) | (exfalso; simp_all; done) | rfl)) pksA
    | exact RdkPost.leaf (a' := ⟨_, _, _, _, _, _, _, agc⟩) (by (unfold dkCrash; (try dsimp only); (try dsimp only [dkTear]); (repeat' split) <;> first | (exfalso; omega) | (exfalso; simp_all; done) | rfl)) pksA
    | (subst hm; exact RdkPost.leaf (a' := ⟨_, _, _, _, _, _, _, agc⟩) (s' := ⟨List.take m b, (m : Int), _, _, _⟩) (by (unfold dkCut; (try dsimp only); (repeat' split) <;> first | (exfalso; omega) | (exfalso; simp_all; done) | rfl)) pksA)
    | skip
theorem rRevive_spec (h : DkOK s) : Spec Try.prog 40 [.pointer (some ⟨g, 0, none⟩)] [rdkC g a s] [] (RdkPost g (dkRevive s)) := by
  refine Spec.rdisk fun hd => ?_
  obtain ⟨hd1, hd2, hd3, hd4, hd5⟩ := hd
  obtain ⟨hs1, hs2, hs3, hs4⟩ := h
  obtain ⟨b, sn, dead, arm, tr⟩ := s
  obtain ⟨aA, ac, ak, aAt, act, akt, ahs, agc⟩ := a
  dsimp only at *
  subst hd1 hd2 hd3
  have ht3 : (ahs.map BH.bs).length = ahs.length := List.length_map _
  cases dead <;> cases arm
  all_goals dsimp only [rdkL, armI, List.cons_append, List.nil_append]
  all_goals refine Spec.intro Try.func40 rfl rfl Try.ntmps40 rfl fun w0 => ?_
  (all_goals (refine WC.auto ?_; (conv => whnf))); repeat' (first
          | ((with_reducible refine Ob.at ?_); first | (refine Ob.mk (by first | omega | exact u8_bound _ | (have := u8_bound; omega) | (simp only [List.length_drop, List.length_take, List.length_append, List.length_replicate, List.length_set, List.length_cons, List.length_nil, Nat.min_def]; omega)) ?_; (conv => whnf)) | (refine Ob.mk' ?_ ?_; (conv => whnf)))
          | (refine spl_mk (fun hc => ?_) (fun hc => ?_) <;> (try simp only [Bool.not_eq_false', and_self, and_true, true_and, not_true, Bool.not_eq_true', Bool.not_false, Bool.not_true, decide_eq_true_eq, decide_eq_false_iff_not, Bool.false_eq_true, reduceCtorEq, Bool.true_eq_false, ne_eq, Decidable.not_not, Int.not_lt, Int.not_le, beq_self_eq_true, eq_self, not_true_eq_false, not_false_eq_true, Bool.not_eq_eq_eq_not, Bool.not_eq_true, Bool.not_eq_false, beq_iff_eq, beq_eq_false_iff_ne] at hc) <;> (try (exfalso; omega)) <;> (conv => whnf))
          | ((with_reducible refine NatK.at ?_); first | ((with_reducible refine NatK.cast ?_); (conv => whnf)) | (refine NatK.sym (by first | omega | exact u8_bound _ | (have := u8_bound; omega) | (simp only [List.length_drop, List.length_take, List.length_append, List.length_replicate, List.length_set, List.length_cons, List.length_nil, Nat.min_def]; omega)) (fun m hm => ?_); (conv => whnf)))
          | (intro q hq; (conv => whnf))
          | ((with_reducible refine W.atS 5 ?_); first | (refine stW1 rfl rfl rfl pkA ?_; (conv => whnf)))
          | ((with_reducible refine W.atS 8 ?_); first | (refine stW1 rfl rfl rfl pkA ?_; (conv => whnf)))
          | refine Exists.intro _ (And.intro (resv_rfl rfl) ?_))
  all_goals exact RdkPost.leaf (a' := ⟨_, _, _, _, _, _, _, agc⟩) rfl pksA
theorem rWrite_spec (A : Option Addr) (c n : Nat) (x : List UInt8) (h : DkOK s) (ht : s.tr.length < 1000) (hn : n ≤ 1048577) : Spec Try.prog 41 [.pointer (some ⟨g, 0, none⟩), .slice A n c] [rdkC g a s] [bR A c n x] (RdkPost g (dkWrite s x)) := by
  refine Spec.fact (d := bR A c n x) (Rd.there (Rd.here (Sub.refl _))) bR_len fun hx => ?_
  obtain ⟨hx1, hx2, hx3⟩ := hx
  subst hx1
  refine Spec.rdisk fun hd => ?_
  obtain ⟨hd1, hd2, hd3, hd4, hd5⟩ := hd
  obtain ⟨hs1, hs2, hs3, hs4⟩ := h
  obtain ⟨b, sn, dead, arm, tr⟩ := s
  obtain ⟨aA, ac, ak, aAt, act, akt, ahs, agc⟩ := a
  dsimp only at *
  subst hd1 hd2 hd3
  have ht3 : (ahs.map BH.bs).length = ahs.length := List.length_map _
  cases dead <;> cases arm
  all_goals dsimp only [rdkL, armI, List.cons_append, List.nil_append]
  all_goals refine Spec.intro Try.func41 rfl rfl Try.ntmps41 rfl fun w0 => ?_
  (all_goals (refine WC.auto ?_; (conv => whnf))); repeat' (first
          | ((with_reducible refine Ob.at ?_); first | (refine Ob.mk (by first | omega | exact u8_bound _ | (have := u8_bound; omega) | (simp only [List.length_drop, List.length_take, List.length_append, List.length_replicate, List.length_set, List.length_cons, List.length_nil, Nat.min_def]; omega)) ?_; (conv => whnf)) | (refine Ob.mk' ?_ ?_; (conv => whnf)))
          | (refine spl_mk (fun hc => ?_) (fun hc => ?_) <;> (try simp only [Bool.not_eq_false', and_self, and_true, true_and, not_true, Bool.not_eq_true', Bool.not_false, Bool.not_true, decide_eq_true_eq, decide_eq_false_iff_not, Bool.false_eq_true, reduceCtorEq, Bool.true_eq_false, ne_eq, Decidable.not_not, Int.not_lt, Int.not_le, beq_self_eq_true, eq_self, not_true_eq_false, not_false_eq_true, Bool.not_eq_eq_eq_not, Bool.not_eq_true, Bool.not_eq_false, beq_iff_eq, beq_eq_false_iff_ne] at hc) <;> (try (exfalso; omega)) <;> (conv => whnf))
          | ((with_reducible refine NatK.at ?_); first | ((with_reducible refine NatK.cast ?_); (conv => whnf)) | (refine NatK.sym (by first | omega | exact u8_bound _ | (have := u8_bound; omega) | (simp only [List.length_drop, List.length_take, List.length_append, List.length_replicate, List.length_set, List.length_cons, List.length_nil, Nat.min_def]; omega)) (fun m hm => ?_); (conv => whnf)))
          | (intro q hq; (conv => whnf))
          | ((with_reducible refine WC.atR 6 ?_); refine WC.draw (id := 6) (ls := []) (.fl 0 (.fl 1 (.fl 2 (.fl 3 (.fl 5 (.two 4 (.one 6 (.one 7 (.one 8 (.fl 9 (.fl 10 (.one 11 .nil)))))) 6 (.two 4 (.one 7 (.one 8 (.fl 9 (.fl 10 (.one 11 .nil))))) 7 (.one 4 (.one 8 (.fl 9 (.fl 10 (.one 11 .nil)))))))))))) (by kernel_rfl) (by kernel_rfl) picksA ?_; refine WD.auto ?_; (conv => whnf))
          | ((with_reducible refine W.at 8 ?_); first | (refine W.ev (Ev.load rfl rfl rdA rfl) rfl rfl rfl ?_; all_goals ((refine W.auto ?_); (conv => whnf))))
          | ((with_reducible refine W.at 12 ?_); first | (refine W.ev (Ev.load rfl rfl rdA rfl) rfl rfl rfl ?_; all_goals ((refine W.auto ?_); (conv => whnf))))
          | ((with_reducible refine W.at 22 ?_); first | (refine W.ev (Ev.load rfl rfl rdA rfl) rfl rfl rfl ?_; all_goals ((refine W.auto ?_); (conv => whnf))))
          | ((with_reducible refine W.at 23 ?_); first | ((refine W.stp (Stp.cal rfl rfl (CopyBytes_spec _ _ _ _ (by omega)) pksA rdsA) rfl rfl rfl ?_; rintro _ _ ⟨_, ⟨A23, c23, rfl, rfl⟩, rfl⟩); all_goals ((refine W.auto ?_); (conv => whnf))))
          | ((with_reducible refine W.at 25 ?_); first | ((refine W.stp (Stp.copyB rfl rfl rdA rfl (by omega) (by omega)) rfl rfl rfl ?_; rintro _ _ ⟨A2, c2, rfl, rfl⟩); all_goals ((refine W.auto ?_); (conv => whnf))) | ((refine W.stp (Stp.appendB rfl rfl pkA rdA rfl (by omega) (by omega)) rfl rfl rfl ?_; rintro _ _ ⟨A2, c2, rfl, rfl⟩); all_goals ((refine W.auto ?_); (conv => whnf))))
          | ((with_reducible refine W.atS 27 ?_); first | (refine stW1 rfl rfl rfl pkA ?_; (conv => whnf)))
          | ((with_reducible refine WO.at 0 ?_); first | (refine WO.auto rfl rfl ?_; (conv => whnf); (fail_if_success (show False))) | (refine WO.off rfl rfl rfl rfl ?_; refine WD.auto ?_; (conv => whnf)))
          | ((with_reducible refine WO.at 1 ?_); first | (refine WO.auto rfl rfl ?_; (conv => whnf); (fail_if_success (show False))) | (refine WO.off rfl rfl rfl rfl ?_; refine WD.auto ?_; (conv => whnf)))
          | ((with_reducible refine WO.at 2 ?_); first | (refine WO.auto rfl rfl ?_; (conv => whnf); (fail_if_success (show False))) | (refine WO.off rfl rfl rfl rfl ?_; refine WD.auto ?_; (conv => whnf)))
          | ((with_reducible refine WO.at 3 ?_); first | (refine WO.auto rfl rfl ?_; (conv => whnf); (fail_if_success (show False))) | (refine WO.off rfl rfl rfl rfl ?_; refine WD.auto ?_; (conv => whnf)))
          | ((with_reducible refine WD.at 4 ?_); first | (refine WD.ev rfl (Ev.load rfl rfl rdA rfl) rfl rfl rfl ?_; all_goals (refine WD.auto ?_; (conv => whnf))))
          | ((with_reducible refine WO.at 4 ?_); first | (refine WO.ev rfl (Ev.load rfl rfl rdA rfl) rfl rfl rfl ?_; all_goals (refine WD.auto ?_; (conv => whnf))) | (refine WO.off rfl rfl rfl rfl ?_; refine WD.auto ?_; (conv => whnf)))
          | ((with_reducible refine WO.at 5 ?_); first | (refine WO.auto rfl rfl ?_; (conv => whnf); (fail_if_success (show False))) | (refine WO.off rfl rfl rfl rfl ?_; refine WD.auto ?_; (conv => whnf)))
          | ((with_reducible refine WO.at 6 ?_); first | ((refine WO.stp rfl (Stp.cal rfl rfl (CopyBytes_spec _ _ _ _ (by omega)) pksA rdsA) rfl rfl rfl ?_; rintro _ _ ⟨_, ⟨A34, c34, rfl, rfl⟩, rfl⟩); all_goals (refine WD.auto ?_; (conv => whnf))) | (refine WO.off rfl rfl rfl rfl ?_; refine WD.auto ?_; (conv => whnf)))
          | ((with_reducible refine WO.at 7 ?_); first | ((refine WO.stp rfl (Stp.buildSlice rfl rfl rfl rfl (by intro v hv; (repeat' (first | rfl | (cases hv; done) | (rcases List.mem_cons.1 hv with rfl | hv)))) rfl) rfl rfl rfl ?_; rintro _ _ ⟨g35, rfl, rfl⟩); all_goals (refine WD.auto ?_; (conv => whnf))) | (refine WO.off rfl rfl rfl rfl ?_; refine WD.auto ?_; (conv => whnf)))
          | ((with_reducible refine WO.at 8 ?_); first | ((refine WO.stp rfl (Stp.append rfl rfl pkA rdA (by exact (by intro v hv; (repeat' (first | rfl | (cases hv; done) | (rcases List.mem_cons.1 hv with rfl | hv))))) (by rfl) (by omega) (by omega) (by omega)) rfl rfl rfl ?_; rintro _ _ ⟨A2_36, c2_36, rfl, rfl⟩); all_goals (refine WD.auto ?_; (conv => whnf))) | ((refine WO.stp rfl (Stp.nil (Stp.append rfl rfl (by exact Pick.here) rdA (by exact (by intro v hv; (repeat' (first | rfl | (cases hv; done) | (rcases List.mem_cons.1 hv with rfl | hv))))) (by rfl) (by omega) (by omega) (by omega))) rfl rfl rfl ?_; rintro _ _ ⟨A2_36, c2_36, rfl, rfl⟩); all_goals (refine WD.auto ?_; (conv => whnf))) | (refine WO.off rfl rfl rfl rfl ?_; refine WD.auto ?_; (conv => whnf)))
          | ((with_reducible refine WO.at 9 ?_); first | (refine WO.auto rfl rfl ?_; (conv => whnf); (fail_if_success (show False))) | (refine WO.off rfl rfl rfl rfl ?_; refine WD.auto ?_; (conv => whnf)))
          | ((with_reducible refine WO.at 10 ?_); first | (refine WO.auto rfl rfl ?_; (conv => whnf); (fail_if_success (show False))) | (refine WO.off rfl rfl rfl rfl ?_; refine WD.auto ?_; (conv => whnf)))
          | ((with_reducible refine WO.at 11 ?_); first | (refine stO1 (i := 11) rfl rfl rfl rfl pkA ?_; (conv => whnf)) | (refine WO.off rfl rfl rfl rfl ?_; refine WD.auto ?_; (conv => whnf)))
          | (with_reducible refine WD.one ?_)
          | (with_reducible refine WD.two ?_ ?_)
          | (with_reducible refine WD.three ?_ ?_ ?_)
          | refine Exists.intro _ (And.intro (resv_rfl rfl) ?_))
  all_goals first
    | exact RdkPost.leaf (a' := ⟨_, _, _, _, _, _, _, agc⟩) (by unfold dkSync dkTear; dsimp only; rw [← hk9]; rfl) pksA
    | (rename_i v0; exact RdkPost.leaf (a' := ⟨_, _, _, _, _, _, _, agc⟩) (s' := ⟨List.take k13 b, (k13 : Int), true, some v0, List.map BH.bs ahs⟩) (by unfold dkSwap dkTear; dsimp only; rw [if_neg (by simp), if_neg (by omega), ← hk13]; rfl) pksA)
    | exact RdkPost.leaf (a' := ⟨_, _, _, _, _, _, _, agc⟩) (by unfold dkCrash dkTear; dsimp only; rw [if_neg (by omega), ← hk14]; rfl) pksA
    | exact RdkPost.leaf (a' := ⟨_, _, _, _, _, _, _, agc⟩) (by (unfold dkWrite; (try dsimp only); (repeat' split) <;> first | (exfalso; omega) | (exfalso; simp_all; done) | rfl)) pksA
    | exact RdkPost.leaf (a' := ⟨_, _, _, _, _, _, _, agc⟩) (by (unfold dkSync; (try dsimp only); (try dsimp only [dkTear]); (repeat' split) <;> first | (exfalso; omega) | (exfalso; simp_all; done) | rfl)) pksA
    | exact RdkPost.leaf (a' := ⟨_, _, _, _, _, _, _, agc⟩) (by (unfold dkSwap; (try dsimp only); (try dsimp only [dkTear]); (repeat' split) <;> first | (exfalso; omega) | (exfalso; simp_all; done) | rfl)) pksA
    | exact RdkPost.leaf (a' := ⟨_, _, _, _, _, _, _, agc⟩) (by (unfold dkCut; (try dsimp only); (repeat' split) <;> first | (exfalso; omega) | (exfalso; simp_all; done) | rfl)) pksA
    | exact RdkPost.leaf (a' := ⟨_, _, _, _, _, _, _, agc⟩) (by (unfold dkArm; (try dsimp only); (repeat' split) <;> first | (exfalso; omega) | (exfalso; simp_all; done) | rfl)) pksA
    | exact RdkPost.leaf (a' := ⟨_, _, _, _, _, _, _, agc⟩) (by (unfold dkCrash; (try dsimp only); (try dsimp only [dkTear]); (repeat' split) <;> first | (exfalso; omega) | (exfalso; simp_all; done) | rfl)) pksA
    | (subst hm; exact RdkPost.leaf (a' := ⟨_, _, _, _, _, _, _, agc⟩) (s' := ⟨List.take m b, (m : Int), _, _, _⟩) (by (unfold dkCut; (try dsimp only); (repeat' split) <;> first | (exfalso; omega) | (exfalso; simp_all; done) | rfl)) pksA)
    | skip
end
end Go.SX
