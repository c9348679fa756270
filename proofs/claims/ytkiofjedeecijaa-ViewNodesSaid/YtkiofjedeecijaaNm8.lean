/- Numbers: what a reader reads: Raw, Num. -/
import Derived.Test.YtkiofjedeecijaaNm7
namespace Go.SX
open Go Go.RowKit Go.Proofs
set_option linter.unusedVariables false
set_option linter.unusedSimpArgs false
set_option maxHeartbeats 4000000
abbrev RawPost (C : Nat → NWA → NR → Chunk) (g : Nat) (m : List UInt8 × NR) (v : Value) (l' : List Chunk) : Prop := ∃ A c k a', k = m.1.length ∧ v = .slice A k c ∧ l' = [C g a' m.2, bO A c 5 k m.1]
theorem RawPost.leaf {C : Nat → NWA → NR → Chunk} {g : Nat} {a' : NWA} {m : List UInt8 × NR} {x : List UInt8} {s' : NR} {A : Option Addr} {c k : Nat} {l l1 : List Chunk} (h : m = (x, s')) (hk : k = x.length) (hc : PicksT [C g a' s', bO A c 5 k x] l l1) :
    ∃ l', RawPost C g m (tup [.slice A k c]) l' ∧ ChLe l l' := ⟨_, ⟨A, c, k, a', by rw [h]; exact hk, rfl, by rw [h]⟩, _, hc⟩
theorem nr_fact {T g : Nat} {a : NWA} {s : NR} {w : World} (h : (starC (nrL T g a s)).holds w) : a.k = s.b.length ∧ a.k ≤ a.c ∧ a.c ≤ 9223372036854775807 := by
  have h1 : (pureC (a.k = s.b.length)).holds w := h.1 _ (by simp [nrL])
  have h2 : (bR a.A a.c a.k s.b).holds w := h.1 _ (by simp [nrL])
  exact ⟨h1, (bR_len w h2).2⟩
section
variable (g : Nat) (a : NWA) (s : NR) (n : Int)
theorem RRaw_err (h : s.e ≠ 0) : Spec Try.prog 51 [.pointer (some ⟨g, 0, none⟩), .int .i64 n] [nrC g a s] [] (RawPost nrC g (nrRaw s n)) := by
  refine Spec.intro Try.func51 rfl rfl Try.ntmps51 rfl fun w0 => ?_
  (all_goals (refine WC.auto ?_; (conv => whnf))); repeat' (first
          | ((with_reducible refine WB.auto ?_); (conv => whnf))
          | ((with_reducible refine WCB.auto ?_); (conv => whnf))
          | ((with_reducible refine Ob.at ?_); first | (refine Ob.mk (by first | omega | exact u8_bound _ | (have := u8_bound; omega) | (simp only [List.length_drop, List.length_take, List.length_append, List.length_replicate, List.length_set, List.length_cons, List.length_nil, Nat.min_def]; omega)) ?_; (conv => whnf)) | (refine Ob.mk' ?_ ?_; (conv => whnf)))
          | (refine spl_mk (fun hc => ?_) (fun hc => ?_) <;> (try simp only [Bool.not_eq_false', and_self, and_true, true_and, not_true, Bool.not_eq_true', Bool.not_false, Bool.not_true, decide_eq_true_eq, decide_eq_false_iff_not, Bool.false_eq_true, reduceCtorEq, Bool.true_eq_false, ne_eq, Decidable.not_not, Int.not_lt, Int.not_le, beq_self_eq_true, eq_self, not_true_eq_false, not_false_eq_true, Bool.not_eq_eq_eq_not, Bool.not_eq_true, Bool.not_eq_false, beq_iff_eq, beq_eq_false_iff_ne] at hc) <;> (try (exfalso; omega)) <;> (conv => whnf))
          | ((with_reducible refine NatK.at ?_); first | ((with_reducible refine NatK.cast ?_); (conv => whnf)) | (refine NatK.sym (by first | omega | exact u8_bound _ | (have := u8_bound; omega) | (simp only [List.length_drop, List.length_take, List.length_append, List.length_replicate, List.length_set, List.length_cons, List.length_nil, Nat.min_def]; omega)) (fun m hm => ?_); (conv => whnf)))
          | (intro q hq; (conv => whnf))
          | ((with_reducible refine W.at 8 ?_); first | ((refine W.stp (Stp.cal rfl rfl (Err_spec _ _ _) pksA rdsA) rfl rfl rfl ?_; rintro _ _ ⟨_, ⟨rfl, rfl⟩, rfl⟩); all_goals ((refine W.auto ?_); (conv => whnf))))
          | ((with_reducible refine W.at 14 ?_); first | ((refine W.stp (Stp.cal rfl rfl (fail_spec _ _ _ _) pksA rdsA) rfl rfl rfl ?_; rintro _ _ ⟨_, ⟨a14, rfl, rfl⟩, rfl⟩); all_goals ((refine W.auto ?_); (conv => whnf))))
          | ((with_reducible refine W.at 17 ?_); first | ((refine W.stp (Stp.cal rfl rfl (Left_spec _ _ _) pksA rdsA) rfl rfl rfl ?_; rintro _ _ ⟨_, ⟨rfl, rfl⟩, rfl⟩); all_goals ((refine W.auto ?_); (conv => whnf))))
          | ((with_reducible refine W.at 21 ?_); first | ((refine W.stp (Stp.cal rfl rfl (fail_spec _ _ _ _) pksA rdsA) rfl rfl rfl ?_; rintro _ _ ⟨_, ⟨a21, rfl, rfl⟩, rfl⟩); all_goals ((refine W.auto ?_); (conv => whnf))))
          | ((with_reducible refine W.at 28 ?_); first | (refine W.ev (Ev.load rfl rfl rdA rfl) rfl rfl rfl ?_; all_goals ((refine W.auto ?_); (conv => whnf))))
          | ((with_reducible refine W.at 31 ?_); first | ((refine W.stp (Stp.cal rfl rfl (Clone_spec _ _ _ _ (by omega)) pksA rdsA) rfl rfl rfl ?_; rintro _ _ ⟨_, ⟨A31, c31, rfl, rfl⟩, rfl⟩); all_goals ((refine W.auto ?_); (conv => whnf))))
          | ((with_reducible refine W.at 36 ?_); first | (refine W.ev (Ev.load rfl rfl rdA rfl) rfl rfl rfl ?_; all_goals ((refine W.auto ?_); (conv => whnf))))
          | ((with_reducible refine W.atS 40 ?_); first | (refine stW1 rfl rfl rfl pkA ?_; (conv => whnf)))
          | refine Exists.intro _ (And.intro (resv_rfl rfl) ?_))
  all_goals exact RawPost.leaf (a' := a) (s' := s) (x := []) (by unfold nrRaw; rw [if_pos h]) rfl pksA
theorem nrFail_ok {s : NR} {e : Int} (h : s.e = 0) : nrFail s e = ⟨[], e⟩ := by unfold nrFail; rw [if_neg (by simp [h])]
theorem RRaw_spec (hn : n ≤ 9223372036854775807 ∧ s.b.length ≤ 1000000000) : Spec Try.prog 51 [.pointer (some ⟨g, 0, none⟩), .int .i64 n] [nrC g a s] [] (RawPost nrC g (nrRaw s n)) := by
  by_cases he : s.e = 0
  · by_cases h0 : n < 0 ∨ (s.b.length : Int) < n
    · refine Spec.intro Try.func51 rfl rfl Try.ntmps51 rfl fun w0 => ?_
      (all_goals (refine WC.auto ?_; (conv => whnf))); repeat' (first
          | ((with_reducible refine WB.auto ?_); (conv => whnf))
          | ((with_reducible refine WCB.auto ?_); (conv => whnf))
          | ((with_reducible refine Ob.at ?_); first | (refine Ob.mk (by first | omega | exact u8_bound _ | (have := u8_bound; omega) | (simp only [List.length_drop, List.length_take, List.length_append, List.length_replicate, List.length_set, List.length_cons, List.length_nil, Nat.min_def]; omega)) ?_; (conv => whnf)) | (refine Ob.mk' ?_ ?_; (conv => whnf)))
          | (refine spl_mk (fun hc => ?_) (fun hc => ?_) <;> (try simp only [Bool.not_eq_false', and_self, and_true, true_and, not_true, Bool.not_eq_true', Bool.not_false, Bool.not_true, decide_eq_true_eq, decide_eq_false_iff_not, Bool.false_eq_true, reduceCtorEq, Bool.true_eq_false, ne_eq, Decidable.not_not, Int.not_lt, Int.not_le, beq_self_eq_true, eq_self, not_true_eq_false, not_false_eq_true, Bool.not_eq_eq_eq_not, Bool.not_eq_true, Bool.not_eq_false, beq_iff_eq, beq_eq_false_iff_ne] at hc) <;> (try (exfalso; omega)) <;> (conv => whnf))
          | ((with_reducible refine NatK.at ?_); first | ((with_reducible refine NatK.cast ?_); (conv => whnf)) | (refine NatK.sym (by first | omega | exact u8_bound _ | (have := u8_bound; omega) | (simp only [List.length_drop, List.length_take, List.length_append, List.length_replicate, List.length_set, List.length_cons, List.length_nil, Nat.min_def]; omega)) (fun m hm => ?_); (conv => whnf)))
          | (intro q hq; (conv => whnf))
          | ((with_reducible refine W.at 8 ?_); first | ((refine W.stp (Stp.cal rfl rfl (Err_spec _ _ _) pksA rdsA) rfl rfl rfl ?_; rintro _ _ ⟨_, ⟨rfl, rfl⟩, rfl⟩); all_goals ((refine W.auto ?_); (conv => whnf))))
          | ((with_reducible refine W.at 14 ?_); first | ((refine W.stp (Stp.cal rfl rfl (fail_spec _ _ _ _) pksA rdsA) rfl rfl rfl ?_; rintro _ _ ⟨_, ⟨a14, rfl, rfl⟩, rfl⟩); all_goals ((refine W.auto ?_); (conv => whnf))))
          | ((with_reducible refine W.at 17 ?_); first | ((refine W.stp (Stp.cal rfl rfl (Left_spec _ _ _) pksA rdsA) rfl rfl rfl ?_; rintro _ _ ⟨_, ⟨rfl, rfl⟩, rfl⟩); all_goals ((refine W.auto ?_); (conv => whnf))))
          | ((with_reducible refine W.at 21 ?_); first | ((refine W.stp (Stp.cal rfl rfl (fail_spec _ _ _ _) pksA rdsA) rfl rfl rfl ?_; rintro _ _ ⟨_, ⟨a21, rfl, rfl⟩, rfl⟩); all_goals ((refine W.auto ?_); (conv => whnf))))
          | ((with_reducible refine W.at 28 ?_); first | (refine W.ev (Ev.load rfl rfl rdA rfl) rfl rfl rfl ?_; all_goals ((refine W.auto ?_); (conv => whnf))))
          | ((with_reducible refine W.at 31 ?_); first | ((refine W.stp (Stp.cal rfl rfl (Clone_spec _ _ _ _ (by omega)) pksA rdsA) rfl rfl rfl ?_; rintro _ _ ⟨_, ⟨A31, c31, rfl, rfl⟩, rfl⟩); all_goals ((refine W.auto ?_); (conv => whnf))))
          | ((with_reducible refine W.at 36 ?_); first | (refine W.ev (Ev.load rfl rfl rdA rfl) rfl rfl rfl ?_; all_goals ((refine W.auto ?_); (conv => whnf))))
          | ((with_reducible refine W.atS 40 ?_); first | (refine stW1 rfl rfl rfl pkA ?_; (conv => whnf)))
          | refine Exists.intro _ (And.intro (resv_rfl rfl) ?_))
      all_goals first
        | (rw [nrFail_ok he]; exact RawPost.leaf (a' := a14) (s' := ⟨[], 2⟩) (x := []) (by unfold nrRaw; rw [if_neg (by omega), if_pos (by assumption)]) rfl pksA)
        | (rw [nrFail_ok he]; exact RawPost.leaf (a' := a21) (s' := ⟨[], 3⟩) (x := []) (by unfold nrRaw; rw [if_neg (by omega), if_neg (by omega), if_pos (by assumption)]) rfl pksA)
    · refine Spec.fact (d := nrC g a s) (Rd.here (Sub.refl _)) (fun w h => nr_fact h) fun hd => ?_
      obtain ⟨hd1, hd2, hd3⟩ := hd
      obtain ⟨b, e0⟩ := s
      obtain ⟨aA, ac, ak⟩ := a
      dsimp only at *
      subst hd1
      refine Spec.intro Try.func51 rfl rfl Try.ntmps51 rfl fun w0 => ?_
      (all_goals (refine WC.auto ?_; (conv => whnf))); repeat' (first
          | ((with_reducible refine WB.auto ?_); (conv => whnf))
          | ((with_reducible refine WCB.auto ?_); (conv => whnf))
          | ((with_reducible refine Ob.at ?_); first | (refine Ob.mk (by first | omega | exact u8_bound _ | (have := u8_bound; omega) | (simp only [List.length_drop, List.length_take, List.length_append, List.length_replicate, List.length_set, List.length_cons, List.length_nil, Nat.min_def]; omega)) ?_; (conv => whnf)) | (refine Ob.mk' ?_ ?_; (conv => whnf)))
          | (refine spl_mk (fun hc => ?_) (fun hc => ?_) <;> (try simp only [Bool.not_eq_false', and_self, and_true, true_and, not_true, Bool.not_eq_true', Bool.not_false, Bool.not_true, decide_eq_true_eq, decide_eq_false_iff_not, Bool.false_eq_true, reduceCtorEq, Bool.true_eq_false, ne_eq, Decidable.not_not, Int.not_lt, Int.not_le, beq_self_eq_true, eq_self, not_true_eq_false, not_false_eq_true, Bool.not_eq_eq_eq_not, Bool.not_eq_true, Bool.not_eq_false, beq_iff_eq, beq_eq_false_iff_ne] at hc) <;> (try (exfalso; omega)) <;> (conv => whnf))
          | ((with_reducible refine NatK.at ?_); first | ((with_reducible refine NatK.cast ?_); (conv => whnf)) | (refine NatK.sym (by first | omega | exact u8_bound _ | (have := u8_bound; omega) | (simp only [List.length_drop, List.length_take, List.length_append, List.length_replicate, List.length_set, List.length_cons, List.length_nil, Nat.min_def]; omega)) (fun m hm => ?_); (conv => whnf)))
          | (intro q hq; (conv => whnf))
          | ((with_reducible refine W.at 8 ?_); first | ((refine W.stp (Stp.cal rfl rfl (Err_spec _ _ _) pksA rdsA) rfl rfl rfl ?_; rintro _ _ ⟨_, ⟨rfl, rfl⟩, rfl⟩); all_goals ((refine W.auto ?_); (conv => whnf))))
          | ((with_reducible refine W.at 14 ?_); first | ((refine W.stp (Stp.cal rfl rfl (fail_spec _ _ _ _) pksA rdsA) rfl rfl rfl ?_; rintro _ _ ⟨_, ⟨a14, rfl, rfl⟩, rfl⟩); all_goals ((refine W.auto ?_); (conv => whnf))))
          | ((with_reducible refine W.at 17 ?_); first | ((refine W.stp (Stp.cal rfl rfl (Left_spec _ _ _) pksA rdsA) rfl rfl rfl ?_; rintro _ _ ⟨_, ⟨rfl, rfl⟩, rfl⟩); (try ((refine W.starOpen (cs := nrL _ _ _ _) ?_; dsimp only [nrL, List.cons_append, List.nil_append]))); all_goals ((refine W.auto ?_); (conv => whnf))))
          | ((with_reducible refine W.at 21 ?_); first | ((refine W.stp (Stp.cal rfl rfl (fail_spec _ _ _ _) pksA rdsA) rfl rfl rfl ?_; rintro _ _ ⟨_, ⟨a21, rfl, rfl⟩, rfl⟩); all_goals ((refine W.auto ?_); (conv => whnf))))
          | ((with_reducible refine W.at 28 ?_); first | (refine W.ev (Ev.load rfl rfl rdA rfl) rfl rfl rfl ?_; all_goals ((refine W.auto ?_); (conv => whnf))))
          | ((with_reducible refine W.at 31 ?_); first | ((refine W.stp (Stp.cal rfl rfl (Clone_spec _ _ _ _ (by omega)) pksA rdsA) rfl rfl rfl ?_; rintro _ _ ⟨_, ⟨A31, c31, rfl, rfl⟩, rfl⟩); all_goals ((refine W.auto ?_); (conv => whnf))))
          | ((with_reducible refine W.at 36 ?_); first | (refine W.ev (Ev.load rfl rfl rdA rfl) rfl rfl rfl ?_; all_goals ((refine W.auto ?_); (conv => whnf))))
          | ((with_reducible refine W.atS 40 ?_); first | (refine stW1 rfl rfl rfl pkA ?_; (conv => whnf)))
          | refine Exists.intro _ (And.intro (resv_rfl rfl) ?_))
      all_goals first
        | omega
        | (rename_i m1 hm1; obtain rfl : m = m1 := (by omega); subst he; exact RawPost.leaf (a' := ⟨_, _, _⟩) (s' := ⟨List.drop m b, 0⟩) (x := List.take m b) (by unfold nrRaw; rw [if_neg (by simp), if_neg (by omega), if_neg (by dsimp only; omega)]; simp only [show n.toNat = m by omega]) (by rw [List.length_take]; omega) pksA)
        | skip
  · exact RRaw_err g a s n he
end
end Go.SX
