/- Leaders: New, Start, No, Yes, Ballot, From, Phase, Pending. -/
import Derived.Test.YtmcfcnlglohliaaDoorLd3
namespace Go.SX
open Go Go.RowKit Go.Proofs
set_option linter.unusedVariables false
set_option linter.unusedSimpArgs false
set_option maxHeartbeats 4000000
def lm0 (id : Int) : LM := ⟨id, 0, 0, 0, 0, [], none, 0⟩
def nextB (id b : Int) : Int := b + (id - b % 3 + 3) % 3
def ldStart (s : LM) (above from_ : Int) : Int × Int × LM :=
  if above < 0 ∨ 9007199254740988 < above ∨ from_ < 1 ∨ 9007199254740991 < from_ then (0, 2, s) else
  (nextB s.id (max s.b above + 1), 0, ⟨s.id, nextB s.id (max s.b above + 1), from_, 1, 0, [], none, 0⟩)
def ldNo (s : LM) (b : Int) : Int × LM := if s.p = 0 ∨ b ≤ s.b then (170, s) else (0, { s with p := 0, pend := none })
def ldYes (s : LM) (who b num : Int) : Bool × Int × LM :=
  if who < 0 ∨ 3 ≤ who then (false, 9, s) else
  match s.pend with
  | none => (false, 170, s)
  | some c => if s.p ≠ 2 ∨ b ≠ s.b ∨ c.num ≠ num then (false, 170, s) else
    if setN (setW s.said who.toNat) < 2 then (false, 0, { s with said := setW s.said who.toNat }) else
    (true, 0, { s with said := setW s.said who.toNat, pend := none, f := num + 1 })
/-- What is known of a leader. -/
structure LdOK (s : LM) : Prop where
  id : 0 ≤ s.id ∧ s.id < 3
  b : 0 ≤ s.b ∧ s.b ≤ 4611686018427387904
  pr : s.pr < 8
  said : s.said < 8
  bs : ∀ v ∈ s.bs, v.c.xs.length ≤ 1000000
  pend : ∀ c, s.pend = some c → c.xs.length ≤ 1000000
abbrev LdPost (g : Nat) (v0 : Value) (s' : LM) (v : Value) (l' : List Chunk) : Prop := ∃ a', v = v0 ∧ l' = [leadC g a' s']
theorem LdPost.leaf {g : Nat} {v0 : Value} {s' : LM} {vs : List Value} (a' : LA) {l l1 : List Chunk} (h : tup vs = v0) (hc : PicksT [leadC g a' s'] l l1) : ∃ l', LdPost g v0 s' (tup vs) l' ∧ ChLe l l' := ⟨_, ⟨a', h, rfl⟩, _, hc⟩
theorem LdPost.to {g : Nat} {v0 v1 : Value} {s' s1 : LM} {v : Value} {l : List Chunk} (h : ∃ l', LdPost g v0 s' v l' ∧ ChLe l l') (hv : v0 = v1) (hs : s' = s1) : ∃ l', LdPost g v1 s1 v l' ∧ ChLe l l' := by subst hv; subst hs; exact h
section
variable (g : Nat) (a : LA) (s : LM)
theorem none_spec (a1 a2 a3 a4 a5 a6 a7 a8 : Value) (m : Bool) : Spec Tryd.prog 30 [.pointer (some ⟨g, 0, none⟩)] [] [cellsC g 81 [a1, a2, a3, a4, a5, a6, a7, a8, .bool m]] (fun v l' => v = .bool (!m) ∧ l' = []) := by
  refine Spec.intro Tryd.func30 rfl rfl Tryd.ntmps30 rfl fun w0 => ?_
  (all_goals (refine WC.auto ?_; (conv => whnf))); repeat' (first
          | ((with_reducible refine WB.auto ?_); (conv => whnf))
          | ((with_reducible refine WCB.auto ?_); (conv => whnf))
          | ((with_reducible refine Ob.at ?_); first | (refine Ob.mk (by first | omega | exact u8_bound _ | (have := u8_bound; omega) | (simp only [List.length_drop, List.length_take, List.length_append, List.length_replicate, List.length_set, List.length_cons, List.length_nil, Nat.min_def]; omega)) ?_; (conv => whnf)) | (refine Ob.mk' ?_ ?_; (conv => whnf)))
          | (refine spl_mk (fun hc => ?_) (fun hc => ?_) <;> (try simp only [Bool.not_eq_false', and_self, and_true, true_and, not_true, Bool.not_eq_true', Bool.not_false, Bool.not_true, decide_eq_true_eq, decide_eq_false_iff_not, Bool.false_eq_true, reduceCtorEq, Bool.true_eq_false, ne_eq, Decidable.not_not, Int.not_lt, Int.not_le, beq_self_eq_true, eq_self, not_true_eq_false, not_false_eq_true, Bool.not_eq_eq_eq_not, Bool.not_eq_true, Bool.not_eq_false, beq_iff_eq, beq_eq_false_iff_ne] at hc) <;> (try (exfalso; omega)) <;> (conv => whnf))
          | ((with_reducible refine NatK.at ?_); first | ((with_reducible refine NatK.cast ?_); (conv => whnf)) | (refine NatK.sym (by first | omega | exact u8_bound _ | (have := u8_bound; omega) | (simp only [List.length_drop, List.length_take, List.length_append, List.length_replicate, List.length_set, List.length_cons, List.length_nil, Nat.min_def]; omega)) (fun m hm => ?_); (conv => whnf)))
          | (intro q hq; (conv => whnf))
          | ((with_reducible refine W.at 9 ?_); first | (refine W.ev (Ev.load rfl rfl rdA rfl) rfl rfl rfl ?_; all_goals ((refine W.auto ?_); (conv => whnf))))
          | refine Exists.intro _ (And.intro (resv_rfl rfl) ?_))
  all_goals first | exact ⟨_, ⟨rfl, rfl⟩, _, pksA⟩ | skip
theorem none0_spec : Spec Tryd.prog 30 [.pointer none] [] [] (fun v l' => v = .bool true ∧ l' = []) := by
  refine Spec.intro Tryd.func30 rfl rfl Tryd.ntmps30 rfl fun w0 => ?_
  (all_goals (refine WC.auto ?_; (conv => whnf))); repeat' (first
          | ((with_reducible refine WB.auto ?_); (conv => whnf))
          | ((with_reducible refine WCB.auto ?_); (conv => whnf))
          | ((with_reducible refine Ob.at ?_); first | (refine Ob.mk (by first | omega | exact u8_bound _ | (have := u8_bound; omega) | (simp only [List.length_drop, List.length_take, List.length_append, List.length_replicate, List.length_set, List.length_cons, List.length_nil, Nat.min_def]; omega)) ?_; (conv => whnf)) | (refine Ob.mk' ?_ ?_; (conv => whnf)))
          | (refine spl_mk (fun hc => ?_) (fun hc => ?_) <;> (try simp only [Bool.not_eq_false', and_self, and_true, true_and, not_true, Bool.not_eq_true', Bool.not_false, Bool.not_true, decide_eq_true_eq, decide_eq_false_iff_not, Bool.false_eq_true, reduceCtorEq, Bool.true_eq_false, ne_eq, Decidable.not_not, Int.not_lt, Int.not_le, beq_self_eq_true, eq_self, not_true_eq_false, not_false_eq_true, Bool.not_eq_eq_eq_not, Bool.not_eq_true, Bool.not_eq_false, beq_iff_eq, beq_eq_false_iff_ne] at hc) <;> (try (exfalso; omega)) <;> (conv => whnf))
          | ((with_reducible refine NatK.at ?_); first | ((with_reducible refine NatK.cast ?_); (conv => whnf)) | (refine NatK.sym (by first | omega | exact u8_bound _ | (have := u8_bound; omega) | (simp only [List.length_drop, List.length_take, List.length_append, List.length_replicate, List.length_set, List.length_cons, List.length_nil, Nat.min_def]; omega)) (fun m hm => ?_); (conv => whnf)))
          | (intro q hq; (conv => whnf))
          | ((with_reducible refine W.at 9 ?_); first | (refine W.ev (Ev.load rfl rfl rdA rfl) rfl rfl rfl ?_; all_goals ((refine W.auto ?_); (conv => whnf))))
          | refine Exists.intro _ (And.intro (resv_rfl rfl) ?_))
  all_goals first | exact ⟨_, ⟨rfl, rfl⟩, _, pksA⟩ | skip


theorem master_ok (w : Nat) (h : w < 3) (a1 a2 a3 a4 a5 a6 a7 a8 : Value) : Spec Tryd.prog 31 [.pointer (some ⟨g, 0, none⟩), .int .i64 (w : Int)] [] [cellsC g 81 [a1, a2, a3, a4, a5, a6, a7, a8, .bool true]] (fun v l' => v = .int .i64 0 ∧ l' = []) := by
  refine Spec.intro Tryd.func31 rfl rfl Tryd.ntmps31 rfl fun w0 => ?_
  (all_goals (refine WC.auto ?_; (conv => whnf))); repeat' (first
          | ((with_reducible refine WB.auto ?_); (conv => whnf))
          | ((with_reducible refine WCB.auto ?_); (conv => whnf))
          | ((with_reducible refine Ob.at ?_); first | (refine Ob.mk (by first | omega | exact u8_bound _ | (have := u8_bound; omega) | (simp only [List.length_drop, List.length_take, List.length_append, List.length_replicate, List.length_set, List.length_cons, List.length_nil, Nat.min_def]; omega)) ?_; (conv => whnf)) | (refine Ob.mk' ?_ ?_; (conv => whnf)))
          | (refine spl_mk (fun hc => ?_) (fun hc => ?_) <;> (try simp only [Bool.not_eq_false', and_self, and_true, true_and, not_true, Bool.not_eq_true', Bool.not_false, Bool.not_true, decide_eq_true_eq, decide_eq_false_iff_not, Bool.false_eq_true, reduceCtorEq, Bool.true_eq_false, ne_eq, Decidable.not_not, Int.not_lt, Int.not_le, beq_self_eq_true, eq_self, not_true_eq_false, not_false_eq_true, Bool.not_eq_eq_eq_not, Bool.not_eq_true, Bool.not_eq_false, beq_iff_eq, beq_eq_false_iff_ne] at hc) <;> (try (exfalso; omega)) <;> (conv => whnf))
          | ((with_reducible refine NatK.at ?_); first | ((with_reducible refine NatK.cast ?_); (conv => whnf)) | (refine NatK.sym (by first | omega | exact u8_bound _ | (have := u8_bound; omega) | (simp only [List.length_drop, List.length_take, List.length_append, List.length_replicate, List.length_set, List.length_cons, List.length_nil, Nat.min_def]; omega)) (fun m hm => ?_); (conv => whnf)))
          | (intro q hq; (conv => whnf))
          | ((with_reducible refine W.at 7 ?_); first | ((first | (refine W.stp (Stp.cal rfl rfl (none_spec _ _ _ _ _ _ _ _ _ _) pksA rdsA) rfl rfl rfl ?_; rintro _ _ ⟨_, ⟨rfl, rfl⟩, rfl⟩) | (refine W.stp (Stp.cal rfl rfl (none0_spec) pksA rdsA) rfl rfl rfl ?_; rintro _ _ ⟨_, ⟨rfl, rfl⟩, rfl⟩)); all_goals ((refine W.auto ?_); (conv => whnf))))
          | refine Exists.intro _ (And.intro (resv_rfl rfl) ?_))
  all_goals first | exact ⟨_, ⟨rfl, rfl⟩, _, pksA⟩ | skip
theorem master_bad (w : Int) (h : w < 0 ∨ 3 ≤ w) (a1 a2 a3 a4 a5 a6 a7 a8 : Value) : Spec Tryd.prog 31 [.pointer (some ⟨g, 0, none⟩), .int .i64 w] [] [cellsC g 81 [a1, a2, a3, a4, a5, a6, a7, a8, .bool true]] (fun v l' => v = .int .i64 9 ∧ l' = []) := by
  refine Spec.intro Tryd.func31 rfl rfl Tryd.ntmps31 rfl fun w0 => ?_
  (all_goals (refine WC.auto ?_; (conv => whnf))); repeat' (first
          | ((with_reducible refine WB.auto ?_); (conv => whnf))
          | ((with_reducible refine WCB.auto ?_); (conv => whnf))
          | ((with_reducible refine Ob.at ?_); first | (refine Ob.mk (by first | omega | exact u8_bound _ | (have := u8_bound; omega) | (simp only [List.length_drop, List.length_take, List.length_append, List.length_replicate, List.length_set, List.length_cons, List.length_nil, Nat.min_def]; omega)) ?_; (conv => whnf)) | (refine Ob.mk' ?_ ?_; (conv => whnf)))
          | (refine spl_mk (fun hc => ?_) (fun hc => ?_) <;> (try simp only [Bool.not_eq_false', and_self, and_true, true_and, not_true, Bool.not_eq_true', Bool.not_false, Bool.not_true, decide_eq_true_eq, decide_eq_false_iff_not, Bool.false_eq_true, reduceCtorEq, Bool.true_eq_false, ne_eq, Decidable.not_not, Int.not_lt, Int.not_le, beq_self_eq_true, eq_self, not_true_eq_false, not_false_eq_true, Bool.not_eq_eq_eq_not, Bool.not_eq_true, Bool.not_eq_false, beq_iff_eq, beq_eq_false_iff_ne] at hc) <;> (try (exfalso; omega)) <;> (conv => whnf))
          | ((with_reducible refine NatK.at ?_); first | ((with_reducible refine NatK.cast ?_); (conv => whnf)) | (refine NatK.sym (by first | omega | exact u8_bound _ | (have := u8_bound; omega) | (simp only [List.length_drop, List.length_take, List.length_append, List.length_replicate, List.length_set, List.length_cons, List.length_nil, Nat.min_def]; omega)) (fun m hm => ?_); (conv => whnf)))
          | (intro q hq; (conv => whnf))
          | ((with_reducible refine W.at 7 ?_); first | ((first | (refine W.stp (Stp.cal rfl rfl (none_spec _ _ _ _ _ _ _ _ _ _) pksA rdsA) rfl rfl rfl ?_; rintro _ _ ⟨_, ⟨rfl, rfl⟩, rfl⟩) | (refine W.stp (Stp.cal rfl rfl (none0_spec) pksA rdsA) rfl rfl rfl ?_; rintro _ _ ⟨_, ⟨rfl, rfl⟩, rfl⟩)); all_goals ((refine W.auto ?_); (conv => whnf))))
          | refine Exists.intro _ (And.intro (resv_rfl rfl) ?_))
  all_goals first | exact ⟨_, ⟨rfl, rfl⟩, _, pksA⟩ | skip


theorem New_spec (id : Int) : Spec Tryd.prog 10 [.int .i64 id] [] [] (fun v l' => (0 ≤ id ∧ id < 3 ∧ ∃ g a, v = .tuple #[.pointer (some ⟨g, 0, none⟩), .int .i64 0] ∧ l' = [leadC g a (lm0 id)]) ∨ ((id < 0 ∨ 3 ≤ id) ∧ v = .tuple #[.pointer none, .int .i64 2] ∧ l' = [])) := by
  refine Spec.intro Tryd.func10 rfl rfl Tryd.ntmps10 rfl fun w0 => ?_
  (all_goals (refine WC.auto ?_; (conv => whnf))); repeat' (first
          | ((with_reducible refine WB.auto ?_); (conv => whnf))
          | ((with_reducible refine WCB.auto ?_); (conv => whnf))
          | ((with_reducible refine Ob.at ?_); first | (refine Ob.mk (by first | omega | exact u8_bound _ | (have := u8_bound; omega) | (simp only [List.length_drop, List.length_take, List.length_append, List.length_replicate, List.length_set, List.length_cons, List.length_nil, Nat.min_def]; omega)) ?_; (conv => whnf)) | (refine Ob.mk' ?_ ?_; (conv => whnf)))
          | (refine spl_mk (fun hc => ?_) (fun hc => ?_) <;> (try simp only [Bool.not_eq_false', and_self, and_true, true_and, not_true, Bool.not_eq_true', Bool.not_false, Bool.not_true, decide_eq_true_eq, decide_eq_false_iff_not, Bool.false_eq_true, reduceCtorEq, Bool.true_eq_false, ne_eq, Decidable.not_not, Int.not_lt, Int.not_le, beq_self_eq_true, eq_self, not_true_eq_false, not_false_eq_true, Bool.not_eq_eq_eq_not, Bool.not_eq_true, Bool.not_eq_false, beq_iff_eq, beq_eq_false_iff_ne] at hc) <;> (try (exfalso; omega)) <;> (conv => whnf))
          | ((with_reducible refine NatK.at ?_); first | ((with_reducible refine NatK.cast ?_); (conv => whnf)) | (refine NatK.sym (by first | omega | exact u8_bound _ | (have := u8_bound; omega) | (simp only [List.length_drop, List.length_take, List.length_append, List.length_replicate, List.length_set, List.length_cons, List.length_nil, Nat.min_def]; omega)) (fun m hm => ?_); (conv => whnf)))
          | (intro q hq; (conv => whnf))
          | ((with_reducible refine W.at 12 ?_); first | ((refine W.stp (Stp.boxA rfl) rfl rfl rfl ?_; rintro _ _ ⟨g12, rfl, rfl⟩); all_goals ((refine W.auto ?_); (conv => whnf))))
          | refine Exists.intro _ (And.intro (resv_rfl rfl) ?_))
  all_goals first
    | exact ⟨_, .inr ⟨by omega, rfl, rfl⟩, _, .nil⟩
    | exact ⟨_, .inl ⟨by omega, by omega, _, ⟨none, none, []⟩, rfl, rfl⟩, _, by dsimp only [leadC, leadL, bndC, pndC, pndA, pndM, lm0]; (repeat (first | exact PicksT.nil | (apply PicksT.cons; (focus ((repeat constructor); done))) | (apply PicksT.triv Triv.nilRow) | (apply PicksT.triv Triv.starM0) | (apply PicksT.pur; (focus (first | trivial | omega | (refine ⟨?_, ?_⟩ <;> (first | rfl | trivial | assumption | omega | (simp only [List.length_take, List.length_append, List.length_map, List.length_singleton, List.length_nil, List.length_cons, Nat.min_def]; omega) | (simp only [List.length_take, List.length_append, List.length_map, List.length_singleton, List.length_nil, List.length_cons, Nat.min_def]; split <;> omega) | (simp; done) | (simp; omega) | (simp_all; done) | (simp_all; omega))) | (refine ⟨?_, ?_, ?_⟩ <;> (first | rfl | trivial | assumption | omega | (simp only [List.length_take, List.length_append, List.length_map, List.length_singleton, List.length_nil, List.length_cons, Nat.min_def]; omega) | (simp only [List.length_take, List.length_append, List.length_map, List.length_singleton, List.length_nil, List.length_cons, Nat.min_def]; split <;> omega) | (simp; done) | (simp; omega) | (simp_all; done) | (simp_all; omega))) | (refine ⟨?_, ?_, ?_, ?_⟩ <;> (first | rfl | trivial | assumption | omega | (simp only [List.length_take, List.length_append, List.length_map, List.length_singleton, List.length_nil, List.length_cons, Nat.min_def]; omega) | (simp only [List.length_take, List.length_append, List.length_map, List.length_singleton, List.length_nil, List.length_cons, Nat.min_def]; split <;> omega) | (simp; done) | (simp; omega) | (simp_all; done) | (simp_all; omega))) | (first | rfl | trivial | assumption | omega | (simp only [List.length_take, List.length_append, List.length_map, List.length_singleton, List.length_nil, List.length_cons, Nat.min_def]; omega) | (simp only [List.length_take, List.length_append, List.length_map, List.length_singleton, List.length_nil, List.length_cons, Nat.min_def]; split <;> omega) | (simp; done) | (simp; omega) | (simp_all; done) | (simp_all; omega))))) | (apply PicksT.cutB; (focus ((repeat constructor); done)); (focus first | omega | (dsimp only; omega)); (focus first | omega | (dsimp only; omega))) | (apply PicksT.snocBH; (focus ((repeat constructor); done)); (focus ((repeat constructor); done)); (focus ((repeat constructor); done))) | (apply PicksT.triv Triv.nilB) | (apply PicksT.triv Triv.nilSlice) | (apply PicksT.asR; (focus ((repeat constructor); done))) | (apply PicksT.loR; (focus ((repeat constructor); done)); (focus first | omega | (constructor <;> omega) | (simp; omega))) | (apply PicksT.star)))⟩
    | skip
theorem Start_spec (above from_ : Int) (h : LdOK s) : Spec Tryd.prog 11 [.pointer (some ⟨g, 0, none⟩), .int .i64 above, .int .i64 from_] [leadC g a s] []
    (LdPost g (.tuple #[.int .i64 (ldStart s above from_).1, .int .i64 (ldStart s above from_).2.1]) (ldStart s above from_).2.2) := by
  refine Spec.lead fun h1 h2 h3 => ?_
  obtain ⟨hid, hb, hpr, hsaid, hbs, hpend⟩ := h
  refine Spec.intro Tryd.func11 rfl rfl Tryd.ntmps11 rfl fun w0 => ?_
  (all_goals (refine WC.auto ?_; (conv => whnf))); repeat' (first
          | ((with_reducible refine WB.auto ?_); (conv => whnf))
          | ((with_reducible refine WCB.auto ?_); (conv => whnf))
          | ((with_reducible refine Ob.at ?_); first | (refine Ob.mk (by first | omega | exact u8_bound _ | (have := u8_bound; omega) | (simp only [List.length_drop, List.length_take, List.length_append, List.length_replicate, List.length_set, List.length_cons, List.length_nil, Nat.min_def]; omega)) ?_; (conv => whnf)) | (refine Ob.mk' ?_ ?_; (conv => whnf)))
          | (refine spl_mk (fun hc => ?_) (fun hc => ?_) <;> (try simp only [Bool.not_eq_false', and_self, and_true, true_and, not_true, Bool.not_eq_true', Bool.not_false, Bool.not_true, decide_eq_true_eq, decide_eq_false_iff_not, Bool.false_eq_true, reduceCtorEq, Bool.true_eq_false, ne_eq, Decidable.not_not, Int.not_lt, Int.not_le, beq_self_eq_true, eq_self, not_true_eq_false, not_false_eq_true, Bool.not_eq_eq_eq_not, Bool.not_eq_true, Bool.not_eq_false, beq_iff_eq, beq_eq_false_iff_ne] at hc) <;> (try (exfalso; omega)) <;> (conv => whnf))
          | ((with_reducible refine NatK.at ?_); first | ((with_reducible refine NatK.cast ?_); (conv => whnf)) | (refine NatK.sym (by first | omega | exact u8_bound _ | (have := u8_bound; omega) | (simp only [List.length_drop, List.length_take, List.length_append, List.length_replicate, List.length_set, List.length_cons, List.length_nil, Nat.min_def]; omega)) (fun m hm => ?_); (conv => whnf)))
          | (intro q hq; (conv => whnf))
          | ((with_reducible refine W.at 10 ?_); first | ((first | (refine W.stp (Stp.cal rfl rfl (none_spec _ _ _ _ _ _ _ _ _ _) pksA rdsA) rfl rfl rfl ?_; rintro _ _ ⟨_, ⟨rfl, rfl⟩, rfl⟩) | (refine W.stp (Stp.cal rfl rfl (none0_spec) pksA rdsA) rfl rfl rfl ?_; rintro _ _ ⟨_, ⟨rfl, rfl⟩, rfl⟩)); all_goals ((refine W.auto ?_); (conv => whnf))))
          | ((with_reducible refine W.at 24 ?_); first | (refine W.ev (Ev.load rfl rfl rdA rfl) rfl rfl rfl ?_; all_goals ((refine W.auto ?_); (conv => whnf))) | (refine W.ev (Ev.loadI rfl rdA (by first | omega | (simp only [List.length_drop, List.length_take, List.length_append, List.length_replicate, List.length_set, List.length_cons, List.length_nil, Nat.min_def]; omega) | (simp; omega))) rfl rfl rfl ?_; all_goals ((refine W.auto ?_); (conv => whnf))))
          | ((with_reducible refine W.at 31 ?_); first | (refine W.ev (Ev.load rfl rfl rdA rfl) rfl rfl rfl ?_; all_goals ((refine W.auto ?_); (conv => whnf))) | (refine W.ev (Ev.loadI rfl rdA (by first | omega | (simp only [List.length_drop, List.length_take, List.length_append, List.length_replicate, List.length_set, List.length_cons, List.length_nil, Nat.min_def]; omega) | (simp; omega))) rfl rfl rfl ?_; all_goals ((refine W.auto ?_); (conv => whnf))))
          | ((with_reducible refine W.at 33 ?_); first | (refine W.ev (Ev.rem rfl rfl (by omega)) rfl rfl rfl ?_; all_goals ((refine W.auto ?_); (conv => whnf))) | (refine W.ev (Ev.remt rfl rfl (by omega)) rfl rfl rfl ?_; all_goals ((refine W.auto ?_); (conv => whnf))))
          | ((with_reducible refine W.at 36 ?_); first | (refine W.ev (Ev.rem rfl rfl (by omega)) rfl rfl rfl ?_; all_goals ((refine W.auto ?_); (conv => whnf))) | (refine W.ev (Ev.remt rfl rfl (by omega)) rfl rfl rfl ?_; all_goals ((refine W.auto ?_); (conv => whnf))))
          | ((with_reducible refine W.at 42 ?_); first | (refine W.ev (Ev.load rfl rfl rdA rfl) rfl rfl rfl ?_; all_goals ((refine W.auto ?_); (conv => whnf))) | (refine W.ev (Ev.loadI rfl rdA (by first | omega | (simp only [List.length_drop, List.length_take, List.length_append, List.length_replicate, List.length_set, List.length_cons, List.length_nil, Nat.min_def]; omega) | (simp; omega))) rfl rfl rfl ?_; all_goals ((refine W.auto ?_); (conv => whnf))))
          | ((with_reducible refine W.at 45 ?_); first | ((refine W.stp (Stp.makeMap) rfl rfl rfl ?_; rintro _ _ ⟨g45, rfl, rfl⟩); all_goals ((refine W.auto ?_); (conv => whnf))))
          | ((with_reducible refine W.atS 47 ?_); first | (refine stWP rfl rfl (by intro v hv; (repeat' (first | rfl | (cases hv; done) | (rcases List.mem_cons.1 hv with rfl | hv)))) (by rfl) pkA ?_; (conv => whnf)))
          | refine Exists.intro _ (And.intro (resv_rfl rfl) ?_))
  all_goals first
    | (rw [show ldStart s above from_ = (0, 2, s) from if_pos (by omega)]; exact LdPost.leaf a rfl pksA)
    | (rw [show ldStart s above from_ = (nextB s.id (max s.b above + 1), 0, ⟨s.id, nextB s.id (max s.b above + 1), from_, 1, 0, [], none, 0⟩) from if_neg (by omega)]
       exact LdPost.leaf ⟨some _, none, []⟩ rfl (by dsimp only [leadC, leadL, bndC, pndC, pndA, pndM, nextB]; (repeat (first | exact PicksT.nil | (apply PicksT.cons; (focus ((repeat constructor); done))) | (apply PicksT.triv Triv.nilRow) | (apply PicksT.triv Triv.starM0) | (apply PicksT.pur; (focus (first | trivial | omega | (refine ⟨?_, ?_⟩ <;> (first | rfl | trivial | assumption | omega | (simp only [List.length_take, List.length_append, List.length_map, List.length_singleton, List.length_nil, List.length_cons, Nat.min_def]; omega) | (simp only [List.length_take, List.length_append, List.length_map, List.length_singleton, List.length_nil, List.length_cons, Nat.min_def]; split <;> omega) | (simp; done) | (simp; omega) | (simp_all; done) | (simp_all; omega))) | (refine ⟨?_, ?_, ?_⟩ <;> (first | rfl | trivial | assumption | omega | (simp only [List.length_take, List.length_append, List.length_map, List.length_singleton, List.length_nil, List.length_cons, Nat.min_def]; omega) | (simp only [List.length_take, List.length_append, List.length_map, List.length_singleton, List.length_nil, List.length_cons, Nat.min_def]; split <;> omega) | (simp; done) | (simp; omega) | (simp_all; done) | (simp_all; omega))) | (refine ⟨?_, ?_, ?_, ?_⟩ <;> (first | rfl | trivial | assumption | omega | (simp only [List.length_take, List.length_append, List.length_map, List.length_singleton, List.length_nil, List.length_cons, Nat.min_def]; omega) | (simp only [List.length_take, List.length_append, List.length_map, List.length_singleton, List.length_nil, List.length_cons, Nat.min_def]; split <;> omega) | (simp; done) | (simp; omega) | (simp_all; done) | (simp_all; omega))) | (first | rfl | trivial | assumption | omega | (simp only [List.length_take, List.length_append, List.length_map, List.length_singleton, List.length_nil, List.length_cons, Nat.min_def]; omega) | (simp only [List.length_take, List.length_append, List.length_map, List.length_singleton, List.length_nil, List.length_cons, Nat.min_def]; split <;> omega) | (simp; done) | (simp; omega) | (simp_all; done) | (simp_all; omega))))) | (apply PicksT.cutB; (focus ((repeat constructor); done)); (focus first | omega | (dsimp only; omega)); (focus first | omega | (dsimp only; omega))) | (apply PicksT.snocBH; (focus ((repeat constructor); done)); (focus ((repeat constructor); done)); (focus ((repeat constructor); done))) | (apply PicksT.triv Triv.nilB) | (apply PicksT.triv Triv.nilSlice) | (apply PicksT.asR; (focus ((repeat constructor); done))) | (apply PicksT.loR; (focus ((repeat constructor); done)); (focus first | omega | (constructor <;> omega) | (simp; omega))) | (apply PicksT.star)))))
    | skip

theorem No_spec (b : Int) : Spec Tryd.prog 29 [.pointer (some ⟨g, 0, none⟩), .int .i64 b] [leadC g a s] [] (LdPost g (.int .i64 (ldNo s b).1) (ldNo s b).2) := by
  refine Spec.lead fun h1 h2 h3 => ?_
  refine Spec.intro Tryd.func29 rfl rfl Tryd.ntmps29 rfl fun w0 => ?_
  (all_goals (refine WC.auto ?_; (conv => whnf))); repeat' (first
          | ((with_reducible refine WB.auto ?_); (conv => whnf))
          | ((with_reducible refine WCB.auto ?_); (conv => whnf))
          | ((with_reducible refine Ob.at ?_); first | (refine Ob.mk (by first | omega | exact u8_bound _ | (have := u8_bound; omega) | (simp only [List.length_drop, List.length_take, List.length_append, List.length_replicate, List.length_set, List.length_cons, List.length_nil, Nat.min_def]; omega)) ?_; (conv => whnf)) | (refine Ob.mk' ?_ ?_; (conv => whnf)))
          | (refine spl_mk (fun hc => ?_) (fun hc => ?_) <;> (try simp only [Bool.not_eq_false', and_self, and_true, true_and, not_true, Bool.not_eq_true', Bool.not_false, Bool.not_true, decide_eq_true_eq, decide_eq_false_iff_not, Bool.false_eq_true, reduceCtorEq, Bool.true_eq_false, ne_eq, Decidable.not_not, Int.not_lt, Int.not_le, beq_self_eq_true, eq_self, not_true_eq_false, not_false_eq_true, Bool.not_eq_eq_eq_not, Bool.not_eq_true, Bool.not_eq_false, beq_iff_eq, beq_eq_false_iff_ne] at hc) <;> (try (exfalso; omega)) <;> (conv => whnf))
          | ((with_reducible refine NatK.at ?_); first | ((with_reducible refine NatK.cast ?_); (conv => whnf)) | (refine NatK.sym (by first | omega | exact u8_bound _ | (have := u8_bound; omega) | (simp only [List.length_drop, List.length_take, List.length_append, List.length_replicate, List.length_set, List.length_cons, List.length_nil, Nat.min_def]; omega)) (fun m hm => ?_); (conv => whnf)))
          | (intro q hq; (conv => whnf))
          | ((with_reducible refine W.at 7 ?_); first | ((first | (refine W.stp (Stp.cal rfl rfl (none_spec _ _ _ _ _ _ _ _ _ _) pksA rdsA) rfl rfl rfl ?_; rintro _ _ ⟨_, ⟨rfl, rfl⟩, rfl⟩) | (refine W.stp (Stp.cal rfl rfl (none0_spec) pksA rdsA) rfl rfl rfl ?_; rintro _ _ ⟨_, ⟨rfl, rfl⟩, rfl⟩)); all_goals ((refine W.auto ?_); (conv => whnf))))
          | ((with_reducible refine W.at 12 ?_); first | (refine W.ev (Ev.load rfl rfl rdA rfl) rfl rfl rfl ?_; all_goals ((refine W.auto ?_); (conv => whnf))) | (refine W.ev (Ev.loadI rfl rdA (by first | omega | (simp only [List.length_drop, List.length_take, List.length_append, List.length_replicate, List.length_set, List.length_cons, List.length_nil, Nat.min_def]; omega) | (simp; omega))) rfl rfl rfl ?_; all_goals ((refine W.auto ?_); (conv => whnf))))
          | ((with_reducible refine W.at 18 ?_); first | (refine W.ev (Ev.load rfl rfl rdA rfl) rfl rfl rfl ?_; all_goals ((refine W.auto ?_); (conv => whnf))) | (refine W.ev (Ev.loadI rfl rdA (by first | omega | (simp only [List.length_drop, List.length_take, List.length_append, List.length_replicate, List.length_set, List.length_cons, List.length_nil, Nat.min_def]; omega) | (simp; omega))) rfl rfl rfl ?_; all_goals ((refine W.auto ?_); (conv => whnf))))
          | ((with_reducible refine W.atS 23 ?_); first | (refine stW1 rfl rfl rfl pkA ?_; (conv => whnf)))
          | ((with_reducible refine W.atS 25 ?_); first | (refine stW1 rfl rfl rfl pkA ?_; (conv => whnf)))
          | refine Exists.intro _ (And.intro (resv_rfl rfl) ?_))
  all_goals first
    | (rw [show ldNo s b = (170, s) from if_pos (by omega)]; exact LdPost.leaf a rfl pksA)
    | (rw [show ldNo s b = (0, { s with p := 0, pend := none }) from if_neg (by omega)]; exact LdPost.leaf ⟨a.gm, none, a.vs⟩ rfl (by dsimp only [leadC, leadL, bndC, pndC, pndA, pndM, List.append]; (repeat (first | exact PicksT.nil | (apply PicksT.cons; (focus ((repeat constructor); done))) | (apply PicksT.triv Triv.nilRow) | (apply PicksT.triv Triv.starM0) | (apply PicksT.pur; (focus (first | trivial | omega | (refine ⟨?_, ?_⟩ <;> (first | rfl | trivial | assumption | omega | (simp only [List.length_take, List.length_append, List.length_map, List.length_singleton, List.length_nil, List.length_cons, Nat.min_def]; omega) | (simp only [List.length_take, List.length_append, List.length_map, List.length_singleton, List.length_nil, List.length_cons, Nat.min_def]; split <;> omega) | (simp; done) | (simp; omega) | (simp_all; done) | (simp_all; omega))) | (refine ⟨?_, ?_, ?_⟩ <;> (first | rfl | trivial | assumption | omega | (simp only [List.length_take, List.length_append, List.length_map, List.length_singleton, List.length_nil, List.length_cons, Nat.min_def]; omega) | (simp only [List.length_take, List.length_append, List.length_map, List.length_singleton, List.length_nil, List.length_cons, Nat.min_def]; split <;> omega) | (simp; done) | (simp; omega) | (simp_all; done) | (simp_all; omega))) | (refine ⟨?_, ?_, ?_, ?_⟩ <;> (first | rfl | trivial | assumption | omega | (simp only [List.length_take, List.length_append, List.length_map, List.length_singleton, List.length_nil, List.length_cons, Nat.min_def]; omega) | (simp only [List.length_take, List.length_append, List.length_map, List.length_singleton, List.length_nil, List.length_cons, Nat.min_def]; split <;> omega) | (simp; done) | (simp; omega) | (simp_all; done) | (simp_all; omega))) | (first | rfl | trivial | assumption | omega | (simp only [List.length_take, List.length_append, List.length_map, List.length_singleton, List.length_nil, List.length_cons, Nat.min_def]; omega) | (simp only [List.length_take, List.length_append, List.length_map, List.length_singleton, List.length_nil, List.length_cons, Nat.min_def]; split <;> omega) | (simp; done) | (simp; omega) | (simp_all; done) | (simp_all; omega))))) | (apply PicksT.cutB; (focus ((repeat constructor); done)); (focus first | omega | (dsimp only; omega)); (focus first | omega | (dsimp only; omega))) | (apply PicksT.snocBH; (focus ((repeat constructor); done)); (focus ((repeat constructor); done)); (focus ((repeat constructor); done))) | (apply PicksT.triv Triv.nilB) | (apply PicksT.triv Triv.nilSlice) | (apply PicksT.asR; (focus ((repeat constructor); done))) | (apply PicksT.loR; (focus ((repeat constructor); done)); (focus first | omega | (constructor <;> omega) | (simp; omega))) | (apply PicksT.star)))))
    | skip

theorem Ballot_spec : Spec Tryd.prog 18 [.pointer (some ⟨g, 0, none⟩)] [] [leadC g a s] (fun v l' => v = .int .i64 s.b ∧ l' = []) := by
  refine Spec.leadR fun h1 h2 h3 => ?_
  refine Spec.intro Tryd.func18 rfl rfl Tryd.ntmps18 rfl fun w0 => ?_
  (all_goals (refine WC.auto ?_; (conv => whnf))); repeat' (first
          | ((with_reducible refine WB.auto ?_); (conv => whnf))
          | ((with_reducible refine WCB.auto ?_); (conv => whnf))
          | ((with_reducible refine Ob.at ?_); first | (refine Ob.mk (by first | omega | exact u8_bound _ | (have := u8_bound; omega) | (simp only [List.length_drop, List.length_take, List.length_append, List.length_replicate, List.length_set, List.length_cons, List.length_nil, Nat.min_def]; omega)) ?_; (conv => whnf)) | (refine Ob.mk' ?_ ?_; (conv => whnf)))
          | (refine spl_mk (fun hc => ?_) (fun hc => ?_) <;> (try simp only [Bool.not_eq_false', and_self, and_true, true_and, not_true, Bool.not_eq_true', Bool.not_false, Bool.not_true, decide_eq_true_eq, decide_eq_false_iff_not, Bool.false_eq_true, reduceCtorEq, Bool.true_eq_false, ne_eq, Decidable.not_not, Int.not_lt, Int.not_le, beq_self_eq_true, eq_self, not_true_eq_false, not_false_eq_true, Bool.not_eq_eq_eq_not, Bool.not_eq_true, Bool.not_eq_false, beq_iff_eq, beq_eq_false_iff_ne] at hc) <;> (try (exfalso; omega)) <;> (conv => whnf))
          | ((with_reducible refine NatK.at ?_); first | ((with_reducible refine NatK.cast ?_); (conv => whnf)) | (refine NatK.sym (by first | omega | exact u8_bound _ | (have := u8_bound; omega) | (simp only [List.length_drop, List.length_take, List.length_append, List.length_replicate, List.length_set, List.length_cons, List.length_nil, Nat.min_def]; omega)) (fun m hm => ?_); (conv => whnf)))
          | (intro q hq; (conv => whnf))
          | ((with_reducible refine W.at 4 ?_); first | ((first | (refine W.stp (Stp.cal rfl rfl (none_spec _ _ _ _ _ _ _ _ _ _) pksA rdsA) rfl rfl rfl ?_; rintro _ _ ⟨_, ⟨rfl, rfl⟩, rfl⟩) | (refine W.stp (Stp.cal rfl rfl (none0_spec) pksA rdsA) rfl rfl rfl ?_; rintro _ _ ⟨_, ⟨rfl, rfl⟩, rfl⟩)); all_goals ((refine W.auto ?_); (conv => whnf))))
          | ((with_reducible refine W.at 8 ?_); first | (refine W.ev (Ev.load rfl rfl rdA rfl) rfl rfl rfl ?_; all_goals ((refine W.auto ?_); (conv => whnf))) | (refine W.ev (Ev.loadI rfl rdA (by first | omega | (simp only [List.length_drop, List.length_take, List.length_append, List.length_replicate, List.length_set, List.length_cons, List.length_nil, Nat.min_def]; omega) | (simp; omega))) rfl rfl rfl ?_; all_goals ((refine W.auto ?_); (conv => whnf))))
          | refine Exists.intro _ (And.intro (resv_rfl rfl) ?_))
  all_goals first | exact ⟨_, ⟨rfl, rfl⟩, _, pksA⟩ | skip
theorem From_spec : Spec Tryd.prog 24 [.pointer (some ⟨g, 0, none⟩)] [] [leadC g a s] (fun v l' => v = .int .i64 s.f ∧ l' = []) := by
  refine Spec.leadR fun h1 h2 h3 => ?_
  refine Spec.intro Tryd.func24 rfl rfl Tryd.ntmps24 rfl fun w0 => ?_
  (all_goals (refine WC.auto ?_; (conv => whnf))); repeat' (first
          | ((with_reducible refine WB.auto ?_); (conv => whnf))
          | ((with_reducible refine WCB.auto ?_); (conv => whnf))
          | ((with_reducible refine Ob.at ?_); first | (refine Ob.mk (by first | omega | exact u8_bound _ | (have := u8_bound; omega) | (simp only [List.length_drop, List.length_take, List.length_append, List.length_replicate, List.length_set, List.length_cons, List.length_nil, Nat.min_def]; omega)) ?_; (conv => whnf)) | (refine Ob.mk' ?_ ?_; (conv => whnf)))
          | (refine spl_mk (fun hc => ?_) (fun hc => ?_) <;> (try simp only [Bool.not_eq_false', and_self, and_true, true_and, not_true, Bool.not_eq_true', Bool.not_false, Bool.not_true, decide_eq_true_eq, decide_eq_false_iff_not, Bool.false_eq_true, reduceCtorEq, Bool.true_eq_false, ne_eq, Decidable.not_not, Int.not_lt, Int.not_le, beq_self_eq_true, eq_self, not_true_eq_false, not_false_eq_true, Bool.not_eq_eq_eq_not, Bool.not_eq_true, Bool.not_eq_false, beq_iff_eq, beq_eq_false_iff_ne] at hc) <;> (try (exfalso; omega)) <;> (conv => whnf))
          | ((with_reducible refine NatK.at ?_); first | ((with_reducible refine NatK.cast ?_); (conv => whnf)) | (refine NatK.sym (by first | omega | exact u8_bound _ | (have := u8_bound; omega) | (simp only [List.length_drop, List.length_take, List.length_append, List.length_replicate, List.length_set, List.length_cons, List.length_nil, Nat.min_def]; omega)) (fun m hm => ?_); (conv => whnf)))
          | (intro q hq; (conv => whnf))
          | ((with_reducible refine W.at 4 ?_); first | ((first | (refine W.stp (Stp.cal rfl rfl (none_spec _ _ _ _ _ _ _ _ _ _) pksA rdsA) rfl rfl rfl ?_; rintro _ _ ⟨_, ⟨rfl, rfl⟩, rfl⟩) | (refine W.stp (Stp.cal rfl rfl (none0_spec) pksA rdsA) rfl rfl rfl ?_; rintro _ _ ⟨_, ⟨rfl, rfl⟩, rfl⟩)); all_goals ((refine W.auto ?_); (conv => whnf))))
          | ((with_reducible refine W.at 8 ?_); first | (refine W.ev (Ev.load rfl rfl rdA rfl) rfl rfl rfl ?_; all_goals ((refine W.auto ?_); (conv => whnf))) | (refine W.ev (Ev.loadI rfl rdA (by first | omega | (simp only [List.length_drop, List.length_take, List.length_append, List.length_replicate, List.length_set, List.length_cons, List.length_nil, Nat.min_def]; omega) | (simp; omega))) rfl rfl rfl ?_; all_goals ((refine W.auto ?_); (conv => whnf))))
          | refine Exists.intro _ (And.intro (resv_rfl rfl) ?_))
  all_goals first | exact ⟨_, ⟨rfl, rfl⟩, _, pksA⟩ | skip
theorem Phase_spec : Spec Tryd.prog 16 [.pointer (some ⟨g, 0, none⟩)] [] [leadC g a s] (fun v l' => v = .int .i64 s.p ∧ l' = []) := by
  refine Spec.leadR fun h1 h2 h3 => ?_
  refine Spec.intro Tryd.func16 rfl rfl Tryd.ntmps16 rfl fun w0 => ?_
  (all_goals (refine WC.auto ?_; (conv => whnf))); repeat' (first
          | ((with_reducible refine WB.auto ?_); (conv => whnf))
          | ((with_reducible refine WCB.auto ?_); (conv => whnf))
          | ((with_reducible refine Ob.at ?_); first | (refine Ob.mk (by first | omega | exact u8_bound _ | (have := u8_bound; omega) | (simp only [List.length_drop, List.length_take, List.length_append, List.length_replicate, List.length_set, List.length_cons, List.length_nil, Nat.min_def]; omega)) ?_; (conv => whnf)) | (refine Ob.mk' ?_ ?_; (conv => whnf)))
          | (refine spl_mk (fun hc => ?_) (fun hc => ?_) <;> (try simp only [Bool.not_eq_false', and_self, and_true, true_and, not_true, Bool.not_eq_true', Bool.not_false, Bool.not_true, decide_eq_true_eq, decide_eq_false_iff_not, Bool.false_eq_true, reduceCtorEq, Bool.true_eq_false, ne_eq, Decidable.not_not, Int.not_lt, Int.not_le, beq_self_eq_true, eq_self, not_true_eq_false, not_false_eq_true, Bool.not_eq_eq_eq_not, Bool.not_eq_true, Bool.not_eq_false, beq_iff_eq, beq_eq_false_iff_ne] at hc) <;> (try (exfalso; omega)) <;> (conv => whnf))
          | ((with_reducible refine NatK.at ?_); first | ((with_reducible refine NatK.cast ?_); (conv => whnf)) | (refine NatK.sym (by first | omega | exact u8_bound _ | (have := u8_bound; omega) | (simp only [List.length_drop, List.length_take, List.length_append, List.length_replicate, List.length_set, List.length_cons, List.length_nil, Nat.min_def]; omega)) (fun m hm => ?_); (conv => whnf)))
          | (intro q hq; (conv => whnf))
          | ((with_reducible refine W.at 4 ?_); first | ((first | (refine W.stp (Stp.cal rfl rfl (none_spec _ _ _ _ _ _ _ _ _ _) pksA rdsA) rfl rfl rfl ?_; rintro _ _ ⟨_, ⟨rfl, rfl⟩, rfl⟩) | (refine W.stp (Stp.cal rfl rfl (none0_spec) pksA rdsA) rfl rfl rfl ?_; rintro _ _ ⟨_, ⟨rfl, rfl⟩, rfl⟩)); all_goals ((refine W.auto ?_); (conv => whnf))))
          | ((with_reducible refine W.at 8 ?_); first | (refine W.ev (Ev.load rfl rfl rdA rfl) rfl rfl rfl ?_; all_goals ((refine W.auto ?_); (conv => whnf))) | (refine W.ev (Ev.loadI rfl rdA (by first | omega | (simp only [List.length_drop, List.length_take, List.length_append, List.length_replicate, List.length_set, List.length_cons, List.length_nil, Nat.min_def]; omega) | (simp; omega))) rfl rfl rfl ?_; all_goals ((refine W.auto ?_); (conv => whnf))))
          | refine Exists.intro _ (And.intro (resv_rfl rfl) ?_))
  all_goals first | exact ⟨_, ⟨rfl, rfl⟩, _, pksA⟩ | skip



/-- A config, as a value. -/
def cf0 : CF := ⟨0, 0, []⟩
abbrev cfV (c : CF) (A : Option Addr) (k : Nat) : Value := .agg #[.int .i64 c.num, .int .i64 c.full, .slice A c.xs.length k]
abbrev cfC (c : CF) (A : Option Addr) (k : Nat) : Chunk := iO A k 3 c.xs.length c.xs
theorem Pending_spec (h : LdOK s) : Spec Tryd.prog 21 [.pointer (some ⟨g, 0, none⟩)] [] [leadC g a s]
    (fun v l' => ∃ A k, v = .tuple #[cfV (s.pend.getD cf0) A k, .bool s.pend.isSome] ∧ l' = [cfC (s.pend.getD cf0) A k]) := by
  refine Spec.leadR fun h1 h2 h3 => ?_
  obtain ⟨hid, hb, hpr, hsaid, hbs, hpend⟩ := h
  obtain ⟨gm, po, vs⟩ := a
  rcases po with _ | ⟨gp, hc⟩
  all_goals dsimp only [leadL, pndC, pndA, pndM, List.cons_append, List.nil_append] at *
  all_goals rw [h2] at hpend ⊢
  · refine Spec.introM Tryd.func21 rfl rfl Tryd.ntmps21 rfl fun w0 => ?_
    (all_goals (refine WC.auto ?_; (conv => whnf))); repeat' (first
          | ((with_reducible refine WB.auto ?_); (conv => whnf))
          | ((with_reducible refine WCB.auto ?_); (conv => whnf))
          | ((with_reducible refine Ob.at ?_); first | (refine Ob.mk (by first | omega | exact u8_bound _ | (have := u8_bound; omega) | (simp only [List.length_drop, List.length_take, List.length_append, List.length_replicate, List.length_set, List.length_cons, List.length_nil, Nat.min_def]; omega)) ?_; (conv => whnf)) | (refine Ob.mk' ?_ ?_; (conv => whnf)))
          | (refine spl_mk (fun hc => ?_) (fun hc => ?_) <;> (try simp only [Bool.not_eq_false', and_self, and_true, true_and, not_true, Bool.not_eq_true', Bool.not_false, Bool.not_true, decide_eq_true_eq, decide_eq_false_iff_not, Bool.false_eq_true, reduceCtorEq, Bool.true_eq_false, ne_eq, Decidable.not_not, Int.not_lt, Int.not_le, beq_self_eq_true, eq_self, not_true_eq_false, not_false_eq_true, Bool.not_eq_eq_eq_not, Bool.not_eq_true, Bool.not_eq_false, beq_iff_eq, beq_eq_false_iff_ne] at hc) <;> (try (exfalso; omega)) <;> (conv => whnf))
          | ((with_reducible refine NatK.at ?_); first | ((with_reducible refine NatK.cast ?_); (conv => whnf)) | (refine NatK.sym (by first | omega | exact u8_bound _ | (have := u8_bound; omega) | (simp only [List.length_drop, List.length_take, List.length_append, List.length_replicate, List.length_set, List.length_cons, List.length_nil, Nat.min_def]; omega)) (fun m hm => ?_); (conv => whnf)))
          | (intro q hq; (conv => whnf))
          | ((with_reducible refine W.at 2 ?_); first | ((refine W.stp (Stp.allocA rfl) rfl rfl rfl ?_; rintro _ _ ⟨g2, rfl, rfl⟩); all_goals ((refine W.auto ?_); (conv => whnf))))
          | ((with_reducible refine W.at 5 ?_); first | ((first | (refine W.stp (Stp.cal rfl rfl (none_spec _ _ _ _ _ _ _ _ _ _) pksA rdsA) rfl rfl rfl ?_; rintro _ _ ⟨_, ⟨rfl, rfl⟩, rfl⟩) | (refine W.stp (Stp.cal rfl rfl (none0_spec) pksA rdsA) rfl rfl rfl ?_; rintro _ _ ⟨_, ⟨rfl, rfl⟩, rfl⟩)); all_goals ((refine W.auto ?_); (conv => whnf))))
          | ((with_reducible refine W.at 10 ?_); first | (refine W.ev (Ev.load rfl rfl rdA rfl) rfl rfl rfl ?_; all_goals ((refine W.auto ?_); (conv => whnf))))
          | ((with_reducible refine W.atS 2 ?_); first | (refine stWP rfl rfl (by intro v hv; (repeat' (first | rfl | (cases hv; done) | (rcases List.mem_cons.1 hv with rfl | hv)))) (by rfl) pkA ?_; (conv => whnf)))
          | ((with_reducible refine W.at 17 ?_); first | (refine W.ev (Ev.load rfl rfl rdA rfl) rfl rfl rfl ?_; all_goals ((refine W.auto ?_); (conv => whnf))))
          | ((with_reducible refine W.at 19 ?_); first | (refine W.ev (Ev.loadAll rfl rfl rdA (by first | rfl | (simp; done) | (simp only [u8s_length]; omega) | (simp only [u8s_length]; assumption))) rfl rfl rfl ?_; all_goals ((refine W.auto ?_); (conv => whnf))) | (refine W.ev (Ev.loadAgg rfl rfl rdA (by exact Nat.le_of_ble_eq_true rfl)) rfl rfl rfl ?_; all_goals ((refine W.auto ?_); (conv => whnf))))
          | ((with_reducible refine W.at 20 ?_); first | ((first | (refine W.stp (Stp.cal rfl rfl (copied_spec _ _ _ _ _ (by assumption)) pksA rdsA) rfl rfl rfl ?_; rintro _ _ ⟨_, ⟨A20, c20, rfl, rfl⟩, rfl⟩) | (refine W.stp (Stp.cal rfl rfl (copied0_spec) pksA rdsA) rfl rfl rfl ?_; rintro _ _ ⟨_, ⟨A20, c20, rfl, rfl⟩, rfl⟩)); all_goals ((refine W.auto ?_); (conv => whnf))))
          | refine Exists.intro [_, _] (And.intro (resM_mk ⟨⟨_, _, _, rfl, by (repeat (first | exact Rds.nil | refine Rds.cons ?_ ?_ | exact Rd.here (Sub.refl _) | exact Rd.here Sub.row | refine Rd.there ?_)); fail_if_success (focus skip), CellVal.all rfl (by rfl)⟩, ⟨rfl, trivial⟩⟩) ?_))
    all_goals exact ⟨_, ⟨none, 0, rfl, rfl⟩, _, .triv Triv.nilRow .nil⟩
  · have hl : hc.xs.length ≤ 1000000 := hpend _ rfl
    refine Spec.openRS ?_
    dsimp only [List.cons_append, List.nil_append]
    refine Spec.introM Tryd.func21 rfl rfl Tryd.ntmps21 rfl fun w0 => ?_
    (all_goals (refine WC.auto ?_; (conv => whnf))); repeat' (first
          | ((with_reducible refine WB.auto ?_); (conv => whnf))
          | ((with_reducible refine WCB.auto ?_); (conv => whnf))
          | ((with_reducible refine Ob.at ?_); first | (refine Ob.mk (by first | omega | exact u8_bound _ | (have := u8_bound; omega) | (simp only [List.length_drop, List.length_take, List.length_append, List.length_replicate, List.length_set, List.length_cons, List.length_nil, Nat.min_def]; omega)) ?_; (conv => whnf)) | (refine Ob.mk' ?_ ?_; (conv => whnf)))
          | (refine spl_mk (fun hc => ?_) (fun hc => ?_) <;> (try simp only [Bool.not_eq_false', and_self, and_true, true_and, not_true, Bool.not_eq_true', Bool.not_false, Bool.not_true, decide_eq_true_eq, decide_eq_false_iff_not, Bool.false_eq_true, reduceCtorEq, Bool.true_eq_false, ne_eq, Decidable.not_not, Int.not_lt, Int.not_le, beq_self_eq_true, eq_self, not_true_eq_false, not_false_eq_true, Bool.not_eq_eq_eq_not, Bool.not_eq_true, Bool.not_eq_false, beq_iff_eq, beq_eq_false_iff_ne] at hc) <;> (try (exfalso; omega)) <;> (conv => whnf))
          | ((with_reducible refine NatK.at ?_); first | ((with_reducible refine NatK.cast ?_); (conv => whnf)) | (refine NatK.sym (by first | omega | exact u8_bound _ | (have := u8_bound; omega) | (simp only [List.length_drop, List.length_take, List.length_append, List.length_replicate, List.length_set, List.length_cons, List.length_nil, Nat.min_def]; omega)) (fun m hm => ?_); (conv => whnf)))
          | (intro q hq; (conv => whnf))
          | ((with_reducible refine W.at 2 ?_); first | ((refine W.stp (Stp.allocA rfl) rfl rfl rfl ?_; rintro _ _ ⟨g2, rfl, rfl⟩); all_goals ((refine W.auto ?_); (conv => whnf))))
          | ((with_reducible refine W.at 5 ?_); first | ((first | (refine W.stp (Stp.cal rfl rfl (none_spec _ _ _ _ _ _ _ _ _ _) pksA rdsA) rfl rfl rfl ?_; rintro _ _ ⟨_, ⟨rfl, rfl⟩, rfl⟩) | (refine W.stp (Stp.cal rfl rfl (none0_spec) pksA rdsA) rfl rfl rfl ?_; rintro _ _ ⟨_, ⟨rfl, rfl⟩, rfl⟩)); all_goals ((refine W.auto ?_); (conv => whnf))))
          | ((with_reducible refine W.at 10 ?_); first | (refine W.ev (Ev.load rfl rfl rdA rfl) rfl rfl rfl ?_; all_goals ((refine W.auto ?_); (conv => whnf))))
          | ((with_reducible refine W.atS 2 ?_); first | (refine stWP rfl rfl (by intro v hv; (repeat' (first | rfl | (cases hv; done) | (rcases List.mem_cons.1 hv with rfl | hv)))) (by rfl) pkA ?_; (conv => whnf)))
          | ((with_reducible refine W.at 17 ?_); first | (refine W.ev (Ev.load rfl rfl rdA rfl) rfl rfl rfl ?_; all_goals ((refine W.auto ?_); (conv => whnf))))
          | ((with_reducible refine W.at 19 ?_); first | (refine W.ev (Ev.loadAll rfl rfl rdA (by first | rfl | (simp; done) | (simp only [u8s_length]; omega) | (simp only [u8s_length]; assumption))) rfl rfl rfl ?_; all_goals ((refine W.auto ?_); (conv => whnf))) | (refine W.ev (Ev.loadAgg rfl rfl rdA (by exact Nat.le_of_ble_eq_true rfl)) rfl rfl rfl ?_; all_goals ((refine W.auto ?_); (conv => whnf))))
          | ((with_reducible refine W.at 20 ?_); first | ((first | (refine W.stp (Stp.cal rfl rfl (copied_spec _ _ _ _ _ (by assumption)) pksA rdsA) rfl rfl rfl ?_; rintro _ _ ⟨_, ⟨A20, c20, rfl, rfl⟩, rfl⟩) | (refine W.stp (Stp.cal rfl rfl (copied0_spec) pksA rdsA) rfl rfl rfl ?_; rintro _ _ ⟨_, ⟨A20, c20, rfl, rfl⟩, rfl⟩)); all_goals ((refine W.auto ?_); (conv => whnf))))
          | refine Exists.intro [_, _] (And.intro (resM_mk ⟨⟨_, _, _, rfl, by (repeat (first | exact Rds.nil | refine Rds.cons ?_ ?_ | exact Rd.here (Sub.refl _) | exact Rd.here Sub.row | refine Rd.there ?_)); fail_if_success (focus skip), CellVal.all rfl (by rfl)⟩, ⟨rfl, trivial⟩⟩) ?_))
    all_goals first | exact ⟨_, ⟨_, _, rfl, rfl⟩, _, pksA⟩ | skip

end
end Go.SX
