/- Numbers: the reader, of the program and of the reference. -/
import Derived.Test.YtkiofjedeecijaaNm6
namespace Go.SX
open Go Go.RowKit Go.Proofs
set_option linter.unusedVariables false
set_option linter.unusedSimpArgs false
set_option maxHeartbeats 4000000
/-- A reader: the bytes that are left, and what was wrong first. -/
structure NR where
  b : List UInt8
  e : Int
def nrL (T : TypeId) (g : Nat) (a : NWA) (s : NR) : List Chunk := [cellsC g T [.slice a.A a.k a.c, .int .i64 s.e], bR a.A a.c a.k s.b, pureC (a.k = s.b.length)]
def nrC (g : Nat) (a : NWA) (s : NR) : Chunk := starC (nrL 83 g a s)
def nrFail (s : NR) (e : Int) : NR := ⟨[], if s.e ≠ 0 then s.e else e⟩
def nrRaw (s : NR) (n : Int) : List UInt8 × NR :=
  if s.e ≠ 0 then ([], s) else if n < 0 then ([], ⟨[], 2⟩) else if (s.b.length : Int) < n then ([], ⟨[], 3⟩) else (s.b.take n.toNat, ⟨s.b.drop n.toNat, 0⟩)
def nrEnd (s : NR) : Int := if s.e = 0 ∧ 0 < s.b.length then 4 else s.e
theorem Spec.nr {P : Program} {f : FuncId} {args : List Value} {T g : Nat} {a : NWA} {s : NR} {l r : List Chunk} {post : Value → List Chunk → Prop}
    (h : a.k = s.b.length ∧ a.k ≤ a.c ∧ a.c ≤ 9223372036854775807 → Spec P f args (nrL T g a s ++ l) r post) : Spec P f args (starC (nrL T g a s) :: l) r post := by
  refine Spec.open ?_
  refine Spec.fact (d := pureC (a.k = s.b.length)) (φ := a.k = s.b.length) (Rd.there (Rd.there (Rd.here (Sub.refl _)))) (fun w h => h) fun h1 => ?_
  refine Spec.fact (d := bR a.A a.c a.k s.b) (φ := s.b.length = a.k ∧ a.k ≤ a.c ∧ a.c ≤ 9223372036854775807) (Rd.there (Rd.here (Sub.refl _))) (fun w h => bR_len w h) fun h2 => ?_
  exact h ⟨h1, h2.2⟩
theorem Spec.nrR {P : Program} {f : FuncId} {args : List Value} {T g : Nat} {a : NWA} {s : NR} {r : List Chunk} {post : Value → List Chunk → Prop}
    (h : a.k = s.b.length ∧ a.k ≤ a.c ∧ a.c ≤ 9223372036854775807 → Spec P f args [] (nrL T g a s ++ r) post) : Spec P f args [] (starC (nrL T g a s) :: r) post := by
  refine Spec.openRS ?_
  refine Spec.fact (d := pureC (a.k = s.b.length)) (φ := a.k = s.b.length) (Rd.there (Rd.there (Rd.here (Sub.refl _)))) (fun w h => h) fun h1 => ?_
  refine Spec.fact (d := bR a.A a.c a.k s.b) (φ := s.b.length = a.k ∧ a.k ≤ a.c ∧ a.c ≤ 9223372036854775807) (Rd.there (Rd.here (Sub.refl _))) (fun w h => bR_len w h) fun h2 => ?_
  exact h ⟨h1, h2.2⟩
section
variable (g : Nat) (a : NWA) (s : NR) (A : Option Addr) (c n : Nat) (x : List UInt8) (e : Int)
theorem Read0_spec (h : n ≤ 140737488351232) : Spec Try.prog 35 [.slice A n c] [] [bR A c n x] (fun v l' => ∃ g a, v = .pointer (some ⟨g, 0, none⟩) ∧ l' = [nrC g a ⟨x, 0⟩]) := by
  refine Spec.fact (d := bR A c n x) (Rd.here (Sub.refl _)) bR_len fun hx => ?_
  obtain ⟨hx1, hx2, hx3⟩ := hx
  subst hx1
  refine Spec.intro Try.func35 rfl rfl Try.ntmps35 rfl fun w0 => ?_
  (all_goals (refine WC.auto ?_; (conv => whnf))); repeat' (first
          | ((with_reducible refine WB.auto ?_); (conv => whnf))
          | ((with_reducible refine WCB.auto ?_); (conv => whnf))
          | ((with_reducible refine Ob.at ?_); first | (refine Ob.mk (by first | omega | exact u8_bound _ | (have := u8_bound; omega) | (simp only [List.length_drop, List.length_take, List.length_append, List.length_replicate, List.length_set, List.length_cons, List.length_nil, Nat.min_def]; omega)) ?_; (conv => whnf)) | (refine Ob.mk' ?_ ?_; (conv => whnf)))
          | (refine spl_mk (fun hc => ?_) (fun hc => ?_) <;> (try simp only [Bool.not_eq_false', and_self, and_true, true_and, not_true, Bool.not_eq_true', Bool.not_false, Bool.not_true, decide_eq_true_eq, decide_eq_false_iff_not, Bool.false_eq_true, reduceCtorEq, Bool.true_eq_false, ne_eq, Decidable.not_not, Int.not_lt, Int.not_le, beq_self_eq_true, eq_self, not_true_eq_false, not_false_eq_true, Bool.not_eq_eq_eq_not, Bool.not_eq_true, Bool.not_eq_false, beq_iff_eq, beq_eq_false_iff_ne] at hc) <;> (try (exfalso; omega)) <;> (conv => whnf))
          | ((with_reducible refine NatK.at ?_); first | ((with_reducible refine NatK.cast ?_); (conv => whnf)) | (refine NatK.sym (by first | omega | exact u8_bound _ | (have := u8_bound; omega) | (simp only [List.length_drop, List.length_take, List.length_append, List.length_replicate, List.length_set, List.length_cons, List.length_nil, Nat.min_def]; omega)) (fun m hm => ?_); (conv => whnf)))
          | (intro q hq; (conv => whnf))
          | ((with_reducible refine W.at 4 ?_); first | ((refine W.stp (Stp.cal rfl rfl (Clone_spec _ _ _ _ (by omega)) pksA rdsA) rfl rfl rfl ?_; rintro _ _ ⟨_, ⟨A4, c4, rfl, rfl⟩, rfl⟩); all_goals ((refine W.auto ?_); (conv => whnf))))
          | ((with_reducible refine W.at 6 ?_); first | ((refine W.stp (Stp.boxA rfl) rfl rfl rfl ?_; rintro _ _ ⟨g6, rfl, rfl⟩); all_goals ((refine W.auto ?_); (conv => whnf))))
          | refine Exists.intro _ (And.intro (resv_rfl rfl) ?_))
  all_goals exact ⟨_, ⟨_, ⟨_, _, _⟩, rfl, rfl⟩, _, pksA⟩
theorem Err_spec : Spec Try.prog 39 [.pointer (some ⟨g, 0, none⟩)] [] [nrC g a s] (fun v l' => v = .int .i64 s.e ∧ l' = []) := by
  refine Spec.nrR fun hd => ?_
  refine Spec.intro Try.func39 rfl rfl Try.ntmps39 rfl fun w0 => ?_
  (all_goals (refine WC.auto ?_; (conv => whnf))); repeat' (first
          | ((with_reducible refine WB.auto ?_); (conv => whnf))
          | ((with_reducible refine WCB.auto ?_); (conv => whnf))
          | ((with_reducible refine Ob.at ?_); first | (refine Ob.mk (by first | omega | exact u8_bound _ | (have := u8_bound; omega) | (simp only [List.length_drop, List.length_take, List.length_append, List.length_replicate, List.length_set, List.length_cons, List.length_nil, Nat.min_def]; omega)) ?_; (conv => whnf)) | (refine Ob.mk' ?_ ?_; (conv => whnf)))
          | (refine spl_mk (fun hc => ?_) (fun hc => ?_) <;> (try simp only [Bool.not_eq_false', and_self, and_true, true_and, not_true, Bool.not_eq_true', Bool.not_false, Bool.not_true, decide_eq_true_eq, decide_eq_false_iff_not, Bool.false_eq_true, reduceCtorEq, Bool.true_eq_false, ne_eq, Decidable.not_not, Int.not_lt, Int.not_le, beq_self_eq_true, eq_self, not_true_eq_false, not_false_eq_true, Bool.not_eq_eq_eq_not, Bool.not_eq_true, Bool.not_eq_false, beq_iff_eq, beq_eq_false_iff_ne] at hc) <;> (try (exfalso; omega)) <;> (conv => whnf))
          | ((with_reducible refine NatK.at ?_); first | ((with_reducible refine NatK.cast ?_); (conv => whnf)) | (refine NatK.sym (by first | omega | exact u8_bound _ | (have := u8_bound; omega) | (simp only [List.length_drop, List.length_take, List.length_append, List.length_replicate, List.length_set, List.length_cons, List.length_nil, Nat.min_def]; omega)) (fun m hm => ?_); (conv => whnf)))
          | (intro q hq; (conv => whnf))
          | ((with_reducible refine W.at 8 ?_); first | (refine W.ev (Ev.load rfl rfl rdA rfl) rfl rfl rfl ?_; all_goals ((refine W.auto ?_); (conv => whnf))) | (refine W.ev (Ev.loadI rfl rdA (by first | omega | (simp only [List.length_drop, List.length_take, List.length_append, List.length_replicate, List.length_set, List.length_cons, List.length_nil, Nat.min_def]; omega) | (simp; omega))) rfl rfl rfl ?_; all_goals ((refine W.auto ?_); (conv => whnf))))
          | refine Exists.intro _ (And.intro (resv_rfl rfl) ?_))
  all_goals first | exact ⟨_, ⟨rfl, rfl⟩, _, pksA⟩ | skip

theorem Left_spec : Spec Try.prog 54 [.pointer (some ⟨g, 0, none⟩)] [] [nrC g a s] (fun v l' => v = .int .i64 s.b.length ∧ l' = []) := by
  refine Spec.nrR fun hd => ?_
  refine Spec.intro Try.func54 rfl rfl Try.ntmps54 rfl fun w0 => ?_
  (all_goals (refine WC.auto ?_; (conv => whnf))); repeat' (first
          | ((with_reducible refine WB.auto ?_); (conv => whnf))
          | ((with_reducible refine WCB.auto ?_); (conv => whnf))
          | ((with_reducible refine Ob.at ?_); first | (refine Ob.mk (by first | omega | exact u8_bound _ | (have := u8_bound; omega) | (simp only [List.length_drop, List.length_take, List.length_append, List.length_replicate, List.length_set, List.length_cons, List.length_nil, Nat.min_def]; omega)) ?_; (conv => whnf)) | (refine Ob.mk' ?_ ?_; (conv => whnf)))
          | (refine spl_mk (fun hc => ?_) (fun hc => ?_) <;> (try simp only [Bool.not_eq_false', and_self, and_true, true_and, not_true, Bool.not_eq_true', Bool.not_false, Bool.not_true, decide_eq_true_eq, decide_eq_false_iff_not, Bool.false_eq_true, reduceCtorEq, Bool.true_eq_false, ne_eq, Decidable.not_not, Int.not_lt, Int.not_le, beq_self_eq_true, eq_self, not_true_eq_false, not_false_eq_true, Bool.not_eq_eq_eq_not, Bool.not_eq_true, Bool.not_eq_false, beq_iff_eq, beq_eq_false_iff_ne] at hc) <;> (try (exfalso; omega)) <;> (conv => whnf))
          | ((with_reducible refine NatK.at ?_); first | ((with_reducible refine NatK.cast ?_); (conv => whnf)) | (refine NatK.sym (by first | omega | exact u8_bound _ | (have := u8_bound; omega) | (simp only [List.length_drop, List.length_take, List.length_append, List.length_replicate, List.length_set, List.length_cons, List.length_nil, Nat.min_def]; omega)) (fun m hm => ?_); (conv => whnf)))
          | (intro q hq; (conv => whnf))
          | ((with_reducible refine W.at 8 ?_); first | (refine W.ev (Ev.load rfl rfl rdA rfl) rfl rfl rfl ?_; all_goals ((refine W.auto ?_); (conv => whnf))))
          | refine Exists.intro _ (And.intro (resv_rfl rfl) ?_))
  all_goals first | exact ⟨_, ⟨congrArg (fun k : Nat => Value.int .i64 k) hd.1, rfl⟩, _, pksA⟩ | skip

theorem End_spec : Spec Try.prog 40 [.pointer (some ⟨g, 0, none⟩)] [] [nrC g a s] (fun v l' => v = .int .i64 (nrEnd s) ∧ l' = []) := by
  refine Spec.intro Try.func40 rfl rfl Try.ntmps40 rfl fun w0 => ?_
  (all_goals (refine WC.auto ?_; (conv => whnf))); repeat' (first
          | ((with_reducible refine WB.auto ?_); (conv => whnf))
          | ((with_reducible refine WCB.auto ?_); (conv => whnf))
          | ((with_reducible refine Ob.at ?_); first | (refine Ob.mk (by first | omega | exact u8_bound _ | (have := u8_bound; omega) | (simp only [List.length_drop, List.length_take, List.length_append, List.length_replicate, List.length_set, List.length_cons, List.length_nil, Nat.min_def]; omega)) ?_; (conv => whnf)) | (refine Ob.mk' ?_ ?_; (conv => whnf)))
          | (refine spl_mk (fun hc => ?_) (fun hc => ?_) <;> (try simp only [Bool.not_eq_false', and_self, and_true, true_and, not_true, Bool.not_eq_true', Bool.not_false, Bool.not_true, decide_eq_true_eq, decide_eq_false_iff_not, Bool.false_eq_true, reduceCtorEq, Bool.true_eq_false, ne_eq, Decidable.not_not, Int.not_lt, Int.not_le, beq_self_eq_true, eq_self, not_true_eq_false, not_false_eq_true, Bool.not_eq_eq_eq_not, Bool.not_eq_true, Bool.not_eq_false, beq_iff_eq, beq_eq_false_iff_ne] at hc) <;> (try (exfalso; omega)) <;> (conv => whnf))
          | ((with_reducible refine NatK.at ?_); first | ((with_reducible refine NatK.cast ?_); (conv => whnf)) | (refine NatK.sym (by first | omega | exact u8_bound _ | (have := u8_bound; omega) | (simp only [List.length_drop, List.length_take, List.length_append, List.length_replicate, List.length_set, List.length_cons, List.length_nil, Nat.min_def]; omega)) (fun m hm => ?_); (conv => whnf)))
          | (intro q hq; (conv => whnf))
          | ((with_reducible refine W.at 4 ?_); first | ((refine W.stp (Stp.cal rfl rfl (Err_spec _ _ _) pksA rdsA) rfl rfl rfl ?_; rintro _ _ ⟨_, ⟨rfl, rfl⟩, rfl⟩); all_goals ((refine W.auto ?_); (conv => whnf))))
          | ((with_reducible refine W.at 8 ?_); first | ((refine W.stp (Stp.cal rfl rfl (Left_spec _ _ _) pksA rdsA) rfl rfl rfl ?_; rintro _ _ ⟨_, ⟨rfl, rfl⟩, rfl⟩); all_goals ((refine W.auto ?_); (conv => whnf))))
          | ((with_reducible refine W.at 12 ?_); first | ((refine W.stp (Stp.cal rfl rfl (Err_spec _ _ _) pksA rdsA) rfl rfl rfl ?_; rintro _ _ ⟨_, ⟨rfl, rfl⟩, rfl⟩); all_goals ((refine W.auto ?_); (conv => whnf))))
          | refine Exists.intro _ (And.intro (resv_rfl rfl) ?_))
  all_goals first | exact ⟨_, ⟨congrArg (Value.int .i64) (by (unfold nrEnd; first | (rw [if_pos ⟨by assumption, by omega⟩]) | (rw [if_neg (by omega)]))), rfl⟩, _, pksA⟩ | skip

abbrev NrPost (C : Nat → NWA → NR → Chunk) (g : Nat) (s : NR) (u : Value) (v : Value) (l' : List Chunk) : Prop := ∃ a', v = u ∧ l' = [C g a' s]
theorem NrPost.leaf {C : Nat → NWA → NR → Chunk} {g : Nat} {a' : NWA} {s s' : NR} {u : Value} {l l1 : List Chunk} (h : s = s') (hc : PicksT [C g a' s'] l l1) : ∃ l', NrPost C g s u u l' ∧ ChLe l l' := ⟨_, ⟨a', rfl, by rw [h]⟩, _, hc⟩
theorem fail_spec : Spec Try.prog 52 [.pointer (some ⟨g, 0, none⟩), .int .i64 e] [nrC g a s] [] (NrPost nrC g (nrFail s e) (.int .i64 0)) := by
  refine Spec.nr fun hd => ?_
  obtain ⟨hd1, hd2, hd3⟩ := hd
  obtain ⟨b, e0⟩ := s
  obtain ⟨aA, ac, ak⟩ := a
  dsimp only at *
  subst hd1
  dsimp only [nrL, List.cons_append, List.nil_append]
  refine Spec.intro Try.func52 rfl rfl Try.ntmps52 rfl fun w0 => ?_
  (all_goals (refine WC.auto ?_; (conv => whnf))); repeat' (first
          | ((with_reducible refine WB.auto ?_); (conv => whnf))
          | ((with_reducible refine WCB.auto ?_); (conv => whnf))
          | ((with_reducible refine Ob.at ?_); first | (refine Ob.mk (by first | omega | exact u8_bound _ | (have := u8_bound; omega) | (simp only [List.length_drop, List.length_take, List.length_append, List.length_replicate, List.length_set, List.length_cons, List.length_nil, Nat.min_def]; omega)) ?_; (conv => whnf)) | (refine Ob.mk' ?_ ?_; (conv => whnf)))
          | (refine spl_mk (fun hc => ?_) (fun hc => ?_) <;> (try simp only [Bool.not_eq_false', and_self, and_true, true_and, not_true, Bool.not_eq_true', Bool.not_false, Bool.not_true, decide_eq_true_eq, decide_eq_false_iff_not, Bool.false_eq_true, reduceCtorEq, Bool.true_eq_false, ne_eq, Decidable.not_not, Int.not_lt, Int.not_le, beq_self_eq_true, eq_self, not_true_eq_false, not_false_eq_true, Bool.not_eq_eq_eq_not, Bool.not_eq_true, Bool.not_eq_false, beq_iff_eq, beq_eq_false_iff_ne] at hc) <;> (try (exfalso; omega)) <;> (conv => whnf))
          | ((with_reducible refine NatK.at ?_); first | ((with_reducible refine NatK.cast ?_); (conv => whnf)) | (refine NatK.sym (by first | omega | exact u8_bound _ | (have := u8_bound; omega) | (simp only [List.length_drop, List.length_take, List.length_append, List.length_replicate, List.length_set, List.length_cons, List.length_nil, Nat.min_def]; omega)) (fun m hm => ?_); (conv => whnf)))
          | (intro q hq; (conv => whnf))
          | ((with_reducible refine W.at 12 ?_); first | (refine W.ev (Ev.load rfl rfl rdA rfl) rfl rfl rfl ?_; all_goals ((refine W.auto ?_); (conv => whnf))) | (refine W.ev (Ev.loadI rfl rdA (by first | omega | (simp only [List.length_drop, List.length_take, List.length_append, List.length_replicate, List.length_set, List.length_cons, List.length_nil, Nat.min_def]; omega) | (simp; omega))) rfl rfl rfl ?_; all_goals ((refine W.auto ?_); (conv => whnf))))
          | ((with_reducible refine W.at 14 ?_); first | ((refine W.stp (Stp.buildI [_, _] rfl rfl rfl rfl rfl) rfl rfl rfl ?_; rintro _ _ ⟨g14, rfl, rfl⟩); all_goals ((refine W.auto ?_); (conv => whnf))))
          | ((with_reducible refine W.at 15 ?_); first | ((refine W.stp (Stp.cal rfl rfl (Or_spec _ _ _ _) pksA rdsA) rfl rfl rfl ?_; rintro _ _ ⟨_, ⟨rfl, rfl⟩, rfl⟩); all_goals ((refine W.auto ?_); (conv => whnf))))
          | ((with_reducible refine W.atS 17 ?_); first | (refine stW1 rfl rfl rfl pkA ?_; (conv => whnf)))
          | ((with_reducible refine W.atS 19 ?_); first | (refine stW1 rfl rfl rfl pkA ?_; (conv => whnf)))
          | refine Exists.intro _ (And.intro (resv_rfl rfl) ?_))
  all_goals exact NrPost.leaf (a' := ⟨_, _, _⟩) (s' := ⟨[], _⟩) rfl pksA

end
end Go.SX
