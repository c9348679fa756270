/- Numbers: the writer, of the program and of the reference. -/
import Derived.Test.YtkiofjedeecijaaRf2
namespace Go.SX
open Go Go.RowKit Go.Proofs
set_option linter.unusedVariables false
set_option linter.unusedSimpArgs false
set_option maxHeartbeats 4000000
/-- A writer: its bytes, and what was wrong first. -/
structure NW where
  b : List UInt8
  e : Int
structure NWA where
  A : Option Addr
  c : Nat
  k : Nat
def nwL (T : TypeId) (g : Nat) (a : NWA) (s : NW) : List Chunk := [cellsC g T [.slice a.A a.k a.c, .int .i64 s.e], bO a.A a.c 5 a.k s.b, pureC (a.k = s.b.length)]
def nwC (g : Nat) (a : NWA) (s : NW) : Chunk := starC (nwL 88 g a s)
def nwPut (s : NW) (e : Int) (x : List UInt8) : NW := if s.e ≠ 0 then s else if e ≠ 0 then ⟨s.b, e⟩ else ⟨s.b ++ x, 0⟩
theorem Spec.nw {P : Program} {f : FuncId} {args : List Value} {T g : Nat} {a : NWA} {s : NW} {l r : List Chunk} {post : Value → List Chunk → Prop}
    (h : a.k = s.b.length ∧ a.k ≤ a.c ∧ a.c ≤ 9223372036854775807 → Spec P f args (nwL T g a s ++ l) r post) : Spec P f args (starC (nwL T g a s) :: l) r post := by
  refine Spec.open ?_
  refine Spec.fact (d := pureC (a.k = s.b.length)) (φ := a.k = s.b.length) (Rd.there (Rd.there (Rd.here (Sub.refl _)))) (fun w h => h) fun h1 => ?_
  refine Spec.fact (d := bR a.A a.c a.k s.b) (φ := s.b.length = a.k ∧ a.k ≤ a.c ∧ a.c ≤ 9223372036854775807) (Rd.there (Rd.here Sub.row)) (fun w h => bR_len w h) fun h2 => ?_
  exact h ⟨h1, h2.2⟩
theorem Spec.nwR {P : Program} {f : FuncId} {args : List Value} {T g : Nat} {a : NWA} {s : NW} {r : List Chunk} {post : Value → List Chunk → Prop}
    (h : a.k = s.b.length ∧ a.k ≤ a.c ∧ a.c ≤ 9223372036854775807 → Spec P f args [] (nwL T g a s ++ r) post) : Spec P f args [] (starC (nwL T g a s) :: r) post := by
  refine Spec.openRS ?_
  refine Spec.fact (d := pureC (a.k = s.b.length)) (φ := a.k = s.b.length) (Rd.there (Rd.there (Rd.here (Sub.refl _)))) (fun w h => h) fun h1 => ?_
  refine Spec.fact (d := bR a.A a.c a.k s.b) (φ := s.b.length = a.k ∧ a.k ≤ a.c ∧ a.c ≤ 9223372036854775807) (Rd.there (Rd.here Sub.row)) (fun w h => bR_len w h) fun h2 => ?_
  exact h ⟨h1, h2.2⟩
abbrev NwPost (C : Nat → NWA → NW → Chunk) (g : Nat) (s : NW) (v : Value) (l' : List Chunk) : Prop := ∃ a', v = .pointer (some ⟨g, 0, none⟩) ∧ l' = [C g a' s]
theorem NwPost.leaf {C : Nat → NWA → NW → Chunk} {g : Nat} {a' : NWA} {s s' : NW} {l l1 : List Chunk} (h : s = s') (hc : PicksT [C g a' s'] l l1) : ∃ l', NwPost C g s (tup [.pointer (some ⟨g, 0, none⟩)]) l' ∧ ChLe l l' := ⟨_, ⟨a', rfl, by rw [h]⟩, _, hc⟩
theorem Or_spec (A : Option Addr) (c : Nat) (x y : Int) : Spec Try.prog 58 [.slice A 2 c] [] [iR A c 2 [x, y]] (fun v l' => v = .int .i64 (if x ≠ 0 then x else y) ∧ l' = []) := by
  refine Spec.intro Try.func58 rfl rfl Try.ntmps58 rfl fun w0 => ?_
  /- loops of cmp.Or[sealchain/api.Errno]: 3 live [3, 6, 7] vary [8] -/
  (all_goals (refine WC.auto ?_; (conv => whnf))); repeat' (first
          | ((with_reducible refine WB.auto ?_); (conv => whnf))
          | ((with_reducible refine WCB.auto ?_); (conv => whnf))
          | ((with_reducible refine Ob.at ?_); first | (refine Ob.mk (by first | omega | exact u8_bound _ | (have := u8_bound; omega) | (simp only [List.length_drop, List.length_take, List.length_append, List.length_replicate, List.length_set, List.length_cons, List.length_nil, Nat.min_def]; omega)) ?_; (conv => whnf)) | (refine Ob.mk' ?_ ?_; (conv => whnf)))
          | (refine spl_mk (fun hc => ?_) (fun hc => ?_) <;> (try simp only [Bool.not_eq_false', and_self, and_true, true_and, not_true, Bool.not_eq_true', Bool.not_false, Bool.not_true, decide_eq_true_eq, decide_eq_false_iff_not, Bool.false_eq_true, reduceCtorEq, Bool.true_eq_false, ne_eq, Decidable.not_not, Int.not_lt, Int.not_le, beq_self_eq_true, eq_self, not_true_eq_false, not_false_eq_true, Bool.not_eq_eq_eq_not, Bool.not_eq_true, Bool.not_eq_false, beq_iff_eq, beq_eq_false_iff_ne] at hc) <;> (try (exfalso; omega)) <;> (conv => whnf))
          | ((with_reducible refine NatK.at ?_); first | ((with_reducible refine NatK.cast ?_); (conv => whnf)) | (refine NatK.sym (by first | omega | exact u8_bound _ | (have := u8_bound; omega) | (simp only [List.length_drop, List.length_take, List.length_append, List.length_replicate, List.length_set, List.length_cons, List.length_nil, Nat.min_def]; omega)) (fun m hm => ?_); (conv => whnf)))
          | (intro q hq; (conv => whnf))
          | ((with_reducible refine W.at 10 ?_); first | (refine W.ev (Ev.indexAddrN rfl rfl rdA (by omega)) rfl rfl rfl ?_; all_goals ((refine W.auto ?_); (conv => whnf))) | (refine W.ev (Ev.indexAddr1 rfl rfl rdA (by omega)) rfl rfl rfl ?_; all_goals ((refine W.auto ?_); (conv => whnf))))
          | ((with_reducible refine W.at 11 ?_); first | (refine W.ev (Ev.loadI rfl rdA (by first | omega | (simp only [List.length_drop, List.length_take, List.length_append, List.length_replicate, List.length_set, List.length_cons, List.length_nil, Nat.min_def]; omega) | (simp; omega))) rfl rfl rfl ?_; all_goals ((refine W.auto ?_); (conv => whnf))) | (refine W.ev (Ev.loadRec0 rfl rfl rdA (by exact fun _ => rfl) (by omega) (by rfl)) rfl rfl rfl ?_; all_goals ((refine W.auto ?_); (conv => whnf))))
          | ((with_reducible refine WC.atC (c := .loop (.seq (.region 3 _ _) _)) ?_); refine WC.loopL (X := Nat) (0) (fun k => k ≤ 2 ∧ (1 ≤ k → x = 0) ∧ (2 ≤ k → y = 0)) (fun k => [(8, .int .i64 (k : Int))]) (fun k => []) (fun k => 2 - k) [3, 6, 7] (⟨by omega, by omega, by omega⟩) ?_; (conv => whnf); refine LoopQ.mk (by ((repeat (first | exact trivial | refine And.intro rfl ?_)); fail_if_success (focus skip))) (⟨_, pksA⟩) ?_; rintro k ⟨hk, hk1, hk2⟩; refine WC.auto ?_; (conv => whnf))
          | (refine ⟨k + 1, ?_, by ((repeat (first | exact trivial | refine And.intro rfl ?_)); fail_if_success (focus skip)), (by (with_reducible refine chLeI ?_); exact ⟨_, pksA⟩), by omega⟩)
          | refine Exists.intro _ (And.intro (resv_rfl rfl) ?_))
  all_goals first
    | (have h : k = 0 ∨ k = 1 := (by omega); rcases h with rfl | rfl <;> first | (simp_all; done) | exact ⟨_, ⟨congrArg (Value.int .i64) (by simp_all), rfl⟩, _, pksA⟩)
    | exact ⟨_, ⟨congrArg (Value.int .i64) (by simp [hk1 (by omega), hk2 (by omega)]), rfl⟩, _, pksA⟩
    | skip
theorem Or_z (A : Option Addr) (c : Nat) (y : Int) : Spec Try.prog 58 [.slice A 2 c] [] [iR A c 2 [0, y]] (fun v l' => v = .int .i64 y ∧ l' = []) := (Or_spec A c 0 y).mono (by simp)
theorem Or_nz (A : Option Addr) (c : Nat) (x y : Int) (h : x ≠ 0) : Spec Try.prog 58 [.slice A 2 c] [] [iR A c 2 [x, y]] (fun v l' => v = .int .i64 x ∧ l' = []) := (Or_spec A c x y).mono (by simp [h])
theorem wide_spec (w : Int) : Spec Try.prog 53 [.int .i64 w] [] [] (fun v l' => v = .bool (decide (w = 1 ∨ w = 2 ∨ w = 4 ∨ w = 8)) ∧ l' = []) := by
  refine Spec.intro Try.func53 rfl rfl Try.ntmps53 rfl fun w0 => ?_
  (all_goals (refine WC.auto ?_; (conv => whnf))); repeat' (first
          | ((with_reducible refine WB.auto ?_); (conv => whnf))
          | ((with_reducible refine WCB.auto ?_); (conv => whnf))
          | ((with_reducible refine Ob.at ?_); first | (refine Ob.mk (by first | omega | exact u8_bound _ | (have := u8_bound; omega) | (simp only [List.length_drop, List.length_take, List.length_append, List.length_replicate, List.length_set, List.length_cons, List.length_nil, Nat.min_def]; omega)) ?_; (conv => whnf)) | (refine Ob.mk' ?_ ?_; (conv => whnf)))
          | (refine spl_mk (fun hc => ?_) (fun hc => ?_) <;> (try simp only [Bool.not_eq_false', and_self, and_true, true_and, not_true, Bool.not_eq_true', Bool.not_false, Bool.not_true, decide_eq_true_eq, decide_eq_false_iff_not, Bool.false_eq_true, reduceCtorEq, Bool.true_eq_false, ne_eq, Decidable.not_not, Int.not_lt, Int.not_le, beq_self_eq_true, eq_self, not_true_eq_false, not_false_eq_true, Bool.not_eq_eq_eq_not, Bool.not_eq_true, Bool.not_eq_false, beq_iff_eq, beq_eq_false_iff_ne] at hc) <;> (try (exfalso; omega)) <;> (conv => whnf))
          | ((with_reducible refine NatK.at ?_); first | ((with_reducible refine NatK.cast ?_); (conv => whnf)) | (refine NatK.sym (by first | omega | exact u8_bound _ | (have := u8_bound; omega) | (simp only [List.length_drop, List.length_take, List.length_append, List.length_replicate, List.length_set, List.length_cons, List.length_nil, Nat.min_def]; omega)) (fun m hm => ?_); (conv => whnf)))
          | (intro q hq; (conv => whnf))
          | refine Exists.intro _ (And.intro (resv_rfl rfl) ?_))
  all_goals first | exact ⟨_, ⟨congrArg Value.bool (by (first | rfl | (symm; apply decide_eq_true; omega) | (symm; apply decide_eq_false; omega) | (exact decide_eq_decide.2 (by omega)) | (simp; done) | (simp_all; done))), rfl⟩, _, pksA⟩ | skip
end Go.SX
