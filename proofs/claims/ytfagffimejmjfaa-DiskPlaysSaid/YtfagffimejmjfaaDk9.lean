/- The disk of the reference. -/
import Derived.Test.YtfagffimejmjfaaDk7
namespace Go.SX
open Go Go.RowKit Go.Proofs
set_option linter.unusedVariables false
set_option linter.unusedSimpArgs false
set_option maxHeartbeats 4000000
def armI : Option Int → Int
  | none => -1
  | some c => c
def rdkL (g : Nat) (a : DkA) (s : DK) : List Chunk :=
  [cellsC g 52 [.slice a.A a.k a.c, .int .i64 s.n, .bool s.dead, .int .i64 (armI s.arm), .slice a.At a.kt a.ct], bO a.A a.c 5 a.k s.b,
    rowC a.At a.ct 22 1 a.kt (recs BH.cell a.hs), starM (BH.own 5) a.hs, pureC (s.tr = a.hs.map BH.bs ∧ a.k = s.b.length ∧ a.kt = a.hs.length)]
def rdkC (g : Nat) (a : DkA) (s : DK) : Chunk := starC (rdkL g a s)
abbrev RdkPost (g : Nat) (m : Int × DK) (v : Value) (l' : List Chunk) : Prop := ∃ a', v = .int .i64 m.1 ∧ l' = [rdkC g a' m.2]
theorem RdkPost.leaf {g : Nat} {a' : DkA} {s' : DK} {m : Int × DK} {e : Int} {l l1 : List Chunk} (h : m = (e, s')) (hc : PicksT [rdkC g a' s'] l l1) : ∃ l', RdkPost g m (tup [.int .i64 e]) l' ∧ ChLe l l' := ⟨_, ⟨a', by rw [h]; rfl, by rw [h]⟩, _, hc⟩
theorem Spec.rdisk {P : Program} {f : FuncId} {args : List Value} {g : Nat} {a : DkA} {s : DK} {l r : List Chunk} {post : Value → List Chunk → Prop}
    (h : s.tr = a.hs.map BH.bs ∧ a.k = s.b.length ∧ a.kt = a.hs.length ∧ a.k ≤ a.c ∧ a.c ≤ 9223372036854775807 → Spec P f args (rdkL g a s ++ l) r post) : Spec P f args (rdkC g a s :: l) r post := by
  refine Spec.open ?_
  refine Spec.fact (d := pureC (s.tr = a.hs.map BH.bs ∧ a.k = s.b.length ∧ a.kt = a.hs.length)) (φ := s.tr = a.hs.map BH.bs ∧ a.k = s.b.length ∧ a.kt = a.hs.length) ?_ (fun w h => h) fun h1 => ?_
  · exact Rd.there (Rd.there (Rd.there (Rd.there (Rd.here (Sub.refl _)))))
  refine Spec.fact (d := bR a.A a.c a.k s.b) (φ := s.b.length = a.k ∧ a.k ≤ a.c ∧ a.c ≤ 9223372036854775807) (Rd.there (Rd.here Sub.row)) (fun w h => bR_len w h) fun h2 => ?_
  exact h ⟨h1.1, h1.2.1, h1.2.2, h2.2⟩
section
variable (g : Nat) (a : DkA) (s : DK)
theorem rdNew_spec : Spec Try.prog 25 [] [] [] (fun v l' => ∃ g a, v = .pointer (some ⟨g, 0, none⟩) ∧ l' = [rdkC g a dk0]) := by
  refine Spec.intro Try.func25 rfl rfl Try.ntmps25 rfl fun w0 => ?_
  (all_goals (refine WC.auto ?_; (conv => whnf))); repeat' (first
          | ((with_reducible refine Ob.at ?_); first | (refine Ob.mk (by first | omega | exact u8_bound _ | (have := u8_bound; omega) | (simp only [List.length_drop, List.length_take, List.length_append, List.length_replicate, List.length_set, List.length_cons, List.length_nil, Nat.min_def]; omega)) ?_; (conv => whnf)) | (refine Ob.mk' ?_ ?_; (conv => whnf)))
          | (refine spl_mk (fun hc => ?_) (fun hc => ?_) <;> (try simp only [Bool.not_eq_false', and_self, and_true, true_and, not_true, Bool.not_eq_true', Bool.not_false, Bool.not_true, decide_eq_true_eq, decide_eq_false_iff_not, Bool.false_eq_true, reduceCtorEq, Bool.true_eq_false, ne_eq, Decidable.not_not, Int.not_lt, Int.not_le, beq_self_eq_true, eq_self, not_true_eq_false, not_false_eq_true, Bool.not_eq_eq_eq_not, Bool.not_eq_true, Bool.not_eq_false, beq_iff_eq, beq_eq_false_iff_ne] at hc) <;> (try (exfalso; omega)) <;> (conv => whnf))
          | ((with_reducible refine NatK.at ?_); first | ((with_reducible refine NatK.cast ?_); (conv => whnf)) | (refine NatK.sym (by first | omega | exact u8_bound _ | (have := u8_bound; omega) | (simp only [List.length_drop, List.length_take, List.length_append, List.length_replicate, List.length_set, List.length_cons, List.length_nil, Nat.min_def]; omega)) (fun m hm => ?_); (conv => whnf)))
          | (intro q hq; (conv => whnf))
          | ((with_reducible refine W.at 2 ?_); first | ((refine W.stp (Stp.boxA rfl) rfl rfl rfl ?_; rintro _ _ ⟨g2, rfl, rfl⟩); all_goals ((refine W.auto ?_); (conv => whnf))))
          | refine Exists.intro _ (And.intro (resv_rfl rfl) ?_))
  all_goals exact ⟨_, ⟨_, ⟨none, 0, 0, none, 0, 0, [], 0⟩, rfl, rfl⟩, _, pksA⟩

/-- The tail is cut. -/
theorem rcut_spec (A : Option Addr) (c : Nat) (b : List UInt8) (sy : Int) (dd : Bool) (ar : Int) (At : Option Addr) (nt ct : Nat) (cut : Int) (h : 0 ≤ sy ∧ sy ≤ b.length ∧ b.length ≤ 1048576 ∧ b.length ≤ c) (hc0 : 0 ≤ cut ∧ cut ≤ 9223372036854775807) :
    Spec Try.prog 43 [.pointer (some ⟨g, 0, none⟩), .int .i64 cut] [cellsC g 52 [.slice A b.length c, .int .i64 sy, .bool dd, .int .i64 ar, .slice At nt ct], bO A c 5 b.length b] []
    (fun v l' => ∃ k : Nat, ∃ A' c', (k : Int) = sy + min ((b.length : Int) - sy) cut ∧ v = .tuple #[] ∧ l' = [cellsC g 52 [.slice A' k c', .int .i64 k, .bool dd, .int .i64 ar, .slice At nt ct], bO A' c' 5 k (b.take k)]) := by
  refine Spec.intro Try.func43 rfl rfl Try.ntmps43 rfl fun w0 => ?_
  (all_goals (refine WC.auto ?_; (conv => whnf))); repeat' (first
          | ((with_reducible refine Ob.at ?_); first | (refine Ob.mk (by first | omega | exact u8_bound _ | (have := u8_bound; omega) | (simp only [List.length_drop, List.length_take, List.length_append, List.length_replicate, List.length_set, List.length_cons, List.length_nil, Nat.min_def]; omega)) ?_; (conv => whnf)) | (refine Ob.mk' ?_ ?_; (conv => whnf)))
          | (refine spl_mk (fun hc => ?_) (fun hc => ?_) <;> (try simp only [Bool.not_eq_false', and_self, and_true, true_and, not_true, Bool.not_eq_true', Bool.not_false, Bool.not_true, decide_eq_true_eq, decide_eq_false_iff_not, Bool.false_eq_true, reduceCtorEq, Bool.true_eq_false, ne_eq, Decidable.not_not, Int.not_lt, Int.not_le, beq_self_eq_true, eq_self, not_true_eq_false, not_false_eq_true, Bool.not_eq_eq_eq_not, Bool.not_eq_true, Bool.not_eq_false, beq_iff_eq, beq_eq_false_iff_ne] at hc) <;> (try (exfalso; omega)) <;> (conv => whnf))
          | ((with_reducible refine NatK.at ?_); first | ((with_reducible refine NatK.cast ?_); (conv => whnf)) | (refine NatK.sym (by first | omega | exact u8_bound _ | (have := u8_bound; omega) | (simp only [List.length_drop, List.length_take, List.length_append, List.length_replicate, List.length_set, List.length_cons, List.length_nil, Nat.min_def]; omega)) (fun m hm => ?_); (conv => whnf)))
          | (intro q hq; (conv => whnf))
          | ((with_reducible refine WC.atR 0 ?_); refine WC.draw (id := 0) (ls := []) (.fl 0 (.fl 1 (.fl 2 (.fl 3 (.fl 6 (.fl 7 (.fl 8 (.two 4 (.fl 5 (.one 9 (.fl 10 (.fl 11 (.fl 12 .nil))))) 9 (.one 4 (.fl 5 (.fl 10 (.fl 11 (.fl 12 .nil))))))))))))) (by kernel_rfl) (by kernel_rfl) picksA ?_; refine WD.auto ?_; (conv => whnf))
          | ((with_reducible refine WC.atR 1 ?_); refine WC.draw (id := 1) (ls := []) (.fl 0 (.fl 1 (.fl 2 (.fl 3 (.fl 5 (.fl 6 (.fl 7 (.fl 9 (.two 4 (.one 8 (.fl 10 (.fl 11 (.one 12 (.fl 13 (.fl 14 (.one 15 .nil))))))) 8 (.fl 10 (.one 4 (.fl 11 (.one 12 (.fl 13 (.fl 14 (.one 15 .nil)))))))))))))))) (by kernel_rfl) (by kernel_rfl) picksA ?_; refine WD.auto ?_; (conv => whnf))
          | ((with_reducible refine WO.at 0 ?_); first | (refine WO.auto rfl rfl ?_; (conv => whnf); (fail_if_success (show False))) | (refine WO.auto rfl rfl ?_; (conv => whnf); (fail_if_success (show False))) | (refine WO.off rfl rfl rfl rfl ?_; refine WD.auto ?_; (conv => whnf)))
          | ((with_reducible refine WO.at 1 ?_); first | (refine WO.auto rfl rfl ?_; (conv => whnf); (fail_if_success (show False))) | (refine WO.auto rfl rfl ?_; (conv => whnf); (fail_if_success (show False))) | (refine WO.off rfl rfl rfl rfl ?_; refine WD.auto ?_; (conv => whnf)))
          | ((with_reducible refine WO.at 2 ?_); first | (refine WO.auto rfl rfl ?_; (conv => whnf); (fail_if_success (show False))) | (refine WO.auto rfl rfl ?_; (conv => whnf); (fail_if_success (show False))) | (refine WO.off rfl rfl rfl rfl ?_; refine WD.auto ?_; (conv => whnf)))
          | ((with_reducible refine WO.at 3 ?_); first | (refine WO.auto rfl rfl ?_; (conv => whnf); (fail_if_success (show False))) | (refine WO.auto rfl rfl ?_; (conv => whnf); (fail_if_success (show False))) | (refine WO.off rfl rfl rfl rfl ?_; refine WD.auto ?_; (conv => whnf)))
          | ((with_reducible refine WD.at 4 ?_); first | (refine WD.ev rfl (Ev.load rfl rfl rdA rfl) rfl rfl rfl ?_; all_goals (refine WD.auto ?_; (conv => whnf))))
          | ((with_reducible refine WO.at 4 ?_); first | (refine WO.ev rfl (Ev.load rfl rfl rdA rfl) rfl rfl rfl ?_; all_goals (refine WD.auto ?_; (conv => whnf))) | (refine WO.off rfl rfl rfl rfl ?_; refine WD.auto ?_; (conv => whnf)))
          | ((with_reducible refine WO.at 5 ?_); first | (refine WO.auto rfl rfl ?_; (conv => whnf); (fail_if_success (show False))) | (refine WO.auto rfl rfl ?_; (conv => whnf); (fail_if_success (show False))) | (refine WO.off rfl rfl rfl rfl ?_; refine WD.auto ?_; (conv => whnf)))
          | ((with_reducible refine WO.at 6 ?_); first | (refine WO.auto rfl rfl ?_; (conv => whnf); (fail_if_success (show False))) | (refine WO.auto rfl rfl ?_; (conv => whnf); (fail_if_success (show False))) | (refine WO.off rfl rfl rfl rfl ?_; refine WD.auto ?_; (conv => whnf)))
          | ((with_reducible refine WO.at 7 ?_); first | (refine WO.auto rfl rfl ?_; (conv => whnf); (fail_if_success (show False))) | (refine WO.auto rfl rfl ?_; (conv => whnf); (fail_if_success (show False))) | (refine WO.off rfl rfl rfl rfl ?_; refine WD.auto ?_; (conv => whnf)))
          | ((with_reducible refine WO.at 8 ?_); first | (refine WO.auto rfl rfl ?_; (conv => whnf); (fail_if_success (show False))) | (refine WO.ev rfl (Ev.load rfl rfl rdA rfl) rfl rfl rfl ?_; all_goals (refine WD.auto ?_; (conv => whnf))) | (refine WO.ev rfl (Ev.loadI rfl rdA (by first | omega | (simp only [List.length_drop, List.length_take, List.length_append, List.length_replicate, List.length_set, List.length_cons, List.length_nil, Nat.min_def]; omega) | (simp; omega))) rfl rfl rfl ?_; all_goals (refine WD.auto ?_; (conv => whnf))) | (refine WO.off rfl rfl rfl rfl ?_; refine WD.auto ?_; (conv => whnf)))
          | ((with_reducible refine WD.at 9 ?_); first | (refine WD.ev rfl (Ev.load rfl rfl rdA rfl) rfl rfl rfl ?_; all_goals (refine WD.auto ?_; (conv => whnf))) | (refine WD.ev rfl (Ev.loadI rfl rdA (by first | omega | (simp only [List.length_drop, List.length_take, List.length_append, List.length_replicate, List.length_set, List.length_cons, List.length_nil, Nat.min_def]; omega) | (simp; omega))) rfl rfl rfl ?_; all_goals (refine WD.auto ?_; (conv => whnf))))
          | ((with_reducible refine WO.at 9 ?_); first | (refine WO.ev rfl (Ev.load rfl rfl rdA rfl) rfl rfl rfl ?_; all_goals (refine WD.auto ?_; (conv => whnf))) | (refine WO.ev rfl (Ev.loadI rfl rdA (by first | omega | (simp only [List.length_drop, List.length_take, List.length_append, List.length_replicate, List.length_set, List.length_cons, List.length_nil, Nat.min_def]; omega) | (simp; omega))) rfl rfl rfl ?_; all_goals (refine WD.auto ?_; (conv => whnf))) | (refine WO.auto rfl rfl ?_; (conv => whnf); (fail_if_success (show False))) | (refine WO.off rfl rfl rfl rfl ?_; refine WD.auto ?_; (conv => whnf)))
          | ((with_reducible refine WO.at 10 ?_); first | (refine WO.auto rfl rfl ?_; (conv => whnf); (fail_if_success (show False))) | (refine WO.auto rfl rfl ?_; (conv => whnf); (fail_if_success (show False))) | (refine WO.off rfl rfl rfl rfl ?_; refine WD.auto ?_; (conv => whnf)))
          | ((with_reducible refine WO.at 11 ?_); first | (refine WO.auto rfl rfl ?_; (conv => whnf); (fail_if_success (show False))) | (refine WO.auto rfl rfl ?_; (conv => whnf); (fail_if_success (show False))) | (refine WO.off rfl rfl rfl rfl ?_; refine WD.auto ?_; (conv => whnf)))
          | ((with_reducible refine WO.at 12 ?_); first | (refine WO.auto rfl rfl ?_; (conv => whnf); (fail_if_success (show False))) | ((refine WO.stp rfl (Stp.cal rfl rfl (CopyBytes_spec _ _ _ _ (by omega)) pksA rdsA) rfl rfl rfl ?_; rintro _ _ ⟨_, ⟨A28, c28, rfl, rfl⟩, rfl⟩); all_goals (refine WD.auto ?_; (conv => whnf))) | (refine WO.off rfl rfl rfl rfl ?_; refine WD.auto ?_; (conv => whnf)))
          | ((with_reducible refine WD.at 8 ?_); first | (refine WD.ev rfl (Ev.load rfl rfl rdA rfl) rfl rfl rfl ?_; all_goals (refine WD.auto ?_; (conv => whnf))) | (refine WD.ev rfl (Ev.loadI rfl rdA (by first | omega | (simp only [List.length_drop, List.length_take, List.length_append, List.length_replicate, List.length_set, List.length_cons, List.length_nil, Nat.min_def]; omega) | (simp; omega))) rfl rfl rfl ?_; all_goals (refine WD.auto ?_; (conv => whnf))))
          | ((with_reducible refine WO.at 13 ?_); first | (refine WO.auto rfl rfl ?_; (conv => whnf); (fail_if_success (show False))) | (refine WO.off rfl rfl rfl rfl ?_; refine WD.auto ?_; (conv => whnf)))
          | ((with_reducible refine WO.at 14 ?_); first | (refine WO.auto rfl rfl ?_; (conv => whnf); (fail_if_success (show False))) | (refine WO.off rfl rfl rfl rfl ?_; refine WD.auto ?_; (conv => whnf)))
          | ((with_reducible refine WO.at 15 ?_); first | (refine stO1 (i := 15) rfl rfl rfl rfl pkA ?_; (conv => whnf)) | (refine WO.off rfl rfl rfl rfl ?_; refine WD.auto ?_; (conv => whnf)))
          | ((with_reducible refine W.at 35 ?_); first | (refine W.ev (Ev.load rfl rfl rdA rfl) rfl rfl rfl ?_; all_goals ((refine W.auto ?_); (conv => whnf))))
          | ((with_reducible refine W.atS 38 ?_); first | (refine stW1 rfl rfl rfl pkA ?_; (conv => whnf)))
          | (with_reducible refine WD.one ?_)
          | (with_reducible refine WD.two ?_ ?_)
          | (with_reducible refine WD.three ?_ ?_ ?_)
          | refine Exists.intro _ (And.intro (resv_rfl rfl) ?_))
  all_goals first | exact ⟨_, ⟨_, _, _, by omega, rfl, rfl⟩, _, pksA⟩ | skip

end
end Go.SX
