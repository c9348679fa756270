/- Numbers: Text; the reference's groups, Count, Num. -/
import Derived.Test.YtkiofjedeecijaaNm5
namespace Go.SX
open Go Go.RowKit Go.Proofs
set_option linter.unusedVariables false
set_option linter.unusedSimpArgs false
set_option maxHeartbeats 4000000
theorem nwPut_len (s : NW) (e : Int) (x : List UInt8) : (nwPut s e x).b.length ≤ s.b.length + x.length := by
  unfold nwPut; split
  · omega
  split
  · show s.b.length ≤ _; omega
  · show (s.b ++ x).length ≤ _; rw [List.length_append]; omega
theorem nwCount_len (s : NW) (n : Int) (h : n ≤ 9223372036854775807) : (nwCount s n).b.length ≤ s.b.length + 9 := by
  unfold nwCount
  by_cases hb : n < 0 ∨ 9007199254740991 < n
  · rw [cntErr_bad hb, nwPut_bad s 9 (by decide) _ []]
    have := nwPut_len s 9 []; simp at this; omega
  · have := nwPut_len s (cntErr n) (cntB n)
    have := cntB_len (n := n) (by omega)
    omega
def nwText (s : NW) (x : List UInt8) : NW := nwPut (nwCount s x.length) 0 x
section
variable (g : Nat) (a : NWA) (s : NW) (A : Option Addr) (c : Nat) (x : List UInt8)
theorem Text_spec (m : Nat) (hm : x.length = m) (h : s.b.length ≤ 10000000 ∧ m ≤ 10000000) : Spec Try.prog 44 [.pointer (some ⟨g, 0, none⟩), .slice A m c] [nwC g a s] [bR A c m x] (NwPost nwC g (nwText s x)) := by
  subst hm
  have h1 := nwCount_len s x.length (by omega)
  refine Spec.intro Try.func44 rfl rfl Try.ntmps44 rfl fun w0 => ?_
  (all_goals (refine WC.auto ?_; (conv => whnf))); repeat' (first
          | ((with_reducible refine WB.auto ?_); (conv => whnf))
          | ((with_reducible refine WCB.auto ?_); (conv => whnf))
          | ((with_reducible refine Ob.at ?_); first | (refine Ob.mk (by first | omega | exact u8_bound _ | (have := u8_bound; omega) | (simp only [List.length_drop, List.length_take, List.length_append, List.length_replicate, List.length_set, List.length_cons, List.length_nil, Nat.min_def]; omega)) ?_; (conv => whnf)) | (refine Ob.mk' ?_ ?_; (conv => whnf)))
          | (refine spl_mk (fun hc => ?_) (fun hc => ?_) <;> (try simp only [Bool.not_eq_false', and_self, and_true, true_and, not_true, Bool.not_eq_true', Bool.not_false, Bool.not_true, decide_eq_true_eq, decide_eq_false_iff_not, Bool.false_eq_true, reduceCtorEq, Bool.true_eq_false, ne_eq, Decidable.not_not, Int.not_lt, Int.not_le, beq_self_eq_true, eq_self, not_true_eq_false, not_false_eq_true, Bool.not_eq_eq_eq_not, Bool.not_eq_true, Bool.not_eq_false, beq_iff_eq, beq_eq_false_iff_ne] at hc) <;> (try (exfalso; omega)) <;> (conv => whnf))
          | ((with_reducible refine NatK.at ?_); first | ((with_reducible refine NatK.cast ?_); (conv => whnf)) | (refine NatK.sym (by first | omega | exact u8_bound _ | (have := u8_bound; omega) | (simp only [List.length_drop, List.length_take, List.length_append, List.length_replicate, List.length_set, List.length_cons, List.length_nil, Nat.min_def]; omega)) (fun m hm => ?_); (conv => whnf)))
          | (intro q hq; (conv => whnf))
          | ((with_reducible refine W.at 8 ?_); first | ((refine W.stp (Stp.cal rfl rfl (Spec.ask fun (hq : _ ∧ _) => Count_spec _ _ _ _ hq.1 hq.2) pksA rdsA) rfl rfl rfl ?_; rintro _ _ ⟨_, ⟨a8, rfl, rfl⟩, rfl⟩); all_goals ((refine W.auto ?_); (conv => whnf))))
          | ((with_reducible refine W.at 10 ?_); first | ((refine W.stp (Stp.cal rfl rfl (Spec.ask fun (hq : _) => Raw_spec _ _ _ _ _ _ _ hq) pksA rdsA) rfl rfl rfl ?_; rintro _ _ ⟨_, ⟨a10, rfl, rfl⟩, rfl⟩); all_goals ((refine W.auto ?_); (conv => whnf))))
          | refine Exists.intro _ (And.intro (resv_rfl rfl) ?_))
  all_goals first | exact ⟨_, ⟨_, rfl, rfl⟩, _, pksA⟩ | skip
theorem numErr_zn {w : Int} (hw : w = 1 ∨ w = 2 ∨ w = 4 ∨ w = 8) (n : Int) : numErr w n = 0 ∨ numErr w n = 9 := by
  unfold numErr
  rw [if_neg (by omega)]
  split <;> simp
end
end Go.SX
