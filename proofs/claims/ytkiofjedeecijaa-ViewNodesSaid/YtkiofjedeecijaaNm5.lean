/- Numbers: Count, groups, Text. -/
import Derived.Test.YtkiofjedeecijaaNm4
namespace Go.SX
open Go Go.RowKit Go.Proofs
set_option linter.unusedVariables false
set_option linter.unusedSimpArgs false
set_option maxHeartbeats 4000000
theorem hiG_len (m : Nat) : ∀ k, m < 128 ^ k → (hiG m).length ≤ k := by
  intro k
  induction k generalizing m with
  | zero => intro h; have : m = 0 := by simpa using h
            subst this; unfold hiG; simp
  | succ k ih =>
    intro h
    unfold hiG
    split
    · simp
    · rw [List.length_append, List.length_singleton]
      have := ih (m / 128) (by rw [Nat.pow_succ] at h; omega)
      omega
theorem hiI_len {i : Int} (h : i ≤ 9007199254740991) : (hiI i).length ≤ 8 := by
  have e : (128 : Nat) ^ 8 = 72057594037927936 := by decide
  exact hiG_len _ 8 (by rw [e]; omega)
theorem cntB_len {n : Int} (h : n ≤ 9007199254740991) : (cntB n).length ≤ 9 := by
  unfold cntB
  rw [List.length_append, List.length_singleton]
  have := hiI_len (i := n / 128) (by omega)
  omega
theorem Reverse_n (A : Option Addr) (c n : Nat) (bs : List UInt8) (hn : n = bs.length) (h : n ≤ 100000000) : Spec Try.prog 56 [.slice A n c] [bO A c 5 n bs] [] (fun v l' => v = .tuple #[] ∧ l' = [bO A c 5 n bs.reverse]) := by
  subst hn; exact Reverse_spec A c bs h
theorem cnt_step {i n : Int} {bs : List UInt8} (h : hiI i ++ bs.reverse = cntB n) (hi : 0 < i) : hiI (i / 128) ++ (bs ++ [byteOf (i % 128 + 128)]).reverse = cntB n := by
  rw [List.reverse_append, ← h, hiI_pos hi]; simp
theorem cnt_len {i n : Int} {bs : List UInt8} (h : hiI i ++ bs.reverse = cntB n) (hn : n ≤ 9007199254740991) : bs.length ≤ 9 := by
  have h1 := congrArg List.length h
  rw [List.length_append, List.length_reverse] at h1
  have := cntB_len hn
  omega
section
variable (g : Nat) (a : NWA) (s : NW)
theorem cntErr_bad {n : Int} (h : n < 0 ∨ 9007199254740991 < n) : cntErr n = 9 := if_pos h
theorem cntErr_ok {n : Int} (h : 0 ≤ n ∧ n ≤ 9007199254740991) : cntErr n = 0 := if_neg (by omega)
theorem Count_spec (n : Int) (hn : n ≤ 9223372036854775807) (h : s.b.length ≤ 100000000) : Spec Try.prog 42 [.pointer (some ⟨g, 0, none⟩), .int .i64 n] [nwC g a s] [] (NwPost nwC g (nwCount s n)) := by
  refine Spec.intro Try.func42 rfl rfl Try.ntmps42 rfl fun w0 => ?_
  /- loops of (*sealchain/num.Writer).Count: 5 live [0] vary [1, 5] -/
  (all_goals (refine WC.auto ?_; (conv => whnf))); repeat' (first
          | ((with_reducible refine WB.auto ?_); (conv => whnf))
          | ((with_reducible refine WCB.auto ?_); (conv => whnf))
          | ((with_reducible refine Ob.at ?_); first | (refine Ob.mk (by first | omega | exact u8_bound _ | (have := u8_bound; omega) | (simp only [List.length_drop, List.length_take, List.length_append, List.length_replicate, List.length_set, List.length_cons, List.length_nil, Nat.min_def]; omega)) ?_; (conv => whnf)) | (refine Ob.mk' ?_ ?_; (conv => whnf)))
          | (refine spl_mk (fun hc => ?_) (fun hc => ?_) <;> (try simp only [Bool.not_eq_false', and_self, and_true, true_and, not_true, Bool.not_eq_true', Bool.not_false, Bool.not_true, decide_eq_true_eq, decide_eq_false_iff_not, Bool.false_eq_true, reduceCtorEq, Bool.true_eq_false, ne_eq, Decidable.not_not, Int.not_lt, Int.not_le, beq_self_eq_true, eq_self, not_true_eq_false, not_false_eq_true, Bool.not_eq_eq_eq_not, Bool.not_eq_true, Bool.not_eq_false, beq_iff_eq, beq_eq_false_iff_ne] at hc) <;> (try (exfalso; omega)) <;> (conv => whnf))
          | ((with_reducible refine NatK.at ?_); first | ((with_reducible refine NatK.cast ?_); (conv => whnf)) | (refine NatK.sym (by first | omega | exact u8_bound _ | (have := u8_bound; omega) | (simp only [List.length_drop, List.length_take, List.length_append, List.length_replicate, List.length_set, List.length_cons, List.length_nil, Nat.min_def]; omega)) (fun m hm => ?_); (conv => whnf)))
          | (intro q hq; (conv => whnf))
          | ((with_reducible refine W.at 13 ?_); first | ((refine W.stp (Stp.cal rfl rfl (Spec.ask fun (hq : _) => put_spec _ _ _ _ _ _ _ _ hq) pksA rdsA) rfl rfl rfl ?_; rintro _ _ ⟨_, ⟨a13, rfl, rfl⟩, rfl⟩); all_goals ((refine W.auto ?_); (conv => whnf))))
          | ((with_reducible refine W.at 15 ?_); first | (refine W.ev (Ev.rem rfl rfl (by omega)) rfl rfl rfl ?_; all_goals ((refine W.auto ?_); (conv => whnf))) | (refine W.ev (Ev.remt rfl rfl (by omega)) rfl rfl rfl ?_; all_goals ((refine W.auto ?_); (conv => whnf))))
          | ((with_reducible refine W.at 17 ?_); first | ((refine W.stp (Stp.buildB [_] rfl rfl rfl rfl rfl) rfl rfl rfl ?_; rintro _ _ ⟨g17, rfl, rfl⟩); all_goals ((refine W.auto ?_); (conv => whnf))))
          | ((with_reducible refine W.at 19 ?_); first | (refine W.ev (Ev.shrm 7 128 rfl rfl (by decide) (by decide)) rfl rfl rfl ?_; all_goals ((refine W.auto ?_); (conv => whnf))))
          | ((with_reducible refine W.at 26 ?_); first | (refine W.ev (Ev.rem rfl rfl (by omega)) rfl rfl rfl ?_; all_goals ((refine W.auto ?_); (conv => whnf))) | (refine W.ev (Ev.remt rfl rfl (by omega)) rfl rfl rfl ?_; all_goals ((refine W.auto ?_); (conv => whnf))))
          | ((with_reducible refine W.at 27 ?_); first | (refine W.ev (Ev.orBytes rfl rfl) rfl rfl rfl ?_; (try (rw [or128 (i % 128) (by omega)])); all_goals ((refine W.auto ?_); (conv => whnf))) | (refine W.ev (Ev.or rfl rfl) rfl rfl rfl ?_; (try (rw [or128 (i % 128) (by omega)])); all_goals ((refine W.auto ?_); (conv => whnf))))
          | ((with_reducible refine W.at 29 ?_); first | ((refine W.stp (Stp.buildB [_] rfl rfl rfl rfl rfl) rfl rfl rfl ?_; rintro _ _ ⟨g29, rfl, rfl⟩); all_goals ((refine W.auto ?_); (conv => whnf))))
          | ((with_reducible refine W.at 30 ?_); first | ((refine W.stp (Stp.copyB rfl rfl rdA rfl (by omega) (by omega)) rfl rfl rfl ?_; rintro _ _ ⟨A2, c2, rfl, rfl⟩); all_goals ((refine W.auto ?_); (conv => whnf))) | ((refine W.stp (Stp.appendB rfl rfl pkA rdA rfl (by omega) (by omega)) rfl rfl rfl ?_; rintro _ _ ⟨A2, c2, rfl, rfl⟩); all_goals ((refine W.auto ?_); (conv => whnf))))
          | ((with_reducible refine W.at 23 ?_); first | (refine W.ev (Ev.shrm 7 128 rfl rfl (by decide) (by decide)) rfl rfl rfl ?_; all_goals ((refine W.auto ?_); (conv => whnf))))
          | ((with_reducible refine W.at 32 ?_); first | ((refine W.stp (Stp.cal rfl rfl (Reverse_n _ _ _ _ hnb (by omega)) pksA rdsA) rfl rfl rfl ?_; rintro _ _ ⟨_, ⟨rfl, rfl⟩, rfl⟩); all_goals ((refine W.auto ?_); (conv => whnf))))
          | ((with_reducible refine W.at 35 ?_); first | ((refine W.stp (Stp.cal rfl rfl (Spec.ask fun (hq : _) => put_spec _ _ _ _ _ _ _ _ hq) pksA rdsA) rfl rfl rfl ?_; rintro _ _ ⟨_, ⟨a35, rfl, rfl⟩, rfl⟩); all_goals ((refine W.auto ?_); (conv => whnf))))
          | ((with_reducible refine WC.atC (c := .loop (.seq (.seq (.region 5 _ _) _) _)) ?_); refine WC.loopL5 (X := Int) (Y := List UInt8) (Z := Option Addr) (U := Nat) (V := Nat) (n / 128) ([byteOf (n % 128)]) ((some ⟨g17, 0, none⟩)) (1) (1) (fun i bs Ab cb nb => 0 ≤ i ∧ i ≤ 9007199254740991 ∧ nb = bs.length ∧ nb ≤ 9 ∧ hiI i ++ bs.reverse = cntB n) (fun i bs Ab cb nb => [(1, .int .i64 i), (5, .slice Ab nb cb)]) (fun i bs Ab cb nb => [nwC g a s, bO Ab cb 5 nb bs]) (fun i _ _ _ _ => i.toNat) [0] (⟨by omega, by omega, rfl, by omega, rfl⟩) ?_; (conv => whnf); refine LoopQ5.mk (by ((repeat (first | exact trivial | refine And.intro rfl ?_)); fail_if_success (focus skip))) (⟨_, pksA⟩) ?_; rintro i bs Ab cb nb ⟨hi0, hi1, hnb, hnb2, hcn⟩; refine WC.auto ?_; (conv => whnf))
          | (refine ⟨_, _, _, _, _, ?_, by ((repeat (first | exact trivial | refine And.intro rfl ?_)); fail_if_success (focus skip)), (by (with_reducible refine chLeI ?_); exact ⟨_, pksA⟩), by omega⟩)
          | refine Exists.intro _ (And.intro (resv_rfl rfl) ?_))
  all_goals first
    | omega
    | (have he : nwPut s 9 [] = nwCount s n := (by unfold nwCount; rw [cntErr_bad (by omega)]; exact nwPut_bad s 9 (by decide) _ _)); rw [← he]; first | exact ⟨_, ⟨_, rfl, rfl⟩, _, pksA⟩ | skip
    | (have hs := cnt_step hcn hc; have hs2 := cnt_len hs (by omega); rw [List.length_append, List.length_singleton] at hs2; exact ⟨by omega, by omega, by rw [List.length_append, List.length_singleton]; omega, by omega, hs⟩)
    | (have he : nwPut s 0 bs.reverse = nwCount s n := (by unfold nwCount; rw [cntErr_ok (by omega), ← hcn, hiI_zero hc]; rfl)); rw [← he]; first | exact ⟨_, ⟨_, rfl, rfl⟩, _, pksA⟩ | skip
    | skip
end
end Go.SX
