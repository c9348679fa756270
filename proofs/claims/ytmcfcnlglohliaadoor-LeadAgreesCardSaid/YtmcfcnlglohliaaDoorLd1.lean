/- Leaders: sets of masters, as bits; copies of configs. -/
import Derived.Test.YtmcfcnlglohliaaDoorTy
namespace Go.SX
open Go Go.RowKit Go.Proofs
set_option linter.unusedVariables false
set_option linter.unusedSimpArgs false
set_option maxHeartbeats 4000000
/-- A set of 0, 1, 2. -/
def setW (s x : Nat) : Nat := s ||| 2 ^ x
def setN (s : Nat) : Nat := s % 2 + s / 2 % 2 + s / 4 % 2
theorem setW_lt {s x : Nat} (hs : s < 8) (hx : x < 3) : setW s x < 8 := by
  have : ∀ s < 8, ∀ x < 3, setW s x < 8 := by decide
  exact this s hs x hx
theorem setW_bit {s : Nat} (hs : s < 8) {x : Nat} (hx : x < 3) : bitI .or .u64 (s : Int) (IntKind.u64.wrap (1 * 2 ^ x)) = (setW s x : Int) := by
  have : ∀ s < 8, ∀ x < 3, bitI .or .u64 ((s : Nat) : Int) (IntKind.u64.wrap (1 * 2 ^ x)) = (setW s x : Int) := by decide
  exact this s hs x hx
/-- The lowest one left out. -/
def setL (s : Nat) : Nat := s &&& (s - 1)
theorem setL_bit {s : Nat} (hs : s < 8) (h0 : 0 < s) : bitI .and .u64 (s : Int) ((s : Int) - 1) = (setL s : Int) ∧ setL s < s ∧ setN (setL s) + 1 = setN s := by
  have : ∀ s < 8, 0 < s → bitI .and .u64 ((s : Nat) : Int) ((s : Int) - 1) = (setL s : Int) ∧ setL s < s ∧ setN (setL s) + 1 = setN s := by decide
  exact this s hs h0
theorem with_spec (s x : Nat) (hs : s < 8) (hx : x < 3) : Spec Tryd.prog 32 [.int .u64 s, .int .i64 x] [] [] (fun v l' => v = .int .u64 (setW s x) ∧ l' = []) := by
  refine Spec.intro Tryd.func32 rfl rfl Tryd.ntmps32 rfl fun w0 => ?_
  (all_goals (refine WC.auto ?_; (conv => whnf))); repeat' (first
          | ((with_reducible refine WB.auto ?_); (conv => whnf))
          | ((with_reducible refine WCB.auto ?_); (conv => whnf))
          | ((with_reducible refine Ob.at ?_); first | (refine Ob.mk (by first | omega | exact u8_bound _ | (have := u8_bound; omega) | (simp only [List.length_drop, List.length_take, List.length_append, List.length_replicate, List.length_set, List.length_cons, List.length_nil, Nat.min_def]; omega)) ?_; (conv => whnf)) | (refine Ob.mk' ?_ ?_; (conv => whnf)))
          | (refine spl_mk (fun hc => ?_) (fun hc => ?_) <;> (try simp only [Bool.not_eq_false', and_self, and_true, true_and, not_true, Bool.not_eq_true', Bool.not_false, Bool.not_true, decide_eq_true_eq, decide_eq_false_iff_not, Bool.false_eq_true, reduceCtorEq, Bool.true_eq_false, ne_eq, Decidable.not_not, Int.not_lt, Int.not_le, beq_self_eq_true, eq_self, not_true_eq_false, not_false_eq_true, Bool.not_eq_eq_eq_not, Bool.not_eq_true, Bool.not_eq_false, beq_iff_eq, beq_eq_false_iff_ne] at hc) <;> (try (exfalso; omega)) <;> (conv => whnf))
          | ((with_reducible refine NatK.at ?_); first | ((with_reducible refine NatK.cast ?_); (conv => whnf)) | (refine NatK.sym (by first | omega | exact u8_bound _ | (have := u8_bound; omega) | (simp only [List.length_drop, List.length_take, List.length_append, List.length_replicate, List.length_set, List.length_cons, List.length_nil, Nat.min_def]; omega)) (fun m hm => ?_); (conv => whnf)))
          | (intro q hq; (conv => whnf))
          | ((with_reducible refine W.at 7 ?_); first | (refine W.ev (Ev.shl rfl rfl (by first | (constructor <;> simp [IntKind.bits]; done) | (simp only [IntKind.bits]; constructor <;> omega))) rfl rfl rfl ?_; all_goals ((refine W.auto ?_); (conv => whnf))))
          | ((with_reducible refine W.at 8 ?_); first | (refine W.ev (Ev.orBytes rfl rfl) rfl rfl rfl ?_; all_goals ((refine W.auto ?_); (conv => whnf))) | (refine W.ev (Ev.or rfl rfl) rfl rfl rfl ?_; all_goals ((refine W.auto ?_); (conv => whnf))))
          | refine Exists.intro _ (And.intro (resv_rfl rfl) ?_))
  all_goals first | exact ⟨_, ⟨by rw [show ((x : Int)).toNat = x from Int.toNat_natCast x, setW_bit hs hx]; rfl, rfl⟩, _, pksA⟩ | skip
theorem ones_spec (s : Nat) (hs : s < 8) : Spec Tryd.prog 54 [.int .u64 s] [] [] (fun v l' => v = .int .i64 (setN s) ∧ l' = []) := by
  refine Spec.intro Tryd.func54 rfl rfl Tryd.ntmps54 rfl fun w0 => ?_
  (all_goals (refine WC.auto ?_; (conv => whnf))); repeat' (first
          | ((with_reducible refine WB.auto ?_); (conv => whnf))
          | ((with_reducible refine WCB.auto ?_); (conv => whnf))
          | ((with_reducible refine Ob.at ?_); first | (refine Ob.mk (by first | omega | exact u8_bound _ | (have := u8_bound; omega) | (simp only [List.length_drop, List.length_take, List.length_append, List.length_replicate, List.length_set, List.length_cons, List.length_nil, Nat.min_def]; omega)) ?_; (conv => whnf)) | (refine Ob.mk' ?_ ?_; (conv => whnf)))
          | (refine spl_mk (fun hc => ?_) (fun hc => ?_) <;> (try simp only [Bool.not_eq_false', and_self, and_true, true_and, not_true, Bool.not_eq_true', Bool.not_false, Bool.not_true, decide_eq_true_eq, decide_eq_false_iff_not, Bool.false_eq_true, reduceCtorEq, Bool.true_eq_false, ne_eq, Decidable.not_not, Int.not_lt, Int.not_le, beq_self_eq_true, eq_self, not_true_eq_false, not_false_eq_true, Bool.not_eq_eq_eq_not, Bool.not_eq_true, Bool.not_eq_false, beq_iff_eq, beq_eq_false_iff_ne] at hc) <;> (try (exfalso; omega)) <;> (conv => whnf))
          | ((with_reducible refine NatK.at ?_); first | ((with_reducible refine NatK.cast ?_); (conv => whnf)) | (refine NatK.sym (by first | omega | exact u8_bound _ | (have := u8_bound; omega) | (simp only [List.length_drop, List.length_take, List.length_append, List.length_replicate, List.length_set, List.length_cons, List.length_nil, Nat.min_def]; omega)) (fun m hm => ?_); (conv => whnf)))
          | (intro q hq; (conv => whnf))
          | ((with_reducible refine W.at 4 ?_); first | (refine W.ev (Ev.shrm 1 2 rfl rfl (by decide) (by decide)) rfl rfl rfl ?_; all_goals ((refine W.auto ?_); (conv => whnf))))
          | ((with_reducible refine W.at 5 ?_); first | (refine W.ev (Ev.and rfl rfl) rfl rfl rfl ?_; all_goals ((refine W.auto ?_); (conv => whnf))))
          | ((with_reducible refine W.at 7 ?_); first | (refine W.ev (Ev.and rfl rfl) rfl rfl rfl ?_; all_goals ((refine W.auto ?_); (conv => whnf))))
          | ((with_reducible refine W.at 10 ?_); first | (refine W.ev (Ev.shrm 2 4 rfl rfl (by decide) (by decide)) rfl rfl rfl ?_; all_goals ((refine W.auto ?_); (conv => whnf))))
          | ((with_reducible refine W.at 11 ?_); first | (refine W.ev (Ev.and rfl rfl) rfl rfl rfl ?_; all_goals ((refine W.auto ?_); (conv => whnf))))
          | ((with_reducible refine W.at 13 ?_); first | (refine W.ev (Ev.and rfl rfl) rfl rfl rfl ?_; all_goals ((refine W.auto ?_); (conv => whnf))))
          | ((with_reducible refine W.at 16 ?_); first | (refine W.ev (Ev.shrm 4 16 rfl rfl (by decide) (by decide)) rfl rfl rfl ?_; all_goals ((refine W.auto ?_); (conv => whnf))))
          | ((with_reducible refine W.at 19 ?_); first | (refine W.ev (Ev.and rfl rfl) rfl rfl rfl ?_; all_goals ((refine W.auto ?_); (conv => whnf))))
          | ((with_reducible refine W.at 22 ?_); first | (refine W.ev (Ev.shrm 8 256 rfl rfl (by decide) (by decide)) rfl rfl rfl ?_; all_goals ((refine W.auto ?_); (conv => whnf))))
          | ((with_reducible refine W.at 26 ?_); first | (refine W.ev (Ev.shrm 16 65536 rfl rfl (by decide) (by decide)) rfl rfl rfl ?_; all_goals ((refine W.auto ?_); (conv => whnf))))
          | ((with_reducible refine W.at 30 ?_); first | (refine W.ev (Ev.shrm 32 4294967296 rfl rfl (by decide) (by decide)) rfl rfl rfl ?_; all_goals ((refine W.auto ?_); (conv => whnf))))
          | ((with_reducible refine W.at 34 ?_); first | (refine W.ev (Ev.and rfl rfl) rfl rfl rfl ?_; all_goals ((refine W.auto ?_); (conv => whnf))))
          | refine Exists.intro _ (And.intro (resv_rfl rfl) ?_))
  all_goals first | (clear w0; revert s; decide) | first | exact ⟨_, ⟨congrArg (Value.int .i64) (by clear w0; revert s; decide), rfl⟩, _, pksA⟩ | skip

theorem onesc_spec (s : Nat) (hs : s < 8) : Spec Tryd.prog 47 [.int .u64 s] [] [] (fun v l' => v = .int .i64 (setN s) ∧ l' = []) := by
  refine Spec.intro Tryd.func47 rfl rfl Tryd.ntmps47 rfl fun w0 => ?_
  (all_goals (refine WC.auto ?_; (conv => whnf))); repeat' (first
          | ((with_reducible refine WB.auto ?_); (conv => whnf))
          | ((with_reducible refine WCB.auto ?_); (conv => whnf))
          | ((with_reducible refine Ob.at ?_); first | (refine Ob.mk (by first | omega | exact u8_bound _ | (have := u8_bound; omega) | (simp only [List.length_drop, List.length_take, List.length_append, List.length_replicate, List.length_set, List.length_cons, List.length_nil, Nat.min_def]; omega)) ?_; (conv => whnf)) | (refine Ob.mk' ?_ ?_; (conv => whnf)))
          | (refine spl_mk (fun hc => ?_) (fun hc => ?_) <;> (try simp only [Bool.not_eq_false', and_self, and_true, true_and, not_true, Bool.not_eq_true', Bool.not_false, Bool.not_true, decide_eq_true_eq, decide_eq_false_iff_not, Bool.false_eq_true, reduceCtorEq, Bool.true_eq_false, ne_eq, Decidable.not_not, Int.not_lt, Int.not_le, beq_self_eq_true, eq_self, not_true_eq_false, not_false_eq_true, Bool.not_eq_eq_eq_not, Bool.not_eq_true, Bool.not_eq_false, beq_iff_eq, beq_eq_false_iff_ne] at hc) <;> (try (exfalso; omega)) <;> (conv => whnf))
          | ((with_reducible refine NatK.at ?_); first | ((with_reducible refine NatK.cast ?_); (conv => whnf)) | (refine NatK.sym (by first | omega | exact u8_bound _ | (have := u8_bound; omega) | (simp only [List.length_drop, List.length_take, List.length_append, List.length_replicate, List.length_set, List.length_cons, List.length_nil, Nat.min_def]; omega)) (fun m hm => ?_); (conv => whnf)))
          | (intro q hq; (conv => whnf))
          | ((with_reducible refine W.at 7 ?_); first | ((refine W.stp (Stp.cal rfl rfl (ones_spec _ (by assumption)) pksA rdsA) rfl rfl rfl ?_; rintro _ _ ⟨_, ⟨rfl, rfl⟩, rfl⟩); all_goals ((refine W.auto ?_); (conv => whnf))))
          | refine Exists.intro _ (And.intro (resv_rfl rfl) ?_))
  all_goals first | exact ⟨_, ⟨rfl, rfl⟩, _, pksA⟩ | skip

theorem many_spec (s : Nat) (hs : s < 8) : Spec Tryd.prog 36 [.int .u64 s] [] [] (fun v l' => v = .int .i64 (setN s) ∧ l' = []) := by
  refine Spec.intro Tryd.func36 rfl rfl Tryd.ntmps36 rfl fun w0 => ?_
  (all_goals (refine WC.auto ?_; (conv => whnf))); repeat' (first
          | ((with_reducible refine WB.auto ?_); (conv => whnf))
          | ((with_reducible refine WCB.auto ?_); (conv => whnf))
          | ((with_reducible refine Ob.at ?_); first | (refine Ob.mk (by first | omega | exact u8_bound _ | (have := u8_bound; omega) | (simp only [List.length_drop, List.length_take, List.length_append, List.length_replicate, List.length_set, List.length_cons, List.length_nil, Nat.min_def]; omega)) ?_; (conv => whnf)) | (refine Ob.mk' ?_ ?_; (conv => whnf)))
          | (refine spl_mk (fun hc => ?_) (fun hc => ?_) <;> (try simp only [Bool.not_eq_false', and_self, and_true, true_and, not_true, Bool.not_eq_true', Bool.not_false, Bool.not_true, decide_eq_true_eq, decide_eq_false_iff_not, Bool.false_eq_true, reduceCtorEq, Bool.true_eq_false, ne_eq, Decidable.not_not, Int.not_lt, Int.not_le, beq_self_eq_true, eq_self, not_true_eq_false, not_false_eq_true, Bool.not_eq_eq_eq_not, Bool.not_eq_true, Bool.not_eq_false, beq_iff_eq, beq_eq_false_iff_ne] at hc) <;> (try (exfalso; omega)) <;> (conv => whnf))
          | ((with_reducible refine NatK.at ?_); first | ((with_reducible refine NatK.cast ?_); (conv => whnf)) | (refine NatK.sym (by first | omega | exact u8_bound _ | (have := u8_bound; omega) | (simp only [List.length_drop, List.length_take, List.length_append, List.length_replicate, List.length_set, List.length_cons, List.length_nil, Nat.min_def]; omega)) (fun m hm => ?_); (conv => whnf)))
          | (intro q hq; (conv => whnf))
          | ((with_reducible refine W.at 4 ?_); first | ((refine W.stp (Stp.cal rfl rfl (onesc_spec _ (by assumption)) pksA rdsA) rfl rfl rfl ?_; rintro _ _ ⟨_, ⟨rfl, rfl⟩, rfl⟩); all_goals ((refine W.auto ?_); (conv => whnf))))
          | refine Exists.intro _ (And.intro (resv_rfl rfl) ?_))
  all_goals first | exact ⟨_, ⟨rfl, rfl⟩, _, pksA⟩ | skip


/-- The table of the lowest bit's place: what is in it does not matter here. -/
abbrev tzC (bs : List UInt8) : Chunk := bR (some ⟨1, 0, none⟩) 64 64 bs
theorem wrap_idx (x : Int) : 0 ≤ IntKind.u64.wrap x / 2 ^ (58 : Int).toNat ∧ IntKind.u64.wrap x / 2 ^ (58 : Int).toNat < 64 := by
  have h1 : 0 ≤ IntKind.u64.wrap x ∧ IntKind.u64.wrap x < 18446744073709551616 := by
    simp only [IntKind.wrap, IntKind.bits, IntKind.signed]
    simp
    constructor
    · exact Int.emod_nonneg _ (by decide)
    · exact Int.emod_lt_of_pos _ (by decide)
  have h2 : (2 : Int) ^ (58 : Int).toNat = 288230376151711744 := by decide
  rw [h2]
  omega
theorem wrap_idxN (x : Int) : (IntKind.u64.wrap x / 2 ^ (58 : Int).toNat).toNat < 64 := by
  have h := wrap_idx x
  generalize IntKind.u64.wrap x / 2 ^ (58 : Int).toNat = y at h
  omega
theorem tz64_spec (s : Nat) (hs : s < 8) (h0 : 0 < s) (bs : List UInt8) (hb : bs.length = 64) : Spec Tryd.prog 56 [.int .u64 s] [] [tzC bs] (fun v l' => ∃ z : Int, v = .int .i64 z ∧ l' = []) := by
  refine Spec.intro Tryd.func56 rfl rfl Tryd.ntmps56 rfl fun w0 => ?_
  /- seq(0,seq(seq(1,cond(seq(2,ret()),skip())),seq(3,ret()))) -/
  have hd : decide ((s : Int) = 0) = false := decide_eq_false (by omega)
  refine WC.seq (WC.region (W.ev (Ev.assign rfl) rfl rfl rfl (W.next ?_)))
  refine WC.seq (WC.seq (WC.region (W.ev (Ev.move rfl) rfl rfl rfl (W.ev (Ev.eql rfl rfl) rfl rfl rfl (W.next (WC.condF rfl hd (WC.skip ?_)))))))
  refine WC.seq (WC.region (W.ev (Ev.move rfl) rfl rfl rfl (W.ev (Ev.move rfl) rfl rfl rfl (W.ev (Ev.negk rfl) rfl rfl rfl (W.ev (Ev.and rfl rfl) rfl rfl rfl (W.ev (Ev.mulk rfl rfl) rfl rfl rfl (W.ev (Ev.shr rfl rfl ⟨by decide, by decide⟩) rfl rfl rfl
    (W.ev (Ev.indexArr1 rfl rfl (wrap_idx _)) rfl rfl rfl (W.ev (Ev.loadB (A := some ⟨1, 0, none⟩) (c := 64) (m := 64) (bs := bs) rfl (Rd.here (Sub.refl _)) (Nat.lt_of_lt_of_eq (wrap_idxN _) hb.symm)) rfl rfl rfl
    (W.ev (Ev.convk rfl) rfl rfl rfl (W.ev (Ev.assign rfl) rfl rfl rfl (W.next ?_))))))))))))
  exact WC.ret ⟨_, rfl, _, ⟨_, rfl, rfl⟩, ChLe.refl _⟩

theorem tz_spec (s : Nat) (hs : s < 8) (h0 : 0 < s) (bs : List UInt8) (hb : bs.length = 64) : Spec Tryd.prog 52 [.int .u64 s] [] [tzC bs] (fun v l' => ∃ z : Int, v = .int .i64 z ∧ l' = []) := by
  refine Spec.intro Tryd.func52 rfl rfl Tryd.ntmps52 rfl fun w0 => ?_
  (all_goals (refine WC.auto ?_; (conv => whnf))); repeat' (first
          | ((with_reducible refine WB.auto ?_); (conv => whnf))
          | ((with_reducible refine WCB.auto ?_); (conv => whnf))
          | ((with_reducible refine Ob.at ?_); first | (refine Ob.mk (by first | omega | exact u8_bound _ | (have := u8_bound; omega) | (simp only [List.length_drop, List.length_take, List.length_append, List.length_replicate, List.length_set, List.length_cons, List.length_nil, Nat.min_def]; omega)) ?_; (conv => whnf)) | (refine Ob.mk' ?_ ?_; (conv => whnf)))
          | (refine spl_mk (fun hc => ?_) (fun hc => ?_) <;> (try simp only [Bool.not_eq_false', and_self, and_true, true_and, not_true, Bool.not_eq_true', Bool.not_false, Bool.not_true, decide_eq_true_eq, decide_eq_false_iff_not, Bool.false_eq_true, reduceCtorEq, Bool.true_eq_false, ne_eq, Decidable.not_not, Int.not_lt, Int.not_le, beq_self_eq_true, eq_self, not_true_eq_false, not_false_eq_true, Bool.not_eq_eq_eq_not, Bool.not_eq_true, Bool.not_eq_false, beq_iff_eq, beq_eq_false_iff_ne] at hc) <;> (try (exfalso; omega)) <;> (conv => whnf))
          | ((with_reducible refine NatK.at ?_); first | ((with_reducible refine NatK.cast ?_); (conv => whnf)) | (refine NatK.sym (by first | omega | exact u8_bound _ | (have := u8_bound; omega) | (simp only [List.length_drop, List.length_take, List.length_append, List.length_replicate, List.length_set, List.length_cons, List.length_nil, Nat.min_def]; omega)) (fun m hm => ?_); (conv => whnf)))
          | (intro q hq; (conv => whnf))
          | ((with_reducible refine W.at 7 ?_); first | ((refine W.stp (Stp.cal rfl rfl (tz64_spec _ (by assumption) (by assumption) _ (by assumption)) pksA rdsA) rfl rfl rfl ?_; rintro _ _ ⟨_, ⟨z7, rfl, rfl⟩, rfl⟩); all_goals ((refine W.auto ?_); (conv => whnf))))
          | refine Exists.intro _ (And.intro (resv_rfl rfl) ?_))
  all_goals first | exact ⟨_, ⟨_, rfl, rfl⟩, _, pksA⟩ | skip

end Go.SX
