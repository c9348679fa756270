/- Numbers: Num of both writers. -/
import Derived.Test.YtkiofjedeecijaaNm2
namespace Go.SX
open Go Go.RowKit Go.Proofs
set_option linter.unusedVariables false
set_option linter.unusedSimpArgs false
set_option maxHeartbeats 4000000
/-- A number's bytes, of a width, the highest first. -/
def beB (w : Nat) (n : Int) : List UInt8 := (List.range w).map fun i => byteOf (n / 2 ^ (8 * (w - 1 - i)))
def wideI (w : Int) : Prop := w = 1 ∨ w = 2 ∨ w = 4 ∨ w = 8
def numErr (w n : Int) : Int := if ¬ (w = 1 ∨ w = 2 ∨ w = 4 ∨ w = 8) then 2 else if n < 0 ∨ 9007199254740991 < n ∨ (w ≠ 8 ∧ 2 ^ (8 * w.toNat) ≤ n) then 9 else 0
def nwNum (s : NW) (w n : Int) : NW := nwPut s (numErr w n) (beB w.toNat n)
theorem beB_len (w : Nat) (n : Int) : (beB w n).length = w := by simp [beB]
theorem beB_snoc (w k : Nat) (n : Int) (h : k < w) : ((List.range k).map fun i => byteOf (n / 2 ^ (8 * (w - 1 - i)))) ++ [byteOf (n / 2 ^ (8 * (w - 1 - k)))] = (List.range (k + 1)).map fun i => byteOf (n / 2 ^ (8 * (w - 1 - i))) := by
  rw [List.range_succ, List.map_append]; rfl
section
variable (g : Nat) (a : NWA) (s : NW)


theorem nwPut_bad (s : NW) (e : Int) (he : e ≠ 0) (x y : List UInt8) : nwPut s e x = nwPut s e y := by unfold nwPut; simp [he]
theorem numErr_bad (w : Nat) (hw : w = 1 ∨ w = 2 ∨ w = 4 ∨ w = 8) (n : Int) (h : n < 0 ∨ 9007199254740991 < n ∨ (n ≤ 9007199254740991 ∧ 0 ≤ n ∧ ¬ n / 2 ^ (8 * (w : Int)).toNat = 0)) : numErr w n = 9 := by
  rcases hw with rfl | rfl | rfl | rfl
  · have e : (2 : Int) ^ (8 * ((1 : Nat) : Int)).toNat = 256 := by decide
    have e2 : (2 : Int) ^ (8 * ((1 : Nat) : Int).toNat) = 256 := by decide
    rw [e] at h
    unfold numErr
    rw [if_neg (by simp), if_pos (by rw [e2]; omega)]
  · have e : (2 : Int) ^ (8 * ((2 : Nat) : Int)).toNat = 65536 := by decide
    have e2 : (2 : Int) ^ (8 * ((2 : Nat) : Int).toNat) = 65536 := by decide
    rw [e] at h
    unfold numErr
    rw [if_neg (by simp), if_pos (by rw [e2]; omega)]
  · have e : (2 : Int) ^ (8 * ((4 : Nat) : Int)).toNat = 4294967296 := by decide
    have e2 : (2 : Int) ^ (8 * ((4 : Nat) : Int).toNat) = 4294967296 := by decide
    rw [e] at h
    unfold numErr
    rw [if_neg (by simp), if_pos (by rw [e2]; omega)]
  · have e : (2 : Int) ^ (8 * ((8 : Nat) : Int)).toNat = 18446744073709551616 := by decide
    rw [e] at h
    unfold numErr
    rw [if_neg (by simp), if_pos (by omega)]
theorem numErr_ok (w : Nat) (hw : w = 1 ∨ w = 2 ∨ w = 4 ∨ w = 8) (n : Int) (h0 : 0 ≤ n) (h1 : n ≤ 9007199254740991) (h : n / 2 ^ (8 * (w : Int)).toNat = 0) : numErr w n = 0 := by
  rcases hw with rfl | rfl | rfl | rfl
  · have e : (2 : Int) ^ (8 * ((1 : Nat) : Int)).toNat = 256 := by decide
    have e2 : (2 : Int) ^ (8 * ((1 : Nat) : Int).toNat) = 256 := by decide
    rw [e] at h
    unfold numErr
    rw [if_neg (by simp), if_neg (by rw [e2]; omega)]
  · have e : (2 : Int) ^ (8 * ((2 : Nat) : Int)).toNat = 65536 := by decide
    have e2 : (2 : Int) ^ (8 * ((2 : Nat) : Int).toNat) = 65536 := by decide
    rw [e] at h
    unfold numErr
    rw [if_neg (by simp), if_neg (by rw [e2]; omega)]
  · have e : (2 : Int) ^ (8 * ((4 : Nat) : Int)).toNat = 4294967296 := by decide
    have e2 : (2 : Int) ^ (8 * ((4 : Nat) : Int).toNat) = 4294967296 := by decide
    rw [e] at h
    unfold numErr
    rw [if_neg (by simp), if_neg (by rw [e2]; omega)]
  · unfold numErr
    rw [if_neg (by simp), if_neg (by omega)]
theorem shr0 {n : Int} {w : Nat} (h0 : 0 ≤ n) (h1 : n / 2 ^ (8 * w) = 0) : n < 2 ^ (8 * w) := by
  have hp : (0 : Int) < 2 ^ (8 * w) := Int.pow_pos (by omega)
  have := Int.lt_ediv_add_one_mul_self n hp
  rw [h1] at this; simpa using this
theorem Num_wide (w : Nat) (hw : w = 1 ∨ w = 2 ∨ w = 4 ∨ w = 8) (n : Int) (hn : n ≤ 9223372036854775807) (h : s.b.length ≤ 100000000) : Spec Try.prog 43 [.pointer (some ⟨g, 0, none⟩), .int .i64 (w : Int), .int .i64 n] [nwC g a s] [] (NwPost nwC g (nwNum s w n)) := by
  have hw8 : 1 ≤ w ∧ w ≤ 8 := by omega
  refine Spec.intro Try.func43 rfl rfl Try.ntmps43 rfl fun w0 => ?_
  (all_goals (refine WC.auto ?_; (conv => whnf))); repeat' (first
          | ((with_reducible refine WB.auto ?_); (conv => whnf))
          | ((with_reducible refine WCB.auto ?_); (conv => whnf))
          | ((with_reducible refine Ob.at ?_); first | (refine Ob.mk (by first | omega | exact u8_bound _ | (have := u8_bound; omega) | (simp only [List.length_drop, List.length_take, List.length_append, List.length_replicate, List.length_set, List.length_cons, List.length_nil, Nat.min_def]; omega)) ?_; (conv => whnf)) | (refine Ob.mk' ?_ ?_; (conv => whnf)))
          | (refine spl_mk (fun hc => ?_) (fun hc => ?_) <;> (try simp only [Bool.not_eq_false', and_self, and_true, true_and, not_true, Bool.not_eq_true', Bool.not_false, Bool.not_true, decide_eq_true_eq, decide_eq_false_iff_not, Bool.false_eq_true, reduceCtorEq, Bool.true_eq_false, ne_eq, Decidable.not_not, Int.not_lt, Int.not_le, beq_self_eq_true, eq_self, not_true_eq_false, not_false_eq_true, Bool.not_eq_eq_eq_not, Bool.not_eq_true, Bool.not_eq_false, beq_iff_eq, beq_eq_false_iff_ne] at hc) <;> (try (exfalso; omega)) <;> (conv => whnf))
          | ((with_reducible refine NatK.at ?_); first | ((with_reducible refine NatK.cast ?_); (conv => whnf)) | (refine NatK.sym (by first | omega | exact u8_bound _ | (have := u8_bound; omega) | (simp only [List.length_drop, List.length_take, List.length_append, List.length_replicate, List.length_set, List.length_cons, List.length_nil, Nat.min_def]; omega)) (fun m hm => ?_); (conv => whnf)))
          | (intro q hq; (conv => whnf))
          | ((with_reducible refine W.at 11 ?_); first | ((refine W.stp (Stp.cal rfl rfl (wide_spec _) pksA rdsA) rfl rfl rfl ?_; rintro _ _ ⟨_, ⟨rfl, rfl⟩, rfl⟩); all_goals ((refine W.auto ?_); (conv => whnf))))
          | ((with_reducible refine W.at 14 ?_); first | ((refine W.stp (Stp.cal rfl rfl (Spec.ask fun (hq : _) => put_spec _ _ _ _ _ _ _ _ hq) pksA rdsA) rfl rfl rfl ?_; rintro _ _ ⟨_, ⟨a14, rfl, rfl⟩, rfl⟩); all_goals ((refine W.auto ?_); (conv => whnf))))
          | ((with_reducible refine W.at 23 ?_); first | (refine W.ev (Ev.shr rfl rfl (by simp only [IntKind.bits]; constructor <;> omega)) rfl rfl rfl ?_; all_goals ((refine W.auto ?_); (conv => whnf))))
          | ((with_reducible refine W.at 26 ?_); first | ((refine W.stp (Stp.cal rfl rfl (Spec.ask fun (hq : _) => put_spec _ _ _ _ _ _ _ _ hq) pksA rdsA) rfl rfl rfl ?_; rintro _ _ ⟨_, ⟨a26, rfl, rfl⟩, rfl⟩); all_goals ((refine W.auto ?_); (conv => whnf))))
          | ((with_reducible refine W.at 38 ?_); first | (refine W.ev (Ev.shr rfl rfl (by simp only [IntKind.bits]; constructor <;> omega)) rfl rfl rfl ?_; all_goals ((refine W.auto ?_); (conv => whnf))))
          | ((with_reducible refine W.at 40 ?_); first | ((refine W.stp (Stp.buildB [_] rfl rfl rfl rfl rfl) rfl rfl rfl ?_; rintro _ _ ⟨g40, rfl, rfl⟩); all_goals ((refine W.auto ?_); (conv => whnf))))
          | ((with_reducible refine W.at 41 ?_); first | ((refine W.stp (Stp.copyB rfl rfl rdA rfl (by omega) (by omega)) rfl rfl rfl ?_; rintro _ _ ⟨A2, c2, rfl, rfl⟩); (try (rw [show (8 * ((w : Int) - 1 - (k : Int))).toNat = 8 * (w - 1 - k) by omega, beB_snoc w k n (by omega)])); all_goals ((refine W.auto ?_); (conv => whnf))) | ((refine W.stp (Stp.appendB rfl rfl pkA rdA rfl (by omega) (by omega)) rfl rfl rfl ?_; rintro _ _ ⟨A2, c2, rfl, rfl⟩); (try (rw [show (8 * ((w : Int) - 1 - (k : Int))).toNat = 8 * (w - 1 - k) by omega, beB_snoc w k n (by omega)])); all_goals ((refine W.auto ?_); (conv => whnf))))
          | ((with_reducible refine W.at 45 ?_); first | ((refine W.stp (Stp.cal rfl rfl (Spec.ask fun (hq : _) => put_spec _ _ _ _ _ _ _ _ hq) pksA rdsA) rfl rfl rfl ?_; rintro _ _ ⟨_, ⟨a45, rfl, rfl⟩, rfl⟩); all_goals ((refine W.auto ?_); (conv => whnf))))
          | ((with_reducible refine WC.atC (c := .loop (.seq (.region 9 _ _) _)) ?_); refine WC.loopL3 (X := Nat) (Y := Option Addr) (Z := Nat) (0) (none) (0) (fun k Ao co => k ≤ w) (fun k Ao co => [(28, .int .i64 (k : Int)), (7, .slice Ao k co)]) (fun k Ao co => [nwC g a s, bO Ao co 5 k ((List.range k).map fun i => byteOf (n / 2 ^ (8 * (w - 1 - i))))]) (fun k _ _ => w - k) [0, 1, 2, 27] (by omega) ?_; (conv => whnf); refine LoopQ3.mk (by ((repeat (first | exact trivial | refine And.intro rfl ?_)); fail_if_success (focus skip))) (⟨_, pksA⟩) ?_; rintro k Ao co hk; refine WC.auto ?_; (conv => whnf))
          | (refine ⟨k + 1, _, _, ?_, by ((repeat (first | exact trivial | refine And.intro rfl ?_)); fail_if_success (focus skip)), (by (with_reducible refine chLeI ?_); exact ⟨_, pksA⟩), by omega⟩)
          | refine Exists.intro _ (And.intro (resv_rfl rfl) ?_))
  all_goals first
    | omega
    | (have he : nwPut s 9 [] = nwNum s w n := (by unfold nwNum; rw [numErr_bad w hw n (by omega)]; exact nwPut_bad s 9 (by decide) _ _)); rw [← he]; first | exact ⟨_, ⟨_, rfl, rfl⟩, _, pksA⟩ | skip
    | (obtain rfl : k = w := (by omega)); (have he : nwPut s 0 ((List.range k).map fun i => byteOf (n / 2 ^ (8 * (k - 1 - i)))) = nwNum s k n := (by unfold nwNum; rw [numErr_ok k hw n (by omega) (by omega) (by assumption)]; rfl)); rw [← he]; first | exact ⟨_, ⟨_, rfl, rfl⟩, _, pksA⟩ | skip
    | skip
theorem Num_odd (w n : Int) (hw : ¬ (w = 1 ∨ w = 2 ∨ w = 4 ∨ w = 8)) (h : s.b.length ≤ 100000000) : Spec Try.prog 43 [.pointer (some ⟨g, 0, none⟩), .int .i64 w, .int .i64 n] [nwC g a s] [] (NwPost nwC g (nwNum s w n)) := by
  refine Spec.intro Try.func43 rfl rfl Try.ntmps43 rfl fun w0 => ?_
  (all_goals (refine WC.auto ?_; (conv => whnf))); repeat' (first
          | ((with_reducible refine WB.auto ?_); (conv => whnf))
          | ((with_reducible refine WCB.auto ?_); (conv => whnf))
          | ((with_reducible refine Ob.at ?_); first | (refine Ob.mk (by first | omega | exact u8_bound _ | (have := u8_bound; omega) | (simp only [List.length_drop, List.length_take, List.length_append, List.length_replicate, List.length_set, List.length_cons, List.length_nil, Nat.min_def]; omega)) ?_; (conv => whnf)) | (refine Ob.mk' ?_ ?_; (conv => whnf)))
          | (refine spl_mk (fun hc => ?_) (fun hc => ?_) <;> (try simp only [Bool.not_eq_false', and_self, and_true, true_and, not_true, Bool.not_eq_true', Bool.not_false, Bool.not_true, decide_eq_true_eq, decide_eq_false_iff_not, Bool.false_eq_true, reduceCtorEq, Bool.true_eq_false, ne_eq, Decidable.not_not, Int.not_lt, Int.not_le, beq_self_eq_true, eq_self, not_true_eq_false, not_false_eq_true, Bool.not_eq_eq_eq_not, Bool.not_eq_true, Bool.not_eq_false, beq_iff_eq, beq_eq_false_iff_ne] at hc) <;> (try (exfalso; omega)) <;> (conv => whnf))
          | ((with_reducible refine NatK.at ?_); first | ((with_reducible refine NatK.cast ?_); (conv => whnf)) | (refine NatK.sym (by first | omega | exact u8_bound _ | (have := u8_bound; omega) | (simp only [List.length_drop, List.length_take, List.length_append, List.length_replicate, List.length_set, List.length_cons, List.length_nil, Nat.min_def]; omega)) (fun m hm => ?_); (conv => whnf)))
          | (intro q hq; (conv => whnf))
          | ((with_reducible refine W.at 11 ?_); first | ((refine W.stp (Stp.cal rfl rfl (wide_spec _) pksA rdsA) rfl rfl rfl ?_; rintro _ _ ⟨_, ⟨rfl, rfl⟩, rfl⟩); all_goals ((refine W.auto ?_); (conv => whnf))))
          | ((with_reducible refine W.at 14 ?_); first | ((refine W.stp (Stp.cal rfl rfl (Spec.ask fun (hq : _) => put_spec _ _ _ _ _ _ _ _ hq) pksA rdsA) rfl rfl rfl ?_; rintro _ _ ⟨_, ⟨a14, rfl, rfl⟩, rfl⟩); all_goals ((refine W.auto ?_); (conv => whnf))))
          | ((with_reducible refine W.at 23 ?_); first | (refine W.ev (Ev.shr rfl rfl (by simp only [IntKind.bits]; constructor <;> omega)) rfl rfl rfl ?_; all_goals ((refine W.auto ?_); (conv => whnf))))
          | ((with_reducible refine W.at 26 ?_); first | ((refine W.stp (Stp.cal rfl rfl (Spec.ask fun (hq : _) => put_spec _ _ _ _ _ _ _ _ hq) pksA rdsA) rfl rfl rfl ?_; rintro _ _ ⟨_, ⟨a26, rfl, rfl⟩, rfl⟩); all_goals ((refine W.auto ?_); (conv => whnf))))
          | ((with_reducible refine W.at 38 ?_); first | (refine W.ev (Ev.shr rfl rfl (by simp only [IntKind.bits]; constructor <;> omega)) rfl rfl rfl ?_; all_goals ((refine W.auto ?_); (conv => whnf))))
          | ((with_reducible refine W.at 40 ?_); first | ((refine W.stp (Stp.buildB [_] rfl rfl rfl rfl rfl) rfl rfl rfl ?_; rintro _ _ ⟨g40, rfl, rfl⟩); all_goals ((refine W.auto ?_); (conv => whnf))))
          | ((with_reducible refine W.at 41 ?_); first | ((refine W.stp (Stp.copyB rfl rfl rdA rfl (by omega) (by omega)) rfl rfl rfl ?_; rintro _ _ ⟨A2, c2, rfl, rfl⟩); all_goals ((refine W.auto ?_); (conv => whnf))) | ((refine W.stp (Stp.appendB rfl rfl pkA rdA rfl (by omega) (by omega)) rfl rfl rfl ?_; rintro _ _ ⟨A2, c2, rfl, rfl⟩); all_goals ((refine W.auto ?_); (conv => whnf))))
          | ((with_reducible refine W.at 45 ?_); first | ((refine W.stp (Stp.cal rfl rfl (Spec.ask fun (hq : _) => put_spec _ _ _ _ _ _ _ _ hq) pksA rdsA) rfl rfl rfl ?_; rintro _ _ ⟨_, ⟨a45, rfl, rfl⟩, rfl⟩); all_goals ((refine W.auto ?_); (conv => whnf))))
          | refine Exists.intro _ (And.intro (resv_rfl rfl) ?_))
  all_goals (have he : nwPut s 2 [] = nwNum s w n := (by unfold nwNum numErr; rw [if_pos hw]; exact nwPut_bad s 2 (by decide) _ _)); rw [← he]; first | exact ⟨_, ⟨_, rfl, rfl⟩, _, pksA⟩ | skip
theorem Num_spec (w n : Int) (hn : n ≤ 9223372036854775807) (h : s.b.length ≤ 100000000) : Spec Try.prog 43 [.pointer (some ⟨g, 0, none⟩), .int .i64 w, .int .i64 n] [nwC g a s] [] (NwPost nwC g (nwNum s w n)) := by
  by_cases hw : w = 1 ∨ w = 2 ∨ w = 4 ∨ w = 8
  · obtain ⟨k, rfl⟩ : ∃ k : Nat, w = k := ⟨w.toNat, by omega⟩
    exact Num_wide g a s k (by omega) n hn h
  · exact Num_odd g a s w n hw h
end
end Go.SX
