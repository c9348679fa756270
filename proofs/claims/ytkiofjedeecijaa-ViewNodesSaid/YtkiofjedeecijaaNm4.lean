/- Numbers: Count of both writers. -/
import Derived.Test.YtkiofjedeecijaaNm3
namespace Go.SX
open Go Go.RowKit Go.Proofs
set_option linter.unusedVariables false
set_option linter.unusedSimpArgs false
set_option maxHeartbeats 4000000
/-- The higher groups of a count, the highest first. -/
def hiG (m : Nat) : List UInt8 := if h : m = 0 then [] else hiG (m / 128) ++ [byteOf (128 + ((m % 128 : Nat) : Int))]
termination_by m
decreasing_by omega
def hiI (i : Int) : List UInt8 := hiG i.toNat
theorem hiI_pos {i : Int} (h : 0 < i) : hiI i = hiI (i / 128) ++ [byteOf (i % 128 + 128)] := by
  unfold hiI
  conv => lhs; unfold hiG
  rw [dif_neg (by omega)]
  have e1 : i.toNat / 128 = (i / 128).toNat := by omega
  have e2 : (128 : Int) + ((i.toNat % 128 : Nat) : Int) = i % 128 + 128 := by omega
  rw [e1, e2]
theorem hiI_zero {i : Int} (h : i ≤ 0) : hiI i = [] := by
  unfold hiI hiG
  rw [dif_pos (by omega)]
def cntB (n : Int) : List UInt8 := hiI (n / 128) ++ [byteOf (n % 128)]
def cntErr (n : Int) : Int := if n < 0 ∨ 9007199254740991 < n then 9 else 0
def nwCount (s : NW) (n : Int) : NW := nwPut s (cntErr n) (cntB n)
theorem or128 (x : Int) (h : 0 ≤ x ∧ x < 128) : bitI .or .i64 x 128 = x + 128 := by
  obtain ⟨m, rfl⟩ : ∃ m : Nat, x = m := ⟨x.toNat, by omega⟩
  have h1 : BitVec.ofInt 64 (m : Int) = BitVec.ofNat 64 m := by rw [← BitVec.ofInt_natCast]
  have h2 : BitVec.ofInt 64 (128 : Int) = BitVec.ofNat 64 128 := rfl
  have h3 : (BitVec.ofNat 64 m ||| BitVec.ofNat 64 128).toNat = m + 128 := by
    rw [BitVec.toNat_or, BitVec.toNat_ofNat, BitVec.toNat_ofNat, Nat.mod_eq_of_lt (by omega), Nat.mod_eq_of_lt (by omega), Nat.or_comm]
    have := Nat.two_pow_add_eq_or_of_lt (b := m) (i := 7) (by omega) 1
    rw [show 2 ^ 7 * 1 = 128 by rfl] at this
    omega
  have h4 : bitI .or .i64 (m : Int) 128 = IntKind.i64.wrap ((BitVec.ofInt 64 (m : Int) ||| BitVec.ofInt 64 128).toNat : Int) := rfl
  rw [h4, h1, h2, h3, wrap_in (by omega) (by omega)]
  omega
/-- What is turned so far. -/
def revd (bs : List UInt8) (i : Nat) (zs : List UInt8) : Prop := zs.length = bs.length ∧ ∀ t, t < bs.length → zs.getD t 0 = if t < i ∨ bs.length ≤ t + i then bs.getD (bs.length - 1 - t) 0 else bs.getD t 0
theorem revd_end {bs zs : List UInt8} {i : Nat} (h : revd bs i zs) (hi : bs.length ≤ 2 * i + 1) : zs = bs.reverse := by
  apply List.ext_getElem
  · rw [h.1, List.length_reverse]
  · intro t h1 h2
    have ht : t < bs.length := by rw [← h.1]; exact h1
    have := h.2 t ht
    rw [List.getD_eq_getElem?_getD, List.getElem?_eq_getElem h1, Option.getD_some] at this
    rw [this, List.getElem_reverse]
    split
    · rw [List.getD_eq_getElem?_getD, List.getElem?_eq_getElem (by omega), Option.getD_some]
    · have : bs.length - 1 - t = t := by omega
      simp only [this]
      rw [List.getD_eq_getElem?_getD, List.getElem?_eq_getElem ht, Option.getD_some]
theorem getD_set (xs : List UInt8) (i : Nat) (v : UInt8) (t : Nat) (hi : i < xs.length) : (xs.set i v).getD t 0 = if t = i then v else xs.getD t 0 := by
  rw [List.getD_eq_getElem?_getD, List.getElem?_set]
  split
  · rename_i h; subst h; simp [hi]
  · rename_i h; rw [if_neg (fun e => h e.symm), List.getD_eq_getElem?_getD]
theorem revd_step {bs zs : List UInt8} {i j : Nat} (h : revd bs i zs) (hj : i + j + 1 = bs.length) (hij : i < j) : revd bs (i + 1) ((zs.set i (zs.getD j 0)).set j (zs.getD i 0)) := by
  obtain ⟨h1, h2⟩ := h
  refine ⟨by simp [h1], fun t ht => ?_⟩
  rw [getD_set _ _ _ _ (by rw [List.length_set]; omega), getD_set _ _ _ _ (by omega), h2 i (by omega), h2 j (by omega), h2 t ht]
  rw [if_neg (show ¬ (i < i ∨ bs.length ≤ i + i) by omega), if_neg (show ¬ (j < i ∨ bs.length ≤ j + i) by omega)]
  by_cases ht1 : t = j
  · subst ht1
    rw [if_pos rfl, if_pos (by omega)]
    congr 1; omega
  · rw [if_neg ht1]
    by_cases ht2 : t = i
    · subst ht2
      rw [if_pos rfl, if_pos (by omega)]
      congr 1; omega
    · rw [if_neg ht2]
      by_cases hc : t < i ∨ bs.length ≤ t + i
      · rw [if_pos hc, if_pos (by omega)]
      · rw [if_neg hc, if_neg (by omega)]
theorem revd_zero (bs : List UInt8) : revd bs 0 bs := ⟨rfl, fun t ht => by rw [if_neg (by omega)]⟩
theorem Reverse_spec (A : Option Addr) (c : Nat) (bs : List UInt8) (h : bs.length ≤ 100000000) : Spec Try.prog 56 [.slice A bs.length c] [bO A c 5 bs.length bs] [] (fun v l' => v = .tuple #[] ∧ l' = [bO A c 5 bs.length bs.reverse]) := by
  refine Spec.intro Try.func56 rfl rfl Try.ntmps56 rfl fun w0 => ?_
  /- loops of slices.Reverse[[]byte,byte]: 1 live [0] vary [2, 3] -/
  (all_goals (refine WC.auto ?_; (conv => whnf))); repeat' (first
          | ((with_reducible refine WB.auto ?_); (conv => whnf))
          | ((with_reducible refine WCB.auto ?_); (conv => whnf))
          | ((with_reducible refine WDB.auto ?_); (conv => whnf))
          | ((with_reducible refine Ob.at ?_); first | (refine Ob.mk (by first | omega | exact u8_bound _ | (have := u8_bound; omega) | (simp only [List.length_drop, List.length_take, List.length_append, List.length_replicate, List.length_set, List.length_cons, List.length_nil, Nat.min_def]; omega)) ?_; (conv => whnf)) | (refine Ob.mk' ?_ ?_; (conv => whnf)))
          | (refine spl_mk (fun hc => ?_) (fun hc => ?_) <;> (try simp only [Bool.not_eq_false', and_self, and_true, true_and, not_true, Bool.not_eq_true', Bool.not_false, Bool.not_true, decide_eq_true_eq, decide_eq_false_iff_not, Bool.false_eq_true, reduceCtorEq, Bool.true_eq_false, ne_eq, Decidable.not_not, Int.not_lt, Int.not_le, beq_self_eq_true, eq_self, not_true_eq_false, not_false_eq_true, Bool.not_eq_eq_eq_not, Bool.not_eq_true, Bool.not_eq_false, beq_iff_eq, beq_eq_false_iff_ne] at hc) <;> (try (exfalso; omega)) <;> (conv => whnf))
          | ((with_reducible refine NatK.at ?_); first | ((with_reducible refine NatK.cast ?_); (conv => whnf)) | (refine NatK.sym (by first | omega | exact u8_bound _ | (have := u8_bound; omega) | (simp only [List.length_drop, List.length_take, List.length_append, List.length_replicate, List.length_set, List.length_cons, List.length_nil, Nat.min_def]; omega)) (fun m hm => ?_); (conv => whnf)))
          | (intro q hq; (conv => whnf))
          | ((with_reducible refine WC.atR 3 ?_); refine WC.draw (id := 3) (ls := []) (.fl 0 (.fl 1 (.fl 2 (.fl 3 (.fl 4 (.fl 5 (.fl 8 (.fl 9 (.two 6 (.two 7 (.one 10 (.one 11 (.one 12 (.one 13 (.one 14 (.one 15 .nil)))))) 10 (.two 7 (.one 11 (.one 12 (.one 13 (.one 14 (.one 15 .nil))))) 11 (.one 7 (.one 12 (.one 13 (.one 14 (.one 15 .nil))))))) 10 (.two 6 (.two 7 (.one 11 (.one 12 (.one 13 (.one 14 (.one 15 .nil))))) 11 (.one 7 (.one 12 (.one 13 (.one 14 (.one 15 .nil)))))) 11 (.one 6 (.one 7 (.one 12 (.one 13 (.one 14 (.one 15 .nil)))))))))))))))) (by kernel_rfl) (by kernel_rfl) picksA ?_; refine WD.auto ?_; (conv => whnf))
          | ((with_reducible refine WO.at 0 ?_); first | (refine WO.auto rfl rfl ?_; (conv => whnf); (fail_if_success (show False))) | (refine WO.off rfl rfl rfl rfl ?_; refine WD.auto ?_; (conv => whnf)))
          | ((with_reducible refine WO.at 1 ?_); first | (refine WO.auto rfl rfl ?_; (conv => whnf); (fail_if_success (show False))) | (refine WO.off rfl rfl rfl rfl ?_; refine WD.auto ?_; (conv => whnf)))
          | ((with_reducible refine WO.at 2 ?_); first | (refine WO.auto rfl rfl ?_; (conv => whnf); (fail_if_success (show False))) | (refine WO.off rfl rfl rfl rfl ?_; refine WD.auto ?_; (conv => whnf)))
          | ((with_reducible refine WO.at 3 ?_); first | (refine WO.auto rfl rfl ?_; (conv => whnf); (fail_if_success (show False))) | (refine WO.off rfl rfl rfl rfl ?_; refine WD.auto ?_; (conv => whnf)))
          | ((with_reducible refine WO.at 4 ?_); first | (refine WO.auto rfl rfl ?_; (conv => whnf); (fail_if_success (show False))) | (refine WO.off rfl rfl rfl rfl ?_; refine WD.auto ?_; (conv => whnf)))
          | ((with_reducible refine WO.at 5 ?_); first | (refine WO.auto rfl rfl ?_; (conv => whnf); (fail_if_success (show False))) | (refine WO.off rfl rfl rfl rfl ?_; refine WD.auto ?_; (conv => whnf)))
          | ((with_reducible refine WD.at 6 ?_); first | (refine WD.ev rfl (Ev.indexAddrN rfl rfl rdA (by omega)) rfl rfl rfl ?_; all_goals (refine WD.auto ?_; (conv => whnf))) | (refine WD.ev rfl (Ev.indexAddr1 rfl rfl rdA (by omega)) rfl rfl rfl ?_; all_goals (refine WD.auto ?_; (conv => whnf))))
          | ((with_reducible refine WO.at 6 ?_); first | (refine WO.ev rfl (Ev.indexAddrN rfl rfl rdA (by omega)) rfl rfl rfl ?_; all_goals (refine WD.auto ?_; (conv => whnf))) | (refine WO.ev rfl (Ev.indexAddr1 rfl rfl rdA (by omega)) rfl rfl rfl ?_; all_goals (refine WD.auto ?_; (conv => whnf))) | (refine WO.off rfl rfl rfl rfl ?_; refine WD.auto ?_; (conv => whnf)))
          | ((with_reducible refine WD.at 7 ?_); first | (refine WD.evB rfl (Ev.loadB rfl rdA (by first | omega | (simp only [List.length_drop, List.length_take, List.length_append, List.length_replicate, List.length_set, List.length_cons, List.length_nil, Nat.min_def]; omega) | (simp; omega))) rfl rfl rfl (fun hbyte => ?_); all_goals (refine WD.auto ?_; (conv => whnf))) | (refine WD.ev rfl (Ev.loadRec0 rfl rfl rdA (by exact fun _ => rfl) (by omega) (by rfl)) rfl rfl rfl ?_; all_goals (refine WD.auto ?_; (conv => whnf))))
          | ((with_reducible refine WO.at 7 ?_); first | (refine WO.evB rfl (Ev.loadB rfl rdA (by first | omega | (simp only [List.length_drop, List.length_take, List.length_append, List.length_replicate, List.length_set, List.length_cons, List.length_nil, Nat.min_def]; omega) | (simp; omega))) rfl rfl rfl (fun hbyte => ?_); all_goals (refine WD.auto ?_; (conv => whnf))) | (refine WO.ev rfl (Ev.loadRec0 rfl rfl rdA (by exact fun _ => rfl) (by omega) (by rfl)) rfl rfl rfl ?_; all_goals (refine WD.auto ?_; (conv => whnf))) | (refine WO.off rfl rfl rfl rfl ?_; refine WD.auto ?_; (conv => whnf)))
          | ((with_reducible refine WO.at 8 ?_); first | (refine WO.auto rfl rfl ?_; (conv => whnf); (fail_if_success (show False))) | (refine WO.off rfl rfl rfl rfl ?_; refine WD.auto ?_; (conv => whnf)))
          | ((with_reducible refine WO.at 9 ?_); first | (refine WO.auto rfl rfl ?_; (conv => whnf); (fail_if_success (show False))) | (refine WO.off rfl rfl rfl rfl ?_; refine WD.auto ?_; (conv => whnf)))
          | ((with_reducible refine WD.at 10 ?_); first | (refine WD.ev rfl (Ev.indexAddrN rfl rfl rdA (by omega)) rfl rfl rfl ?_; all_goals (refine WD.auto ?_; (conv => whnf))) | (refine WD.ev rfl (Ev.indexAddr1 rfl rfl rdA (by omega)) rfl rfl rfl ?_; all_goals (refine WD.auto ?_; (conv => whnf))))
          | ((with_reducible refine WO.at 10 ?_); first | (refine WO.ev rfl (Ev.indexAddrN rfl rfl rdA (by omega)) rfl rfl rfl ?_; all_goals (refine WD.auto ?_; (conv => whnf))) | (refine WO.ev rfl (Ev.indexAddr1 rfl rfl rdA (by omega)) rfl rfl rfl ?_; all_goals (refine WD.auto ?_; (conv => whnf))) | (refine WO.off rfl rfl rfl rfl ?_; refine WD.auto ?_; (conv => whnf)))
          | ((with_reducible refine WD.at 11 ?_); first | (refine WD.evB rfl (Ev.loadB rfl rdA (by first | omega | (simp only [List.length_drop, List.length_take, List.length_append, List.length_replicate, List.length_set, List.length_cons, List.length_nil, Nat.min_def]; omega) | (simp; omega))) rfl rfl rfl (fun hbyte => ?_); all_goals (refine WD.auto ?_; (conv => whnf))) | (refine WD.ev rfl (Ev.loadRec0 rfl rfl rdA (by exact fun _ => rfl) (by omega) (by rfl)) rfl rfl rfl ?_; all_goals (refine WD.auto ?_; (conv => whnf))))
          | ((with_reducible refine WO.at 11 ?_); first | (refine WO.evB rfl (Ev.loadB rfl rdA (by first | omega | (simp only [List.length_drop, List.length_take, List.length_append, List.length_replicate, List.length_set, List.length_cons, List.length_nil, Nat.min_def]; omega) | (simp; omega))) rfl rfl rfl (fun hbyte => ?_); all_goals (refine WD.auto ?_; (conv => whnf))) | (refine WO.ev rfl (Ev.loadRec0 rfl rfl rdA (by exact fun _ => rfl) (by omega) (by rfl)) rfl rfl rfl ?_; all_goals (refine WD.auto ?_; (conv => whnf))) | (refine WO.off rfl rfl rfl rfl ?_; refine WD.auto ?_; (conv => whnf)))
          | ((with_reducible refine WD.at 12 ?_); first | (refine WD.ev rfl (Ev.indexAddrN rfl rfl rdA (by omega)) rfl rfl rfl ?_; all_goals (refine WD.auto ?_; (conv => whnf))) | (refine WD.ev rfl (Ev.indexAddr1 rfl rfl rdA (by omega)) rfl rfl rfl ?_; all_goals (refine WD.auto ?_; (conv => whnf))))
          | ((with_reducible refine WO.at 12 ?_); first | (refine WO.ev rfl (Ev.indexAddrN rfl rfl rdA (by omega)) rfl rfl rfl ?_; all_goals (refine WD.auto ?_; (conv => whnf))) | (refine WO.ev rfl (Ev.indexAddr1 rfl rfl rdA (by omega)) rfl rfl rfl ?_; all_goals (refine WD.auto ?_; (conv => whnf))) | (refine WO.off rfl rfl rfl rfl ?_; refine WD.auto ?_; (conv => whnf)))
          | ((with_reducible refine WO.at 13 ?_); first | (refine stO1 (i := 13) rfl rfl rfl rfl pkA ?_; (conv => whnf)) | ((refine WO.stp0 rfl (Stp.storeB rfl rfl pkA (by first | omega | (simp only [List.length_drop, List.length_take, List.length_append, List.length_replicate, List.length_set, List.length_cons, List.length_nil, Nat.min_def]; omega) | (simp; omega))) rfl rfl ?_; rintro _ _ rfl); all_goals (refine WD.auto ?_; (conv => whnf))) | ((refine WO.stp0 rfl (Stp.storeBk rfl rfl pkA (by omega) (by first | omega | (simp only [List.length_drop, List.length_take, List.length_append, List.length_replicate, List.length_set, List.length_cons, List.length_nil, Nat.min_def]; omega) | (simp; omega))) rfl rfl ?_; rintro _ _ rfl); all_goals (refine WD.auto ?_; (conv => whnf))) | (refine WO.off rfl rfl rfl rfl ?_; refine WD.auto ?_; (conv => whnf)))
          | ((with_reducible refine WD.at 14 ?_); first | (refine WD.ev rfl (Ev.indexAddrN rfl rfl rdA (by omega)) rfl rfl rfl ?_; all_goals (refine WD.auto ?_; (conv => whnf))) | (refine WD.ev rfl (Ev.indexAddr1 rfl rfl rdA (by omega)) rfl rfl rfl ?_; all_goals (refine WD.auto ?_; (conv => whnf))))
          | ((with_reducible refine WO.at 14 ?_); first | (refine WO.ev rfl (Ev.indexAddrN rfl rfl rdA (by omega)) rfl rfl rfl ?_; all_goals (refine WD.auto ?_; (conv => whnf))) | (refine WO.ev rfl (Ev.indexAddr1 rfl rfl rdA (by omega)) rfl rfl rfl ?_; all_goals (refine WD.auto ?_; (conv => whnf))) | (refine WO.off rfl rfl rfl rfl ?_; refine WD.auto ?_; (conv => whnf)))
          | ((with_reducible refine WO.at 15 ?_); first | (refine stO1 (i := 15) rfl rfl rfl rfl pkA ?_; (conv => whnf)) | ((refine WO.stp0 rfl (Stp.storeB rfl rfl pkA (by first | omega | (simp only [List.length_drop, List.length_take, List.length_append, List.length_replicate, List.length_set, List.length_cons, List.length_nil, Nat.min_def]; omega) | (simp; omega))) rfl rfl ?_; rintro _ _ rfl); all_goals (refine WD.auto ?_; (conv => whnf))) | ((refine WO.stp0 rfl (Stp.storeBk rfl rfl pkA (by omega) (by first | omega | (simp only [List.length_drop, List.length_take, List.length_append, List.length_replicate, List.length_set, List.length_cons, List.length_nil, Nat.min_def]; omega) | (simp; omega))) rfl rfl ?_; rintro _ _ rfl); all_goals (refine WD.auto ?_; (conv => whnf))) | (refine WO.off rfl rfl rfl rfl ?_; refine WD.auto ?_; (conv => whnf)))
          | (with_reducible refine WD.one ?_)
          | (with_reducible refine WD.two ?_ ?_)
          | (with_reducible refine WD.three ?_ ?_ ?_)
          | ((with_reducible refine WC.atC (c := .loop (.seq (.seq (.region 1 _ _) _) _)) ?_); refine WC.loopL3 (X := Nat) (Y := Int) (Z := List UInt8) (0) (((bs.length : Int) - 1)) (bs) (fun i j zs => (i : Int) + j + 1 = bs.length ∧ zs.length = bs.length ∧ revd bs i zs) (fun i j zs => [(2, .int .i64 (i : Int)), (3, .int .i64 j)]) (fun i j zs => [bO A c 5 bs.length zs]) (fun i _ _ => bs.length - i) [0] (⟨by omega, rfl, revd_zero bs⟩) ?_; (conv => whnf); refine LoopQ3.mk (by ((repeat (first | exact trivial | refine And.intro rfl ?_)); fail_if_success (focus skip))) (⟨_, pksA⟩) ?_; rintro i j zs ⟨hij, hzl, hr⟩; refine WC.auto ?_; (conv => whnf))
          | (refine ⟨i + 1, _, _, ?_, by ((repeat (first | exact trivial | refine And.intro rfl ?_)); fail_if_success (focus skip)), (by (with_reducible refine chLeI ?_); exact ⟨_, pksA⟩), by omega⟩)
          | refine Exists.intro _ (And.intro (resv_rfl rfl) ?_))
  all_goals first
    | omega
    | (refine ⟨by omega, by simp [hzl], ?_⟩; exact revd_step hr (by omega) (by omega))
    | (rw [revd_end hr (by omega)]; first | exact ⟨_, ⟨rfl, rfl⟩, _, pksA⟩ | skip)
    | skip
end Go.SX
