/- Numbers: what a reader reads: Count, Text. -/
import Derived.Test.YtkiofjedeecijaaNm9
namespace Go.SX
open Go Go.RowKit Go.Proofs
set_option linter.unusedVariables false
set_option linter.unusedSimpArgs false
set_option maxHeartbeats 4000000
def nrCntK (most : Int) : Nat → Nat → List UInt8 → Int × NR
  | 0, _, _ => (0, ⟨[], 4⟩)
  | _ + 1, _, [] => (0, ⟨[], 3⟩)
  | k + 1, n, c :: b => if k = 7 ∧ c.toNat = 128 then (0, ⟨[], 4⟩) else if 128 ≤ c.toNat then nrCntK most k (n * 128 + c.toNat % 128) b
      else if 9007199254740991 < n * 128 + c.toNat % 128 then (0, ⟨[], 9⟩) else if most < ((n * 128 + c.toNat % 128 : Nat) : Int) then (0, ⟨[], 5⟩) else (((n * 128 + c.toNat % 128 : Nat) : Int), ⟨b, 0⟩)
def nrCount (s : NR) (most : Int) : Int × NR := if s.e ≠ 0 then (0, s) else nrCntK most 8 0 s.b
section
variable {most : Int} {k n : Nat} {c : UInt8} {b : List UInt8}
theorem cnt_nil (hk : 0 < k) : nrCntK most k n [] = (0, ⟨[], 3⟩) := by
  obtain ⟨k, rfl⟩ : ∃ j, k = j + 1 := ⟨k - 1, by omega⟩
  rfl
theorem cnt_form (hc : c.toNat = 128) : nrCntK most 8 n (c :: b) = (0, ⟨[], 4⟩) := by simp [nrCntK, hc]
theorem cnt_more (hk : 0 < k) (h : ¬ (k = 8 ∧ c.toNat = 128)) (hc : 128 ≤ c.toNat) : nrCntK most k n (c :: b) = nrCntK most (k - 1) (n * 128 + c.toNat % 128) b := by
  obtain ⟨k, rfl⟩ : ∃ j, k = j + 1 := ⟨k - 1, by omega⟩
  rw [nrCntK, if_neg (by omega), if_pos hc]; rfl
theorem cnt_range (hk : 0 < k) (hc : ¬ 128 ≤ c.toNat) (h1 : 9007199254740991 < n * 128 + c.toNat % 128) : nrCntK most k n (c :: b) = (0, ⟨[], 9⟩) := by
  obtain ⟨k, rfl⟩ : ∃ j, k = j + 1 := ⟨k - 1, by omega⟩
  rw [nrCntK, if_neg (by omega), if_neg hc, if_pos h1]
theorem cnt_limit (hk : 0 < k) (hc : ¬ 128 ≤ c.toNat) (h1 : ¬ 9007199254740991 < n * 128 + c.toNat % 128) (h2 : most < ((n * 128 + c.toNat % 128 : Nat) : Int)) : nrCntK most k n (c :: b) = (0, ⟨[], 5⟩) := by
  obtain ⟨k, rfl⟩ : ∃ j, k = j + 1 := ⟨k - 1, by omega⟩
  rw [nrCntK, if_neg (by omega), if_neg hc, if_neg h1, if_pos h2]
theorem cnt_ok (hk : 0 < k) (hc : ¬ 128 ≤ c.toNat) (h1 : ¬ 9007199254740991 < n * 128 + c.toNat % 128) (h2 : ¬ most < ((n * 128 + c.toNat % 128 : Nat) : Int)) : nrCntK most k n (c :: b) = (((n * 128 + c.toNat % 128 : Nat) : Int), ⟨b, 0⟩) := by
  obtain ⟨k, rfl⟩ : ∃ j, k = j + 1 := ⟨k - 1, by omega⟩
  rw [nrCntK, if_neg (by omega), if_neg hc, if_neg h1, if_neg h2]
end
theorem cnt_bound {n i : Nat} (h : n < 128 ^ i) (hi : i ≤ 7) : n < 562949953421312 := by
  have h2 : 128 ^ i ≤ 128 ^ 7 := Nat.pow_le_pow_right (by omega) hi
  have h3 : (128 : Nat) ^ 7 = 562949953421312 := by decide
  omega
theorem cnt_grow {n i c : Nat} (h : n < 128 ^ i) (hc : c < 128) : n * 128 + c < 128 ^ (i + 1) := by rw [Nat.pow_succ]; omega
theorem nrCount_e {s : NR} {most : Int} (h : s.e = 0) : nrCount s most = nrCntK most 8 0 s.b := by unfold nrCount; rw [if_neg (by simp [h])]
theorem or_7 (n c : Nat) (h : n < 562949953421312) : bitI .or .i64 ((n : Int) * 128) ((c : Int) % 128) = ((n * 128 + c % 128 : Nat) : Int) := by
  have h1 : BitVec.ofInt 64 ((n : Int) * 128) = BitVec.ofNat 64 (n * 128) := by
    rw [show ((n : Int) * 128) = ((n * 128 : Nat) : Int) by omega, BitVec.ofInt_natCast]
  have h2 : BitVec.ofInt 64 ((c : Int) % 128) = BitVec.ofNat 64 (c % 128) := by
    rw [show ((c : Int) % 128) = ((c % 128 : Nat) : Int) by omega, BitVec.ofInt_natCast]
  have h3 : (BitVec.ofNat 64 (n * 128) ||| BitVec.ofNat 64 (c % 128)).toNat = n * 128 + c % 128 := by
    rw [BitVec.toNat_or, BitVec.toNat_ofNat, BitVec.toNat_ofNat, Nat.mod_eq_of_lt (by omega), Nat.mod_eq_of_lt (by omega)]
    have := Nat.two_pow_add_eq_or_of_lt (b := c % 128) (i := 7) (by omega) n
    rw [show 2 ^ 7 * n = n * 128 by omega] at this
    omega
  have h4 : bitI .or .i64 ((n : Int) * 128) ((c : Int) % 128) = IntKind.i64.wrap ((BitVec.ofInt 64 ((n : Int) * 128) ||| BitVec.ofInt 64 ((c : Int) % 128)).toNat : Int) := rfl
  rw [h4, h1, h2, h3, wrap_in (by omega) (by omega)]
section
variable (g : Nat) (a : NWA) (s : NR)
/-- One byte. -/
abbrev Raw1Post (C : Nat → NWA → NR → Chunk) (g : Nat) (b : List UInt8) (v : Value) (l' : List Chunk) : Prop :=
  (∃ A c a', b = [] ∧ v = .slice A 0 c ∧ l' = [C g a' ⟨[], 3⟩]) ∨ (∃ A c a' c0 bt, b = c0 :: bt ∧ v = .slice A 1 c ∧ l' = [C g a' ⟨bt, 0⟩, bO A c 5 1 [c0]])
theorem Spec.drop {P : Program} {f : FuncId} {args : List Value} {l r : List Chunk} {post : Value → List Chunk → Prop} (h : Spec P f args l r (fun v l' => ∃ l2, post v l2 ∧ ChLe l' l2)) : Spec P f args l r post :=
  ⟨fun w hs => (h.out w hs).mono fun en w' ⟨v, l', h1, ⟨l2, h2, h3⟩, h4⟩ => ⟨v, l2, h1, h2, h4.le h3⟩⟩
theorem RRaw1_spec (b : List UInt8) (hn : b.length ≤ 1000000000) : Spec Try.prog 51 [.pointer (some ⟨g, 0, none⟩), .int .i64 1] [nrC g a ⟨b, 0⟩] [] (Raw1Post nrC g b) := by
  refine Spec.drop ((RRaw_spec g a ⟨b, 0⟩ 1 ⟨by omega, hn⟩).mono ?_)
  rintro v l' ⟨A, c, k, a', hk, rfl, rfl⟩
  cases b with
  | nil => obtain rfl : k = 0 := hk; exact ⟨_, .inl ⟨A, c, a', rfl, rfl, rfl⟩, _, PicksT.cons Pick.here PicksT.nil⟩
  | cons c0 bt =>
    have e : nrRaw ⟨c0 :: bt, 0⟩ 1 = ([c0], ⟨bt, 0⟩) := by unfold nrRaw; rw [if_neg (by simp), if_neg (by omega), if_neg (by simp only [List.length_cons]; omega)]; rfl
    rw [e] at hk ⊢
    obtain rfl : k = 1 := hk
    exact ⟨_, .inr ⟨A, c, a', c0, bt, rfl, rfl, rfl⟩, ChLe.refl _⟩
theorem RCount_spec (most : Int) (hn : s.b.length ≤ 1000000000) : Spec Try.prog 36 [.pointer (some ⟨g, 0, none⟩), .int .i64 most] [nrC g a s] [] (NumPost nrC g (nrCount s most)) := by
  by_cases he : s.e = 0
  · rw [nrCount_e he]
    obtain ⟨b0, e0⟩ := s
    dsimp only at he hn ⊢
    subst he
    refine Spec.intro Try.func36 rfl rfl Try.ntmps36 rfl fun w0 => ?_
    /- loops of (*sealchain/num.Reader).Count: 2 live [0, 1] vary [4, 8] -/
    (all_goals (refine WC.auto ?_; (conv => whnf))); repeat' (first
          | ((with_reducible refine WB.auto ?_); (conv => whnf))
          | ((with_reducible refine WCB.auto ?_); (conv => whnf))
          | ((with_reducible refine Ob.at ?_); first | (refine Ob.mk (by first | omega | exact u8_bound _ | (have := u8_bound; omega) | (simp only [List.length_drop, List.length_take, List.length_append, List.length_replicate, List.length_set, List.length_cons, List.length_nil, Nat.min_def]; omega) | ((have hb7 := cnt_bound hn2 (by omega); omega))) ?_; (conv => whnf)) | (refine Ob.mk' ?_ ?_; (conv => whnf)))
          | (refine spl_mk (fun hc => ?_) (fun hc => ?_) <;> (try simp only [Bool.not_eq_false', and_self, and_true, true_and, not_true, Bool.not_eq_true', Bool.not_false, Bool.not_true, decide_eq_true_eq, decide_eq_false_iff_not, Bool.false_eq_true, reduceCtorEq, Bool.true_eq_false, ne_eq, Decidable.not_not, Int.not_lt, Int.not_le, beq_self_eq_true, eq_self, not_true_eq_false, not_false_eq_true, Bool.not_eq_eq_eq_not, Bool.not_eq_true, Bool.not_eq_false, beq_iff_eq, beq_eq_false_iff_ne] at hc) <;> (try (exfalso; omega)) <;> (conv => whnf))
          | ((with_reducible refine NatK.at ?_); first | ((with_reducible refine NatK.cast ?_); (conv => whnf)) | (refine NatK.lit 0 rfl ?_; (conv => whnf)) | (refine NatK.sym (by first | omega | exact u8_bound _ | (have := u8_bound; omega) | (simp only [List.length_drop, List.length_take, List.length_append, List.length_replicate, List.length_set, List.length_cons, List.length_nil, Nat.min_def]; omega) | ((have hb7 := cnt_bound hn2 (by omega); omega))) (fun m hm => ?_); (conv => whnf)))
          | (intro q hq; (conv => whnf))
          | ((with_reducible refine WC.atC (c := .scope _) ?_); refine WC.scope (l0 := 0) (by rfl) ?_; refine WC.auto ?_; (conv => whnf))
          | ((with_reducible refine WC.atC (c := .seq _ _) ?_); refine WC.auto ?_; (conv => whnf))
          | ((with_reducible refine WC.atC (c := .region _ _ false) ?_); refine WC.auto ?_; (conv => whnf))
          | ((with_reducible refine WC.atC (c := .label _) ?_); refine WC.auto ?_; (conv => whnf))
          | ((with_reducible refine W.at 12 ?_); first | ((refine W.stp (Stp.cal rfl rfl (RRaw1_spec _ _ b (by omega)) pksA rdsA) rfl rfl rfl ?_; rintro _ _ ⟨_, (⟨A12, c12, a12, rfl, rfl, rfl⟩ | ⟨A12, c12, a12, c0, bt, rfl, rfl, rfl⟩), rfl⟩); all_goals ((refine W.auto ?_); (conv => whnf))))
          | ((with_reducible refine W.at 17 ?_); first | (refine W.ev (Ev.indexAddrK rfl (by first | exact Int.toNat_zero | exact Int.toNat_one | (simp only [Int.reduceToNat]; rfl)) rdA (by omega)) rfl rfl rfl ?_; all_goals ((refine W.auto ?_); (conv => whnf))))
          | ((with_reducible refine W.at 18 ?_); first | (refine W.evB (Ev.loadB rfl rdA (by first | omega | (simp only [List.length_drop, List.length_take, List.length_append, List.length_replicate, List.length_set, List.length_cons, List.length_nil, Nat.min_def]; omega) | (simp; omega))) rfl rfl rfl (fun hbyte => ?_); all_goals ((refine W.auto ?_); (conv => whnf))) | (refine W.ev (Ev.loadRec0 rfl rfl rdA (by exact fun _ => rfl) (by omega) (by rfl)) rfl rfl rfl ?_; all_goals ((refine W.auto ?_); (conv => whnf))))
          | ((with_reducible refine W.at 21 ?_); first | (refine W.ev (Ev.shlm 7 128 rfl rfl (by decide) (by decide) (by constructor <;> omega)) rfl rfl rfl ?_; all_goals ((refine W.auto ?_); (conv => whnf))) | (refine W.ev (Ev.shlw 7 128 rfl rfl (by decide) (by decide)) rfl rfl rfl ?_; all_goals ((refine W.auto ?_); (conv => whnf))))
          | ((with_reducible refine W.at 23 ?_); first | (refine W.ev (Ev.rem rfl rfl (by omega)) rfl rfl rfl ?_; all_goals ((refine W.auto ?_); (conv => whnf))) | (refine W.ev (Ev.remt rfl rfl (by omega)) rfl rfl rfl ?_; all_goals ((refine W.auto ?_); (conv => whnf))))
          | ((with_reducible refine W.at 24 ?_); first | (refine W.ev (Ev.or rfl rfl) rfl rfl rfl ?_; (try ((have hb7 := cnt_bound hn2 (by omega); rw [or_7 _ _ hb7]))); all_goals ((refine W.auto ?_); (conv => whnf))))
          | ((with_reducible refine W.at 39 ?_); first | ((refine W.stp (Stp.cal rfl rfl (fail_spec _ _ _ _) pksA rdsA) rfl rfl rfl ?_; rintro _ _ ⟨_, ⟨a39, rfl, rfl⟩, rfl⟩); all_goals ((refine W.auto ?_); (conv => whnf))))
          | ((with_reducible refine W.at 45 ?_); first | ((refine W.stp (Stp.cal rfl rfl (fail_spec _ _ _ _) pksA rdsA) rfl rfl rfl ?_; rintro _ _ ⟨_, ⟨a45, rfl, rfl⟩, rfl⟩); all_goals ((refine W.auto ?_); (conv => whnf))))
          | ((with_reducible refine W.at 49 ?_); first | ((refine W.stp (Stp.cal rfl rfl (fail_spec _ _ _ _) pksA rdsA) rfl rfl rfl ?_; rintro _ _ ⟨_, ⟨a49, rfl, rfl⟩, rfl⟩); all_goals ((refine W.auto ?_); (conv => whnf))))
          | ((with_reducible refine WC.atC (c := .loop (.seq (.region 2 _ _) _)) ?_); refine WC.loopL4 (X := Nat) (Y := Nat) (Z := List UInt8) (U := NWA) (0) (0) (b0) (a) (fun i n b a => i ≤ 8 ∧ n < 128 ^ i ∧ b.length ≤ 1000000000 ∧ nrCntK most (8 - i) n b = nrCntK most 8 0 b0) (fun i n b a => [(8, .int .i64 (i : Int)), (4, .int .i64 (n : Int))]) (fun i n b a => [nrC g a ⟨b, 0⟩]) (fun i _ _ _ => 8 - i) [0, 1] (⟨by omega, by omega, by omega, rfl⟩) ?_; (conv => whnf); refine LoopQ4.mk (by ((repeat (first | exact trivial | refine And.intro rfl ?_)); fail_if_success (focus skip))) (⟨_, pksA⟩) ?_; rintro i n b a ⟨hi, hn2, hb, hI⟩; refine WC.auto ?_; (conv => whnf))
          | (refine ⟨i + 1, _, _, _, ?_, by ((repeat (first | exact trivial | refine And.intro rfl ?_)); fail_if_success (focus skip)), (by (with_reducible refine chLeI ?_); exact ⟨_, pksA⟩), by omega⟩)
          | refine Exists.intro _ (And.intro (resv_rfl rfl) ?_))
    all_goals (try simp only [show ([c0] : List UInt8).getD 0 0 = c0 from rfl] at *)
    all_goals first
      | omega
      | exact NumPost.leaf (a' := a12) (hI.symm.trans (cnt_nil (by omega))) pksA
      | (refine ⟨by omega, cnt_grow hn2 (by omega), (by simp only [List.length_cons] at hb; omega), ?_⟩; rw [← hI, cnt_more (by omega) (by omega) (by omega)]; rfl)
      | (rw [nrFail_ok rfl]; first
        | exact NumPost.leaf (a' := a39) (hI.symm.trans (cnt_range (by omega) (by omega) (by omega))) pksA
        | exact NumPost.leaf (a' := a45) (hI.symm.trans (cnt_limit (by omega) (by omega) (by omega) (by omega))) pksA
        | (have h8 : i = 0 := (by omega); subst h8; exact NumPost.leaf (a' := a49) (hI.symm.trans (cnt_form (by omega))) pksA)
        | (have h8 : i = 8 := (by omega); subst h8; exact NumPost.leaf (a' := a49) hI.symm pksA))
      | exact NumPost.leaf (a' := a12) (hI.symm.trans (cnt_ok (by omega) (by omega) (by omega) (by omega))) pksA
      | skip
  · refine Spec.intro Try.func36 rfl rfl Try.ntmps36 rfl fun w0 => ?_
    (all_goals (refine WC.auto ?_; (conv => whnf))); repeat' (first
          | ((with_reducible refine WB.auto ?_); (conv => whnf))
          | ((with_reducible refine WCB.auto ?_); (conv => whnf))
          | ((with_reducible refine Ob.at ?_); first | (refine Ob.mk (by first | omega | exact u8_bound _ | (have := u8_bound; omega) | (simp only [List.length_drop, List.length_take, List.length_append, List.length_replicate, List.length_set, List.length_cons, List.length_nil, Nat.min_def]; omega)) ?_; (conv => whnf)) | (refine Ob.mk' ?_ ?_; (conv => whnf)))
          | (refine spl_mk (fun hc => ?_) (fun hc => ?_) <;> (try simp only [Bool.not_eq_false', and_self, and_true, true_and, not_true, Bool.not_eq_true', Bool.not_false, Bool.not_true, decide_eq_true_eq, decide_eq_false_iff_not, Bool.false_eq_true, reduceCtorEq, Bool.true_eq_false, ne_eq, Decidable.not_not, Int.not_lt, Int.not_le, beq_self_eq_true, eq_self, not_true_eq_false, not_false_eq_true, Bool.not_eq_eq_eq_not, Bool.not_eq_true, Bool.not_eq_false, beq_iff_eq, beq_eq_false_iff_ne] at hc) <;> (try (exfalso; omega)) <;> (conv => whnf))
          | ((with_reducible refine NatK.at ?_); first | ((with_reducible refine NatK.cast ?_); (conv => whnf)) | (refine NatK.lit 0 rfl ?_; (conv => whnf)) | (refine NatK.sym (by first | omega | exact u8_bound _ | (have := u8_bound; omega) | (simp only [List.length_drop, List.length_take, List.length_append, List.length_replicate, List.length_set, List.length_cons, List.length_nil, Nat.min_def]; omega)) (fun m hm => ?_); (conv => whnf)))
          | (intro q hq; (conv => whnf))
          | ((with_reducible refine WC.atC (c := .scope _) ?_); refine WC.scope (l0 := 0) (by rfl) ?_; refine WC.auto ?_; (conv => whnf))
          | ((with_reducible refine WC.atC (c := .seq _ _) ?_); refine WC.auto ?_; (conv => whnf))
          | ((with_reducible refine WC.atC (c := .region _ _ false) ?_); refine WC.auto ?_; (conv => whnf))
          | ((with_reducible refine WC.atC (c := .label _) ?_); refine WC.auto ?_; (conv => whnf))
          | ((with_reducible refine W.at 12 ?_); first | ((refine W.stp (Stp.cal rfl rfl (RRaw_err _ _ _ _ he) pksA rdsA) rfl rfl rfl ?_; rintro _ _ ⟨_, ⟨A12, c12, k12, a12, hk12, rfl, rfl⟩, rfl⟩; (rw [nrRaw_err he] at *; obtain rfl : k12 = 0 := hk12)); all_goals ((refine W.auto ?_); (conv => whnf))))
          | ((with_reducible refine W.at 17 ?_); first | (refine W.ev (Ev.indexAddrK rfl (by first | exact Int.toNat_zero | exact Int.toNat_one | (simp only [Int.reduceToNat]; rfl)) rdA (by omega)) rfl rfl rfl ?_; all_goals ((refine W.auto ?_); (conv => whnf))))
          | ((with_reducible refine W.at 18 ?_); first | (refine W.evB (Ev.loadB rfl rdA (by first | omega | (simp only [List.length_drop, List.length_take, List.length_append, List.length_replicate, List.length_set, List.length_cons, List.length_nil, Nat.min_def]; omega) | (simp; omega))) rfl rfl rfl (fun hbyte => ?_); all_goals ((refine W.auto ?_); (conv => whnf))) | (refine W.ev (Ev.loadRec0 rfl rfl rdA (by exact fun _ => rfl) (by omega) (by rfl)) rfl rfl rfl ?_; all_goals ((refine W.auto ?_); (conv => whnf))))
          | ((with_reducible refine W.at 21 ?_); first | (refine W.ev (Ev.shlm 7 128 rfl rfl (by decide) (by decide) (by constructor <;> omega)) rfl rfl rfl ?_; all_goals ((refine W.auto ?_); (conv => whnf))) | (refine W.ev (Ev.shlw 7 128 rfl rfl (by decide) (by decide)) rfl rfl rfl ?_; all_goals ((refine W.auto ?_); (conv => whnf))))
          | ((with_reducible refine W.at 23 ?_); first | (refine W.ev (Ev.rem rfl rfl (by omega)) rfl rfl rfl ?_; all_goals ((refine W.auto ?_); (conv => whnf))) | (refine W.ev (Ev.remt rfl rfl (by omega)) rfl rfl rfl ?_; all_goals ((refine W.auto ?_); (conv => whnf))))
          | ((with_reducible refine W.at 24 ?_); first | (refine W.ev (Ev.or rfl rfl) rfl rfl rfl ?_; all_goals ((refine W.auto ?_); (conv => whnf))))
          | ((with_reducible refine W.at 39 ?_); first | ((refine W.stp (Stp.cal rfl rfl (fail_spec _ _ _ _) pksA rdsA) rfl rfl rfl ?_; rintro _ _ ⟨_, ⟨a39, rfl, rfl⟩, rfl⟩); all_goals ((refine W.auto ?_); (conv => whnf))))
          | ((with_reducible refine W.at 45 ?_); first | ((refine W.stp (Stp.cal rfl rfl (fail_spec _ _ _ _) pksA rdsA) rfl rfl rfl ?_; rintro _ _ ⟨_, ⟨a45, rfl, rfl⟩, rfl⟩); all_goals ((refine W.auto ?_); (conv => whnf))))
          | ((with_reducible refine W.at 49 ?_); first | ((refine W.stp (Stp.cal rfl rfl (fail_spec _ _ _ _) pksA rdsA) rfl rfl rfl ?_; rintro _ _ ⟨_, ⟨a49, rfl, rfl⟩, rfl⟩); all_goals ((refine W.auto ?_); (conv => whnf))))
          | ((with_reducible refine WC.atC (c := .loop (.seq (.region 2 _ _) _)) ?_); refine WC.loopL (X := Nat) (0) (fun i => i = 0) (fun i => [(8, .int .i64 0), (4, .int .i64 0)]) (fun i => [nrC g a s]) (fun i => 0) [0, 1] (rfl) ?_; (conv => whnf); refine LoopQ.mk (by ((repeat (first | exact trivial | refine And.intro rfl ?_)); fail_if_success (focus skip))) (⟨_, pksA⟩) ?_; rintro i hi; refine WC.auto ?_; (conv => whnf))
          | refine Exists.intro _ (And.intro (resv_rfl rfl) ?_))
    all_goals first
      | omega
      | exact NumPost.leaf (a' := a12) (by unfold nrCount; rw [if_pos he]) pksA
      | skip
def nrText (s : NR) (most : Int) : List UInt8 × NR := if (nrCount s most).2.e = 0 then nrRaw (nrCount s most).2 (nrCount s most).1 else ([], (nrCount s most).2)
theorem cntK_facts (most : Int) : ∀ (k n : Nat) (b : List UInt8), (nrCntK most k n b).2.b.length ≤ b.length ∧ (nrCntK most k n b).1 ≤ 9007199254740991 ∧ 0 ≤ (nrCntK most k n b).1 := by
  intro k
  induction k with
  | zero => intro n b; exact ⟨Nat.zero_le _, (show (0 : Int) ≤ 9007199254740991 by omega), (show (0 : Int) ≤ 0 by omega)⟩
  | succ k ih =>
    intro n b
    cases b with
    | nil => exact ⟨Nat.zero_le _, (show (0 : Int) ≤ 9007199254740991 by omega), (show (0 : Int) ≤ 0 by omega)⟩
    | cons c b =>
      rw [nrCntK]
      split
      · exact ⟨Nat.zero_le _, (show (0 : Int) ≤ 9007199254740991 by omega), (show (0 : Int) ≤ 0 by omega)⟩
      split
      · have := ih (n * 128 + c.toNat % 128) b; exact ⟨by simp only [List.length_cons]; omega, this.2⟩
      split
      · exact ⟨Nat.zero_le _, (show (0 : Int) ≤ 9007199254740991 by omega), (show (0 : Int) ≤ 0 by omega)⟩
      split
      · exact ⟨Nat.zero_le _, (show (0 : Int) ≤ 9007199254740991 by omega), (show (0 : Int) ≤ 0 by omega)⟩
      · exact ⟨by simp only [List.length_cons]; omega, by dsimp only; omega, by dsimp only; omega⟩
theorem nrCount_facts (s : NR) (most : Int) : (nrCount s most).2.b.length ≤ s.b.length ∧ (nrCount s most).1 ≤ 9007199254740991 ∧ 0 ≤ (nrCount s most).1 := by
  unfold nrCount
  split
  · exact ⟨Nat.le_refl _, (show (0 : Int) ≤ 9007199254740991 by omega), (show (0 : Int) ≤ 0 by omega)⟩
  · exact cntK_facts most 8 0 s.b
theorem RText_spec (most : Int) (hn : s.b.length ≤ 1000000000) : Spec Try.prog 38 [.pointer (some ⟨g, 0, none⟩), .int .i64 most] [nrC g a s] [] (RawPost nrC g (nrText s most)) := by
  have hf := nrCount_facts s most
  refine Spec.intro Try.func38 rfl rfl Try.ntmps38 rfl fun w0 => ?_
  (all_goals (refine WC.auto ?_; (conv => whnf))); repeat' (first
          | ((with_reducible refine WB.auto ?_); (conv => whnf))
          | ((with_reducible refine WCB.auto ?_); (conv => whnf))
          | ((with_reducible refine Ob.at ?_); first | (refine Ob.mk (by first | omega | exact u8_bound _ | (have := u8_bound; omega) | (simp only [List.length_drop, List.length_take, List.length_append, List.length_replicate, List.length_set, List.length_cons, List.length_nil, Nat.min_def]; omega)) ?_; (conv => whnf)) | (refine Ob.mk' ?_ ?_; (conv => whnf)))
          | (refine spl_mk (fun hc => ?_) (fun hc => ?_) <;> (try simp only [Bool.not_eq_false', and_self, and_true, true_and, not_true, Bool.not_eq_true', Bool.not_false, Bool.not_true, decide_eq_true_eq, decide_eq_false_iff_not, Bool.false_eq_true, reduceCtorEq, Bool.true_eq_false, ne_eq, Decidable.not_not, Int.not_lt, Int.not_le, beq_self_eq_true, eq_self, not_true_eq_false, not_false_eq_true, Bool.not_eq_eq_eq_not, Bool.not_eq_true, Bool.not_eq_false, beq_iff_eq, beq_eq_false_iff_ne] at hc) <;> (try (exfalso; omega)) <;> (conv => whnf))
          | ((with_reducible refine NatK.at ?_); first | ((with_reducible refine NatK.cast ?_); (conv => whnf)) | (refine NatK.sym (by first | omega | exact u8_bound _ | (have := u8_bound; omega) | (simp only [List.length_drop, List.length_take, List.length_append, List.length_replicate, List.length_set, List.length_cons, List.length_nil, Nat.min_def]; omega)) (fun m hm => ?_); (conv => whnf)))
          | (intro q hq; (conv => whnf))
          | ((with_reducible refine W.at 8 ?_); first | ((refine W.stp (Stp.cal rfl rfl (RCount_spec _ _ _ _ hn) pksA rdsA) rfl rfl rfl ?_; rintro _ _ ⟨_, ⟨a8, rfl, rfl⟩, rfl⟩); all_goals ((refine W.auto ?_); (conv => whnf))))
          | ((with_reducible refine W.at 10 ?_); first | ((refine W.stp (Stp.cal rfl rfl (Err_spec _ _ _) pksA rdsA) rfl rfl rfl ?_; rintro _ _ ⟨_, ⟨rfl, rfl⟩, rfl⟩); all_goals ((refine W.auto ?_); (conv => whnf))))
          | ((with_reducible refine W.at 14 ?_); first | ((refine W.stp (Stp.cal rfl rfl (RRaw_spec _ _ (nrCount s most).2 _ (by omega)) pksA rdsA) rfl rfl rfl ?_; rintro _ _ ⟨_, ⟨A14, c14, k14, a14, hk14, rfl, rfl⟩, rfl⟩); all_goals ((refine W.auto ?_); (conv => whnf))))
          | refine Exists.intro _ (And.intro (resv_rfl rfl) ?_))
  all_goals first
    | exact RawPost.leaf (a' := a14) (by unfold nrText; rw [if_pos hc]) hk14 pksA
    | exact RawPost.leaf (a' := a8) (x := []) (by unfold nrText; rw [if_neg hc]) rfl pksA
    | skip
end
end Go.SX
