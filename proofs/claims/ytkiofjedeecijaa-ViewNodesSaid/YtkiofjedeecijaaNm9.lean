/- Numbers: what a reader reads: Num. -/
import Derived.Test.YtkiofjedeecijaaNm8
namespace Go.SX
open Go Go.RowKit Go.Proofs
set_option linter.unusedVariables false
set_option linter.unusedSimpArgs false
set_option maxHeartbeats 4000000
/-- The number that bytes tell, the highest first. -/
def beN (x : List UInt8) : Nat := x.foldl (fun n b => n * 256 + b.toNat) 0
theorem beN_snoc (x : List UInt8) (b : UInt8) : beN (x ++ [b]) = beN x * 256 + b.toNat := by simp [beN, List.foldl_append]
theorem beN_lt (x : List UInt8) : beN x < 256 ^ x.length := by
  have key : ∀ (n : Nat) (y : List UInt8), y.length = n → beN y < 256 ^ y.length := by
    intro n
    induction n with
    | zero => intro y hy; obtain rfl : y = [] := List.eq_nil_of_length_eq_zero hy; simp [beN]
    | succ n ih =>
      intro y hy
      have hne : y ≠ [] := by intro h; subst h; simp at hy
      obtain ⟨z, b, rfl⟩ : ∃ z b, y = z ++ [b] := ⟨_, _, (List.dropLast_concat_getLast hne).symm⟩
      rw [List.length_append, List.length_singleton] at hy
      have := ih z (by omega)
      rw [beN_snoc, List.length_append, List.length_singleton, Nat.pow_succ]
      have := b.toNat_lt
      omega
  exact key _ x rfl
theorem beN_lt8 {x : List UInt8} (h : x.length ≤ 8) : beN x ≤ 18446744073709551615 := by
  have h1 := beN_lt x
  have h2 : 256 ^ x.length ≤ 256 ^ 8 := Nat.pow_le_pow_right (by omega) h
  have h3 : (256 : Nat) ^ 8 = 18446744073709551616 := by decide
  omega
theorem beN_lt7 {x : List UInt8} (h : x.length ≤ 7) : beN x ≤ 72057594037927935 := by
  have h1 := beN_lt x
  have h2 : 256 ^ x.length ≤ 256 ^ 7 := Nat.pow_le_pow_right (by omega) h
  have h3 : (256 : Nat) ^ 7 = 72057594037927936 := by decide
  omega
def nrNum (s : NR) (w : Int) : Int × NR :=
  if s.e ≠ 0 then (0, s) else if ¬ (w = 1 ∨ w = 2 ∨ w = 4 ∨ w = 8) then (0, ⟨[], 2⟩) else
    if 9007199254740991 < beN (nrRaw s w).1 then (0, ⟨[], 9⟩) else (beN (nrRaw s w).1, (nrRaw s w).2)
theorem or_u64 (n : Nat) (b : UInt8) (h : n ≤ 72057594037927935) : bitI .or .u64 ((n : Int) * 256) (b.toNat : Int) = (n : Int) * 256 + (b.toNat : Int) := by
  have hb := b.toNat_lt
  have h1 : BitVec.ofInt 64 ((n : Int) * 256) = BitVec.ofNat 64 (n * 256) := by
    rw [show ((n : Int) * 256) = ((n * 256 : Nat) : Int) by omega, BitVec.ofInt_natCast]
  have h2 : BitVec.ofInt 64 (b.toNat : Int) = BitVec.ofNat 64 b.toNat := BitVec.ofInt_natCast ..
  have h3 : (BitVec.ofNat 64 (n * 256) ||| BitVec.ofNat 64 b.toNat).toNat = n * 256 + b.toNat := by
    rw [BitVec.toNat_or, BitVec.toNat_ofNat, BitVec.toNat_ofNat, Nat.mod_eq_of_lt (by omega), Nat.mod_eq_of_lt (by omega)]
    have := Nat.two_pow_add_eq_or_of_lt (b := b.toNat) (i := 8) (by omega) n
    rw [show 2 ^ 8 * n = n * 256 by omega] at this
    omega
  have h4 : bitI .or .u64 ((n : Int) * 256) (b.toNat : Int) = IntKind.u64.wrap ((BitVec.ofInt 64 ((n : Int) * 256) ||| BitVec.ofInt 64 (b.toNat : Int)).toNat : Int) := rfl
  rw [h4, h1, h2, h3, wrap_u64 (by omega) (by omega)]
  omega
theorem take_snoc {x : List UInt8} {k : Nat} (h : k < x.length) : x.take (k + 1) = x.take k ++ [x.getD k 0] := by
  rw [List.take_add_one, List.getElem?_eq_getElem h, List.getD_eq_getElem?_getD, List.getElem?_eq_getElem h]; rfl
theorem beN_take {x : List UInt8} {k : Nat} (h : k < x.length) : beN (x.take (k + 1)) = beN (x.take k) * 256 + (x.getD k 0).toNat := by
  rw [take_snoc h, beN_snoc]
theorem nrRaw_len {s : NR} {w : Int} : (nrRaw s w).1.length ≤ w.toNat := by
  unfold nrRaw
  split
  · simp
  split
  · simp
  split
  · simp
  · rw [List.length_take]; omega
theorem nrRaw_e {s : NR} {w : Int} (h : 0 < (nrRaw s w).1.length) : (nrRaw s w).2.e = 0 := by
  revert h; unfold nrRaw
  split
  · simp
  split
  · simp
  split
  · simp
  · intro _; rfl
theorem beN_pos {x : List UInt8} (h : 0 < beN x) : 0 < x.length := by
  cases x with
  | nil => simp [beN] at h
  | cons b x => simp
abbrev NumPost (C : Nat → NWA → NR → Chunk) (g : Nat) (m : Int × NR) (v : Value) (l' : List Chunk) : Prop := ∃ a', v = .int .i64 m.1 ∧ l' = [C g a' m.2]
theorem NumPost.leaf {C : Nat → NWA → NR → Chunk} {g : Nat} {a' : NWA} {m : Int × NR} {n : Int} {s' : NR} {l l1 : List Chunk} (h : m = (n, s')) (hc : PicksT [C g a' s'] l l1) :
    ∃ l', NumPost C g m (tup [.int .i64 n]) l' ∧ ChLe l l' := ⟨_, ⟨a', by rw [h]; rfl, by rw [h]⟩, _, hc⟩
theorem nrNum_err {s : NR} {w : Int} (h : s.e ≠ 0) : nrNum s w = (0, s) := if_pos h
theorem nrNum_odd {s : NR} {w : Int} (h : s.e = 0) (hw : ¬ (w = 1 ∨ w = 2 ∨ w = 4 ∨ w = 8)) : nrNum s w = (0, ⟨[], 2⟩) := by unfold nrNum; rw [if_neg (by simp [h]), if_pos hw]
theorem nrRaw_err {s : NR} {w : Int} (h : s.e ≠ 0) : nrRaw s w = ([], s) := if_pos h

theorem nrNum_ok {s : NR} {w : Int} (h : ¬ (s.e = 0 ∧ ¬ (w = 1 ∨ w = 2 ∨ w = 4 ∨ w = 8))) (hb : ¬ 9007199254740991 < beN (nrRaw s w).1) : nrNum s w = ((beN (nrRaw s w).1 : Int), (nrRaw s w).2) := by
  by_cases he : s.e = 0
  · unfold nrNum; rw [if_neg (by simp [he]), if_neg (fun hw => h ⟨he, hw⟩), if_neg hb]
  · rw [nrNum_err he, nrRaw_err he]; rfl
theorem nrNum_big {s : NR} {w : Int} (h : ¬ (s.e = 0 ∧ ¬ (w = 1 ∨ w = 2 ∨ w = 4 ∨ w = 8))) (hb : 9007199254740991 < beN (nrRaw s w).1) : nrNum s w = (0, ⟨[], 9⟩) ∧ (nrRaw s w).2.e = 0 := by
  by_cases he : s.e = 0
  · refine ⟨?_, nrRaw_e (beN_pos (by omega))⟩
    unfold nrNum; rw [if_neg (by simp [he]), if_neg (fun hw => h ⟨he, hw⟩), if_pos hb]
  · rw [nrRaw_err he] at hb; simp [beN] at hb
theorem nrRaw_len8 {s : NR} {w : Int} (h : ¬ (s.e = 0 ∧ ¬ (w = 1 ∨ w = 2 ∨ w = 4 ∨ w = 8))) : (nrRaw s w).1.length ≤ 8 := by
  by_cases he : s.e = 0
  · have := nrRaw_len (s := s) (w := w); omega
  · rw [nrRaw_err he]; simp
theorem beN_takeI {x : List UInt8} {k : Nat} (h : k < x.length) : (beN (x.take k) : Int) * 256 + ((x.getD k 0).toNat : Int) = (beN (x.take (k + 1)) : Int) := by rw [beN_take h]; omega
theorem beN_takeI' {x : List UInt8} {k : Nat} (h : k < x.length) : 256 * (beN (x.take k) : Int) + ((x.getD k 0).toNat : Int) = (beN (x.take (k + 1)) : Int) := by rw [beN_take h]; omega
section
variable (g : Nat) (a : NWA) (s : NR)
theorem RNum_spec (w : Int) (hn : w ≤ 9223372036854775807 ∧ s.b.length ≤ 1000000000) : Spec Try.prog 37 [.pointer (some ⟨g, 0, none⟩), .int .i64 w] [nrC g a s] [] (NumPost nrC g (nrNum s w)) := by
  by_cases hA : s.e = 0 ∧ ¬ (w = 1 ∨ w = 2 ∨ w = 4 ∨ w = 8)
  · refine Spec.intro Try.func37 rfl rfl Try.ntmps37 rfl fun w0 => ?_
    (all_goals (refine WC.auto ?_; (conv => whnf))); repeat' (first
          | ((with_reducible refine WB.auto ?_); (conv => whnf))
          | ((with_reducible refine WCB.auto ?_); (conv => whnf))
          | ((with_reducible refine Ob.at ?_); first | (refine Ob.mk (by first | omega | exact u8_bound _ | (have := u8_bound; omega) | (simp only [List.length_drop, List.length_take, List.length_append, List.length_replicate, List.length_set, List.length_cons, List.length_nil, Nat.min_def]; omega)) ?_; (conv => whnf)) | (refine Ob.mk' ?_ ?_; (conv => whnf)))
          | (refine spl_mk (fun hc => ?_) (fun hc => ?_) <;> (try simp only [Bool.not_eq_false', and_self, and_true, true_and, not_true, Bool.not_eq_true', Bool.not_false, Bool.not_true, decide_eq_true_eq, decide_eq_false_iff_not, Bool.false_eq_true, reduceCtorEq, Bool.true_eq_false, ne_eq, Decidable.not_not, Int.not_lt, Int.not_le, beq_self_eq_true, eq_self, not_true_eq_false, not_false_eq_true, Bool.not_eq_eq_eq_not, Bool.not_eq_true, Bool.not_eq_false, beq_iff_eq, beq_eq_false_iff_ne] at hc) <;> (try (exfalso; omega)) <;> (conv => whnf))
          | ((with_reducible refine NatK.at ?_); first | ((with_reducible refine NatK.cast ?_); (conv => whnf)) | (refine NatK.sym (by first | omega | exact u8_bound _ | (have := u8_bound; omega) | (simp only [List.length_drop, List.length_take, List.length_append, List.length_replicate, List.length_set, List.length_cons, List.length_nil, Nat.min_def]; omega)) (fun m hm => ?_); (conv => whnf)))
          | (intro q hq; (conv => whnf))
          | ((with_reducible refine W.at 9 ?_); first | ((refine W.stp (Stp.cal rfl rfl (Err_spec _ _ _) pksA rdsA) rfl rfl rfl ?_; rintro _ _ ⟨_, ⟨rfl, rfl⟩, rfl⟩); all_goals ((refine W.auto ?_); (conv => whnf))))
          | ((with_reducible refine W.at 13 ?_); first | ((refine W.stp (Stp.cal rfl rfl (wide_spec _) pksA rdsA) rfl rfl rfl ?_; rintro _ _ ⟨_, ⟨rfl, rfl⟩, rfl⟩); all_goals ((refine W.auto ?_); (conv => whnf))))
          | ((with_reducible refine W.at 17 ?_); first | ((refine W.stp (Stp.cal rfl rfl (fail_spec _ _ _ _) pksA rdsA) rfl rfl rfl ?_; rintro _ _ ⟨_, ⟨a17, rfl, rfl⟩, rfl⟩); all_goals ((refine W.auto ?_); (conv => whnf))))
          | ((with_reducible refine W.at 24 ?_); first | (refine W.ev (Ev.indexAddrN rfl rfl rdA (by omega)) rfl rfl rfl ?_; all_goals ((refine W.auto ?_); (conv => whnf))) | (refine W.ev (Ev.indexAddr1 rfl rfl rdA (by omega)) rfl rfl rfl ?_; all_goals ((refine W.auto ?_); (conv => whnf))))
          | ((with_reducible refine W.at 25 ?_); first | (refine W.evB (Ev.loadB rfl rdA (by first | omega | (simp only [List.length_drop, List.length_take, List.length_append, List.length_replicate, List.length_set, List.length_cons, List.length_nil, Nat.min_def]; omega) | (simp; omega))) rfl rfl rfl (fun hbyte => ?_); all_goals ((refine W.auto ?_); (conv => whnf))) | (refine W.ev (Ev.loadRec0 rfl rfl rdA (by exact fun _ => rfl) (by omega) (by rfl)) rfl rfl rfl ?_; all_goals ((refine W.auto ?_); (conv => whnf))))
          | ((with_reducible refine W.at 27 ?_); first | (refine W.ev (Ev.shlm 8 256 rfl rfl (by decide) (by decide) (by constructor <;> omega)) rfl rfl rfl ?_; all_goals ((refine W.auto ?_); (conv => whnf))) | (refine W.ev (Ev.shlw 8 256 rfl rfl (by decide) (by decide)) rfl rfl rfl ?_; all_goals ((refine W.auto ?_); (conv => whnf))))
          | ((with_reducible refine W.at 30 ?_); first | (refine W.ev (Ev.orBytes rfl rfl) rfl rfl rfl ?_; all_goals ((refine W.auto ?_); (conv => whnf))) | (refine W.ev (Ev.or rfl rfl) rfl rfl rfl ?_; all_goals ((refine W.auto ?_); (conv => whnf))))
          | ((with_reducible refine W.at 35 ?_); first | ((refine W.stp (Stp.cal rfl rfl (fail_spec _ _ _ _) pksA rdsA) rfl rfl rfl ?_; rintro _ _ ⟨_, ⟨a35, rfl, rfl⟩, rfl⟩); all_goals ((refine W.auto ?_); (conv => whnf))))
          | refine Exists.intro _ (And.intro (resv_rfl rfl) ?_))
    all_goals (first | exact NumPost.leaf (a' := a17) (s' := ⟨[], 2⟩) (nrNum_odd hA.1 hA.2) (by rw [nrFail_ok hA.1]; (repeat (first | exact PicksT.nil | (apply PicksT.cons; (focus ((repeat constructor); done))) | (apply PicksT.triv Triv.nilRow) | (apply PicksT.triv Triv.starM0) | (apply PicksT.pur; (focus (first | trivial | omega | (refine ⟨?_, ?_⟩ <;> (first | rfl | trivial | assumption | omega | (simp only [List.length_take, List.length_append, List.length_map, List.length_singleton, List.length_nil, List.length_cons, Nat.min_def]; omega) | (simp only [List.length_take, List.length_append, List.length_map, List.length_singleton, List.length_nil, List.length_cons, Nat.min_def]; split <;> omega) | (simp; done) | (simp; omega) | (simp_all; done) | (simp_all; omega))) | (refine ⟨?_, ?_, ?_⟩ <;> (first | rfl | trivial | assumption | omega | (simp only [List.length_take, List.length_append, List.length_map, List.length_singleton, List.length_nil, List.length_cons, Nat.min_def]; omega) | (simp only [List.length_take, List.length_append, List.length_map, List.length_singleton, List.length_nil, List.length_cons, Nat.min_def]; split <;> omega) | (simp; done) | (simp; omega) | (simp_all; done) | (simp_all; omega))) | (refine ⟨?_, ?_, ?_, ?_⟩ <;> (first | rfl | trivial | assumption | omega | (simp only [List.length_take, List.length_append, List.length_map, List.length_singleton, List.length_nil, List.length_cons, Nat.min_def]; omega) | (simp only [List.length_take, List.length_append, List.length_map, List.length_singleton, List.length_nil, List.length_cons, Nat.min_def]; split <;> omega) | (simp; done) | (simp; omega) | (simp_all; done) | (simp_all; omega))) | (first | rfl | trivial | assumption | omega | (simp only [List.length_take, List.length_append, List.length_map, List.length_singleton, List.length_nil, List.length_cons, Nat.min_def]; omega) | (simp only [List.length_take, List.length_append, List.length_map, List.length_singleton, List.length_nil, List.length_cons, Nat.min_def]; split <;> omega) | (simp; done) | (simp; omega) | (simp_all; done) | (simp_all; omega))))) | (apply PicksT.cutB; (focus ((repeat constructor); done)); (focus first | omega | (dsimp only; omega)); (focus first | omega | (dsimp only; omega))) | (apply PicksT.snocBH; (focus ((repeat constructor); done)); (focus ((repeat constructor); done)); (focus ((repeat constructor); done))) | (apply PicksT.triv Triv.nilB) | (apply PicksT.triv Triv.nilSlice) | (apply PicksT.asR; (focus ((repeat constructor); done))) | (apply PicksT.loR; (focus ((repeat constructor); done)); (focus first | omega | (constructor <;> omega) | (simp; omega))) | (apply PicksT.star)))) | skip)
  · have hl := nrRaw_len8 hA
    have hb := beN_lt8 hl
    refine Spec.intro Try.func37 rfl rfl Try.ntmps37 rfl fun w0 => ?_
    (all_goals (refine WC.auto ?_; (conv => whnf))); repeat' (first
          | ((with_reducible refine WB.auto ?_); (conv => whnf))
          | ((with_reducible refine WCB.auto ?_); (conv => whnf))
          | ((with_reducible refine Ob.at ?_); first | (refine Ob.mk (by first | omega | exact u8_bound _ | (have := u8_bound; omega) | (simp only [List.length_drop, List.length_take, List.length_append, List.length_replicate, List.length_set, List.length_cons, List.length_nil, Nat.min_def]; omega) | ((have hb7 := beN_lt7 (x := (nrRaw s w).1.take k) (by rw [List.length_take]; omega); omega))) ?_; (conv => whnf)) | (refine Ob.mk' ?_ ?_; (conv => whnf)))
          | (refine spl_mk (fun hc => ?_) (fun hc => ?_) <;> (try simp only [Bool.not_eq_false', and_self, and_true, true_and, not_true, Bool.not_eq_true', Bool.not_false, Bool.not_true, decide_eq_true_eq, decide_eq_false_iff_not, Bool.false_eq_true, reduceCtorEq, Bool.true_eq_false, ne_eq, Decidable.not_not, Int.not_lt, Int.not_le, beq_self_eq_true, eq_self, not_true_eq_false, not_false_eq_true, Bool.not_eq_eq_eq_not, Bool.not_eq_true, Bool.not_eq_false, beq_iff_eq, beq_eq_false_iff_ne] at hc) <;> (try (exfalso; omega)) <;> (conv => whnf))
          | ((with_reducible refine NatK.at ?_); first | ((with_reducible refine NatK.cast ?_); (conv => whnf)) | (refine NatK.sym (by first | omega | exact u8_bound _ | (have := u8_bound; omega) | (simp only [List.length_drop, List.length_take, List.length_append, List.length_replicate, List.length_set, List.length_cons, List.length_nil, Nat.min_def]; omega) | ((have hb7 := beN_lt7 (x := (nrRaw s w).1.take k) (by rw [List.length_take]; omega); omega))) (fun m hm => ?_); (conv => whnf)))
          | (intro q hq; (conv => whnf))
          | ((with_reducible refine W.at 9 ?_); first | ((refine W.stp (Stp.cal rfl rfl (Err_spec _ _ _) pksA rdsA) rfl rfl rfl ?_; rintro _ _ ⟨_, ⟨rfl, rfl⟩, rfl⟩); all_goals ((refine W.auto ?_); (conv => whnf))))
          | ((with_reducible refine W.at 13 ?_); first | ((refine W.stp (Stp.cal rfl rfl (wide_spec _) pksA rdsA) rfl rfl rfl ?_; rintro _ _ ⟨_, ⟨rfl, rfl⟩, rfl⟩); all_goals ((refine W.auto ?_); (conv => whnf))))
          | ((with_reducible refine W.at 17 ?_); first | ((refine W.stp (Stp.cal rfl rfl (fail_spec _ _ _ _) pksA rdsA) rfl rfl rfl ?_; rintro _ _ ⟨_, ⟨a17, rfl, rfl⟩, rfl⟩); all_goals ((refine W.auto ?_); (conv => whnf))))
          | ((with_reducible refine W.at 20 ?_); first | ((refine W.stp (Stp.cal rfl rfl (RRaw_spec _ _ _ _ (by omega)) pksA rdsA) rfl rfl rfl ?_; rintro _ _ ⟨_, ⟨A20, c20, k20, a20, hk20, rfl, rfl⟩, rfl⟩); all_goals ((refine W.auto ?_); (conv => whnf))))
          | ((with_reducible refine W.at 24 ?_); first | (refine W.ev (Ev.indexAddrN rfl rfl rdA (by omega)) rfl rfl rfl ?_; all_goals ((refine W.auto ?_); (conv => whnf))) | (refine W.ev (Ev.indexAddr1 rfl rfl rdA (by omega)) rfl rfl rfl ?_; all_goals ((refine W.auto ?_); (conv => whnf))))
          | ((with_reducible refine W.at 25 ?_); first | (refine W.evB (Ev.loadB rfl rdA (by first | omega | (simp only [List.length_drop, List.length_take, List.length_append, List.length_replicate, List.length_set, List.length_cons, List.length_nil, Nat.min_def]; omega) | (simp; omega))) rfl rfl rfl (fun hbyte => ?_); all_goals ((refine W.auto ?_); (conv => whnf))) | (refine W.ev (Ev.loadRec0 rfl rfl rdA (by exact fun _ => rfl) (by omega) (by rfl)) rfl rfl rfl ?_; all_goals ((refine W.auto ?_); (conv => whnf))))
          | ((with_reducible refine W.at 27 ?_); first | (refine W.ev (Ev.shlm 8 256 rfl rfl (by decide) (by decide) (by constructor <;> omega)) rfl rfl rfl ?_; all_goals ((refine W.auto ?_); (conv => whnf))) | (refine W.ev (Ev.shlw 8 256 rfl rfl (by decide) (by decide)) rfl rfl rfl ?_; all_goals ((refine W.auto ?_); (conv => whnf))))
          | ((with_reducible refine W.at 30 ?_); first | (refine W.ev (Ev.orBytes rfl rfl) rfl rfl rfl ?_; (try ((have hb7 := beN_lt7 (x := (nrRaw s w).1.take k) (by rw [List.length_take]; omega); rw [or_u64 _ _ hb7, beN_takeI (by omega)]))); all_goals ((refine W.auto ?_); (conv => whnf))) | (refine W.ev (Ev.or rfl rfl) rfl rfl rfl ?_; (try ((have hb7 := beN_lt7 (x := (nrRaw s w).1.take k) (by rw [List.length_take]; omega); rw [or_u64 _ _ hb7, beN_takeI (by omega)]))); all_goals ((refine W.auto ?_); (conv => whnf))))
          | ((with_reducible refine W.at 35 ?_); first | ((refine W.stp (Stp.cal rfl rfl (fail_spec _ _ _ _) pksA rdsA) rfl rfl rfl ?_; rintro _ _ ⟨_, ⟨a35, rfl, rfl⟩, rfl⟩); all_goals ((refine W.auto ?_); (conv => whnf))))
          | ((with_reducible refine WC.atC (c := .loop (.seq (.region 5 _ _) _)) ?_); refine WC.loopL (X := Nat) (0) (fun k => k ≤ (nrRaw s w).1.length) (fun k => [(22, .int .i64 (k : Int)), (5, .int .u64 (beN ((nrRaw s w).1.take k) : Int))]) (fun k => [nrC g a20 (nrRaw s w).2, bO A20 c20 5 k20 (nrRaw s w).1]) (fun k => (nrRaw s w).1.length - k) [0, 20, 21] (by omega) ?_; (conv => whnf); refine LoopQ.mk (by ((repeat (first | exact trivial | refine And.intro rfl ?_)); fail_if_success (focus skip))) (⟨_, pksA⟩) ?_; rintro k hk; refine WC.auto ?_; (conv => whnf))
          | (refine ⟨k + 1, ?_, by ((repeat (first | exact trivial | refine And.intro rfl ?_)); fail_if_success (focus skip)), (by (with_reducible refine chLeI ?_); exact ⟨_, pksA⟩), by omega⟩)
          | refine Exists.intro _ (And.intro (resv_rfl rfl) ?_))
    all_goals first
      | omega
      | (obtain rfl : k = (nrRaw s w).1.length := (by omega)); rw [List.take_length] at *; first | exact NumPost.leaf (a' := a20) (nrNum_ok hA (by omega)) pksA | (rw [nrFail_ok (nrNum_big hA (by omega)).2]; exact NumPost.leaf (a' := a35) (nrNum_big hA (by omega)).1 pksA)
      | skip
end
end Go.SX
