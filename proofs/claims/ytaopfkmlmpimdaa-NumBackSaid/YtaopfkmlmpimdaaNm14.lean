/- Numbers: NumOrder, NumAgain. -/
import Derived.Test.YtaopfkmlmpimdaaNm13
namespace Go.SX
open Go Go.RowKit Go.Proofs
set_option linter.unusedVariables false
set_option linter.unusedSimpArgs false
set_option maxHeartbeats 8000000
theorem nwCount_ok {n : Int} (h : 0 ≤ n ∧ n ≤ 9007199254740991) : nwCount ⟨[], 0⟩ n = ⟨cntB n, 0⟩ := by
  unfold nwCount; rw [cntErr_ok h]; rfl
theorem count_spec (n : Int) (h : 0 ≤ n ∧ n ≤ 9007199254740991) : Spec Try.prog 25 [.int .i64 n] [] [] (fun v l' => ∃ A c k, k = (cntB n).length ∧ v = .slice A k c ∧ l' = [bO A c 5 k (cntB n)]) := by
  have hl := cntB_len h.2
  refine Spec.intro Try.func25 rfl rfl Try.ntmps25 rfl fun w0 => ?_
  (all_goals (refine WC.auto ?_; (conv => whnf))); repeat' (first
          | ((with_reducible refine WB.auto ?_); (conv => whnf))
          | ((with_reducible refine WCB.auto ?_); (conv => whnf))
          | ((with_reducible refine Ob.at ?_); first | (refine Ob.mk (by first | omega | exact u8_bound _ | (have := u8_bound; omega) | (simp only [List.length_drop, List.length_take, List.length_append, List.length_replicate, List.length_set, List.length_cons, List.length_nil, Nat.min_def]; omega)) ?_; (conv => whnf)) | (refine Ob.mk' ?_ ?_; (conv => whnf)))
          | (refine spl_mk (fun hc => ?_) (fun hc => ?_) <;> (try simp only [Bool.not_eq_false', and_self, and_true, true_and, not_true, Bool.not_eq_true', Bool.not_false, Bool.not_true, decide_eq_true_eq, decide_eq_false_iff_not, Bool.false_eq_true, reduceCtorEq, Bool.true_eq_false, ne_eq, Decidable.not_not, Int.not_lt, Int.not_le, beq_self_eq_true, eq_self, not_true_eq_false, not_false_eq_true, Bool.not_eq_eq_eq_not, Bool.not_eq_true, Bool.not_eq_false, beq_iff_eq, beq_eq_false_iff_ne] at hc) <;> (try (exfalso; omega)) <;> (conv => whnf))
          | ((with_reducible refine NatK.at ?_); first | ((with_reducible refine NatK.cast ?_); (conv => whnf)) | (refine NatK.sym (by first | omega | exact u8_bound _ | (have := u8_bound; omega) | (simp only [List.length_drop, List.length_take, List.length_append, List.length_replicate, List.length_set, List.length_cons, List.length_nil, Nat.min_def]; omega)) (fun m hm => ?_); (conv => whnf)))
          | (intro q hq; (conv => whnf))
          | ((with_reducible refine W.at 6 ?_); first | ((refine W.stp (Stp.cal rfl rfl (Write0_spec) pksA rdsA) rfl rfl rfl ?_; rintro _ _ ⟨_, ⟨g6, a6, rfl, rfl⟩, rfl⟩); all_goals ((refine W.auto ?_); (conv => whnf))))
          | ((with_reducible refine W.at 8 ?_); first | ((first | (refine W.stp (Stp.cal rfl rfl (Spec.ask fun (hq : _ ∧ _) => Count_spec _ _ _ _ hq.1 hq.2) pksA rdsA) rfl rfl rfl ?_; rintro _ _ ⟨_, ⟨a8, rfl, rfl⟩, rfl⟩; (rw [nwCount_ok h])) | (refine W.stp (Stp.cal rfl rfl (Spec.ask fun (hq : _ ∧ _) => Count_spec _ _ _ _ hq.1 hq.2) pksA rdsA) rfl rfl rfl ?_; rintro _ _ ⟨_, ⟨a8, rfl, rfl⟩, rfl⟩)); all_goals ((refine W.auto ?_); (conv => whnf))))
          | ((with_reducible refine W.at 9 ?_); first | ((first | (refine W.stp (Stp.cal rfl rfl (Bytes_spec _ _ ⟨cntB n, 0⟩ (by dsimp only; omega)) pksA rdsA) rfl rfl rfl ?_; rintro _ _ ⟨_, ⟨A9, c9, k9, hk9, rfl, rfl⟩, rfl⟩) | (refine W.stp (Stp.cal rfl rfl (Spec.ask fun (hq : _) => Bytes_spec _ _ _ hq) pksA rdsA) rfl rfl rfl ?_; rintro _ _ ⟨_, ⟨A9, c9, k9, hk9, rfl, rfl⟩, rfl⟩)); all_goals ((refine W.auto ?_); (conv => whnf))))
          | refine Exists.intro _ (And.intro (resv_rfl rfl) ?_))
  all_goals exact ⟨_, ⟨_, _, _, hk9, rfl, rfl⟩, _, pksA⟩
theorem less_snoc (c d : UInt8) : ∀ (xs ys : List UInt8), xs.length = ys.length → (Op.bytesLess (xs ++ [c]) (ys ++ [d]) = true ↔ Op.bytesLess xs ys = true ∨ (xs = ys ∧ c.toNat < d.toNat)) := by
  intro xs
  induction xs with
  | nil =>
    intro ys h
    obtain rfl : ys = [] := List.eq_nil_of_length_eq_zero h.symm
    simp [Op.bytesLess, UInt8.lt_iff_toNat_lt]
  | cons x xs ih =>
    intro ys h
    cases ys with
    | nil => simp at h
    | cons y ys =>
      have h' : xs.length = ys.length := by simpa using h
      have := ih ys h'
      simp only [List.cons_append, Op.bytesLess, Bool.or_eq_true, Bool.and_eq_true, this, beq_iff_eq, List.cons.injEq]
      constructor
      · rintro (h1 | ⟨h1, h2 | h2⟩)
        · exact .inl (.inl h1)
        · exact .inl (.inr ⟨h1, h2⟩)
        · exact .inr ⟨⟨h1, h2.1⟩, h2.2⟩
      · rintro ((h1 | h1) | h1)
        · exact .inl h1
        · exact .inr ⟨h1.1, .inl h1.2⟩
        · exact .inr ⟨h1.1.1, .inr ⟨h1.1.2, h1.2⟩⟩
theorem byteOf_nat {m : Nat} (h : m < 256) : (byteOf (m : Int)).toNat = m := by
  have := byteOf_toNat (m : Int)
  omega
theorem hiG_zero : hiG 0 = [] := by unfold hiG; simp
theorem hiG_pos {m : Nat} (h : m ≠ 0) : hiG m = hiG (m / 128) ++ [byteOf ((128 + m % 128 : Nat) : Int)] := by
  conv => lhs; unfold hiG
  rw [dif_neg h]
  rw [show ((128 + m % 128 : Nat) : Int) = (128 : Int) + ((m % 128 : Nat) : Int) by omega]
theorem hiG_order : ∀ (b a : Nat), a < b → (hiG a).length < (hiG b).length ∨ ((hiG a).length = (hiG b).length ∧ Op.bytesLess (hiG a) (hiG b) = true) := by
  intro b
  induction b using Nat.strongRecOn with
  | _ b ih =>
    intro a h
    rw [hiG_pos (m := b) (by omega)]
    by_cases ha : a = 0
    · subst ha; rw [hiG_zero]; left; simp
    · rw [hiG_pos ha]
      simp only [List.length_append, List.length_singleton]
      by_cases hlt : a / 128 < b / 128
      · rcases ih (b / 128) (by omega) (a / 128) hlt with h1 | ⟨h1, h2⟩
        · exact .inl (by omega)
        · exact .inr ⟨by omega, (less_snoc _ _ _ _ h1).2 (.inl h2)⟩
      · have he : a / 128 = b / 128 := by omega
        rw [he]
        refine .inr ⟨rfl, (less_snoc _ _ _ _ rfl).2 (.inr ⟨rfl, ?_⟩)⟩
        rw [byteOf_nat (by omega), byteOf_nat (by omega)]
        omega
theorem cntB_nat (n : Nat) : cntB (n : Int) = hiG (n / 128) ++ [byteOf ((n % 128 : Nat) : Int)] := by
  unfold cntB hiI
  rw [show ((n : Int) / 128).toNat = n / 128 by omega, show (n : Int) % 128 = ((n % 128 : Nat) : Int) by omega]
theorem cntB_order {a b : Int} (h : 0 ≤ a ∧ a < b) : (cntB a).length < (cntB b).length ∨ ((cntB a).length = (cntB b).length ∧ Op.bytesLess (cntB a) (cntB b) = true) := by
  obtain ⟨a, rfl⟩ : ∃ m : Nat, a = m := ⟨a.toNat, by omega⟩
  obtain ⟨b, rfl⟩ : ∃ m : Nat, b = m := ⟨b.toNat, by omega⟩
  rw [cntB_nat, cntB_nat]
  simp only [List.length_append, List.length_singleton]
  by_cases hlt : a / 128 < b / 128
  · rcases hiG_order (b / 128) (a / 128) hlt with h1 | ⟨h1, h2⟩
    · exact .inl (by omega)
    · exact .inr ⟨by omega, (less_snoc _ _ _ _ h1).2 (.inl h2)⟩
  · have he : a / 128 = b / 128 := by omega
    rw [he]
    refine .inr ⟨rfl, (less_snoc _ _ _ _ rfl).2 (.inr ⟨rfl, ?_⟩)⟩
    rw [byteOf_nat (by omega), byteOf_nat (by omega)]
    omega
theorem cntB_len8 {n : Int} (h : 0 ≤ n ∧ n ≤ 9007199254740991) : (cntB n).length ≤ 8 := by
  obtain ⟨n, rfl⟩ : ∃ m : Nat, n = m := ⟨n.toNat, by omega⟩
  rw [cntB_nat, List.length_append, List.length_singleton]
  have e : (128 : Nat) ^ 7 = 562949953421312 := by decide
  have := hiG_len (n / 128) 7 (by rw [e]; omega)
  omega
theorem cntK_again (most : Int) : ∀ (k n : Nat) (b : List UInt8), (n = 0 → k = 8) → (((nrCntK most k n b).2.e ≠ 0 → (nrCntK most k n b).1 = 0 ∧ (nrCntK most k n b).2.b = []) ∧
    ((nrCntK most k n b).2.e = 0 → ∃ pre, b = pre ++ (nrCntK most k n b).2.b ∧ cntB (nrCntK most k n b).1 = hiG n ++ pre)) := by
  intro k
  induction k with
  | zero => intro n b hn; exact ⟨fun _ => ⟨rfl, rfl⟩, fun h => absurd h (by simp [nrCntK])⟩
  | succ k ih =>
    intro n b hn
    cases b with
    | nil => exact ⟨fun _ => ⟨rfl, rfl⟩, fun h => absurd h (by simp [nrCntK])⟩
    | cons c b =>
      have hc256 := c.toNat_lt
      rw [nrCntK]
      split
      · exact ⟨fun _ => ⟨rfl, rfl⟩, fun h => absurd h (by simp)⟩
      rename_i hform
      split
      · rename_i hc
        have hne : n * 128 + c.toNat % 128 ≠ 0 := by
          intro h0
          have h1 : n = 0 := by omega
          have h2 := hn h1
          omega
        have h1 := ih (n * 128 + c.toNat % 128) b (fun h => absurd h hne)
        refine ⟨h1.1, fun h => ?_⟩
        obtain ⟨pre, hp1, hp2⟩ := h1.2 h
        refine ⟨c :: pre, by rw [List.cons_append, ← hp1], ?_⟩
        rw [hp2, hiG_pos hne, show (n * 128 + c.toNat % 128) / 128 = n by omega, show 128 + (n * 128 + c.toNat % 128) % 128 = c.toNat by omega]
        have : byteOf (c.toNat : Int) = c := by
          apply UInt8.toNat_inj.1
          rw [byteOf_nat (by omega)]
        rw [this]; simp
      · rename_i hc
        split
        · exact ⟨fun _ => ⟨rfl, rfl⟩, fun h => absurd h (by simp)⟩
        split
        · exact ⟨fun _ => ⟨rfl, rfl⟩, fun h => absurd h (by simp)⟩
        · refine ⟨fun h => absurd rfl h, fun _ => ⟨[c], rfl, ?_⟩⟩
          dsimp only
          rw [cntB_nat, show (n * 128 + c.toNat % 128) / 128 = n by omega, show (n * 128 + c.toNat % 128) % 128 = c.toNat by omega]
          have : byteOf (c.toNat : Int) = c := by
            apply UInt8.toNat_inj.1
            rw [byteOf_nat (by omega)]
          rw [this]
theorem nrCount_again (b : List UInt8) : (((nrCount ⟨b, 0⟩ 9007199254740991).2.e ≠ 0 → (nrCount ⟨b, 0⟩ 9007199254740991).1 = 0 ∧ (nrCount ⟨b, 0⟩ 9007199254740991).2.b = []) ∧
    ((nrCount ⟨b, 0⟩ 9007199254740991).2.e = 0 → b = cntB (nrCount ⟨b, 0⟩ 9007199254740991).1 ++ (nrCount ⟨b, 0⟩ 9007199254740991).2.b)) := by
  rw [nrCount_e rfl]
  have h := cntK_again 9007199254740991 8 0 b (fun _ => rfl)
  refine ⟨h.1, fun he => ?_⟩
  obtain ⟨pre, h1, h2⟩ := h.2 he
  rw [hiG_zero, List.nil_append] at h2
  rw [h2]; exact h1

theorem NumOrder_law (a b : Int) : Spec Try.prog 4 [.int .i64 a, .int .i64 b] [] [] (fun v l' => v = .bool true ∧ l' = []) := by
  refine Spec.intro Try.func4 rfl rfl Try.ntmps4 rfl fun w0 => ?_
  (all_goals (refine WC.auto ?_; (conv => whnf))); repeat' (first
          | ((with_reducible refine WB.auto ?_); (conv => whnf))
          | ((with_reducible refine WCB.auto ?_); (conv => whnf))
          | ((with_reducible refine Ob.at ?_); first | (refine Ob.mk (by first | omega | exact u8_bound _ | (have := u8_bound; omega) | (simp only [List.length_drop, List.length_take, List.length_append, List.length_replicate, List.length_set, List.length_cons, List.length_nil, Nat.min_def]; omega)) ?_; (conv => whnf)) | (refine Ob.mk' ?_ ?_; (conv => whnf)))
          | (refine spl_mk (fun hc => ?_) (fun hc => ?_) <;> (try simp only [Bool.not_eq_false', and_self, and_true, true_and, not_true, Bool.not_eq_true', Bool.not_false, Bool.not_true, decide_eq_true_eq, decide_eq_false_iff_not, Bool.false_eq_true, reduceCtorEq, Bool.true_eq_false, ne_eq, Decidable.not_not, Int.not_lt, Int.not_le, beq_self_eq_true, eq_self, not_true_eq_false, not_false_eq_true, Bool.not_eq_eq_eq_not, Bool.not_eq_true, Bool.not_eq_false, beq_iff_eq, beq_eq_false_iff_ne] at hc) <;> (try (exfalso; omega)) <;> (conv => whnf))
          | ((with_reducible refine NatK.at ?_); first | ((with_reducible refine NatK.cast ?_); (conv => whnf)) | (refine NatK.sym (by first | omega | exact u8_bound _ | (have := u8_bound; omega) | (simp only [List.length_drop, List.length_take, List.length_append, List.length_replicate, List.length_set, List.length_cons, List.length_nil, Nat.min_def]; omega)) (fun m hm => ?_); (conv => whnf)))
          | (intro q hq; (conv => whnf))
          | ((with_reducible refine W.at 8 ?_); first | ((refine W.stp (Stp.cal rfl rfl (Bring_spec _ _ ⟨by omega, by omega⟩) pksA rdsA) rfl rfl rfl ?_; rintro _ _ ⟨_, ⟨⟨m8, rfl, hm8, hl8, hu8⟩, rfl⟩, rfl⟩); all_goals ((refine W.auto ?_); (conv => whnf))))
          | ((with_reducible refine W.at 10 ?_); first | ((refine W.stp (Stp.cal rfl rfl (Bring_spec _ _ ⟨by omega, by omega⟩) pksA rdsA) rfl rfl rfl ?_; rintro _ _ ⟨_, ⟨⟨m10, rfl, hm10, hl10, hu10⟩, rfl⟩, rfl⟩); all_goals ((refine W.auto ?_); (conv => whnf))))
          | ((with_reducible refine W.at 12 ?_); first | ((refine W.stp (Stp.cal rfl rfl (count_spec _ ⟨by omega, by omega⟩) pksA rdsA) rfl rfl rfl ?_; rintro _ _ ⟨_, ⟨A12, c12, k12, hk12, rfl, rfl⟩, rfl⟩); all_goals ((refine W.auto ?_); (conv => whnf))))
          | ((with_reducible refine W.at 14 ?_); first | ((refine W.stp (Stp.cal rfl rfl (count_spec _ ⟨by omega, by omega⟩) pksA rdsA) rfl rfl rfl ?_; rintro _ _ ⟨_, ⟨A14, c14, k14, hk14, rfl, rfl⟩, rfl⟩); all_goals ((refine W.auto ?_); (conv => whnf))))
          | ((with_reducible refine W.at 27 ?_); first | ((refine W.stp (Stp.cal rfl rfl (EqBytes_spec _ _ _ _ _ _ _ _) pksA rdsA) rfl rfl rfl ?_; rintro _ _ ⟨_, ⟨rfl, rfl⟩, rfl⟩); all_goals ((refine W.auto ?_); (conv => whnf))))
          | ((with_reducible refine W.at 29 ?_); first | ((refine W.stp (Stp.cal rfl rfl (works_spec) pksA rdsA) rfl rfl rfl ?_; rintro _ _ ⟨_, ⟨rfl, rfl⟩, rfl⟩); all_goals ((refine W.auto ?_); (conv => whnf))))
          | ((with_reducible refine W.at 44 ?_); first | (refine W.ev (Ev.toStr rfl rdA) rfl rfl rfl ?_; all_goals ((refine W.auto ?_); (conv => whnf))))
          | ((with_reducible refine W.at 46 ?_); first | (refine W.ev (Ev.toStr rfl rdA) rfl rfl rfl ?_; all_goals ((refine W.auto ?_); (conv => whnf))))
          | ((with_reducible refine W.at 56 ?_); first | ((refine W.stp (Stp.cal rfl rfl (works_spec) pksA rdsA) rfl rfl rfl ?_; rintro _ _ ⟨_, ⟨rfl, rfl⟩, rfl⟩); all_goals ((refine W.auto ?_); (conv => whnf))))
          | refine Exists.intro _ (And.intro (resv_rfl rfl) ?_))
  all_goals first
    | omega
    | first | exact ⟨_, ⟨rfl, rfl⟩, _, pksA⟩ | skip
    | skip
  all_goals (exfalso; have h8 := cntB_len8 (n := m8) ⟨by omega, by omega⟩; have h10 := cntB_len8 (n := m10) ⟨by omega, by omega⟩)
  all_goals first
    | omega
    | (rcases cntB_order (a := m10) (b := m8) ⟨by omega, by omega⟩ with h1 | ⟨h1, h2⟩
       · omega
       · first | omega | (rw [ByteArray.toList_eq, ByteArray.toList_eq] at hc; exact absurd (h2.symm.trans hc) (by decide)))
    | (rcases cntB_order (a := m8) (b := m10) ⟨by omega, by omega⟩ with h1 | ⟨h1, h2⟩
       · omega
       · first | omega | (rw [ByteArray.toList_eq, ByteArray.toList_eq] at hc; exact absurd (h2.symm.trans hc) (by decide)))
    | (apply hc; congr 1)
    | skip
theorem NumAgain_law (A : Option Addr) (c n : Nat) (bs : List UInt8) : Spec Try.prog 5 [.slice A n c] [] [bR A c n bs] (fun v l' => v = .bool true ∧ l' = []) := by
  refine Spec.fact (d := bR A c n bs) (Rd.here (Sub.refl _)) bR_len fun hb => ?_
  obtain ⟨hb1, hb2, hb3⟩ := hb
  subst hb1
  refine Spec.intro Try.func5 rfl rfl Try.ntmps5 rfl fun w0 => ?_
  (all_goals (refine WC.auto ?_; (conv => whnf))); repeat' (first
          | ((with_reducible refine WB.auto ?_); (conv => whnf))
          | ((with_reducible refine WCB.auto ?_); (conv => whnf))
          | ((with_reducible refine Ob.at ?_); first | (refine Ob.mk (by first | omega | exact u8_bound _ | (have := u8_bound; omega) | (simp only [List.length_drop, List.length_take, List.length_append, List.length_replicate, List.length_set, List.length_cons, List.length_nil, Nat.min_def]; omega)) ?_; (conv => whnf)) | (refine Ob.mk' ?_ ?_; (conv => whnf)))
          | (refine spl_mk (fun hc => ?_) (fun hc => ?_) <;> (try simp only [Bool.not_eq_false', and_self, and_true, true_and, not_true, Bool.not_eq_true', Bool.not_false, Bool.not_true, decide_eq_true_eq, decide_eq_false_iff_not, Bool.false_eq_true, reduceCtorEq, Bool.true_eq_false, ne_eq, Decidable.not_not, Int.not_lt, Int.not_le, beq_self_eq_true, eq_self, not_true_eq_false, not_false_eq_true, Bool.not_eq_eq_eq_not, Bool.not_eq_true, Bool.not_eq_false, beq_iff_eq, beq_eq_false_iff_ne] at hc) <;> (try (exfalso; omega)) <;> (conv => whnf))
          | ((with_reducible refine NatK.at ?_); first | ((with_reducible refine NatK.cast ?_); (conv => whnf)) | (refine NatK.sym (by first | omega | exact u8_bound _ | (have := u8_bound; omega) | (simp only [List.length_drop, List.length_take, List.length_append, List.length_replicate, List.length_set, List.length_cons, List.length_nil, Nat.min_def]; omega)) (fun m hm => ?_); (conv => whnf)))
          | (intro q hq; (conv => whnf))
          | ((with_reducible refine W.at 12 ?_); first | ((refine W.stp (Stp.cal rfl rfl (Read0_spec _ _ _ _ (by omega)) pksA rdsA) rfl rfl rfl ?_; rintro _ _ ⟨_, ⟨g12, a12, rfl, rfl⟩, rfl⟩); all_goals ((refine W.auto ?_); (conv => whnf))))
          | ((with_reducible refine W.at 14 ?_); first | ((refine W.stp (Stp.cal rfl rfl (RCount_spec _ _ ⟨List.take m bs, 0⟩ 9007199254740991 (by dsimp only; rw [List.length_take]; omega)) pksA rdsA) rfl rfl rfl ?_; rintro _ _ ⟨_, ⟨a14, rfl, rfl⟩, rfl⟩; (have hg := nrCount_again (List.take m bs); have hf := nrCount_facts ⟨List.take m bs, 0⟩ 9007199254740991; generalize nrCount ⟨List.take m bs, 0⟩ 9007199254740991 = R at hg hf ⊢; obtain ⟨x, s'⟩ := R; dsimp only at hg hf ⊢; have hl : (List.take m bs).length = m := by rw [List.length_take]; omega)); all_goals ((refine W.auto ?_); (conv => whnf))))
          | ((with_reducible refine W.at 16 ?_); first | ((refine W.stp (Stp.cal rfl rfl (Err_spec _ _ _) pksA rdsA) rfl rfl rfl ?_; rintro _ _ ⟨_, ⟨rfl, rfl⟩, rfl⟩); all_goals ((refine W.auto ?_); (conv => whnf))))
          | ((with_reducible refine W.at 22 ?_); first | ((refine W.stp (Stp.cal rfl rfl (Left_spec _ _ _) pksA rdsA) rfl rfl rfl ?_; rintro _ _ ⟨_, ⟨rfl, rfl⟩, rfl⟩); all_goals ((refine W.auto ?_); (conv => whnf))))
          | ((with_reducible refine W.at 27 ?_); first | ((refine W.stp (Stp.cal rfl rfl (End_spec _ _ _) pksA rdsA) rfl rfl rfl ?_; rintro _ _ ⟨_, ⟨rfl, rfl⟩, rfl⟩); all_goals ((refine W.auto ?_); (conv => whnf))))
          | ((with_reducible refine W.at 29 ?_); first | ((refine W.stp (Stp.cal rfl rfl (Err_spec _ _ _) pksA rdsA) rfl rfl rfl ?_; rintro _ _ ⟨_, ⟨rfl, rfl⟩, rfl⟩); all_goals ((refine W.auto ?_); (conv => whnf))))
          | ((with_reducible refine W.at 33 ?_); first | ((refine W.stp (Stp.cal rfl rfl (works_spec) pksA rdsA) rfl rfl rfl ?_; rintro _ _ ⟨_, ⟨rfl, rfl⟩, rfl⟩); all_goals ((refine W.auto ?_); (conv => whnf))))
          | ((with_reducible refine W.at 36 ?_); first | ((refine W.stp (Stp.cal rfl rfl (count_spec _ ⟨by omega, by omega⟩) pksA rdsA) rfl rfl rfl ?_; rintro _ _ ⟨_, ⟨A36, c36, k36, hk36, rfl, rfl⟩, rfl⟩); all_goals ((refine W.auto ?_); (conv => whnf))))
          | ((with_reducible refine W.at 42 ?_); first | ((refine W.stp (Stp.cal rfl rfl (Left_spec _ _ _) pksA rdsA) rfl rfl rfl ?_; rintro _ _ ⟨_, ⟨rfl, rfl⟩, rfl⟩); all_goals ((refine W.auto ?_); (conv => whnf))))
          | ((with_reducible refine W.at 51 ?_); first | ((refine W.stp (Stp.cal rfl rfl (EqBytes_spec _ _ _ _ _ _ _ _) pksA rdsA) rfl rfl rfl ?_; rintro _ _ ⟨_, ⟨rfl, rfl⟩, rfl⟩); all_goals ((refine W.auto ?_); (conv => whnf))))
          | ((with_reducible refine W.at 54 ?_); first | ((refine W.stp (Stp.cal rfl rfl (works_spec) pksA rdsA) rfl rfl rfl ?_; rintro _ _ ⟨_, ⟨rfl, rfl⟩, rfl⟩); all_goals ((refine W.auto ?_); (conv => whnf))))
          | refine Exists.intro _ (And.intro (resv_rfl rfl) ?_))
  all_goals first
    | omega
    | (exfalso; apply hc; unfold nrEnd; rw [if_neg (by omega)])
    | (exfalso; have := (hg.1 (by assumption)).1; omega)
    | (exfalso; have := (hg.1 (by assumption)).2; rw [this] at hc; simp at hc; done)
    | (exfalso; have h := hg.2 (by assumption); have hlen := congrArg List.length h; rw [List.length_append] at hlen; first
       | omega
       | (apply hc; have h2 := congrArg (List.take k36) h; rw [List.take_take, List.take_left' hk36.symm, show min k36 m = k36 by omega] at h2; exact h2.symm))
    | first | exact ⟨_, ⟨rfl, rfl⟩, _, pksA⟩ | skip
end Go.SX
