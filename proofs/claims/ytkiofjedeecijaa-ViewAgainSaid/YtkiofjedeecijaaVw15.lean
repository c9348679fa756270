/- Views: what was written is read as it was, and the other way round: counts and numbers. -/
import Derived.Test.YtkiofjedeecijaaVw12
namespace Go.SX
open Go Go.RowKit Go.Proofs
set_option linter.unusedVariables false
set_option linter.unusedSimpArgs false
set_option maxHeartbeats 4000000
theorem byteOf_nat {m : Nat} (h : m < 256) : (byteOf (m : Int)).toNat = m := by
  have := byteOf_toNat (m : Int)
  omega
theorem hiG_zero : hiG 0 = [] := by unfold hiG; simp
theorem hiG_pos {m : Nat} (h : m ≠ 0) : hiG m = hiG (m / 128) ++ [byteOf ((128 + m % 128 : Nat) : Int)] := by
  conv => lhs; unfold hiG
  rw [dif_neg h]
  rw [show ((128 + m % 128 : Nat) : Int) = (128 : Int) + ((m % 128 : Nat) : Int) by omega]
theorem cntB_nat (n : Nat) : cntB (n : Int) = hiG (n / 128) ++ [byteOf ((n % 128 : Nat) : Int)] := by
  unfold cntB hiI
  rw [show ((n : Int) / 128).toNat = n / 128 by omega, show (n : Int) % 128 = ((n % 128 : Nat) : Int) by omega]
theorem cntB_len8 {n : Int} (h : 0 ≤ n ∧ n ≤ 9007199254740991) : (cntB n).length ≤ 8 := by
  obtain ⟨n, rfl⟩ : ∃ m : Nat, n = m := ⟨n.toNat, by omega⟩
  rw [cntB_nat, List.length_append, List.length_singleton]
  have e : (128 : Nat) ^ 7 = 562949953421312 := by decide
  have := hiG_len (n / 128) 7 (by rw [e]; omega)
  omega
theorem cntK_again (most : Int) : ∀ (k n : Nat) (b : List UInt8), (n = 0 → k = 8) → (((nrCntK most k n b).2.e ≠ 0 → (nrCntK most k n b).1 = 0 ∧ (nrCntK most k n b).2.b = []) ∧
    ((nrCntK most k n b).2.e = 0 → ∃ pre, b = pre ++ (nrCntK most k n b).2.b ∧ cntB (nrCntK most k n b).1 = hiG n ++ pre)) := by
  intro k
  induction k with
  | zero => intro n b hn; exact ⟨fun _ => ⟨rfl, rfl⟩, fun h => absurd h (by simp [nrCntK])⟩
  | succ k ih =>
    intro n b hn
    cases b with
    | nil => exact ⟨fun _ => ⟨rfl, rfl⟩, fun h => absurd h (by simp [nrCntK])⟩
    | cons c b =>
      have hc256 := c.toNat_lt
      rw [nrCntK]
      split
      · exact ⟨fun _ => ⟨rfl, rfl⟩, fun h => absurd h (by simp)⟩
      rename_i hform
      split
      · rename_i hc
        have hne : n * 128 + c.toNat % 128 ≠ 0 := by
          intro h0
          have h1 : n = 0 := by omega
          have h2 := hn h1
          omega
        have h1 := ih (n * 128 + c.toNat % 128) b (fun h => absurd h hne)
        refine ⟨h1.1, fun h => ?_⟩
        obtain ⟨pre, hp1, hp2⟩ := h1.2 h
        refine ⟨c :: pre, by rw [List.cons_append, ← hp1], ?_⟩
        rw [hp2, hiG_pos hne, show (n * 128 + c.toNat % 128) / 128 = n by omega, show 128 + (n * 128 + c.toNat % 128) % 128 = c.toNat by omega]
        have : byteOf (c.toNat : Int) = c := by
          apply UInt8.toNat_inj.1
          rw [byteOf_nat (by omega)]
        rw [this]; simp
      · rename_i hc
        split
        · exact ⟨fun _ => ⟨rfl, rfl⟩, fun h => absurd h (by simp)⟩
        split
        · exact ⟨fun _ => ⟨rfl, rfl⟩, fun h => absurd h (by simp)⟩
        · refine ⟨fun h => absurd rfl h, fun _ => ⟨[c], rfl, ?_⟩⟩
          dsimp only
          rw [cntB_nat, show (n * 128 + c.toNat % 128) / 128 = n by omega, show (n * 128 + c.toNat % 128) % 128 = c.toNat by omega]
          have : byteOf (c.toNat : Int) = c := by
            apply UInt8.toNat_inj.1
            rw [byteOf_nat (by omega)]
          rw [this]
theorem nrCount_again (b : List UInt8) : (((nrCount ⟨b, 0⟩ 9007199254740991).2.e ≠ 0 → (nrCount ⟨b, 0⟩ 9007199254740991).1 = 0 ∧ (nrCount ⟨b, 0⟩ 9007199254740991).2.b = []) ∧
    ((nrCount ⟨b, 0⟩ 9007199254740991).2.e = 0 → b = cntB (nrCount ⟨b, 0⟩ 9007199254740991).1 ++ (nrCount ⟨b, 0⟩ 9007199254740991).2.b)) := by
  rw [nrCount_e rfl]
  have h := cntK_again 9007199254740991 8 0 b (fun _ => rfl)
  refine ⟨h.1, fun he => ?_⟩
  obtain ⟨pre, h1, h2⟩ := h.2 he
  rw [hiG_zero, List.nil_append] at h2
  rw [h2]; exact h1
theorem beB_succ (w : Nat) (n : Int) : beB (w + 1) n = beB w (n / 256) ++ [byteOf n] := by
  unfold beB
  rw [List.range_succ, List.map_append]
  congr 1
  · apply List.map_congr_left
    intro i hi
    have hi := List.mem_range.1 hi
    rw [show 8 * (w + 1 - 1 - i) = 8 + 8 * (w - 1 - i) by omega, Int.pow_add, show (2 : Int) ^ 8 = 256 by decide, ← Int.ediv_ediv_of_nonneg (by omega)]
  · simp
theorem beN_beB : ∀ (w : Nat) (n : Int), 0 ≤ n → n < 2 ^ (8 * w) → (beN (beB w n) : Int) = n := by
  intro w
  induction w with
  | zero => intro n h0 h1; have : n = 0 := by simp at h1; omega
            subst this; rfl
  | succ w ih =>
    intro n h0 h1
    rw [show 8 * (w + 1) = 8 * w + 8 by omega, Int.pow_add, show (2 : Int) ^ 8 = 256 by decide] at h1
    rw [beB_succ, beN_snoc]
    have h2 := ih (n / 256) (by omega) (by omega)
    have h3 := byteOf_toNat n
    omega
theorem nrRaw_app (x t : List UInt8) (m : Int) (hm : m = x.length) : nrRaw ⟨x ++ t, 0⟩ m = (x, ⟨t, 0⟩) := by
  unfold nrRaw
  rw [if_neg (by simp), if_neg (by omega), if_neg (by simp only [List.length_append]; omega)]
  subst hm; simp
theorem num_back (w : Nat) (hw : (w : Int) = 1 ∨ (w : Int) = 2 ∨ (w : Int) = 4 ∨ (w : Int) = 8) (n : Int) (h : 0 ≤ n ∧ n < 2 ^ (8 * w) ∧ n ≤ 9007199254740991) (t : List UInt8) : nrNum ⟨beB w n ++ t, 0⟩ w = (n, ⟨t, 0⟩) := by
  have hb := beN_beB w n h.1 h.2.1
  have hr := nrRaw_app (beB w n) t w (by rw [beB_len])
  rw [nrNum_ok (by dsimp only; omega) (by rw [hr]; dsimp only; omega), hr]
  simp only [hb]
theorem cnt_read (most : Int) : ∀ (q : Nat) (rest : List UInt8), (hiG q).length ≤ 8 → nrCntK most 8 0 (hiG q ++ rest) = nrCntK most (8 - (hiG q).length) q rest := by
  intro q
  induction q using Nat.strongRecOn with
  | _ q ih =>
    intro rest hl
    by_cases h0 : q = 0
    · subst h0; rw [hiG_zero]; rfl
    · have hp := hiG_pos h0
      have hl2 : (hiG q).length = (hiG (q / 128)).length + 1 := by rw [hp]; simp
      rw [hp, List.append_assoc, List.singleton_append, ih (q / 128) (by omega) _ (by omega)]
      have hc : (byteOf ((128 + q % 128 : Nat) : Int)).toNat = 128 + q % 128 := byteOf_nat (by omega)
      rw [cnt_more (by omega) (by
        rintro ⟨h1, h2⟩
        have h3 : (hiG (q / 128)).length = 0 := by omega
        have h4 : q / 128 = 0 := by
          apply Classical.byContradiction; intro hne
          have := congrArg List.length (hiG_pos hne)
          simp at this; omega
        omega) (by omega), hc]
      rw [List.length_append, List.length_singleton]
      congr 1 <;> omega
theorem cnt_back (n : Nat) (h : n ≤ 9007199254740991) (most : Int) (hm : (n : Int) ≤ most) (t : List UInt8) : nrCount ⟨cntB n ++ t, 0⟩ most = ((n : Int), ⟨t, 0⟩) := by
  have h8 := cntB_len8 (n := n) (by omega)
  rw [cntB_nat, List.length_append, List.length_singleton] at h8
  rw [nrCount_e rfl]
  dsimp only
  rw [cntB_nat, List.append_assoc, cnt_read most _ _ (by omega), List.singleton_append]
  have hc : (byteOf ((n % 128 : Nat) : Int)).toNat = n % 128 := byteOf_nat (by omega)
  rw [cnt_ok (by omega) (by omega) (by omega) (by rw [hc]; omega), hc]
  rw [show n / 128 * 128 + n % 128 % 128 = n by omega]
theorem wNum_ok (b : List UInt8) (w : Nat) (n : Int) (h : numErr w n = 0) : nwNum ⟨b, 0⟩ w n = ⟨b ++ beB w n, 0⟩ := by
  unfold nwNum; rw [h]; rfl
theorem wCount_ok (b : List UInt8) (n : Int) (h : 0 ≤ n ∧ n ≤ 9007199254740991) : nwCount ⟨b, 0⟩ n = ⟨b ++ cntB n, 0⟩ := by
  unfold nwCount; rw [cntErr_ok h]; rfl
theorem cnt_backI (n : Int) (h : 0 ≤ n ∧ n ≤ 9007199254740991) (most : Int) (hm : n ≤ most) (t : List UInt8) : nrCount ⟨cntB n ++ t, 0⟩ most = (n, ⟨t, 0⟩) := by
  obtain ⟨n, rfl⟩ : ∃ k : Nat, n = k := ⟨n.toNat, by omega⟩
  exact cnt_back n (by omega) most hm t
theorem nrRaw_le (s : NR) (n : Int) : (nrRaw s n).2.b.length ≤ s.b.length ∧ (nrRaw s n).1.length ≤ s.b.length := by
  unfold nrRaw
  split
  · exact ⟨Nat.le_refl _, Nat.zero_le _⟩
  split
  · exact ⟨Nat.zero_le _, Nat.zero_le _⟩
  split
  · exact ⟨Nat.zero_le _, Nat.zero_le _⟩
  · exact ⟨by simp, by simp; omega⟩
theorem nrNum_le (s : NR) (w : Int) : (nrNum s w).2.b.length ≤ s.b.length := by
  unfold nrNum
  split
  · exact Nat.le_refl _
  split
  · exact Nat.zero_le _
  split
  · exact Nat.zero_le _
  · exact (nrRaw_le s w).1
theorem nrText_le (s : NR) (m : Int) : (nrText s m).2.b.length ≤ s.b.length := by
  unfold nrText
  have h := (nrCount_facts s m).1
  split
  · exact Nat.le_trans (nrRaw_le _ _).1 h
  · exact h
end Go.SX
