/- Numbers: what was written is read as it was. -/
import Derived.Test.YtaopfkmlmpimdaaNm15
namespace Go.SX
open Go Go.RowKit Go.Proofs
set_option linter.unusedVariables false
set_option linter.unusedSimpArgs false
set_option maxHeartbeats 8000000
theorem beB_succ (w : Nat) (n : Int) : beB (w + 1) n = beB w (n / 256) ++ [byteOf n] := by
  unfold beB
  rw [List.range_succ, List.map_append]
  congr 1
  · apply List.map_congr_left
    intro i hi
    have hi := List.mem_range.1 hi
    rw [show 8 * (w + 1 - 1 - i) = 8 + 8 * (w - 1 - i) by omega, Int.pow_add, show (2 : Int) ^ 8 = 256 by decide, ← Int.ediv_ediv_of_nonneg (by omega)]
  · simp
theorem beN_beB : ∀ (w : Nat) (n : Int), 0 ≤ n → n < 2 ^ (8 * w) → (beN (beB w n) : Int) = n := by
  intro w
  induction w with
  | zero => intro n h0 h1; have : n = 0 := by simp at h1; omega
            subst this; rfl
  | succ w ih =>
    intro n h0 h1
    rw [show 8 * (w + 1) = 8 * w + 8 by omega, Int.pow_add, show (2 : Int) ^ 8 = 256 by decide] at h1
    rw [beB_succ, beN_snoc]
    have h2 := ih (n / 256) (by omega) (by omega)
    have h3 := byteOf_toNat n
    omega
theorem nrRaw_app (x t : List UInt8) (m : Int) (hm : m = x.length) : nrRaw ⟨x ++ t, 0⟩ m = (x, ⟨t, 0⟩) := by
  unfold nrRaw
  rw [if_neg (by simp), if_neg (by omega), if_neg (by simp only [List.length_append]; omega)]
  subst hm; simp
theorem num_back (w : Nat) (hw : (w : Int) = 1 ∨ (w : Int) = 2 ∨ (w : Int) = 4 ∨ (w : Int) = 8) (n : Int) (h : 0 ≤ n ∧ n < 2 ^ (8 * w) ∧ n ≤ 9007199254740991) (t : List UInt8) : nrNum ⟨beB w n ++ t, 0⟩ w = (n, ⟨t, 0⟩) := by
  have hb := beN_beB w n h.1 h.2.1
  have hr := nrRaw_app (beB w n) t w (by rw [beB_len])
  rw [nrNum_ok (by dsimp only; omega) (by rw [hr]; dsimp only; omega), hr]
  simp only [hb]
theorem cnt_read (most : Int) : ∀ (q : Nat) (rest : List UInt8), (hiG q).length ≤ 8 → nrCntK most 8 0 (hiG q ++ rest) = nrCntK most (8 - (hiG q).length) q rest := by
  intro q
  induction q using Nat.strongRecOn with
  | _ q ih =>
    intro rest hl
    by_cases h0 : q = 0
    · subst h0; rw [hiG_zero]; rfl
    · have hp := hiG_pos h0
      have hl2 : (hiG q).length = (hiG (q / 128)).length + 1 := by rw [hp]; simp
      rw [hp, List.append_assoc, List.singleton_append, ih (q / 128) (by omega) _ (by omega)]
      have hc : (byteOf ((128 + q % 128 : Nat) : Int)).toNat = 128 + q % 128 := byteOf_nat (by omega)
      rw [cnt_more (by omega) (by
        rintro ⟨h1, h2⟩
        have h3 : (hiG (q / 128)).length = 0 := by omega
        have h4 : q / 128 = 0 := by
          apply Classical.byContradiction; intro hne
          have := congrArg List.length (hiG_pos hne)
          simp at this; omega
        omega) (by omega), hc]
      rw [List.length_append, List.length_singleton]
      congr 1 <;> omega
theorem cnt_back (n : Nat) (h : n ≤ 9007199254740991) (most : Int) (hm : (n : Int) ≤ most) (t : List UInt8) : nrCount ⟨cntB n ++ t, 0⟩ most = ((n : Int), ⟨t, 0⟩) := by
  have h8 := cntB_len8 (n := n) (by omega)
  rw [cntB_nat, List.length_append, List.length_singleton] at h8
  rw [nrCount_e rfl]
  dsimp only
  rw [cntB_nat, List.append_assoc, cnt_read most _ _ (by omega), List.singleton_append]
  have hc : (byteOf ((n % 128 : Nat) : Int)).toNat = n % 128 := byteOf_nat (by omega)
  rw [cnt_ok (by omega) (by omega) (by omega) (by rw [hc]; omega), hc]
  rw [show n / 128 * 128 + n % 128 % 128 = n by omega]
theorem text_back (x : List UInt8) (h : x.length ≤ 50) (t : List UInt8) : nrText ⟨cntB (x.length : Int) ++ (x ++ t), 0⟩ 50 = (x, ⟨t, 0⟩) := by
  unfold nrText
  rw [cnt_back x.length (by omega) 50 (by omega), if_pos rfl]
  exact nrRaw_app x t _ rfl
theorem wNum_ok (b : List UInt8) (w : Nat) (n : Int) (h : numErr w n = 0) : nwNum ⟨b, 0⟩ w n = ⟨b ++ beB w n, 0⟩ := by
  unfold nwNum; rw [h]; rfl
theorem wCount_ok (b : List UInt8) (n : Int) (h : 0 ≤ n ∧ n ≤ 9007199254740991) : nwCount ⟨b, 0⟩ n = ⟨b ++ cntB n, 0⟩ := by
  unfold nwCount; rw [cntErr_ok h]; rfl
theorem wText_ok (b x : List UInt8) (h : x.length ≤ 50) : nwText ⟨b, 0⟩ x = ⟨b ++ (cntB (x.length : Int) ++ x), 0⟩ := by
  unfold nwText; rw [wCount_ok b _ (by omega), ← List.append_assoc]; rfl
end Go.SX
