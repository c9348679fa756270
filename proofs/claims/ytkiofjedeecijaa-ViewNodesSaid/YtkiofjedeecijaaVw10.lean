/- Views: the law's rows may be; what is until a step. -/
import Derived.Test.YtkiofjedeecijaaVw9
namespace Go.SX
open Go Go.RowKit Go.Proofs
set_option linter.unusedVariables false
set_option linter.unusedSimpArgs false
set_option maxHeartbeats 4000000
theorem nth_made {ss : List SH} {m k : Nat} (h : k < m) : nth (madeL ss m) k = mkR ss k := by
  rw [nth_get (by rw [madeL_len]; exact h)]
  simp [madeL]
theorem take_made {ss : List SH} {m k : Nat} (h : k ≤ m) : (madeL ss m).take k = madeL ss k := by
  apply List.ext_getElem
  · rw [List.length_take, madeL_len, madeL_len]; omega
  · intro i h1 h2; simp [madeL]
theorem lastS_made (ss : List SH) : ∀ k, lastS ((madeL ss k).map RH.vr) = stepS ss k
  | 0 => rfl
  | k + 1 => by rw [madeL_succ, List.map_append, List.map_singleton, lastS, List.getLast?_concat]; rfl
theorem node_ok {x : Int} (h : 0 ≤ x ∧ x < 7) : nodeL.getD x.toNat 0 ∈ nodeL := by
  obtain ⟨n, rfl⟩ : ∃ n : Nat, x = n := ⟨x.toNat, by omega⟩
  have : n = 0 ∨ n = 1 ∨ n = 2 ∨ n = 3 ∨ n = 4 ∨ n = 5 ∨ n = 6 := by omega
  rcases this with rfl | rfl | rfl | rfl | rfl | rfl | rfl <;> decide
theorem node_in {ss : List SH} {k : Nat} : (mkR ss k).vr.node ∈ nodeL := node_ok ⟨by omega, by omega⟩
theorem mkR_may (ss : List SH) (k : Nat) (hk : k < 60) : mayP (mkR ss k).vr := by
  have h1 := stepS_le ss (k + 1)
  have h2 := @node_in ss k
  simp only [nodeL, List.mem_cons, List.not_mem_nil, or_false] at h2
  have h3 : (mkR ss k).vr.bs.length ≤ 100 := by show ((nth ss k).bs.take 100).length ≤ 100; rw [List.length_take]; omega
  have h4 : (mkR ss k).vr.kind = 1 + (nth ss k).kind % 3 := rfl
  have h5 : (mkR ss k).vr.step = stepS ss (k + 1) := rfl
  unfold mayP
  rw [h4, h5]
  exact ⟨by omega, by omega, by omega, by omega, by omega, by omega⟩
theorem made_add (ss : List SH) (k : Nat) (hk : k < 60) : addE ((madeL ss k).map RH.vr) (mkR ss k).vr = 0 := by
  have h1 := stepS_le ss k
  have hs : ¬ (mkR ss k).vr.step < lastS ((madeL ss k).map RH.vr) := by
    rw [lastS_made]
    show ¬ stepS ss (k + 1) < _
    have : stepS ss (k + 1) = stepS ss k + (nth ss k).on % 3 := rfl
    omega
  unfold addE
  rw [if_neg (by simp only [not_or, Decidable.not_not]; exact ⟨mkR_may ss k hk, hs⟩), if_neg (by rw [List.length_map, madeL_len]; omega)]
theorem made_ok (ss : List SH) (m : Nat) (hm : m ≤ 60) : okR ((madeL ss m).map RH.vr) := by
  refine ⟨by rw [List.length_map, madeL_len]; omega, fun k hk => ?_⟩
  have hk' : k < m := by simpa [madeL_len] using hk
  have e1 : ((madeL ss m).map RH.vr)[k] = (mkR ss k).vr := by
    rw [List.getElem_map, ← nth_get, nth_made hk']
  rw [e1, ← List.map_take, take_made (by omega)]
  exact made_add ss k (by omega)
/-- What the law's rows are like. -/
structure RowsOK (hs : List RH) : Prop where
  ok : okR (hs.map RH.vr)
  len : hs.length ≤ 60
  row : ∀ k < hs.length, mayP (nth hs k).vr ∧ (nth hs k).vr.node ∈ nodeL ∧ (nth hs k).bs.length ≤ 100
  up : ∀ i k, i ≤ k → k < hs.length → (nth hs i).step ≤ (nth hs k).step
theorem stepS_up (ss : List SH) : ∀ d i, stepS ss i ≤ stepS ss (i + d)
  | 0, i => Int.le_refl _
  | d + 1, i => by
    have h1 := stepS_up ss d i
    have h2 : stepS ss (i + d + 1) = stepS ss (i + d) + (nth ss (i + d)).on % 3 := rfl
    show _ ≤ stepS ss (i + d + 1)
    omega
theorem rows_made (ss : List SH) (m : Nat) (hm : m ≤ 60) : RowsOK (madeL ss m) where
  ok := made_ok ss m hm
  len := by rw [madeL_len]; exact hm
  row k hk := by
    rw [madeL_len] at hk
    rw [nth_made hk]
    exact ⟨mkR_may ss k (by omega), node_in, by show ((nth ss k).bs.take 100).length ≤ 100; rw [List.length_take]; omega⟩
  up i k hi hk := by
    rw [madeL_len] at hk
    rw [nth_made hk, nth_made (by omega)]
    have := stepS_up ss (k - i) (i + 1)
    rwa [show i + 1 + (k - i) = k + 1 by omega] at this
theorem made_sub (ss : List SH) (m : Nat) (hm : m ≤ ss.length) : Sub (allC ((madeL ss m).map RH.rd)) (allC (ss.map SH.rd)) := by
  have key : ∀ k < m, Sub (RH.rd (mkR ss k)) (SH.rd (nth ss k)) := fun k hk => by
    have h1 : ((nth ss k).bs.take 100).length ≤ (nth ss k).bs.length := by rw [List.length_take]; omega
    have h2 : (nth ss k).bs.take ((nth ss k).bs.take 100).length = (nth ss k).bs.take 100 := by
      rw [List.length_take]
      by_cases h : 100 ≤ (nth ss k).bs.length
      · rw [Nat.min_eq_left h]
      · rw [Nat.min_eq_right (by omega), List.take_length, List.take_of_length_le (by omega)]
    have h3 := Sub.hiB (A := (nth ss k).A) (c := (nth ss k).c) (bs := (nth ss k).bs) h1
    rw [h2] at h3
    exact h3
  have hin : ∀ k < m, SH.rd (nth ss k) ∈ ss.map SH.rd := fun k hk => List.mem_map_of_mem (nth_mem (by omega))
  refine ⟨fun x hx => ?_, fun w hw c hc => ?_⟩
  · obtain ⟨c, hc, hx⟩ := mem_fps.1 hx
    obtain ⟨h, hh, rfl⟩ := List.mem_map.1 hc
    obtain ⟨k, hk, rfl⟩ := List.mem_map.1 hh
    exact mem_fps.2 ⟨_, hin k (List.mem_range.1 hk), (key k (List.mem_range.1 hk)).1 x hx⟩
  · obtain ⟨h, hh, rfl⟩ := List.mem_map.1 hc
    obtain ⟨k, hk, rfl⟩ := List.mem_map.1 hh
    exact (key k (List.mem_range.1 hk)).2 w (hw _ (hin k (List.mem_range.1 hk)))
theorem made_to (A : Option Addr) (c : Nat) (ss : List SH) (hs : List RH) (hsc : ∀ s ∈ ss, s.bs.length ≤ s.c) (h : hs = madeL ss (min ss.length 60)) :
    Spec Try.prog 6 [.slice A ss.length c, .int .i64 60] [] [sliceC A c 4 ss.length (recs SH.cells ss), allC (ss.map SH.rd)]
      (fun v l' => ∃ A' c', v = .slice A' hs.length c' ∧ l' = [rowC A' c' 37 4 hs.length (recs RH.cells hs)]) := by
  subst h
  have := made_spec A c 60 ss (by decide) hsc
  rw [madeL_len]
  exact this
/-- Rows whose steps rise, up to a step: the first ones. -/
theorem filter_up {hs : List RH} (h : ∀ i k, i ≤ k → k < hs.length → (nth hs i).step ≤ (nth hs k).step) (s : Int) :
    ∃ j, j ≤ hs.length ∧ (hs.map RH.vr).filter (fun r => decide (r.step ≤ s)) = (hs.map RH.vr).take j ∧ (∀ i, i < j → (nth hs i).step ≤ s) ∧ ∀ i, j ≤ i → i < hs.length → s < (nth hs i).step := by
  have key : ∀ k, k ≤ hs.length → ∃ j, j ≤ k ∧ ((hs.take k).map RH.vr).filter (fun r => decide (r.step ≤ s)) = (hs.map RH.vr).take j ∧ (∀ i, i < j → (nth hs i).step ≤ s) ∧ ∀ i, j ≤ i → i < k → s < (nth hs i).step := by
    intro k
    induction k with
    | zero => exact fun _ => ⟨0, Nat.le_refl 0, rfl, fun i h => absurd h (by omega), fun i h1 h2 => absurd h2 (by omega)⟩
    | succ k ih =>
      intro hk
      obtain ⟨j, h1, h2, h3, h4⟩ := ih (by omega)
      by_cases hc : (nth hs k).step ≤ s
      · have hj : j = k := by
          by_cases hjk : j = k
          · exact hjk
          · have := h4 j (Nat.le_refl j) (by omega)
            have := h j k h1 (by omega)
            omega
        subst hj
        refine ⟨j + 1, Nat.le_refl _, ?_, fun i hi => ?_, fun i h5 h6 => absurd h6 (by omega)⟩
        · rw [filter_step (by omega), h2, if_pos (by exact decide_eq_true hc), ← List.map_take, ← take_vr (show j < hs.length by omega), List.map_take]
        · by_cases hij : i = j
          · subst hij; exact hc
          · exact h3 i (by omega)
      · refine ⟨j, by omega, ?_, h3, fun i h5 h6 => ?_⟩
        · rw [filter_step (by omega), h2, if_neg (by intro hd; exact hc (of_decide_eq_true hd)), List.append_nil]
        · by_cases hik : i = k
          · subst hik; omega
          · exact h4 i h5 (by omega)
  obtain ⟨j, h1, h2, h3, h4⟩ := key hs.length (Nat.le_refl _)
  rw [List.take_length] at h2
  exact ⟨j, h1, h2, h3, h4⟩
section
variable (g : Nat) (a : VA)
theorem Until_to (rs out : List VR) (step : Int) (ha : a.hs.map RH.vr = rs) (hl : rs.length ≤ 20000) (hb : ∀ r ∈ rs, r.bs.length ≤ 1000000) (hf : rs.filter (fun r => decide (r.step ≤ step)) = out) :
    Spec Try.prog 15 [.pointer (some ⟨g, 0, none⟩), .int .i64 step] [] [viewC g a] (fun v l' => ∃ g' a', v = .pointer (some ⟨g', 0, none⟩) ∧ a'.hs.map RH.vr = out ∧ l' = [viewC g' a']) :=
  (Until_spec g a.A a.c a.hs (by rw [vlen ha]; exact hl) (fun h hh => hb h.vr (ha ▸ List.mem_map_of_mem hh)) step).mono fun v l' ⟨g', a', h1, h2, h3⟩ => ⟨g', a', h1, by rw [h2, ha, hf], h3⟩
theorem Len_to (rs : List VR) (ha : a.hs.map RH.vr = rs) : Spec Try.prog 16 [.pointer (some ⟨g, 0, none⟩)] [] [viewC g a] (fun v l' => v = .int .i64 rs.length ∧ l' = []) :=
  (Len_spec g a.A a.c a.hs).mono fun v l' ⟨h1, h2⟩ => ⟨by rw [h1, vlen ha], h2⟩
end
end Go.SX
