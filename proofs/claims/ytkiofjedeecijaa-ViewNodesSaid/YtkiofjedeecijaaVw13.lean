/- ViewNodes: how often a node is there, and where. -/
import Derived.Test.YtkiofjedeecijaaVw12
namespace Go.SX
open Go Go.RowKit Go.Proofs
set_option linter.unusedVariables false
set_option linter.unusedSimpArgs false
set_option maxHeartbeats 4000000
/-- How many of the first rows are a node's. -/
def cn (hs : List RH) (k n : Nat) : Nat := ((hs.take k).map RH.vr).countP fun r => decide (r.node = (n : Int))
def atV (hs : List RH) (k : Nat) : List Value := [.int .i64 (cn hs k 0), .int .i64 (cn hs k 1), .int .i64 (cn hs k 2), .int .i64 (cn hs k 3), .int .i64 (cn hs k 4), .int .i64 (cn hs k 5), .int .i64 (cn hs k 6), .int .i64 (cn hs k 7), .int .i64 (cn hs k 8), .int .i64 (cn hs k 9), .int .i64 (cn hs k 10), .int .i64 (cn hs k 11), .int .i64 (cn hs k 12), .int .i64 (cn hs k 13)]
theorem cn_step {hs : List RH} {k : Nat} (hk : k < hs.length) (n : Nat) : cn hs (k + 1) n = cn hs k n + if (nth hs k).node = (n : Int) then 1 else 0 := by
  unfold cn
  rw [take_vr hk, List.countP_append, List.countP_singleton]
  congr 1
  by_cases h : (nth hs k).node = (n : Int)
  · rw [if_pos h, if_pos (show decide ((nth hs k).vr.node = (n : Int)) = true from decide_eq_true h)]
  · rw [if_neg h, if_neg (show ¬ decide ((nth hs k).vr.node = (n : Int)) = true from fun hd => h (of_decide_eq_true hd))]
theorem cn_le (hs : List RH) (k n : Nat) : cn hs k n ≤ k := by
  have h1 : cn hs k n ≤ ((hs.take k).map RH.vr).length := List.countP_le_length
  rw [List.length_map, List.length_take] at h1
  omega
theorem atV_step {hs : List RH} {k : Nat} (n : Nat) (hk : k < hs.length) (h : (nth hs k).node = (n : Int)) (hn : n < 14) : (atV hs k).set n (.int .i64 ((cn hs k n : Int) + 1)) = atV hs (k + 1) := by
  have hs' : ∀ m : Nat, cn hs (k + 1) m = cn hs k m + if n = m then 1 else 0 := fun m => by
    rw [cn_step hk m, h]
    congr 1
    by_cases e : n = m
    · rw [if_pos e, if_pos (by omega)]
    · rw [if_neg e, if_neg (by omega)]
  have : n = 0 ∨ n = 1 ∨ n = 2 ∨ n = 3 ∨ n = 4 ∨ n = 5 ∨ n = 6 ∨ n = 7 ∨ n = 8 ∨ n = 9 ∨ n = 10 ∨ n = 11 ∨ n = 12 ∨ n = 13 := by omega
  unfold atV
  simp only [hs']
  rcases this with rfl | rfl | rfl | rfl | rfl | rfl | rfl | rfl | rfl | rfl | rfl | rfl | rfl | rfl <;> rfl
theorem filter_at (p : VR → Bool) (rs : List VR) (k : Nat) (hk : k < rs.length) (hp : p rs[k] = true) : (rs.take k).countP p < (rs.filter p).length ∧ (rs.filter p)[(rs.take k).countP p]? = some rs[k] := by
  have e : rs.filter p = (rs.take k).filter p ++ rs[k] :: (rs.drop (k + 1)).filter p := by
    have h1 : rs = rs.take k ++ rs[k] :: rs.drop (k + 1) := by rw [← List.drop_eq_getElem_cons hk, List.take_append_drop]
    have h2 : rs.filter p = (rs.take k ++ rs[k] :: rs.drop (k + 1)).filter p := congrArg (List.filter p) h1
    rw [h2, List.filter_append, List.filter_cons, if_pos hp]
  have hl : (rs.take k).countP p = ((rs.take k).filter p).length := List.countP_eq_length_filter
  rw [e, hl]
  refine ⟨by rw [List.length_append, List.length_cons]; omega, ?_⟩
  rw [List.getElem?_append_right (Nat.le_refl _), Nat.sub_self]
  rfl
theorem row_at {hs os : List RH} {k n : Nat} (hk : k < hs.length) (hn : (nth hs k).node = (n : Int)) (ho : os.map RH.vr = (hs.map RH.vr).filter (fun r => decide (r.node = (n : Int)))) :
    cn hs k n < os.length ∧ (nth os (cn hs k n)).vr = (nth hs k).vr := by
  have hk' : k < (hs.map RH.vr).length := by simpa using hk
  have e1 : (hs.map RH.vr)[k] = (nth hs k).vr := by rw [List.getElem_map, nth_get hk]
  obtain ⟨h1, h2⟩ := filter_at (fun r => decide (r.node = (n : Int))) (hs.map RH.vr) k hk' (by rw [e1]; exact decide_eq_true hn)
  rw [← ho, ← List.map_take, e1, List.getElem?_map] at h2
  rw [← ho, ← List.map_take, List.length_map] at h1
  refine ⟨h1, ?_⟩
  have h3 : cn hs k n < os.length := h1
  change Option.map RH.vr os[cn hs k n]? = _ at h2
  rw [List.getElem?_eq_getElem h3] at h2
  rw [nth_get h3]
  exact Option.some.inj h2
/-- The parts, one by one. -/
def sumL (Q : List VA) : Nat := (Q.map fun a => a.hs.length).sum
theorem sumL_snoc (Q : List VA) (a : VA) : sumL (Q ++ [a]) = sumL Q + a.hs.length := by simp [sumL]
instance : Inhabited VA := ⟨⟨none, 0, []⟩⟩
def slV (Q : List VA) (j : Nat) : Value := .slice (nth Q j).A (nth Q j).hs.length (nth Q j).c
def partV (Q : List VA) : List Value := [slV Q 0, slV Q 1, slV Q 2, .slice none 0 0, .slice none 0 0, .slice none 0 0, .slice none 0 0, .slice none 0 0, .slice none 0 0, .slice none 0 0, slV Q 3, slV Q 4, slV Q 5, slV Q 6]
def ixN (j : Nat) : Nat := if j < 3 then j else j + 7
theorem slV_snoc (Q : List VA) (a : VA) (j : Nat) : slV (Q ++ [a]) j = if j = Q.length then .slice a.A a.hs.length a.c else slV Q j := by
  unfold slV nth
  split
  · next h => subst h; simp [List.getD]
  · next h =>
    by_cases hj : j < Q.length
    · simp [List.getD, List.getElem?_append_left hj]
    · simp [List.getD, List.getElem?_append_right (show Q.length ≤ j by omega), List.getElem?_eq_none (show Q.length ≤ j by omega), List.getElem?_eq_none (show ([a] : List VA).length ≤ j - Q.length by simp; omega)]
theorem partV_set (Q : List VA) (a : VA) (h : Q.length < 7) : (partV Q).set (ixN Q.length) (.slice a.A a.hs.length a.c) = partV (Q ++ [a]) := by
  unfold partV
  simp only [slV_snoc]
  have : Q.length = 0 ∨ Q.length = 1 ∨ Q.length = 2 ∨ Q.length = 3 ∨ Q.length = 4 ∨ Q.length = 5 ∨ Q.length = 6 := by omega
  rcases this with h | h | h | h | h | h | h <;> rw [h] <;> rfl
def PartsOK (rs : List VR) (Q : List VA) : Prop := ∀ j, j < Q.length → (nth Q j).hs.map RH.vr = rs.filter (fun r => decide (r.node = nodeL.getD j 0))
theorem PartsOK.snoc {rs : List VR} {Q : List VA} {a : VA} (h : PartsOK rs Q) (ha : a.hs.map RH.vr = rs.filter (fun r => decide (r.node = nodeL.getD Q.length 0))) : PartsOK rs (Q ++ [a]) := by
  intro j hj
  rw [List.length_append, List.length_singleton] at hj
  by_cases e : j < Q.length
  · have : nth (Q ++ [a]) j = nth Q j := by simp [nth, List.getD, List.getElem?_append_left e]
    rw [this]; exact h j e
  · obtain rfl : j = Q.length := by omega
    have : nth (Q ++ [a]) Q.length = a := by simp [nth, List.getD]
    rw [this]; exact ha
theorem sum_nodes : ∀ rs : List VR, (∀ r ∈ rs, r.node ∈ nodeL) → (rs.filter fun r => decide (r.node = 0)).length + (rs.filter fun r => decide (r.node = 1)).length + (rs.filter fun r => decide (r.node = 2)).length + (rs.filter fun r => decide (r.node = 10)).length + (rs.filter fun r => decide (r.node = 11)).length + (rs.filter fun r => decide (r.node = 12)).length + (rs.filter fun r => decide (r.node = 13)).length = rs.length
  | [], _ => rfl
  | r :: rs, h => by
    have ih := sum_nodes rs fun x hx => h x (List.mem_cons_of_mem _ hx)
    have hr := h r List.mem_cons_self
    simp only [nodeL, List.mem_cons, List.not_mem_nil, or_false] at hr
    simp only [List.filter_cons, List.length_cons]
    rcases hr with e | e | e | e | e | e | e <;> rw [e] <;> simp <;> omega
theorem sum_parts {rs : List VR} {Q : List VA} (h : PartsOK rs Q) (hl : Q.length = 7) (hr : ∀ r ∈ rs, r.node ∈ nodeL) : sumL Q = rs.length := by
  match Q, hl with
  | [q0, q1, q2, q3, q4, q5, q6], _ =>
    have e0 := congrArg List.length (h 0 (by simp))
    have e1 := congrArg List.length (h 1 (by simp))
    have e2 := congrArg List.length (h 2 (by simp))
    have e3 := congrArg List.length (h 3 (by simp))
    have e4 := congrArg List.length (h 4 (by simp))
    have e5 := congrArg List.length (h 5 (by simp))
    have e6 := congrArg List.length (h 6 (by simp))
    rw [List.length_map] at e0 e1 e2 e3 e4 e5 e6
    have := sum_nodes rs hr
    show (List.map _ _).sum = _
    simp only [List.map_cons, List.map_nil, List.sum_cons, List.sum_nil]
    simp only [nth, List.getD, nodeL] at e0 e1 e2 e3 e4 e5 e6
    simp at e0 e1 e2 e3 e4 e5 e6
    omega
theorem cnt_all : ∀ rs : List VR, (∀ r ∈ rs, 1 ≤ r.kind ∧ r.kind ≤ 3) → cnt 1 rs + cnt 2 rs + cnt 3 rs = rs.length
  | [], _ => rfl
  | r :: rs, h => by
    have ih := cnt_all rs fun x hx => h x (List.mem_cons_of_mem _ hx)
    have hr := h r List.mem_cons_self
    have : r.kind = 1 ∨ r.kind = 2 ∨ r.kind = 3 := by omega
    unfold cnt at ih ⊢
    simp only [List.countP_cons, List.length_cons]
    rcases this with e | e | e <;> rw [e] <;> simp <;> omega
theorem Sub.two {Q : List VA} {i j : Nat} (hi : i < Q.length) (hj : j < (nth Q i).hs.length) : Sub (RH.own (nth (nth Q i).hs j)) (starM (fun a : VA => starM RH.own a.hs) Q) :=
  Sub.trans (Sub.starMAt hj) (Sub.starMAt (f := fun a : VA => starM RH.own a.hs) hi)
def rowOf (a : VA) : Chunk := rowC a.A a.c 37 4 a.hs.length (recs RH.cells a.hs)
section
variable (g : Nat) (a : VA)
theorem Node_to (rs out : List VR) (node : Int) (ha : a.hs.map RH.vr = rs) (hl : rs.length ≤ 20000) (hb : ∀ r ∈ rs, r.bs.length ≤ 1000000) (hf : rs.filter (fun r => decide (r.node = node)) = out) :
    Spec Try.prog 9 [.pointer (some ⟨g, 0, none⟩), .int .i64 node] [] [viewC g a] (fun v l' => ∃ g' a', v = .pointer (some ⟨g', 0, none⟩) ∧ a'.hs.map RH.vr = out ∧ l' = [viewC g' a']) :=
  (Node_spec g a.A a.c a.hs (by rw [vlen ha]; exact hl) (fun h hh => hb h.vr (ha ▸ List.mem_map_of_mem hh)) node).mono fun v l' ⟨g', a', h1, h2, h3⟩ => ⟨g', a', h1, by rw [h2, ha, hf], h3⟩
theorem Rows_to (rs : List VR) (ha : a.hs.map RH.vr = rs) (hl : rs.length ≤ 20000) (hb : ∀ r ∈ rs, r.bs.length ≤ 1000000) :
    Spec Try.prog 10 [.pointer (some ⟨g, 0, none⟩)] [] [viewC g a] (fun v l' => ∃ a' : VA, v = .slice a'.A a'.hs.length a'.c ∧ a'.hs.map RH.vr = rs ∧ l' = [rowC a'.A a'.c 37 4 a'.hs.length (recs RH.cells a'.hs), starM RH.own a'.hs]) :=
  (Rows_spec g a.A a.c a.hs (by rw [vlen ha]; exact hl) (fun h hh => hb h.vr (ha ▸ List.mem_map_of_mem hh))).mono fun v l' ⟨A', c', os, h1, h2, h3⟩ => ⟨⟨A', c', os⟩, h1, by rw [h2, ha]; exact List.filter_eq_self.2 fun _ _ => rfl, h3⟩
end
end Go.SX
