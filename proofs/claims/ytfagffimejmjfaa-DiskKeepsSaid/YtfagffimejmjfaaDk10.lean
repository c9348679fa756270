/- The disk: DiskKeeps. -/
import Derived.Test.YtfagffimejmjfaaDk8
namespace Go.SX
open Go Go.RowKit Go.Proofs
set_option linter.unusedVariables false
set_option linter.unusedSimpArgs false
set_option maxHeartbeats 16000000
/-- What is sure, what is there: at each round's head. -/
structure KIn (k : Nat) (s : DK) (al : List UInt8) (sure : Int) : Prop where
  lt : k ≤ 80
  inv : DkInv s k
  al : al = s.b
  su : 0 ≤ sure ∧ sure ≤ s.n
  dd : s.dead = true → s.n = s.b.length
  len : s.b.length ≤ 300 * k
/-- .. and ahead of the last tests. -/
structure KOut (s : DK) (al : List UInt8) (sure : Int) (k : Nat) : Prop where
  su : 0 ≤ sure ∧ sure ≤ s.n ∧ s.n ≤ s.b.length ∧ s.b.length ≤ al.length
  eq : s.b = al.take s.b.length
  lv : s.dead = false → s.b.length = al.length
  dd : s.dead = true → s.n = s.b.length
  len : s.b.length ≤ 300 * (k + 1)
theorem KOut.same {k : Nat} {s : DK} {al : List UInt8} {sure : Int} (h : KIn k s al sure) : KOut s al sure k := by
  obtain ⟨h1, h2, rfl, h4, h5, h6⟩ := h
  have := h2.ok.n
  exact ⟨⟨h4.1, h4.2, this.2, Nat.le_refl _⟩, by simp, fun _ => rfl, h5, by omega⟩
theorem KOut.tear {k : Nat} {s : DK} {al : List UInt8} {sure : Int} (h : KIn k s al sure) {c : Int} (hc : 0 ≤ c) : KOut (dkTear s c) al sure k := by
  obtain ⟨h1, h2, rfl, h4, h5, h6⟩ := h
  obtain ⟨h7, h8⟩ := h2.ok.n
  have hl : (dkTear s c).b.length = (s.n + min ((s.b.length : Int) - s.n) c).toNat := by simp only [dkTear, List.length_take]; omega
  have hn : (dkTear s c).n = s.n + min ((s.b.length : Int) - s.n) c := rfl
  refine ⟨⟨h4.1, by rw [hn]; omega, by rw [hl, hn]; omega, by rw [hl]; omega⟩, ?_, fun h => (by cases h), fun _ => by rw [hl, hn]; omega, by rw [hl]; omega⟩
  rw [hl]; rfl
theorem KOut.sync0 {k : Nat} {s : DK} {al : List UInt8} {sure : Int} (h : KIn k s al sure) (hc : (dkSync s).1 = 0) : KOut (dkSync s).2 al al.length k := by
  obtain ⟨h1, h2, rfl, h4, h5, h6⟩ := h
  revert hc
  unfold dkSync
  split
  · simp
  split
  · intro _; exact ⟨⟨by omega, Int.le_refl _, Int.le_refl _, Nat.le_refl _⟩, by simp, fun _ => rfl, fun _ => rfl, by show s.b.length ≤ _; omega⟩
  · simp
theorem KOut.sync1 {k : Nat} {s : DK} {al : List UInt8} {sure : Int} (h : KIn k s al sure) (hc : ¬ (dkSync s).1 = 0) : KOut (dkSync s).2 al sure k := by
  revert hc
  unfold dkSync
  split
  · intro _; exact KOut.same h
  split
  · simp
  · rename_i c hc; intro _; exact KOut.tear h (h.inv.ok.arm c hc).1
theorem KOut.swap0 {k : Nat} {s : DK} {al x : List UInt8} {sure : Int} (h : KIn k s al sure) (hx : x.length ≤ 300) (hc : (dkSwap s x).1 = 0) : KOut (dkSwap s x).2 x x.length k := by
  revert hc
  unfold dkSwap
  split
  · simp
  split
  · simp
  split
  · intro _; exact ⟨⟨by omega, Int.le_refl _, Int.le_refl _, Nat.le_refl _⟩, by simp, fun _ => rfl, fun _ => rfl, by show x.length ≤ _; omega⟩
  · simp
theorem KOut.swap1 {k : Nat} {s : DK} {al x : List UInt8} {sure : Int} (h : KIn k s al sure) (hc : ¬ (dkSwap s x).1 = 0) : KOut (dkSwap s x).2 al sure k := by
  revert hc
  unfold dkSwap
  split
  · intro _; exact KOut.same h
  split
  · intro _; exact KOut.same h
  split
  · simp
  · rename_i c hc; intro _; exact KOut.tear h (h.inv.ok.arm c hc).1
theorem KOut.cut0 {k : Nat} {s : DK} {al : List UInt8} {sure n : Int} (h : KIn k s al sure) (hn : 0 ≤ n) (hc : (dkCut s n).1 = 0) : n ≤ al.length ∧ KOut (dkCut s n).2 (al.take n.toNat) n k := by
  obtain ⟨h1, h2, rfl, h4, h5, h6⟩ := h
  revert hc
  unfold dkCut
  split
  · simp
  split
  · simp
  · rename_i hd hr
    intro _
    have hl : (s.b.take n.toNat).length = n.toNat := by rw [List.length_take]; omega
    refine ⟨by omega, ⟨hn, Int.le_refl _, ?_, Nat.le_refl _⟩, (show s.b.take n.toNat = (s.b.take n.toNat).take (s.b.take n.toNat).length by rw [List.take_length]), fun _ => rfl, fun h => absurd h hd, ?_⟩
    · show n ≤ ((s.b.take n.toNat).length : Int); rw [hl]; omega
    · show (s.b.take n.toNat).length ≤ _; rw [hl]; omega
theorem KOut.cut1 {k : Nat} {s : DK} {al : List UInt8} {sure n : Int} (h : KIn k s al sure) (hc : ¬ (dkCut s n).1 = 0) : KOut (dkCut s n).2 al sure k := by
  revert hc
  unfold dkCut
  split
  · intro _; exact KOut.same h
  split
  · intro _; exact KOut.same h
  · simp
theorem KOut.arm {k : Nat} {s : DK} {al : List UInt8} {sure n : Int} (h : KIn k s al sure) : KOut (dkArm s n).2 al sure k := by
  have h' := KOut.same h
  unfold dkArm
  split
  · exact h'
  split
  · exact h'
  · exact ⟨h'.su, h'.eq, h'.lv, h'.dd, h'.len⟩
theorem KOut.crash {k : Nat} {s : DK} {al : List UInt8} {sure n : Int} (h : KIn k s al sure) : KOut (dkCrash s n).2 al sure k := by
  unfold dkCrash
  split
  · exact KOut.same h
  split
  · exact KOut.same h
  · exact KOut.tear h (by omega)
theorem KOut.revive {k : Nat} {s : DK} {al : List UInt8} {sure : Int} (h : KIn k s al sure) : KOut (dkRevive s).2 al sure k := by
  have h' := KOut.same h
  have h3 := h.al
  exact ⟨h'.su, h'.eq, fun _ => by rw [h3]; rfl, fun h => (by cases h), h'.len⟩
theorem KOut.write0 {k : Nat} {s : DK} {al x : List UInt8} {sure : Int} (h : KIn k s al sure) (hx : x.length ≤ 300) (hc : s.dead = false) : (dkWrite s x).1 = 0 ∧ KOut (dkWrite s x).2 (al ++ x) sure k := by
  obtain ⟨h1, h2, rfl, h4, h5, h6⟩ := h
  have := h2.ok.n
  unfold dkWrite
  rw [if_neg (by simp [hc]), if_neg (by omega)]
  refine ⟨rfl, ⟨h4.1, h4.2, ?_, Nat.le_refl _⟩, (show s.b ++ x = (s.b ++ x).take (s.b ++ x).length by rw [List.take_length]), fun _ => rfl, fun h => absurd (hc.symm.trans h) (by simp), ?_⟩
  · show s.n ≤ ((s.b ++ x).length : Int); rw [List.length_append]; omega
  · show (s.b ++ x).length ≤ _; rw [List.length_append]; omega
theorem KOut.write1 {k : Nat} {s : DK} {al x : List UInt8} {sure : Int} (h : KIn k s al sure) (hc : s.dead = true) : (dkWrite s x).1 = 130 ∧ KOut (dkWrite s x).2 al sure k := by
  unfold dkWrite
  rw [if_pos hc]
  exact ⟨rfl, KOut.same h⟩
theorem KIn.dead {k : Nat} {s : DK} {al : List UInt8} {sure : Int} (h : KOut s al sure k) (hi : DkInv s (k + 1)) (hk : k < 80) (hd : s.dead = true) : KIn (k + 1) s s.b s.b.length := ⟨by omega, hi, rfl, ⟨by omega, by rw [h.dd hd]; exact Int.le_refl _⟩, h.dd, h.len⟩
theorem KIn.live {k : Nat} {s : DK} {al : List UInt8} {sure : Int} (h : KOut s al sure k) (hi : DkInv s (k + 1)) (hk : k < 80) (hd : s.dead = false) : KIn (k + 1) s al sure :=
  ⟨by omega, hi, by have := h.eq; rw [h.lv hd, List.take_length] at this; exact this.symm, ⟨h.su.1, h.su.2.1⟩, h.dd, h.len⟩
theorem W.factAl {P : Program} {nn : Nat} {S : List Nat} {w0 : World} {r l : List Chunk} {ops : Array Oper} {K : QS} {rest : List Oper} {e : Env} {s : DK} {al : List UInt8} {su : Int} {k : Nat} (hF : KOut s al su k) {A : Option Addr} {c n : Nat} (hr : Rd (bR A c n al) (l ++ r))
    (h : al.length = n ∧ n ≤ c ∧ c ≤ 9223372036854775807 → W P nn S w0 r ops K rest e l) : W P nn S w0 r ops K rest e l := W.fact hr (fun w h => bR_len w h) h
theorem dkCrash_res {s : DK} {n : Int} (h : 0 ≤ n) : (dkCrash s n).1 = 0 ∧ (dkCrash s n).2.dead = true := by
  unfold dkCrash
  rw [if_neg (by omega)]
  split
  · rename_i hd; exact ⟨rfl, hd⟩
  · exact ⟨rfl, rfl⟩
end Go.SX
