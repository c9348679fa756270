/- What the pads compute: the lengths, the padding; the program's and the reference's. -/
import Derived.Test.YtklegcedpknpdaaDoorPad1
namespace Go.SX
open Go Go.RowKit Go.Proofs
set_option linter.unusedVariables false
set_option linter.unusedSimpArgs false
set_option maxHeartbeats 4000000
def padCls (n : Int) : Int := if n < 0 ∨ 250 < n then 0 else if n ≤ 13 then 16 else if n ≤ 61 then 64 else 256
def padErr (m : Nat) (tomb : Bool) : Int := if tomb = true ∧ 0 < m then 2 else if 250 < m then 70 else 0
def padOut (bs : List UInt8) (tomb : Bool) : List UInt8 :=
  if padErr bs.length tomb = 0 then (cond tomb 1 0) :: byteOf (bs.length / 256) :: byteOf bs.length :: (bs ++ List.replicate ((padCls bs.length).toNat - 3 - bs.length) 0) else []
theorem padCls_cases (n : Int) : (n < 0 ∨ 250 < n) ∧ padCls n = 0 ∨ (0 ≤ n ∧ n ≤ 13) ∧ padCls n = 16 ∨ (14 ≤ n ∧ n ≤ 61) ∧ padCls n = 64 ∨ (62 ≤ n ∧ n ≤ 250) ∧ padCls n = 256 := by
  unfold padCls
  split
  · exact .inl ⟨by assumption, rfl⟩
  · split
    · exact .inr (.inl ⟨by omega, rfl⟩)
    · split
      · exact .inr (.inr (.inl ⟨by omega, rfl⟩))
      · exact .inr (.inr (.inr ⟨by omega, rfl⟩))
theorem padOut_len (bs : List UInt8) (tomb : Bool) : (padOut bs tomb).length = if padErr bs.length tomb = 0 then (padCls bs.length).toNat else 0 := by
  unfold padOut
  split
  · rename_i h
    have hm : bs.length ≤ 250 := by
      unfold padErr at h
      split at h
      · cases h
      · split at h
        · cases h
        · omega
    rcases padCls_cases bs.length with ⟨h1, h2⟩ | ⟨h1, h2⟩ | ⟨h1, h2⟩ | ⟨h1, h2⟩ <;> rw [h2] <;> simp <;> omega
  · rfl
/-- The table of the lengths. -/
abbrev padTab : Chunk := iR (some ⟨0, 0, none⟩) 3 3 [16, 64, 256]
theorem Index_spec (A : Option Addr) (c n : Nat) (xs : List Int) (t : Int) (hn : xs.length = n) (hb : n ≤ 1000000) :
    Spec Tryd.prog 25 [.slice A n c, .int .i64 t] [] [iR A c n xs] (fun v l' => ∃ k : Int, (k = -1 ∧ (∀ j : Nat, j < n → xs.getD j 0 ≠ t) ∨ 0 ≤ k ∧ k < n ∧ xs.getD k.toNat 0 = t) ∧ v = .int .i64 k ∧ l' = []) := by
  refine Spec.intro Tryd.func25 rfl rfl Tryd.ntmps25 rfl fun w0 => ?_
  repeat' (first
    | refine WC.seq ?_
    | refine WC.region ?_
    | refine W.nil ?_
    | refine WC.block ?_
    | refine WC.skip ?_
    | refine WC.exit ?_
    | refine WC.ret ?_
    | refine K.norm_then ?_
    | refine K.norm_block ?_
    | refine K.exit_then ?_
    | refine K.exit_hit ?_
    | refine K.exit_miss rfl ?_
    | refine K.ret_then ?_
    | refine K.ret_block ?_
    | refine W.gon rfl rfl (by first | rfl | assumption | (apply decide_eq_true; first | rfl | omega) | (apply decide_eq_false; omega)) ?_
    | refine W.goff rfl rfl (by first | rfl | assumption | (apply decide_eq_true; first | rfl | omega) | (apply decide_eq_false; omega)) rfl ?_
    | refine W.goff0 rfl rfl (by first | rfl | assumption | (apply decide_eq_true; first | rfl | omega) | (apply decide_eq_false; omega)) ?_
    | refine W.goffu rfl rfl rfl ?_
    | refine W.goffu0 rfl rfl ?_
    | refine W.ev (Ev.move rfl) rfl rfl rfl ?_
    | refine W.ev (Ev.assign rfl) rfl rfl rfl ?_
    | refine W.ev (Ev.len rfl) rfl rfl rfl ?_)
  refine WC.loop (X := Int) 0 (fun x => 0 ≤ x ∧ x ≤ n ∧ ∀ j : Nat, j < x → xs.getD j 0 ≠ t)
    (fun x => [(0, .slice A n c), (1, .int .i64 t), (7, .int .i64 n), (8, .int .i64 x)]) (fun _ => []) (fun x => (n - x).toNat) ⟨by omega, by omega, fun j h => by omega⟩ (by ((repeat (first | exact trivial | refine And.intro rfl ?_)); fail_if_success (focus skip))) ⟨_, by (repeat constructor); fail_if_success (focus skip)⟩ ?_
  rintro i ⟨h1, h2, h3⟩
  try dsimp only at h1 h2 h3 ⊢
  repeat' (first
    | refine WC.seq ?_
    | refine WC.region ?_
    | refine W.nil ?_
    | refine WC.block ?_
    | refine WC.skip ?_
    | refine WC.exit ?_
    | refine WC.ret ?_
    | refine K.norm_then ?_
    | refine K.norm_block ?_
    | refine K.exit_then ?_
    | refine K.exit_hit ?_
    | refine K.exit_miss rfl ?_
    | refine K.ret_then ?_
    | refine K.ret_block ?_
    | refine W.gon rfl rfl (by first | rfl | assumption | (apply decide_eq_true; first | rfl | omega) | (apply decide_eq_false; omega)) ?_
    | refine W.goff rfl rfl (by first | rfl | assumption | (apply decide_eq_true; first | rfl | omega) | (apply decide_eq_false; omega)) rfl ?_
    | refine W.goff0 rfl rfl (by first | rfl | assumption | (apply decide_eq_true; first | rfl | omega) | (apply decide_eq_false; omega)) ?_
    | refine W.goffu rfl rfl rfl ?_
    | refine W.goffu0 rfl rfl ?_
    | refine W.ev (Ev.move rfl) rfl rfl rfl ?_
    | refine W.ev (Ev.assign rfl) rfl rfl rfl ?_
    | refine W.ev (Ev.lss rfl rfl) rfl rfl rfl ?_
    | refine W.ev (Ev.eql rfl rfl) rfl rfl rfl ?_
    | refine W.ev (Ev.add rfl rfl (by omega)) rfl rfl rfl ?_
    | refine W.ev (Ev.indexAddrK rfl (by first | exact Int.toNat_zero | exact Int.toNat_one | (simp only [Int.reduceToNat]; rfl)) (by (repeat (first | exact Rds.nil | refine Rds.cons ?_ ?_ | exact Rd.here (Sub.refl _) | exact Rd.here Sub.row | exact Rd.here (Sub.hiB (by omega)) | exact Rd.here (Sub.loB (by omega)) | exact Rd.here (Sub.cutB (by omega)) | exact Rd.here (Sub.trans (Sub.hiB (by omega)) Sub.row) | exact Rd.here (Sub.trans (Sub.loB (by omega)) Sub.row) | exact Rd.here (Sub.trans (Sub.cutB (by omega)) Sub.row) | refine Rd.there ?_)); fail_if_success (focus skip)) (by omega)) rfl rfl rfl ?_ | refine W.ev (Ev.indexAddr1 rfl rfl (by (repeat (first | exact Rds.nil | refine Rds.cons ?_ ?_ | exact Rd.here (Sub.refl _) | exact Rd.here Sub.row | exact Rd.here (Sub.hiB (by omega)) | exact Rd.here (Sub.loB (by omega)) | exact Rd.here (Sub.cutB (by omega)) | exact Rd.here (Sub.trans (Sub.hiB (by omega)) Sub.row) | exact Rd.here (Sub.trans (Sub.loB (by omega)) Sub.row) | exact Rd.here (Sub.trans (Sub.cutB (by omega)) Sub.row) | refine Rd.there ?_)); fail_if_success (focus skip)) (by omega)) rfl rfl rfl ?_
    | refine W.ev (Ev.loadI rfl (by (repeat (first | exact Rds.nil | refine Rds.cons ?_ ?_ | exact Rd.here (Sub.refl _) | exact Rd.here Sub.row | exact Rd.here (Sub.hiB (by omega)) | exact Rd.here (Sub.loB (by omega)) | exact Rd.here (Sub.cutB (by omega)) | exact Rd.here (Sub.trans (Sub.hiB (by omega)) Sub.row) | exact Rd.here (Sub.trans (Sub.loB (by omega)) Sub.row) | exact Rd.here (Sub.trans (Sub.cutB (by omega)) Sub.row) | refine Rd.there ?_)); fail_if_success (focus skip)) (by first | omega | (simp only [List.length_drop, List.length_take, List.length_append, List.length_replicate, List.length_set, List.length_cons, List.length_nil, Nat.min_def]; omega) | (simp; omega))) rfl rfl rfl ?_
    | refine WC.condT rfl (by first | rfl | assumption | (apply decide_eq_true; first | rfl | omega) | (apply decide_eq_false; omega)) ?_
    | refine WC.condF rfl (by first | rfl | assumption | (apply decide_eq_true; first | rfl | omega) | (apply decide_eq_false; omega)) ?_
    | (refine WC.cond rfl (fun hc => ?_) (fun hc => ?_) <;> (try simp only [Bool.not_eq_false', Bool.not_eq_true', Bool.not_false, Bool.not_true, decide_eq_true_eq, decide_eq_false_iff_not] at hc) <;> (try (exfalso; omega))))
  · exact ⟨_, rfl, _, ⟨i, .inr ⟨by omega, by omega, by omega⟩, rfl, rfl⟩, _, by repeat constructor⟩
  · refine ⟨i + 1, ⟨by omega, by omega, fun j hj => ?_⟩, by ((repeat (first | exact trivial | refine And.intro rfl ?_)); fail_if_success (focus skip)), ⟨_, by (repeat constructor); fail_if_success (focus skip)⟩, by omega⟩
    rcases Int.lt_or_le j i with hlt | hge
    · exact h3 j hlt
    · obtain rfl : j = i.toNat := by (try simp only at hj); omega
      omega
  · repeat' (first
    | refine WC.seq ?_
    | refine WC.region ?_
    | refine W.nil ?_
    | refine WC.block ?_
    | refine WC.skip ?_
    | refine WC.exit ?_
    | refine WC.ret ?_
    | refine K.norm_then ?_
    | refine K.norm_block ?_
    | refine K.exit_then ?_
    | refine K.exit_hit ?_
    | refine K.exit_miss rfl ?_
    | refine K.ret_then ?_
    | refine K.ret_block ?_
    | refine W.gon rfl rfl (by first | rfl | assumption | (apply decide_eq_true; first | rfl | omega) | (apply decide_eq_false; omega)) ?_
    | refine W.goff rfl rfl (by first | rfl | assumption | (apply decide_eq_true; first | rfl | omega) | (apply decide_eq_false; omega)) rfl ?_
    | refine W.goff0 rfl rfl (by first | rfl | assumption | (apply decide_eq_true; first | rfl | omega) | (apply decide_eq_false; omega)) ?_
    | refine W.goffu rfl rfl rfl ?_
    | refine W.goffu0 rfl rfl ?_
    | refine W.ev (Ev.move rfl) rfl rfl rfl ?_
    | refine W.ev (Ev.assign rfl) rfl rfl rfl ?_)
    exact ⟨_, rfl, _, ⟨-1, .inl ⟨rfl, fun j hj => h3 j (by omega)⟩, rfl, rfl⟩, _, by repeat constructor⟩
theorem Contains_spec (A : Option Addr) (c n : Nat) (xs : List Int) (t : Int) (hn : xs.length = n) (hb : n ≤ 1000000) :
    Spec Tryd.prog 21 [.slice A n c, .int .i64 t] [] [iR A c n xs] (fun v l' => v = .bool (decide (t ∈ xs)) ∧ l' = []) := by
  refine Spec.intro Tryd.func21 rfl rfl Tryd.ntmps21 rfl fun w0 => ?_
  repeat' (first
    | refine WC.seq ?_
    | refine WC.region ?_
    | refine W.nil ?_
    | refine WC.block ?_
    | refine WC.skip ?_
    | refine WC.exit ?_
    | refine WC.ret ?_
    | refine K.norm_then ?_
    | refine K.norm_block ?_
    | refine K.exit_then ?_
    | refine K.exit_hit ?_
    | refine K.exit_miss rfl ?_
    | refine K.ret_then ?_
    | refine K.ret_block ?_
    | refine W.gon rfl rfl (by first | rfl | assumption | (apply decide_eq_true; first | rfl | omega) | (apply decide_eq_false; omega)) ?_
    | refine W.goff rfl rfl (by first | rfl | assumption | (apply decide_eq_true; first | rfl | omega) | (apply decide_eq_false; omega)) rfl ?_
    | refine W.goff0 rfl rfl (by first | rfl | assumption | (apply decide_eq_true; first | rfl | omega) | (apply decide_eq_false; omega)) ?_
    | refine W.goffu rfl rfl rfl ?_
    | refine W.goffu0 rfl rfl ?_
    | refine W.ev (Ev.move rfl) rfl rfl rfl ?_
    | refine W.ev (Ev.assign rfl) rfl rfl rfl ?_
    | refine W.ev (Ev.geq rfl rfl) rfl rfl rfl ?_
    | (refine W.stp (Stp.cal rfl rfl (Index_spec _ _ _ _ _ hn hb) (by (repeat constructor); fail_if_success (focus skip)) (by (repeat (first | exact Rds.nil | refine Rds.cons ?_ ?_ | exact Rd.here (Sub.refl _) | exact Rd.here Sub.row | refine Rd.there ?_)); fail_if_success (focus skip))) rfl rfl rfl ?_; rintro _ _ ⟨_, ⟨k, hk, rfl, rfl⟩, rfl⟩))
  have : decide (0 ≤ k) = decide (t ∈ xs) := by
    rcases hk with ⟨rfl, h⟩ | ⟨h1, h2, h3⟩
    · have : ¬ t ∈ xs := fun hm => by
        obtain ⟨j, hj, he⟩ := List.getElem_of_mem hm
        exact h j (by omega) (by simp [List.getD, hj, he])
      simp [this]
    · have : t ∈ xs := by
        rw [← h3]
        have hk : k.toNat < xs.length := by omega
        simp [List.getD, hk]
      simp [this, h1]
  exact ⟨_, rfl, _, ⟨congrArg _ this, rfl⟩, _, by repeat constructor⟩
theorem Clone_spec (A : Option Addr) (c n : Nat) (bs : List UInt8) (hb : n ≤ 140737488351232) :
    Spec Tryd.prog 22 [.slice A n c] [] [bR A c n bs] (fun v l' => ∃ A' c', v = .slice A' n c' ∧ l' = [bO A' c' 5 n bs]) := by
  refine Spec.fact (Rd.here (Sub.refl _)) bR_len fun hl => ?_
  refine Spec.intro Tryd.func22 rfl rfl Tryd.ntmps22 rfl fun w0 => ?_
  repeat' (first
    | refine WC.seq ?_
    | refine WC.region ?_
    | refine W.nil ?_
    | refine WC.block ?_
    | refine WC.skip ?_
    | refine WC.exit ?_
    | refine K.norm_then ?_
    | refine K.norm_block ?_
    | refine K.exit_then ?_
    | refine K.exit_hit ?_
    | refine K.exit_miss rfl ?_
    | refine K.ret_then ?_
    | refine K.ret_block ?_
    | refine W.gon rfl rfl (by first | rfl | assumption | (apply decide_eq_true; first | rfl | omega) | (apply decide_eq_false; omega)) ?_
    | refine W.goff rfl rfl (by first | rfl | assumption | (apply decide_eq_true; first | rfl | omega) | (apply decide_eq_false; omega)) rfl ?_
    | refine W.goff0 rfl rfl (by first | rfl | assumption | (apply decide_eq_true; first | rfl | omega) | (apply decide_eq_false; omega)) ?_
    | refine W.goffu rfl rfl rfl ?_
    | refine W.goffu0 rfl rfl ?_
    | refine W.ev (Ev.move rfl) rfl rfl rfl ?_
    | refine W.ev (Ev.assign rfl) rfl rfl rfl ?_
    | refine W.ev (Ev.eqlL rfl rfl) rfl rfl rfl ?_
    | (refine W.stp (Stp.appendB rfl rfl (by (repeat constructor); fail_if_success (focus skip)) (by (repeat (first | exact Rds.nil | refine Rds.cons ?_ ?_ | exact Rd.here (Sub.refl _) | exact Rd.here Sub.row | exact Rd.here (Sub.hiB (by omega)) | exact Rd.here (Sub.loB (by omega)) | exact Rd.here (Sub.cutB (by omega)) | exact Rd.here (Sub.trans (Sub.hiB (by omega)) Sub.row) | exact Rd.here (Sub.trans (Sub.loB (by omega)) Sub.row) | exact Rd.here (Sub.trans (Sub.cutB (by omega)) Sub.row) | refine Rd.there ?_)); fail_if_success (focus skip)) rfl (by omega) (by omega)) rfl rfl rfl ?_; rintro _ _ ⟨A2, c2, rfl, rfl⟩)
    | (refine W.stp (Stp.buildB [] rfl rfl rfl rfl rfl) rfl rfl rfl ?_; rintro _ _ ⟨g, rfl, rfl⟩)
    | refine WC.condT rfl (by first | rfl | assumption | (apply decide_eq_true; first | rfl | omega) | (apply decide_eq_false; omega)) ?_
    | refine WC.condF rfl (by first | rfl | assumption | (apply decide_eq_true; first | rfl | omega) | (apply decide_eq_false; omega)) ?_
    | (refine WC.cond rfl (fun hc => ?_) (fun hc => ?_) <;> (try simp only [Bool.not_eq_false', Bool.not_eq_true', Bool.not_false, Bool.not_true, decide_eq_true_eq, decide_eq_false_iff_not] at hc) <;> (try (exfalso; omega))))
  · obtain rfl : A = none := by cases A <;> simp_all
    refine WC.fact (Rd.here (Sub.refl _)) (sliceC_nil rfl) fun hb0 => ?_
    obtain rfl : bs = [] := by simpa [u8s] using hb0
    obtain rfl : n = 0 := by simpa using hl.1.symm
    refine WC.nilRow 5 1 ?_
    repeat' (first
    | refine WC.seq ?_
    | refine WC.region ?_
    | refine W.nil ?_
    | refine WC.block ?_
    | refine WC.skip ?_
    | refine WC.exit ?_
    | refine WC.ret ?_
    | refine K.norm_then ?_
    | refine K.norm_block ?_
    | refine K.exit_then ?_
    | refine K.exit_hit ?_
    | refine K.exit_miss rfl ?_
    | refine K.ret_then ?_
    | refine K.ret_block ?_
    | refine W.gon rfl rfl (by first | rfl | assumption | (apply decide_eq_true; first | rfl | omega) | (apply decide_eq_false; omega)) ?_
    | refine W.goff rfl rfl (by first | rfl | assumption | (apply decide_eq_true; first | rfl | omega) | (apply decide_eq_false; omega)) rfl ?_
    | refine W.goff0 rfl rfl (by first | rfl | assumption | (apply decide_eq_true; first | rfl | omega) | (apply decide_eq_false; omega)) ?_
    | refine W.goffu rfl rfl rfl ?_
    | refine W.goffu0 rfl rfl ?_)
    exact ⟨_, rfl, _, ⟨_, _, rfl, rfl⟩, _, by repeat constructor⟩
  · simp only [Nat.zero_add, List.nil_append]
    repeat' (first
    | refine WC.seq ?_
    | refine WC.region ?_
    | refine W.nil ?_
    | refine WC.block ?_
    | refine WC.skip ?_
    | refine WC.exit ?_
    | refine WC.ret ?_
    | refine K.norm_then ?_
    | refine K.norm_block ?_
    | refine K.exit_then ?_
    | refine K.exit_hit ?_
    | refine K.exit_miss rfl ?_
    | refine K.ret_then ?_
    | refine K.ret_block ?_
    | refine W.gon rfl rfl (by first | rfl | assumption | (apply decide_eq_true; first | rfl | omega) | (apply decide_eq_false; omega)) ?_
    | refine W.goff rfl rfl (by first | rfl | assumption | (apply decide_eq_true; first | rfl | omega) | (apply decide_eq_false; omega)) rfl ?_
    | refine W.goff0 rfl rfl (by first | rfl | assumption | (apply decide_eq_true; first | rfl | omega) | (apply decide_eq_false; omega)) ?_
    | refine W.goffu rfl rfl rfl ?_
    | refine W.goffu0 rfl rfl ?_)
    exact ⟨_, rfl, _, ⟨_, _, rfl, rfl⟩, _, by repeat constructor⟩
theorem tab_rises : ∀ i j : Nat, i < j → j < 3 → ([16, 64, 256] : List Int).getD i 0 ≤ [16, 64, 256].getD j 0 := by
  intro i j h1 h2
  have h : i = 0 ∧ j = 1 ∨ i = 0 ∧ j = 2 ∨ i = 1 ∧ j = 2 := by omega
  rcases h with ⟨rfl, rfl⟩ | ⟨rfl, rfl⟩ | ⟨rfl, rfl⟩ <;> decide
theorem Class_spec (n : Int) : Spec Tryd.prog 14 [.int .i64 n] [] [padTab] (fun v l' => v = .int .i64 (padCls n) ∧ l' = []) := by
  refine Spec.intro Tryd.func14 rfl rfl Tryd.ntmps14 rfl fun w0 => ?_
  repeat' (first
    | refine WC.seq ?_
    | refine WC.region ?_
    | refine W.nil ?_
    | refine WC.block ?_
    | refine WC.skip ?_
    | refine WC.exit ?_
    | refine WC.ret ?_
    | refine K.norm_then ?_
    | refine K.norm_block ?_
    | refine K.exit_then ?_
    | refine K.exit_hit ?_
    | refine K.exit_miss rfl ?_
    | refine K.ret_then ?_
    | refine K.ret_block ?_
    | refine W.gon rfl rfl (by first | rfl | assumption | (apply decide_eq_true; first | rfl | omega) | (apply decide_eq_false; omega)) ?_
    | refine W.goff rfl rfl (by first | rfl | assumption | (apply decide_eq_true; first | rfl | omega) | (apply decide_eq_false; omega)) rfl ?_
    | refine W.goff0 rfl rfl (by first | rfl | assumption | (apply decide_eq_true; first | rfl | omega) | (apply decide_eq_false; omega)) ?_
    | refine W.goffu rfl rfl rfl ?_
    | refine W.goffu0 rfl rfl ?_
    | (refine W.gpart rfl rfl rfl (fun hc => ?_) (fun hc => ?_) <;> (try simp only [Bool.not_eq_false', Bool.not_eq_true', Bool.not_false, Bool.not_true, decide_eq_true_eq, decide_eq_false_iff_not] at hc) <;> (try (exfalso; omega)))
    | refine W.ev (Ev.move rfl) rfl rfl rfl ?_
    | refine W.ev (Ev.assign rfl) rfl rfl rfl ?_
    | refine W.ev (Ev.lss rfl rfl) rfl rfl rfl ?_
    | refine W.ev (Ev.gtr rfl rfl) rfl rfl rfl ?_
    | refine W.ev (Ev.pickT rfl rfl) rfl rfl rfl ?_ | refine W.ev (Ev.pickF rfl rfl) rfl rfl rfl ?_ | refine W.ev (Ev.pickB rfl rfl rfl) rfl rfl rfl ?_
    | refine W.ev (Ev.add rfl rfl (by omega)) rfl rfl rfl ?_
    | refine W.ev (Ev.sliceArr rfl) rfl rfl rfl ?_
    | refine W.ev (Ev.extract rfl rfl) rfl rfl rfl ?_
    | (refine W.stp (Stp.cal rfl rfl (BinarySearch_spec (some ⟨0, 0, none⟩) 3 3 [16, 64, 256] (n + 3) rfl (by decide) tab_rises) (by (repeat constructor); fail_if_success (focus skip)) (by (repeat (first | exact Rds.nil | refine Rds.cons ?_ ?_ | exact Rd.here (Sub.refl _) | exact Rd.here Sub.row | refine Rd.there ?_)); fail_if_success (focus skip))) rfl rfl rfl ?_; rintro _ _ ⟨_, ⟨k, b, h1, h2, h3, h4, h5, rfl, rfl⟩, rfl⟩)
    | refine WC.condT rfl (by first | rfl | assumption | (apply decide_eq_true; first | rfl | omega) | (apply decide_eq_false; omega)) ?_
    | refine WC.condF rfl (by first | rfl | assumption | (apply decide_eq_true; first | rfl | omega) | (apply decide_eq_false; omega)) ?_
    | (refine WC.cond rfl (fun hc => ?_) (fun hc => ?_) <;> (try simp only [Bool.not_eq_false', Bool.not_eq_true', Bool.not_false, Bool.not_true, decide_eq_true_eq, decide_eq_false_iff_not] at hc) <;> (try (exfalso; omega))))
  · exact ⟨_, rfl, _, ⟨by simp only [tup]; congr 1; unfold padCls; rw [if_pos (by omega)], rfl⟩, _, by repeat constructor⟩
  · have hk3 : k ≤ 2 := by
      rcases Int.lt_or_le 2 k with h | h
      · have := h3 2 (by omega); simp at this; omega
      · exact h
    repeat' (first
    | refine WC.seq ?_
    | refine WC.region ?_
    | refine W.nil ?_
    | refine WC.block ?_
    | refine WC.skip ?_
    | refine WC.exit ?_
    | refine WC.ret ?_
    | refine K.norm_then ?_
    | refine K.norm_block ?_
    | refine K.exit_then ?_
    | refine K.exit_hit ?_
    | refine K.exit_miss rfl ?_
    | refine K.ret_then ?_
    | refine K.ret_block ?_
    | refine W.gon rfl rfl (by first | rfl | assumption | (apply decide_eq_true; first | rfl | omega) | (apply decide_eq_false; omega)) ?_
    | refine W.goff rfl rfl (by first | rfl | assumption | (apply decide_eq_true; first | rfl | omega) | (apply decide_eq_false; omega)) rfl ?_
    | refine W.goff0 rfl rfl (by first | rfl | assumption | (apply decide_eq_true; first | rfl | omega) | (apply decide_eq_false; omega)) ?_
    | refine W.goffu rfl rfl rfl ?_
    | refine W.goffu0 rfl rfl ?_
    | refine W.ev (Ev.move rfl) rfl rfl rfl ?_
    | refine W.ev (Ev.assign rfl) rfl rfl rfl ?_
    | refine W.ev (Ev.indexArr1 rfl rfl (by omega)) rfl rfl rfl ?_
    | refine W.ev (Ev.loadI rfl (by (repeat (first | exact Rds.nil | refine Rds.cons ?_ ?_ | exact Rd.here (Sub.refl _) | exact Rd.here Sub.row | exact Rd.here (Sub.hiB (by omega)) | exact Rd.here (Sub.loB (by omega)) | exact Rd.here (Sub.cutB (by omega)) | exact Rd.here (Sub.trans (Sub.hiB (by omega)) Sub.row) | exact Rd.here (Sub.trans (Sub.loB (by omega)) Sub.row) | exact Rd.here (Sub.trans (Sub.cutB (by omega)) Sub.row) | refine Rd.there ?_)); fail_if_success (focus skip)) (by first | omega | (simp only [List.length_drop, List.length_take, List.length_append, List.length_replicate, List.length_set, List.length_cons, List.length_nil, Nat.min_def]; omega) | (simp; omega))) rfl rfl rfl ?_)
    have hv : [16, 64, 256].getD k.toNat 0 = padCls n := by
      have hk : k = 0 ∨ k = 1 ∨ k = 2 := by omega
      rcases hk with rfl | rfl | rfl
      · have := h4 0 (by omega) (by omega)
        simp at this ⊢
        unfold padCls; (repeat' split) <;> omega
      · have a := h4 1 (by omega) (by omega)
        have b := h3 0 (by omega)
        simp at a b ⊢
        unfold padCls; (repeat' split) <;> omega
      · have b := h3 1 (by omega)
        simp at b ⊢
        unfold padCls; (repeat' split) <;> omega
    exact ⟨_, rfl, _, ⟨by simp only [tup, hv], rfl⟩, _, by repeat constructor⟩
  · exact ⟨_, rfl, _, ⟨by simp only [tup]; congr 1; unfold padCls; rw [if_pos (by omega)], rfl⟩, _, by repeat constructor⟩
theorem refClass_spec (n : Int) : Spec Tryd.prog 15 [.int .i64 n] [] [] (fun v l' => v = .int .i64 (padCls n) ∧ l' = []) := by
  refine Spec.intro Tryd.func15 rfl rfl Tryd.ntmps15 rfl fun w0 => ?_
  repeat' (first
    | refine WC.seq ?_
    | refine WC.region ?_
    | refine W.nil ?_
    | refine WC.block ?_
    | refine WC.skip ?_
    | refine WC.exit ?_
    | refine WC.ret ?_
    | refine K.norm_then ?_
    | refine K.norm_block ?_
    | refine K.exit_then ?_
    | refine K.exit_hit ?_
    | refine K.exit_miss rfl ?_
    | refine K.ret_then ?_
    | refine K.ret_block ?_
    | refine W.gon rfl rfl (by first | rfl | assumption | (apply decide_eq_true; first | rfl | omega) | (apply decide_eq_false; omega)) ?_
    | refine W.goff rfl rfl (by first | rfl | assumption | (apply decide_eq_true; first | rfl | omega) | (apply decide_eq_false; omega)) rfl ?_
    | refine W.goff0 rfl rfl (by first | rfl | assumption | (apply decide_eq_true; first | rfl | omega) | (apply decide_eq_false; omega)) ?_
    | refine W.goffu rfl rfl rfl ?_
    | refine W.goffu0 rfl rfl ?_
    | (refine W.gpart rfl rfl rfl (fun hc => ?_) (fun hc => ?_) <;> (try simp only [Bool.not_eq_false', Bool.not_eq_true', Bool.not_false, Bool.not_true, decide_eq_true_eq, decide_eq_false_iff_not] at hc) <;> (try (exfalso; omega)))
    | refine W.ev (Ev.move rfl) rfl rfl rfl ?_
    | refine W.ev (Ev.assign rfl) rfl rfl rfl ?_
    | refine W.ev (Ev.lss rfl rfl) rfl rfl rfl ?_
    | refine W.ev (Ev.gtr rfl rfl) rfl rfl rfl ?_
    | refine W.ev (Ev.leq rfl rfl) rfl rfl rfl ?_
    | refine W.ev (Ev.pickT rfl rfl) rfl rfl rfl ?_ | refine W.ev (Ev.pickF rfl rfl) rfl rfl rfl ?_ | refine W.ev (Ev.pickB rfl rfl rfl) rfl rfl rfl ?_
    | refine WC.condT rfl (by first | rfl | assumption | (apply decide_eq_true; first | rfl | omega) | (apply decide_eq_false; omega)) ?_
    | refine WC.condF rfl (by first | rfl | assumption | (apply decide_eq_true; first | rfl | omega) | (apply decide_eq_false; omega)) ?_
    | (refine WC.cond rfl (fun hc => ?_) (fun hc => ?_) <;> (try simp only [Bool.not_eq_false', Bool.not_eq_true', Bool.not_false, Bool.not_true, decide_eq_true_eq, decide_eq_false_iff_not] at hc) <;> (try (exfalso; omega))))
  all_goals exact ⟨_, rfl, _, ⟨by simp only [tup]; congr 1; unfold padCls; (repeat' split) <;> omega, rfl⟩, _, by repeat constructor⟩
end Go.SX
