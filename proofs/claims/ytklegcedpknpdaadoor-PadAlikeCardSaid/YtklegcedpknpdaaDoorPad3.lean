/- Padding: the program's and the reference's. -/
import Derived.Test.YtklegcedpknpdaaDoorPad2
namespace Go.SX
open Go Go.RowKit Go.Proofs
set_option linter.unusedVariables false
set_option linter.unusedSimpArgs false
set_option maxHeartbeats 4000000
theorem padErr_cases (m : Nat) (t : Bool) : (t = true ∧ 0 < m) ∧ padErr m t = 2 ∨ (¬ (t = true ∧ 0 < m) ∧ 250 < m) ∧ padErr m t = 70 ∨ (¬ (t = true ∧ 0 < m) ∧ m ≤ 250) ∧ padErr m t = 0 := by
  unfold padErr
  split
  · exact .inl ⟨by assumption, rfl⟩
  · split
    · exact .inr (.inl ⟨⟨by assumption, by assumption⟩, rfl⟩)
    · exact .inr (.inr ⟨⟨by assumption, by omega⟩, rfl⟩)
theorem padOut_made (bs : List UInt8) (k : Nat) (b : UInt8) (hk : bs.length + 3 ≤ k) (b1 b2 : UInt8) :
    List.take 3 ((((List.replicate k 0).set 0 b).set 1 b1).set 2 b2) ++ bs ++ List.drop (3 + bs.length) ((((List.replicate k 0).set 0 b).set 1 b1).set 2 b2) = b :: b1 :: b2 :: (bs ++ List.replicate (k - 3 - bs.length) 0) := by
  obtain ⟨m, rfl⟩ : ∃ m, k = m + 3 := ⟨k - 3, by omega⟩
  have : ∀ j, List.drop (3 + j) ((((List.replicate (m + 3) (0 : UInt8)).set 0 b).set 1 b1).set 2 b2) = List.replicate (m - j) 0 := by
    intro j
    simp [List.replicate_succ, Nat.add_comm 3 j]
  rw [this]
  simp [List.replicate_succ]
theorem padOut_made0 (bs : List UInt8) (k : Nat) (hk : bs.length + 3 ≤ k) (b1 b2 : UInt8) :
    List.take 3 (((List.replicate k 0).set 1 b1).set 2 b2) ++ bs ++ List.drop (3 + bs.length) (((List.replicate k 0).set 1 b1).set 2 b2) = 0 :: b1 :: b2 :: (bs ++ List.replicate (k - 3 - bs.length) 0) := by
  have h : (List.replicate k (0 : UInt8)).set 0 0 = List.replicate k 0 := by
    obtain ⟨m, rfl⟩ : ∃ m, k = m + 3 := ⟨k - 3, by omega⟩
    simp [List.replicate_succ]
  have := padOut_made bs k 0 hk b1 b2
  rwa [h] at this
theorem padOut_err {bs : List UInt8} {tomb : Bool} (h : padErr bs.length tomb ≠ 0) : padOut bs tomb = [] := if_neg h
theorem padOut_ok {bs : List UInt8} {tomb : Bool} (h : padErr bs.length tomb = 0) :
    padOut bs tomb = (cond tomb 1 0) :: byteOf (bs.length / 256) :: byteOf bs.length :: (bs ++ List.replicate ((padCls bs.length).toNat - 3 - bs.length) 0) := if_pos h
theorem Pad_spec (A : Option Addr) (c n : Nat) (bs : List UInt8) (tomb : Bool) (hb : n ≤ 140737488351232) :
    Spec Tryd.prog 11 [.slice A n c, .bool tomb] [] [bR A c n bs, padTab] (fun v l' => ∃ A' n' c', v = .tuple #[.slice A' n' c', .int .i64 (padErr n tomb)] ∧ l' = [bO A' c' 5 n' (padOut bs tomb)]) := by
  refine Spec.fact (Rd.here (Sub.refl _)) bR_len fun hl => ?_
  obtain ⟨rfl, hl1, hl2⟩ := hl
  have hcls := padCls_cases bs.length
  have herr := padErr_cases bs.length tomb
  refine Spec.intro Tryd.func11 rfl rfl Tryd.ntmps11 rfl fun w0 => ?_
  repeat' (first
    | refine WC.seq ?_
    | refine K.norm_then ?_
    | refine WC.block ?_
    | refine WC.skip ?_
    | refine WC.exit ?_
    | refine K.norm_block ?_
    | refine K.exit_then ?_
    | refine K.exit_hit ?_
    | refine K.exit_miss rfl ?_
    | refine WC.condT rfl (by first | rfl | assumption | (apply decide_eq_true; first | rfl | omega) | (apply decide_eq_false; omega)) ?_
    | refine WC.condF rfl (by first | rfl | assumption | (apply decide_eq_true; first | rfl | omega) | (apply decide_eq_false; omega)) ?_
    | (refine WC.cond rfl (fun hc => ?_) (fun hc => ?_) <;> (try simp only [Bool.not_eq_false', Bool.not_eq_true', Bool.not_false, Bool.not_true, decide_eq_true_eq, decide_eq_false_iff_not] at hc) <;> (try (exfalso; omega)))
    | (refine WC.region (id := 0) ?_; try refine W.ev (Ev.assign rfl) rfl rfl rfl ?_; all_goals try refine W.ev (Ev.assign rfl) rfl rfl rfl ?_; all_goals try refine W.nil ?_)
    | (refine WC.region (id := 1) ?_; try refine W.ev (Ev.move rfl) rfl rfl rfl ?_; all_goals try refine W.ev (Ev.len rfl) rfl rfl rfl ?_; all_goals try (refine W.stp (Stp.cal rfl rfl (Class_spec _) (by (repeat constructor); fail_if_success (focus skip)) (by (repeat (first | exact Rds.nil | refine Rds.cons ?_ ?_ | exact Rd.here (Sub.refl _) | exact Rd.here Sub.row | exact Rd.here (Sub.hiB (by omega)) | exact Rd.here (Sub.loB (by omega)) | exact Rd.here (Sub.cutB (by omega)) | exact Rd.here (Sub.trans (Sub.hiB (by omega)) Sub.row) | exact Rd.here (Sub.trans (Sub.loB (by omega)) Sub.row) | exact Rd.here (Sub.trans (Sub.cutB (by omega)) Sub.row) | refine Rd.there ?_)); fail_if_success (focus skip))) rfl rfl rfl ?_; rintro _ _ ⟨_, ⟨rfl, rfl⟩, rfl⟩); all_goals try refine W.ev (Ev.assign rfl) rfl rfl rfl ?_; all_goals try refine W.nil ?_)
    | (refine WC.region (id := 2) ?_; try refine W.ev (Ev.move rfl) rfl rfl rfl ?_; all_goals try refine W.ev (Ev.move rfl) rfl rfl rfl ?_; all_goals try (first | (refine W.gon rfl rfl (by first | rfl | assumption | (apply decide_eq_true; first | rfl | omega) | (apply decide_eq_false; omega)) ?_; refine W.ev (Ev.move rfl) rfl rfl rfl ?_) | refine W.goff rfl rfl (by first | rfl | assumption | (apply decide_eq_true; first | rfl | omega) | (apply decide_eq_false; omega)) rfl ?_ | refine W.goffu rfl rfl rfl ?_ | ((refine W.gpart rfl rfl rfl (fun hc => ?_) (fun hc => ?_) <;> (try simp only [Bool.not_eq_false', Bool.not_eq_true', Bool.not_false, Bool.not_true, decide_eq_true_eq, decide_eq_false_iff_not] at hc) <;> (try (exfalso; omega))); all_goals try refine W.ev (Ev.move rfl) rfl rfl rfl ?_)); all_goals try (first | (refine W.gon rfl rfl (by first | rfl | assumption | (apply decide_eq_true; first | rfl | omega) | (apply decide_eq_false; omega)) ?_; refine W.ev (Ev.len rfl) rfl rfl rfl ?_) | refine W.goff rfl rfl (by first | rfl | assumption | (apply decide_eq_true; first | rfl | omega) | (apply decide_eq_false; omega)) rfl ?_ | refine W.goffu rfl rfl rfl ?_ | ((refine W.gpart rfl rfl rfl (fun hc => ?_) (fun hc => ?_) <;> (try simp only [Bool.not_eq_false', Bool.not_eq_true', Bool.not_false, Bool.not_true, decide_eq_true_eq, decide_eq_false_iff_not] at hc) <;> (try (exfalso; omega))); all_goals try refine W.ev (Ev.len rfl) rfl rfl rfl ?_)); all_goals try (first | (refine W.gon rfl rfl (by first | rfl | assumption | (apply decide_eq_true; first | rfl | omega) | (apply decide_eq_false; omega)) ?_; refine W.ev (Ev.gtr rfl rfl) rfl rfl rfl ?_) | refine W.goff rfl rfl (by first | rfl | assumption | (apply decide_eq_true; first | rfl | omega) | (apply decide_eq_false; omega)) rfl ?_ | refine W.goffu rfl rfl rfl ?_ | ((refine W.gpart rfl rfl rfl (fun hc => ?_) (fun hc => ?_) <;> (try simp only [Bool.not_eq_false', Bool.not_eq_true', Bool.not_false, Bool.not_true, decide_eq_true_eq, decide_eq_false_iff_not] at hc) <;> (try (exfalso; omega))); all_goals try refine W.ev (Ev.gtr rfl rfl) rfl rfl rfl ?_)); all_goals try (first | refine W.ev (Ev.pickT rfl rfl) rfl rfl rfl ?_ | refine W.ev (Ev.pickF rfl rfl) rfl rfl rfl ?_ | refine W.ev (Ev.pickB rfl rfl rfl) rfl rfl rfl ?_); all_goals try refine W.ev (Ev.assign rfl) rfl rfl rfl ?_; all_goals try refine W.nil ?_)
    | (refine WC.region (id := 3) ?_; try refine W.ev (Ev.assign rfl) rfl rfl rfl ?_; all_goals try refine W.ev (Ev.assign rfl) rfl rfl rfl ?_; all_goals try refine W.nil ?_)
    | (refine WC.region (id := 4) ?_; try refine W.ev (Ev.move rfl) rfl rfl rfl ?_; all_goals try refine W.ev (Ev.eql rfl rfl) rfl rfl rfl ?_; all_goals try refine W.ev (Ev.assign rfl) rfl rfl rfl ?_; all_goals try refine W.nil ?_)
    | (refine WC.region (id := 5) ?_; try refine W.ev (Ev.assign rfl) rfl rfl rfl ?_; all_goals try refine W.ev (Ev.assign rfl) rfl rfl rfl ?_; all_goals try refine W.nil ?_)
    | (refine WC.region (id := 6) ?_; try refine W.ev (Ev.move rfl) rfl rfl rfl ?_; all_goals try (refine W.stp (Stp.makeB rfl rfl ⟨by omega, by omega, by omega, by omega⟩) rfl rfl rfl ?_; rintro _ _ ⟨g, rfl, rfl⟩); all_goals try refine W.ev (Ev.assign rfl) rfl rfl rfl ?_; all_goals try refine W.nil ?_)
    | (refine WC.region (id := 7) ?_; try refine W.ev (Ev.move rfl) rfl rfl rfl ?_; all_goals try refine W.nil ?_)
    | (refine WC.region (id := 8) ?_; try refine W.ev (Ev.move rfl) rfl rfl rfl ?_; all_goals try (first | refine W.ev (Ev.indexAddrK rfl (by first | exact Int.toNat_zero | exact Int.toNat_one | (simp only [Int.reduceToNat]; rfl)) (by (repeat (first | exact Rds.nil | refine Rds.cons ?_ ?_ | exact Rd.here (Sub.refl _) | exact Rd.here Sub.row | exact Rd.here (Sub.hiB (by omega)) | exact Rd.here (Sub.loB (by omega)) | exact Rd.here (Sub.cutB (by omega)) | exact Rd.here (Sub.trans (Sub.hiB (by omega)) Sub.row) | exact Rd.here (Sub.trans (Sub.loB (by omega)) Sub.row) | exact Rd.here (Sub.trans (Sub.cutB (by omega)) Sub.row) | refine Rd.there ?_)); fail_if_success (focus skip)) (by omega)) rfl rfl rfl ?_ | refine W.ev (Ev.indexAddr1 rfl rfl (by (repeat (first | exact Rds.nil | refine Rds.cons ?_ ?_ | exact Rd.here (Sub.refl _) | exact Rd.here Sub.row | exact Rd.here (Sub.hiB (by omega)) | exact Rd.here (Sub.loB (by omega)) | exact Rd.here (Sub.cutB (by omega)) | exact Rd.here (Sub.trans (Sub.hiB (by omega)) Sub.row) | exact Rd.here (Sub.trans (Sub.loB (by omega)) Sub.row) | exact Rd.here (Sub.trans (Sub.cutB (by omega)) Sub.row) | refine Rd.there ?_)); fail_if_success (focus skip)) (by omega)) rfl rfl rfl ?_); all_goals try (first | (refine W.stp0 (Stp.storeB rfl rfl (by (repeat constructor); fail_if_success (focus skip)) (by first | omega | (simp only [List.length_drop, List.length_take, List.length_append, List.length_replicate, List.length_set, List.length_cons, List.length_nil, Nat.min_def]; omega) | (simp; omega))) rfl rfl ?_; rintro _ _ rfl) | (refine W.stp0 (Stp.storeBk rfl rfl (by (repeat constructor); fail_if_success (focus skip)) (by omega) (by first | omega | (simp only [List.length_drop, List.length_take, List.length_append, List.length_replicate, List.length_set, List.length_cons, List.length_nil, Nat.min_def]; omega) | (simp; omega))) rfl rfl ?_; rintro _ _ rfl)); all_goals try refine W.nil ?_)
    | (refine WC.region (id := 9) ?_; try refine W.ev (Ev.move rfl) rfl rfl rfl ?_; all_goals try refine W.ev (Ev.move rfl) rfl rfl rfl ?_; all_goals try refine W.ev (Ev.move rfl) rfl rfl rfl ?_; all_goals try refine W.ev (Ev.len rfl) rfl rfl rfl ?_; all_goals try refine W.ev (Ev.shrm 8 256 rfl rfl (by decide) (by decide)) rfl rfl rfl ?_; all_goals try refine W.ev (Ev.conv8 rfl) rfl rfl rfl ?_; all_goals try refine W.ev (Ev.move rfl) rfl rfl rfl ?_; all_goals try refine W.ev (Ev.len rfl) rfl rfl rfl ?_; all_goals try refine W.ev (Ev.conv8 rfl) rfl rfl rfl ?_; all_goals try (first | refine W.ev (Ev.indexAddrK rfl (by first | exact Int.toNat_zero | exact Int.toNat_one | (simp only [Int.reduceToNat]; rfl)) (by (repeat (first | exact Rds.nil | refine Rds.cons ?_ ?_ | exact Rd.here (Sub.refl _) | exact Rd.here Sub.row | exact Rd.here (Sub.hiB (by omega)) | exact Rd.here (Sub.loB (by omega)) | exact Rd.here (Sub.cutB (by omega)) | exact Rd.here (Sub.trans (Sub.hiB (by omega)) Sub.row) | exact Rd.here (Sub.trans (Sub.loB (by omega)) Sub.row) | exact Rd.here (Sub.trans (Sub.cutB (by omega)) Sub.row) | refine Rd.there ?_)); fail_if_success (focus skip)) (by omega)) rfl rfl rfl ?_ | refine W.ev (Ev.indexAddr1 rfl rfl (by (repeat (first | exact Rds.nil | refine Rds.cons ?_ ?_ | exact Rd.here (Sub.refl _) | exact Rd.here Sub.row | exact Rd.here (Sub.hiB (by omega)) | exact Rd.here (Sub.loB (by omega)) | exact Rd.here (Sub.cutB (by omega)) | exact Rd.here (Sub.trans (Sub.hiB (by omega)) Sub.row) | exact Rd.here (Sub.trans (Sub.loB (by omega)) Sub.row) | exact Rd.here (Sub.trans (Sub.cutB (by omega)) Sub.row) | refine Rd.there ?_)); fail_if_success (focus skip)) (by omega)) rfl rfl rfl ?_); all_goals try (first | (refine W.stp0 (Stp.storeB rfl rfl (by (repeat constructor); fail_if_success (focus skip)) (by first | omega | (simp only [List.length_drop, List.length_take, List.length_append, List.length_replicate, List.length_set, List.length_cons, List.length_nil, Nat.min_def]; omega) | (simp; omega))) rfl rfl ?_; rintro _ _ rfl) | (refine W.stp0 (Stp.storeBk rfl rfl (by (repeat constructor); fail_if_success (focus skip)) (by omega) (by first | omega | (simp only [List.length_drop, List.length_take, List.length_append, List.length_replicate, List.length_set, List.length_cons, List.length_nil, Nat.min_def]; omega) | (simp; omega))) rfl rfl ?_; rintro _ _ rfl)); all_goals try (first | refine W.ev (Ev.indexAddrK rfl (by first | exact Int.toNat_zero | exact Int.toNat_one | (simp only [Int.reduceToNat]; rfl)) (by (repeat (first | exact Rds.nil | refine Rds.cons ?_ ?_ | exact Rd.here (Sub.refl _) | exact Rd.here Sub.row | exact Rd.here (Sub.hiB (by omega)) | exact Rd.here (Sub.loB (by omega)) | exact Rd.here (Sub.cutB (by omega)) | exact Rd.here (Sub.trans (Sub.hiB (by omega)) Sub.row) | exact Rd.here (Sub.trans (Sub.loB (by omega)) Sub.row) | exact Rd.here (Sub.trans (Sub.cutB (by omega)) Sub.row) | refine Rd.there ?_)); fail_if_success (focus skip)) (by omega)) rfl rfl rfl ?_ | refine W.ev (Ev.indexAddr1 rfl rfl (by (repeat (first | exact Rds.nil | refine Rds.cons ?_ ?_ | exact Rd.here (Sub.refl _) | exact Rd.here Sub.row | exact Rd.here (Sub.hiB (by omega)) | exact Rd.here (Sub.loB (by omega)) | exact Rd.here (Sub.cutB (by omega)) | exact Rd.here (Sub.trans (Sub.hiB (by omega)) Sub.row) | exact Rd.here (Sub.trans (Sub.loB (by omega)) Sub.row) | exact Rd.here (Sub.trans (Sub.cutB (by omega)) Sub.row) | refine Rd.there ?_)); fail_if_success (focus skip)) (by omega)) rfl rfl rfl ?_); all_goals try (first | (refine W.stp0 (Stp.storeB rfl rfl (by (repeat constructor); fail_if_success (focus skip)) (by first | omega | (simp only [List.length_drop, List.length_take, List.length_append, List.length_replicate, List.length_set, List.length_cons, List.length_nil, Nat.min_def]; omega) | (simp; omega))) rfl rfl ?_; rintro _ _ rfl) | (refine W.stp0 (Stp.storeBk rfl rfl (by (repeat constructor); fail_if_success (focus skip)) (by omega) (by first | omega | (simp only [List.length_drop, List.length_take, List.length_append, List.length_replicate, List.length_set, List.length_cons, List.length_nil, Nat.min_def]; omega) | (simp; omega))) rfl rfl ?_; rintro _ _ rfl)); all_goals try refine W.nil ?_)
    | (refine WC.region (id := 10) ?_; try refine W.ev (Ev.move rfl) rfl rfl rfl ?_; all_goals try refine W.ev (Ev.sliceLo rfl rfl (by omega)) rfl rfl rfl ?_; all_goals try refine W.ev (Ev.move rfl) rfl rfl rfl ?_; all_goals try (refine W.stp (Stp.copyInB rfl rfl (by (repeat constructor); fail_if_success (focus skip)) (by (repeat (first | exact Rds.nil | refine Rds.cons ?_ ?_ | exact Rd.here (Sub.refl _) | exact Rd.here Sub.row | exact Rd.here (Sub.hiB (by omega)) | exact Rd.here (Sub.loB (by omega)) | exact Rd.here (Sub.cutB (by omega)) | exact Rd.here (Sub.trans (Sub.hiB (by omega)) Sub.row) | exact Rd.here (Sub.trans (Sub.loB (by omega)) Sub.row) | exact Rd.here (Sub.trans (Sub.cutB (by omega)) Sub.row) | refine Rd.there ?_)); fail_if_success (focus skip)) (by omega) (by omega)) rfl rfl rfl ?_; rintro _ _ ⟨rfl, rfl⟩); all_goals try refine W.nil ?_)
    | (refine WC.region (id := 11) ?_; try refine W.ev (Ev.move rfl) rfl rfl rfl ?_; all_goals try refine W.ev (Ev.assign rfl) rfl rfl rfl ?_; all_goals try refine W.ev (Ev.assign rfl) rfl rfl rfl ?_; all_goals try refine W.nil ?_)
    | refine W.nil ?_
    | refine W.gon rfl rfl (by first | rfl | assumption | (apply decide_eq_true; first | rfl | omega) | (apply decide_eq_false; omega)) ?_
    | refine W.goff rfl rfl (by first | rfl | assumption | (apply decide_eq_true; first | rfl | omega) | (apply decide_eq_false; omega)) rfl ?_
    | refine W.goff0 rfl rfl (by first | rfl | assumption | (apply decide_eq_true; first | rfl | omega) | (apply decide_eq_false; omega)) ?_
    | refine W.goffu rfl rfl rfl ?_
    | refine W.goffu0 rfl rfl ?_
    | refine W.ev (Ev.assign rfl) rfl rfl rfl ?_
    | refine W.ev (Ev.move rfl) rfl rfl rfl ?_
    | refine W.ev (Ev.len rfl) rfl rfl rfl ?_
    | (refine W.stp (Stp.cal rfl rfl (Class_spec _) (by (repeat constructor); fail_if_success (focus skip)) (by (repeat (first | exact Rds.nil | refine Rds.cons ?_ ?_ | exact Rd.here (Sub.refl _) | exact Rd.here Sub.row | exact Rd.here (Sub.hiB (by omega)) | exact Rd.here (Sub.loB (by omega)) | exact Rd.here (Sub.cutB (by omega)) | exact Rd.here (Sub.trans (Sub.hiB (by omega)) Sub.row) | exact Rd.here (Sub.trans (Sub.loB (by omega)) Sub.row) | exact Rd.here (Sub.trans (Sub.cutB (by omega)) Sub.row) | refine Rd.there ?_)); fail_if_success (focus skip))) rfl rfl rfl ?_; rintro _ _ ⟨_, ⟨rfl, rfl⟩, rfl⟩)
    | refine W.ev (Ev.gtr rfl rfl) rfl rfl rfl ?_
    | refine W.ev (Ev.pickT rfl rfl) rfl rfl rfl ?_ | refine W.ev (Ev.pickF rfl rfl) rfl rfl rfl ?_ | refine W.ev (Ev.pickB rfl rfl rfl) rfl rfl rfl ?_
    | refine W.ev (Ev.eql rfl rfl) rfl rfl rfl ?_
    | (refine W.stp (Stp.makeB rfl rfl ⟨by omega, by omega, by omega, by omega⟩) rfl rfl rfl ?_; rintro _ _ ⟨g, rfl, rfl⟩)
    | refine W.ev (Ev.indexAddrK rfl (by first | exact Int.toNat_zero | exact Int.toNat_one | (simp only [Int.reduceToNat]; rfl)) (by (repeat (first | exact Rds.nil | refine Rds.cons ?_ ?_ | exact Rd.here (Sub.refl _) | exact Rd.here Sub.row | exact Rd.here (Sub.hiB (by omega)) | exact Rd.here (Sub.loB (by omega)) | exact Rd.here (Sub.cutB (by omega)) | exact Rd.here (Sub.trans (Sub.hiB (by omega)) Sub.row) | exact Rd.here (Sub.trans (Sub.loB (by omega)) Sub.row) | exact Rd.here (Sub.trans (Sub.cutB (by omega)) Sub.row) | refine Rd.there ?_)); fail_if_success (focus skip)) (by omega)) rfl rfl rfl ?_ | refine W.ev (Ev.indexAddr1 rfl rfl (by (repeat (first | exact Rds.nil | refine Rds.cons ?_ ?_ | exact Rd.here (Sub.refl _) | exact Rd.here Sub.row | exact Rd.here (Sub.hiB (by omega)) | exact Rd.here (Sub.loB (by omega)) | exact Rd.here (Sub.cutB (by omega)) | exact Rd.here (Sub.trans (Sub.hiB (by omega)) Sub.row) | exact Rd.here (Sub.trans (Sub.loB (by omega)) Sub.row) | exact Rd.here (Sub.trans (Sub.cutB (by omega)) Sub.row) | refine Rd.there ?_)); fail_if_success (focus skip)) (by omega)) rfl rfl rfl ?_
    | (refine W.stp0 (Stp.storeB rfl rfl (by (repeat constructor); fail_if_success (focus skip)) (by first | omega | (simp only [List.length_drop, List.length_take, List.length_append, List.length_replicate, List.length_set, List.length_cons, List.length_nil, Nat.min_def]; omega) | (simp; omega))) rfl rfl ?_; rintro _ _ rfl)
    | (refine W.stp0 (Stp.storeBk rfl rfl (by (repeat constructor); fail_if_success (focus skip)) (by omega) (by first | omega | (simp only [List.length_drop, List.length_take, List.length_append, List.length_replicate, List.length_set, List.length_cons, List.length_nil, Nat.min_def]; omega) | (simp; omega))) rfl rfl ?_; rintro _ _ rfl)
    | refine W.ev (Ev.shrm 8 256 rfl rfl (by decide) (by decide)) rfl rfl rfl ?_
    | refine W.ev (Ev.conv8 rfl) rfl rfl rfl ?_
    | refine W.ev (Ev.sliceLo rfl rfl (by omega)) rfl rfl rfl ?_
    | (refine W.stp (Stp.copyInB rfl rfl (by (repeat constructor); fail_if_success (focus skip)) (by (repeat (first | exact Rds.nil | refine Rds.cons ?_ ?_ | exact Rd.here (Sub.refl _) | exact Rd.here Sub.row | exact Rd.here (Sub.hiB (by omega)) | exact Rd.here (Sub.loB (by omega)) | exact Rd.here (Sub.cutB (by omega)) | exact Rd.here (Sub.trans (Sub.hiB (by omega)) Sub.row) | exact Rd.here (Sub.trans (Sub.loB (by omega)) Sub.row) | exact Rd.here (Sub.trans (Sub.cutB (by omega)) Sub.row) | refine Rd.there ?_)); fail_if_success (focus skip)) (by omega) (by omega)) rfl rfl rfl ?_; rintro _ _ ⟨rfl, rfl⟩))
  · obtain rfl : tomb = true := by assumption
    have h2 : padErr bs.length true = 2 := by rcases herr with h | h | h <;> simp_all <;> omega
    refine WC.nilRow 5 1 (WC.lst (congrArg (fun q => [bO _ _ _ _ q]) (padOut_err (bs := bs) (tomb := true) (by omega)).symm) ?_)
    rw [h2]
    repeat' (first
    | refine WC.seq ?_
    | refine WC.region ?_
    | refine W.nil ?_
    | refine WC.block ?_
    | refine WC.skip ?_
    | refine WC.exit ?_
    | refine WC.ret ?_
    | refine K.norm_then ?_
    | refine K.norm_block ?_
    | refine K.exit_then ?_
    | refine K.exit_hit ?_
    | refine K.exit_miss rfl ?_
    | refine K.ret_then ?_
    | refine K.ret_block ?_
    | refine W.gon rfl rfl (by first | rfl | assumption | (apply decide_eq_true; first | rfl | omega) | (apply decide_eq_false; omega)) ?_
    | refine W.goff rfl rfl (by first | rfl | assumption | (apply decide_eq_true; first | rfl | omega) | (apply decide_eq_false; omega)) rfl ?_
    | refine W.goff0 rfl rfl (by first | rfl | assumption | (apply decide_eq_true; first | rfl | omega) | (apply decide_eq_false; omega)) ?_
    | refine W.goffu rfl rfl rfl ?_
    | refine W.goffu0 rfl rfl ?_)
    exact ⟨_, rfl, _, ⟨_, _, _, rfl, rfl⟩, _, by repeat constructor⟩
  · obtain rfl : tomb = true := by assumption
    obtain rfl : bs = [] := List.eq_nil_of_length_eq_zero (by omega)
    have h0 : padErr ([] : List UInt8).length true = 0 := rfl
    refine WC.lst (congrArg (fun q => [bO _ _ _ _ q]) ((padOut_made _ _ _ (by omega) _ _).trans (padOut_ok h0).symm)) ?_
    repeat' (first
    | refine WC.seq ?_
    | refine WC.region ?_
    | refine W.nil ?_
    | refine WC.block ?_
    | refine WC.skip ?_
    | refine WC.exit ?_
    | refine WC.ret ?_
    | refine K.norm_then ?_
    | refine K.norm_block ?_
    | refine K.exit_then ?_
    | refine K.exit_hit ?_
    | refine K.exit_miss rfl ?_
    | refine K.ret_then ?_
    | refine K.ret_block ?_
    | refine W.gon rfl rfl (by first | rfl | assumption | (apply decide_eq_true; first | rfl | omega) | (apply decide_eq_false; omega)) ?_
    | refine W.goff rfl rfl (by first | rfl | assumption | (apply decide_eq_true; first | rfl | omega) | (apply decide_eq_false; omega)) rfl ?_
    | refine W.goff0 rfl rfl (by first | rfl | assumption | (apply decide_eq_true; first | rfl | omega) | (apply decide_eq_false; omega)) ?_
    | refine W.goffu rfl rfl rfl ?_
    | refine W.goffu0 rfl rfl ?_)
    exact ⟨_, rfl, _, ⟨_, _, _, rfl, rfl⟩, _, by repeat constructor⟩
  · obtain rfl : tomb = false := by assumption
    have h2 : padErr bs.length false = 70 := by rcases herr with h | h | h <;> simp_all <;> omega
    refine WC.nilRow 5 1 (WC.lst (congrArg (fun q => [bO _ _ _ _ q]) (padOut_err (bs := bs) (tomb := false) (by omega)).symm) ?_)
    rw [h2]
    repeat' (first
    | refine WC.seq ?_
    | refine WC.region ?_
    | refine W.nil ?_
    | refine WC.block ?_
    | refine WC.skip ?_
    | refine WC.exit ?_
    | refine WC.ret ?_
    | refine K.norm_then ?_
    | refine K.norm_block ?_
    | refine K.exit_then ?_
    | refine K.exit_hit ?_
    | refine K.exit_miss rfl ?_
    | refine K.ret_then ?_
    | refine K.ret_block ?_
    | refine W.gon rfl rfl (by first | rfl | assumption | (apply decide_eq_true; first | rfl | omega) | (apply decide_eq_false; omega)) ?_
    | refine W.goff rfl rfl (by first | rfl | assumption | (apply decide_eq_true; first | rfl | omega) | (apply decide_eq_false; omega)) rfl ?_
    | refine W.goff0 rfl rfl (by first | rfl | assumption | (apply decide_eq_true; first | rfl | omega) | (apply decide_eq_false; omega)) ?_
    | refine W.goffu rfl rfl rfl ?_
    | refine W.goffu0 rfl rfl ?_)
    exact ⟨_, rfl, _, ⟨_, _, _, rfl, rfl⟩, _, by repeat constructor⟩
  · obtain rfl : tomb = false := by assumption
    have h0 : padErr bs.length false = 0 := by rcases herr with h | h | h <;> simp_all <;> omega
    refine WC.lst (congrArg (fun q => [bO _ _ _ _ q]) ((padOut_made0 _ _ (by omega) _ _).trans (padOut_ok h0).symm)) ?_
    rw [h0]
    repeat' (first
    | refine WC.seq ?_
    | refine WC.region ?_
    | refine W.nil ?_
    | refine WC.block ?_
    | refine WC.skip ?_
    | refine WC.exit ?_
    | refine WC.ret ?_
    | refine K.norm_then ?_
    | refine K.norm_block ?_
    | refine K.exit_then ?_
    | refine K.exit_hit ?_
    | refine K.exit_miss rfl ?_
    | refine K.ret_then ?_
    | refine K.ret_block ?_
    | refine W.gon rfl rfl (by first | rfl | assumption | (apply decide_eq_true; first | rfl | omega) | (apply decide_eq_false; omega)) ?_
    | refine W.goff rfl rfl (by first | rfl | assumption | (apply decide_eq_true; first | rfl | omega) | (apply decide_eq_false; omega)) rfl ?_
    | refine W.goff0 rfl rfl (by first | rfl | assumption | (apply decide_eq_true; first | rfl | omega) | (apply decide_eq_false; omega)) ?_
    | refine W.goffu rfl rfl rfl ?_
    | refine W.goffu0 rfl rfl ?_)
    exact ⟨_, rfl, _, ⟨_, _, _, rfl, rfl⟩, _, by repeat constructor⟩
theorem byteOf_mod (n : Int) : byteOf (n % 256) = byteOf n := by unfold byteOf; rw [Int.emod_emod]
theorem hdT (m : Int) (x : UInt8) (bs : List UInt8) : [0, x, byteOf (m % 256)].set (Int.toNat 0) (byteOf 1) ++ bs = (cond true 1 0) :: x :: byteOf m :: (bs ++ List.replicate 0 0) := by
  rw [byteOf_mod, List.replicate_zero, List.append_nil]; rfl
theorem hdF (m : Int) (x : UInt8) (bs : List UInt8) : [0, x, byteOf (m % 256)] ++ bs = (cond false 1 0) :: x :: byteOf m :: (bs ++ List.replicate 0 0) := by
  rw [byteOf_mod, List.replicate_zero, List.append_nil]; rfl

theorem refPad_spec (A : Option Addr) (c n : Nat) (bs : List UInt8) (tomb : Bool) (hb : n ≤ 140737488351232) :
    Spec Tryd.prog 12 [.slice A n c, .bool tomb] [] [bR A c n bs] (fun v l' => ∃ A' n' c', v = .tuple #[.slice A' n' c', .int .i64 (padErr n tomb)] ∧ l' = [bO A' c' 5 n' (padOut bs tomb)]) := by
  refine Spec.fact (Rd.here (Sub.refl _)) bR_len fun hl => ?_
  obtain ⟨rfl, hl1, hl2⟩ := hl
  have hcls := padCls_cases bs.length
  have herr := padErr_cases bs.length tomb
  refine Spec.intro Tryd.func12 rfl rfl Tryd.ntmps12 rfl fun w0 => ?_
  repeat' (first
    | refine WC.seq ?_
    | refine K.norm_then ?_
    | refine WC.block ?_
    | refine WC.skip ?_
    | refine WC.exit ?_
    | refine K.norm_block ?_
    | refine K.exit_then ?_
    | refine K.exit_hit ?_
    | refine K.exit_miss rfl ?_
    | refine WC.condT rfl (by first | rfl | assumption | (apply decide_eq_true; first | rfl | omega) | (apply decide_eq_false; omega)) ?_
    | refine WC.condF rfl (by first | rfl | assumption | (apply decide_eq_true; first | rfl | omega) | (apply decide_eq_false; omega)) ?_
    | (refine WC.cond rfl (fun hc => ?_) (fun hc => ?_) <;> (try simp only [Bool.not_eq_false', Bool.not_eq_true', Bool.not_false, Bool.not_true, decide_eq_true_eq, decide_eq_false_iff_not] at hc) <;> (try (exfalso; omega)))
    | (refine WC.region (id := 0) ?_; try refine W.ev (Ev.assign rfl) rfl rfl rfl ?_; all_goals try refine W.ev (Ev.assign rfl) rfl rfl rfl ?_; all_goals try refine W.nil ?_)
    | (refine WC.region (id := 1) ?_; try refine W.ev (Ev.move rfl) rfl rfl rfl ?_; all_goals try refine W.ev (Ev.move rfl) rfl rfl rfl ?_; all_goals try (first | (refine W.gon rfl rfl (by first | rfl | assumption | (apply decide_eq_true; first | rfl | omega) | (apply decide_eq_false; omega)) ?_; refine W.ev (Ev.move rfl) rfl rfl rfl ?_) | refine W.goff rfl rfl (by first | rfl | assumption | (apply decide_eq_true; first | rfl | omega) | (apply decide_eq_false; omega)) rfl ?_ | refine W.goffu rfl rfl rfl ?_ | ((refine W.gpart rfl rfl rfl (fun hc => ?_) (fun hc => ?_) <;> (try simp only [Bool.not_eq_false', Bool.not_eq_true', Bool.not_false, Bool.not_true, decide_eq_true_eq, decide_eq_false_iff_not] at hc) <;> (try (exfalso; omega))); all_goals try refine W.ev (Ev.move rfl) rfl rfl rfl ?_)); all_goals try (first | (refine W.gon rfl rfl (by first | rfl | assumption | (apply decide_eq_true; first | rfl | omega) | (apply decide_eq_false; omega)) ?_; refine W.ev (Ev.len rfl) rfl rfl rfl ?_) | refine W.goff rfl rfl (by first | rfl | assumption | (apply decide_eq_true; first | rfl | omega) | (apply decide_eq_false; omega)) rfl ?_ | refine W.goffu rfl rfl rfl ?_ | ((refine W.gpart rfl rfl rfl (fun hc => ?_) (fun hc => ?_) <;> (try simp only [Bool.not_eq_false', Bool.not_eq_true', Bool.not_false, Bool.not_true, decide_eq_true_eq, decide_eq_false_iff_not] at hc) <;> (try (exfalso; omega))); all_goals try refine W.ev (Ev.len rfl) rfl rfl rfl ?_)); all_goals try (first | (refine W.gon rfl rfl (by first | rfl | assumption | (apply decide_eq_true; first | rfl | omega) | (apply decide_eq_false; omega)) ?_; refine W.ev (Ev.gtr rfl rfl) rfl rfl rfl ?_) | refine W.goff rfl rfl (by first | rfl | assumption | (apply decide_eq_true; first | rfl | omega) | (apply decide_eq_false; omega)) rfl ?_ | refine W.goffu rfl rfl rfl ?_ | ((refine W.gpart rfl rfl rfl (fun hc => ?_) (fun hc => ?_) <;> (try simp only [Bool.not_eq_false', Bool.not_eq_true', Bool.not_false, Bool.not_true, decide_eq_true_eq, decide_eq_false_iff_not] at hc) <;> (try (exfalso; omega))); all_goals try refine W.ev (Ev.gtr rfl rfl) rfl rfl rfl ?_)); all_goals try (first | refine W.ev (Ev.pickT rfl rfl) rfl rfl rfl ?_ | refine W.ev (Ev.pickF rfl rfl) rfl rfl rfl ?_ | refine W.ev (Ev.pickB rfl rfl rfl) rfl rfl rfl ?_); all_goals try refine W.nil ?_)
    | (refine WC.region (id := 2) ?_; try refine W.ev (Ev.assign rfl) rfl rfl rfl ?_; all_goals try refine W.ev (Ev.assign rfl) rfl rfl rfl ?_; all_goals try refine W.nil ?_)
    | (refine WC.region (id := 3) ?_; try refine W.ev (Ev.move rfl) rfl rfl rfl ?_; all_goals try refine W.ev (Ev.len rfl) rfl rfl rfl ?_; all_goals try refine W.ev (Ev.assign rfl) rfl rfl rfl ?_; all_goals try refine W.nil ?_)
    | (refine WC.region (id := 4) ?_; try refine W.ev (Ev.move rfl) rfl rfl rfl ?_; all_goals try (refine W.stp (Stp.cal rfl rfl (refClass_spec _) (by (repeat constructor); fail_if_success (focus skip)) (by (repeat (first | exact Rds.nil | refine Rds.cons ?_ ?_ | exact Rd.here (Sub.refl _) | exact Rd.here Sub.row | exact Rd.here (Sub.hiB (by omega)) | exact Rd.here (Sub.loB (by omega)) | exact Rd.here (Sub.cutB (by omega)) | exact Rd.here (Sub.trans (Sub.hiB (by omega)) Sub.row) | exact Rd.here (Sub.trans (Sub.loB (by omega)) Sub.row) | exact Rd.here (Sub.trans (Sub.cutB (by omega)) Sub.row) | refine Rd.there ?_)); fail_if_success (focus skip))) rfl rfl rfl ?_; rintro _ _ ⟨_, ⟨rfl, rfl⟩, rfl⟩); all_goals try refine W.ev (Ev.assign rfl) rfl rfl rfl ?_; all_goals try refine W.nil ?_)
    | (refine WC.region (id := 5) ?_; try refine W.ev (Ev.move rfl) rfl rfl rfl ?_; all_goals try refine W.ev (Ev.eql rfl rfl) rfl rfl rfl ?_; all_goals try refine W.nil ?_)
    | (refine WC.region (id := 6) ?_; try refine W.ev (Ev.assign rfl) rfl rfl rfl ?_; all_goals try refine W.ev (Ev.assign rfl) rfl rfl rfl ?_; all_goals try refine W.nil ?_)
    | (refine WC.region (id := 7) ?_; try refine W.ev (Ev.move rfl) rfl rfl rfl ?_; all_goals try refine W.ev (Ev.quo rfl rfl (by refine ⟨?_, ?_, ?_⟩ <;> omega)) rfl rfl rfl ?_; all_goals try refine W.ev (Ev.conv8 rfl) rfl rfl rfl ?_; all_goals try refine W.ev (Ev.move rfl) rfl rfl rfl ?_; all_goals try (first | refine W.ev (Ev.rem rfl rfl (by omega)) rfl rfl rfl ?_ | refine W.ev (Ev.remt rfl rfl (by omega)) rfl rfl rfl ?_); all_goals try refine W.ev (Ev.conv8 rfl) rfl rfl rfl ?_; all_goals try (refine W.stp (Stp.buildB [0, _, _] rfl rfl rfl rfl rfl) rfl rfl rfl ?_; rintro _ _ ⟨g, rfl, rfl⟩); all_goals try refine W.ev (Ev.assign rfl) rfl rfl rfl ?_; all_goals try refine W.nil ?_)
    | (refine WC.region (id := 8) ?_; try refine W.ev (Ev.move rfl) rfl rfl rfl ?_; all_goals try refine W.nil ?_)
    | (refine WC.region (id := 9) ?_; try refine W.ev (Ev.move rfl) rfl rfl rfl ?_; all_goals try (first | refine W.ev (Ev.indexAddrK rfl (by first | exact Int.toNat_zero | exact Int.toNat_one | (simp only [Int.reduceToNat]; rfl)) (by (repeat (first | exact Rds.nil | refine Rds.cons ?_ ?_ | exact Rd.here (Sub.refl _) | exact Rd.here Sub.row | exact Rd.here (Sub.hiB (by omega)) | exact Rd.here (Sub.loB (by omega)) | exact Rd.here (Sub.cutB (by omega)) | exact Rd.here (Sub.trans (Sub.hiB (by omega)) Sub.row) | exact Rd.here (Sub.trans (Sub.loB (by omega)) Sub.row) | exact Rd.here (Sub.trans (Sub.cutB (by omega)) Sub.row) | refine Rd.there ?_)); fail_if_success (focus skip)) (by omega)) rfl rfl rfl ?_ | refine W.ev (Ev.indexAddr1 rfl rfl (by (repeat (first | exact Rds.nil | refine Rds.cons ?_ ?_ | exact Rd.here (Sub.refl _) | exact Rd.here Sub.row | exact Rd.here (Sub.hiB (by omega)) | exact Rd.here (Sub.loB (by omega)) | exact Rd.here (Sub.cutB (by omega)) | exact Rd.here (Sub.trans (Sub.hiB (by omega)) Sub.row) | exact Rd.here (Sub.trans (Sub.loB (by omega)) Sub.row) | exact Rd.here (Sub.trans (Sub.cutB (by omega)) Sub.row) | refine Rd.there ?_)); fail_if_success (focus skip)) (by omega)) rfl rfl rfl ?_); all_goals try (first | (refine W.stp0 (Stp.storeB rfl rfl (by (repeat constructor); fail_if_success (focus skip)) (by first | omega | (simp only [List.length_drop, List.length_take, List.length_append, List.length_replicate, List.length_set, List.length_cons, List.length_nil, Nat.min_def]; omega) | (simp; omega))) rfl rfl ?_; rintro _ _ rfl) | (refine W.stp0 (Stp.storeBk rfl rfl (by (repeat constructor); fail_if_success (focus skip)) (by omega) (by first | omega | (simp only [List.length_drop, List.length_take, List.length_append, List.length_replicate, List.length_set, List.length_cons, List.length_nil, Nat.min_def]; omega) | (simp; omega))) rfl rfl ?_; rintro _ _ rfl)); all_goals try refine W.nil ?_)
    | (refine WC.region (id := 10) ?_; try refine W.ev (Ev.move rfl) rfl rfl rfl ?_; all_goals try refine W.ev (Ev.move rfl) rfl rfl rfl ?_; all_goals try (first | (refine W.stp (Stp.copyB rfl rfl (by (repeat (first | exact Rds.nil | refine Rds.cons ?_ ?_ | exact Rd.here (Sub.refl _) | exact Rd.here Sub.row | exact Rd.here (Sub.hiB (by omega)) | exact Rd.here (Sub.loB (by omega)) | exact Rd.here (Sub.cutB (by omega)) | exact Rd.here (Sub.trans (Sub.hiB (by omega)) Sub.row) | exact Rd.here (Sub.trans (Sub.loB (by omega)) Sub.row) | exact Rd.here (Sub.trans (Sub.cutB (by omega)) Sub.row) | refine Rd.there ?_)); fail_if_success (focus skip)) rfl (by omega) (by omega)) rfl rfl rfl ?_; rintro _ _ ⟨A2, c2, rfl, rfl⟩) | (refine W.stp (Stp.appendB rfl rfl (by (repeat constructor); fail_if_success (focus skip)) (by (repeat (first | exact Rds.nil | refine Rds.cons ?_ ?_ | exact Rd.here (Sub.refl _) | exact Rd.here Sub.row | exact Rd.here (Sub.hiB (by omega)) | exact Rd.here (Sub.loB (by omega)) | exact Rd.here (Sub.cutB (by omega)) | exact Rd.here (Sub.trans (Sub.hiB (by omega)) Sub.row) | exact Rd.here (Sub.trans (Sub.loB (by omega)) Sub.row) | exact Rd.here (Sub.trans (Sub.cutB (by omega)) Sub.row) | refine Rd.there ?_)); fail_if_success (focus skip)) rfl (by omega) (by omega)) rfl rfl rfl ?_; rintro _ _ ⟨A2, c2, rfl, rfl⟩)); all_goals try refine W.ev (Ev.assign rfl) rfl rfl rfl ?_; all_goals try refine W.nil ?_)
    | (refine WC.region (id := 11) ?_; try refine W.ev (Ev.move rfl) rfl rfl rfl ?_; all_goals try refine W.ev (Ev.len rfl) rfl rfl rfl ?_; all_goals try refine W.ev (Ev.move rfl) rfl rfl rfl ?_; all_goals try refine W.ev (Ev.lss rfl rfl) rfl rfl rfl ?_; all_goals try refine W.nil ?_)
    | (refine WC.region (id := 12) ?_; try refine W.ev (Ev.move rfl) rfl rfl rfl ?_; all_goals try (refine W.stp (Stp.buildB [0] rfl rfl rfl rfl rfl) rfl rfl rfl ?_; rintro _ _ ⟨g, rfl, rfl⟩); all_goals try (first | (refine W.stp (Stp.copyB rfl rfl (by (repeat (first | exact Rds.nil | refine Rds.cons ?_ ?_ | exact Rd.here (Sub.refl _) | exact Rd.here Sub.row | exact Rd.here (Sub.hiB (by omega)) | exact Rd.here (Sub.loB (by omega)) | exact Rd.here (Sub.cutB (by omega)) | exact Rd.here (Sub.trans (Sub.hiB (by omega)) Sub.row) | exact Rd.here (Sub.trans (Sub.loB (by omega)) Sub.row) | exact Rd.here (Sub.trans (Sub.cutB (by omega)) Sub.row) | refine Rd.there ?_)); fail_if_success (focus skip)) rfl (by omega) (by omega)) rfl rfl rfl ?_; rintro _ _ ⟨A2, c2, rfl, rfl⟩) | (refine W.stp (Stp.appendB rfl rfl (by (repeat constructor); fail_if_success (focus skip)) (by (repeat (first | exact Rds.nil | refine Rds.cons ?_ ?_ | exact Rd.here (Sub.refl _) | exact Rd.here Sub.row | exact Rd.here (Sub.hiB (by omega)) | exact Rd.here (Sub.loB (by omega)) | exact Rd.here (Sub.cutB (by omega)) | exact Rd.here (Sub.trans (Sub.hiB (by omega)) Sub.row) | exact Rd.here (Sub.trans (Sub.loB (by omega)) Sub.row) | exact Rd.here (Sub.trans (Sub.cutB (by omega)) Sub.row) | refine Rd.there ?_)); fail_if_success (focus skip)) rfl (by omega) (by omega)) rfl rfl rfl ?_; rintro _ _ ⟨A2, c2, rfl, rfl⟩)); all_goals try refine W.ev (Ev.assign rfl) rfl rfl rfl ?_; all_goals try refine W.nil ?_)
    | (refine WC.region (id := 13) ?_; try refine W.ev (Ev.move rfl) rfl rfl rfl ?_; all_goals try refine W.ev (Ev.assign rfl) rfl rfl rfl ?_; all_goals try refine W.ev (Ev.assign rfl) rfl rfl rfl ?_; all_goals try refine W.nil ?_)
    | refine W.nil ?_
    | refine W.gon rfl rfl (by first | rfl | assumption | (apply decide_eq_true; first | rfl | omega) | (apply decide_eq_false; omega)) ?_
    | refine W.goff rfl rfl (by first | rfl | assumption | (apply decide_eq_true; first | rfl | omega) | (apply decide_eq_false; omega)) rfl ?_
    | refine W.goff0 rfl rfl (by first | rfl | assumption | (apply decide_eq_true; first | rfl | omega) | (apply decide_eq_false; omega)) ?_
    | refine W.goffu rfl rfl rfl ?_
    | refine W.goffu0 rfl rfl ?_
    | refine W.ev (Ev.assign rfl) rfl rfl rfl ?_
    | refine W.ev (Ev.move rfl) rfl rfl rfl ?_
    | refine W.ev (Ev.len rfl) rfl rfl rfl ?_
    | refine W.ev (Ev.gtr rfl rfl) rfl rfl rfl ?_
    | refine W.ev (Ev.pickT rfl rfl) rfl rfl rfl ?_ | refine W.ev (Ev.pickF rfl rfl) rfl rfl rfl ?_ | refine W.ev (Ev.pickB rfl rfl rfl) rfl rfl rfl ?_
    | (refine W.stp (Stp.cal rfl rfl (refClass_spec _) (by (repeat constructor); fail_if_success (focus skip)) (by (repeat (first | exact Rds.nil | refine Rds.cons ?_ ?_ | exact Rd.here (Sub.refl _) | exact Rd.here Sub.row | exact Rd.here (Sub.hiB (by omega)) | exact Rd.here (Sub.loB (by omega)) | exact Rd.here (Sub.cutB (by omega)) | exact Rd.here (Sub.trans (Sub.hiB (by omega)) Sub.row) | exact Rd.here (Sub.trans (Sub.loB (by omega)) Sub.row) | exact Rd.here (Sub.trans (Sub.cutB (by omega)) Sub.row) | refine Rd.there ?_)); fail_if_success (focus skip))) rfl rfl rfl ?_; rintro _ _ ⟨_, ⟨rfl, rfl⟩, rfl⟩)
    | refine W.ev (Ev.eql rfl rfl) rfl rfl rfl ?_
    | refine W.ev (Ev.quo rfl rfl (by refine ⟨?_, ?_, ?_⟩ <;> omega)) rfl rfl rfl ?_
    | refine W.ev (Ev.conv8 rfl) rfl rfl rfl ?_
    | refine W.ev (Ev.rem rfl rfl (by omega)) rfl rfl rfl ?_ | refine W.ev (Ev.remt rfl rfl (by omega)) rfl rfl rfl ?_
    | (refine W.stp (Stp.buildB [0, _, _] rfl rfl rfl rfl rfl) rfl rfl rfl ?_; rintro _ _ ⟨g, rfl, rfl⟩)
    | refine W.ev (Ev.indexAddrK rfl (by first | exact Int.toNat_zero | exact Int.toNat_one | (simp only [Int.reduceToNat]; rfl)) (by (repeat (first | exact Rds.nil | refine Rds.cons ?_ ?_ | exact Rd.here (Sub.refl _) | exact Rd.here Sub.row | exact Rd.here (Sub.hiB (by omega)) | exact Rd.here (Sub.loB (by omega)) | exact Rd.here (Sub.cutB (by omega)) | exact Rd.here (Sub.trans (Sub.hiB (by omega)) Sub.row) | exact Rd.here (Sub.trans (Sub.loB (by omega)) Sub.row) | exact Rd.here (Sub.trans (Sub.cutB (by omega)) Sub.row) | refine Rd.there ?_)); fail_if_success (focus skip)) (by omega)) rfl rfl rfl ?_ | refine W.ev (Ev.indexAddr1 rfl rfl (by (repeat (first | exact Rds.nil | refine Rds.cons ?_ ?_ | exact Rd.here (Sub.refl _) | exact Rd.here Sub.row | exact Rd.here (Sub.hiB (by omega)) | exact Rd.here (Sub.loB (by omega)) | exact Rd.here (Sub.cutB (by omega)) | exact Rd.here (Sub.trans (Sub.hiB (by omega)) Sub.row) | exact Rd.here (Sub.trans (Sub.loB (by omega)) Sub.row) | exact Rd.here (Sub.trans (Sub.cutB (by omega)) Sub.row) | refine Rd.there ?_)); fail_if_success (focus skip)) (by omega)) rfl rfl rfl ?_
    | (refine W.stp0 (Stp.storeB rfl rfl (by (repeat constructor); fail_if_success (focus skip)) (by first | omega | (simp only [List.length_drop, List.length_take, List.length_append, List.length_replicate, List.length_set, List.length_cons, List.length_nil, Nat.min_def]; omega) | (simp; omega))) rfl rfl ?_; rintro _ _ rfl)
    | (refine W.stp0 (Stp.storeBk rfl rfl (by (repeat constructor); fail_if_success (focus skip)) (by omega) (by first | omega | (simp only [List.length_drop, List.length_take, List.length_append, List.length_replicate, List.length_set, List.length_cons, List.length_nil, Nat.min_def]; omega) | (simp; omega))) rfl rfl ?_; rintro _ _ rfl)
    | (refine W.stp (Stp.copyB rfl rfl (by (repeat (first | exact Rds.nil | refine Rds.cons ?_ ?_ | exact Rd.here (Sub.refl _) | exact Rd.here Sub.row | exact Rd.here (Sub.hiB (by omega)) | exact Rd.here (Sub.loB (by omega)) | exact Rd.here (Sub.cutB (by omega)) | exact Rd.here (Sub.trans (Sub.hiB (by omega)) Sub.row) | exact Rd.here (Sub.trans (Sub.loB (by omega)) Sub.row) | exact Rd.here (Sub.trans (Sub.cutB (by omega)) Sub.row) | refine Rd.there ?_)); fail_if_success (focus skip)) rfl (by omega) (by omega)) rfl rfl rfl ?_; rintro _ _ ⟨A2, c2, rfl, rfl⟩)
    | (refine W.stp (Stp.appendB rfl rfl (by (repeat constructor); fail_if_success (focus skip)) (by (repeat (first | exact Rds.nil | refine Rds.cons ?_ ?_ | exact Rd.here (Sub.refl _) | exact Rd.here Sub.row | exact Rd.here (Sub.hiB (by omega)) | exact Rd.here (Sub.loB (by omega)) | exact Rd.here (Sub.cutB (by omega)) | exact Rd.here (Sub.trans (Sub.hiB (by omega)) Sub.row) | exact Rd.here (Sub.trans (Sub.loB (by omega)) Sub.row) | exact Rd.here (Sub.trans (Sub.cutB (by omega)) Sub.row) | refine Rd.there ?_)); fail_if_success (focus skip)) rfl (by omega) (by omega)) rfl rfl rfl ?_; rintro _ _ ⟨A2, c2, rfl, rfl⟩)
    | refine W.ev (Ev.lss rfl rfl) rfl rfl rfl ?_
    | (refine W.stp (Stp.buildB [0] rfl rfl rfl rfl rfl) rfl rfl rfl ?_; rintro _ _ ⟨g, rfl, rfl⟩))
  · obtain rfl : tomb = true := by assumption
    have h2 : padErr bs.length true = 2 := by rcases herr with h | h | h <;> simp_all <;> omega
    refine WC.nilRow 5 1 (WC.lst (congrArg (fun q => [bO _ _ _ _ q]) (padOut_err (bs := bs) (tomb := true) (by omega)).symm) ?_)
    rw [h2]
    repeat' (first
    | refine WC.seq ?_
    | refine WC.region ?_
    | refine W.nil ?_
    | refine WC.block ?_
    | refine WC.skip ?_
    | refine WC.exit ?_
    | refine WC.ret ?_
    | refine K.norm_then ?_
    | refine K.norm_block ?_
    | refine K.exit_then ?_
    | refine K.exit_hit ?_
    | refine K.exit_miss rfl ?_
    | refine K.ret_then ?_
    | refine K.ret_block ?_
    | refine W.gon rfl rfl (by first | rfl | assumption | (apply decide_eq_true; first | rfl | omega) | (apply decide_eq_false; omega)) ?_
    | refine W.goff rfl rfl (by first | rfl | assumption | (apply decide_eq_true; first | rfl | omega) | (apply decide_eq_false; omega)) rfl ?_
    | refine W.goff0 rfl rfl (by first | rfl | assumption | (apply decide_eq_true; first | rfl | omega) | (apply decide_eq_false; omega)) ?_
    | refine W.goffu rfl rfl rfl ?_
    | refine W.goffu0 rfl rfl ?_)
    exact ⟨_, rfl, _, ⟨_, _, _, rfl, rfl⟩, _, by repeat constructor⟩
  rotate_left
  · obtain rfl : tomb = false := by assumption
    have h2 : padErr bs.length false = 70 := by rcases herr with h | h | h <;> simp_all <;> omega
    refine WC.nilRow 5 1 (WC.lst (congrArg (fun q => [bO _ _ _ _ q]) (padOut_err (bs := bs) (tomb := false) (by omega)).symm) ?_)
    rw [h2]
    repeat' (first
    | refine WC.seq ?_
    | refine WC.region ?_
    | refine W.nil ?_
    | refine WC.block ?_
    | refine WC.skip ?_
    | refine WC.exit ?_
    | refine WC.ret ?_
    | refine K.norm_then ?_
    | refine K.norm_block ?_
    | refine K.exit_then ?_
    | refine K.exit_hit ?_
    | refine K.exit_miss rfl ?_
    | refine K.ret_then ?_
    | refine K.ret_block ?_
    | refine W.gon rfl rfl (by first | rfl | assumption | (apply decide_eq_true; first | rfl | omega) | (apply decide_eq_false; omega)) ?_
    | refine W.goff rfl rfl (by first | rfl | assumption | (apply decide_eq_true; first | rfl | omega) | (apply decide_eq_false; omega)) rfl ?_
    | refine W.goff0 rfl rfl (by first | rfl | assumption | (apply decide_eq_true; first | rfl | omega) | (apply decide_eq_false; omega)) ?_
    | refine W.goffu rfl rfl rfl ?_
    | refine W.goffu0 rfl rfl ?_)
    exact ⟨_, rfl, _, ⟨_, _, _, rfl, rfl⟩, _, by repeat constructor⟩
  · obtain rfl : tomb = false := by assumption
    have h0 : padErr bs.length false = 0 := by rcases herr with h | h | h <;> simp_all <;> omega
    refine WC.lst (congrArg (fun q => [bO _ _ _ _ q]) (hdF _ _ _)) ?_
    refine WC.loop (X := Option Addr × Nat × Nat) (A2, c2, 0) (fun x => 3 + bs.length + x.2.2 ≤ (padCls bs.length).toNat)
      (fun x => [(7, .int .i64 (padCls bs.length)), (8, .slice x.1 (3 + bs.length + x.2.2) x.2.1)]) (fun x => [bO x.1 x.2.1 5 (3 + bs.length + x.2.2) ((cond false 1 0) :: byteOf (bs.length / 256) :: byteOf bs.length :: (bs ++ List.replicate x.2.2 0))]) (fun x => (padCls bs.length).toNat - (3 + bs.length + x.2.2)) (by simp only; omega) (by ((repeat (first | exact trivial | refine And.intro rfl ?_)); fail_if_success (focus skip))) ⟨_, by (repeat constructor); fail_if_success (focus skip)⟩ ?_
    rintro ⟨B, cB, k⟩ hk
    dsimp only at hk ⊢
    have e1 : ∀ (a b c : UInt8), (a :: b :: c :: (bs ++ List.replicate k 0)) ++ [0] = a :: b :: c :: (bs ++ List.replicate (k + 1) 0) := fun a b c => by simp [List.replicate_succ']
    repeat' (first
    | refine WC.seq ?_
    | refine K.norm_then ?_
    | refine WC.block ?_
    | refine WC.skip ?_
    | refine WC.exit ?_
    | refine K.norm_block ?_
    | refine K.exit_then ?_
    | refine K.exit_hit ?_
    | refine K.exit_miss rfl ?_
    | refine WC.condT rfl (by first | rfl | assumption | (apply decide_eq_true; first | rfl | omega) | (apply decide_eq_false; omega)) ?_
    | refine WC.condF rfl (by first | rfl | assumption | (apply decide_eq_true; first | rfl | omega) | (apply decide_eq_false; omega)) ?_
    | (refine WC.cond rfl (fun hc => ?_) (fun hc => ?_) <;> (try simp only [Bool.not_eq_false', Bool.not_eq_true', Bool.not_false, Bool.not_true, decide_eq_true_eq, decide_eq_false_iff_not] at hc) <;> (try (exfalso; omega)))
    | (refine WC.region (id := 0) ?_; try refine W.ev (Ev.assign rfl) rfl rfl rfl ?_; all_goals try refine W.ev (Ev.assign rfl) rfl rfl rfl ?_; all_goals try refine W.nil ?_)
    | (refine WC.region (id := 1) ?_; try refine W.ev (Ev.move rfl) rfl rfl rfl ?_; all_goals try refine W.ev (Ev.move rfl) rfl rfl rfl ?_; all_goals try (first | (refine W.gon rfl rfl (by first | rfl | assumption | (apply decide_eq_true; first | rfl | omega) | (apply decide_eq_false; omega)) ?_; refine W.ev (Ev.move rfl) rfl rfl rfl ?_) | refine W.goff rfl rfl (by first | rfl | assumption | (apply decide_eq_true; first | rfl | omega) | (apply decide_eq_false; omega)) rfl ?_ | refine W.goffu rfl rfl rfl ?_ | ((refine W.gpart rfl rfl rfl (fun hc => ?_) (fun hc => ?_) <;> (try simp only [Bool.not_eq_false', Bool.not_eq_true', Bool.not_false, Bool.not_true, decide_eq_true_eq, decide_eq_false_iff_not] at hc) <;> (try (exfalso; omega))); all_goals try refine W.ev (Ev.move rfl) rfl rfl rfl ?_)); all_goals try (first | (refine W.gon rfl rfl (by first | rfl | assumption | (apply decide_eq_true; first | rfl | omega) | (apply decide_eq_false; omega)) ?_; refine W.ev (Ev.len rfl) rfl rfl rfl ?_) | refine W.goff rfl rfl (by first | rfl | assumption | (apply decide_eq_true; first | rfl | omega) | (apply decide_eq_false; omega)) rfl ?_ | refine W.goffu rfl rfl rfl ?_ | ((refine W.gpart rfl rfl rfl (fun hc => ?_) (fun hc => ?_) <;> (try simp only [Bool.not_eq_false', Bool.not_eq_true', Bool.not_false, Bool.not_true, decide_eq_true_eq, decide_eq_false_iff_not] at hc) <;> (try (exfalso; omega))); all_goals try refine W.ev (Ev.len rfl) rfl rfl rfl ?_)); all_goals try (first | (refine W.gon rfl rfl (by first | rfl | assumption | (apply decide_eq_true; first | rfl | omega) | (apply decide_eq_false; omega)) ?_; refine W.ev (Ev.gtr rfl rfl) rfl rfl rfl ?_) | refine W.goff rfl rfl (by first | rfl | assumption | (apply decide_eq_true; first | rfl | omega) | (apply decide_eq_false; omega)) rfl ?_ | refine W.goffu rfl rfl rfl ?_ | ((refine W.gpart rfl rfl rfl (fun hc => ?_) (fun hc => ?_) <;> (try simp only [Bool.not_eq_false', Bool.not_eq_true', Bool.not_false, Bool.not_true, decide_eq_true_eq, decide_eq_false_iff_not] at hc) <;> (try (exfalso; omega))); all_goals try refine W.ev (Ev.gtr rfl rfl) rfl rfl rfl ?_)); all_goals try (first | refine W.ev (Ev.pickT rfl rfl) rfl rfl rfl ?_ | refine W.ev (Ev.pickF rfl rfl) rfl rfl rfl ?_ | refine W.ev (Ev.pickB rfl rfl rfl) rfl rfl rfl ?_); all_goals try refine W.nil ?_)
    | (refine WC.region (id := 2) ?_; try refine W.ev (Ev.assign rfl) rfl rfl rfl ?_; all_goals try refine W.ev (Ev.assign rfl) rfl rfl rfl ?_; all_goals try refine W.nil ?_)
    | (refine WC.region (id := 3) ?_; try refine W.ev (Ev.move rfl) rfl rfl rfl ?_; all_goals try refine W.ev (Ev.len rfl) rfl rfl rfl ?_; all_goals try refine W.ev (Ev.assign rfl) rfl rfl rfl ?_; all_goals try refine W.nil ?_)
    | (refine WC.region (id := 4) ?_; try refine W.ev (Ev.move rfl) rfl rfl rfl ?_; all_goals try fail; all_goals try refine W.ev (Ev.assign rfl) rfl rfl rfl ?_; all_goals try refine W.nil ?_)
    | (refine WC.region (id := 5) ?_; try refine W.ev (Ev.move rfl) rfl rfl rfl ?_; all_goals try refine W.ev (Ev.eql rfl rfl) rfl rfl rfl ?_; all_goals try refine W.nil ?_)
    | (refine WC.region (id := 6) ?_; try refine W.ev (Ev.assign rfl) rfl rfl rfl ?_; all_goals try refine W.ev (Ev.assign rfl) rfl rfl rfl ?_; all_goals try refine W.nil ?_)
    | (refine WC.region (id := 7) ?_; try refine W.ev (Ev.move rfl) rfl rfl rfl ?_; all_goals try refine W.ev (Ev.quo rfl rfl (by refine ⟨?_, ?_, ?_⟩ <;> omega)) rfl rfl rfl ?_; all_goals try refine W.ev (Ev.conv8 rfl) rfl rfl rfl ?_; all_goals try refine W.ev (Ev.move rfl) rfl rfl rfl ?_; all_goals try (first | refine W.ev (Ev.rem rfl rfl (by omega)) rfl rfl rfl ?_ | refine W.ev (Ev.remt rfl rfl (by omega)) rfl rfl rfl ?_); all_goals try refine W.ev (Ev.conv8 rfl) rfl rfl rfl ?_; all_goals try (refine W.stp (Stp.buildB [0, _, _] rfl rfl rfl rfl rfl) rfl rfl rfl ?_; rintro _ _ ⟨g, rfl, rfl⟩); all_goals try refine W.ev (Ev.assign rfl) rfl rfl rfl ?_; all_goals try refine W.nil ?_)
    | (refine WC.region (id := 8) ?_; try refine W.ev (Ev.move rfl) rfl rfl rfl ?_; all_goals try refine W.nil ?_)
    | (refine WC.region (id := 9) ?_; try refine W.ev (Ev.move rfl) rfl rfl rfl ?_; all_goals try (first | refine W.ev (Ev.indexAddrK rfl (by first | exact Int.toNat_zero | exact Int.toNat_one | (simp only [Int.reduceToNat]; rfl)) (by (repeat (first | exact Rds.nil | refine Rds.cons ?_ ?_ | exact Rd.here (Sub.refl _) | exact Rd.here Sub.row | exact Rd.here (Sub.hiB (by omega)) | exact Rd.here (Sub.loB (by omega)) | exact Rd.here (Sub.cutB (by omega)) | exact Rd.here (Sub.trans (Sub.hiB (by omega)) Sub.row) | exact Rd.here (Sub.trans (Sub.loB (by omega)) Sub.row) | exact Rd.here (Sub.trans (Sub.cutB (by omega)) Sub.row) | refine Rd.there ?_)); fail_if_success (focus skip)) (by omega)) rfl rfl rfl ?_ | refine W.ev (Ev.indexAddr1 rfl rfl (by (repeat (first | exact Rds.nil | refine Rds.cons ?_ ?_ | exact Rd.here (Sub.refl _) | exact Rd.here Sub.row | exact Rd.here (Sub.hiB (by omega)) | exact Rd.here (Sub.loB (by omega)) | exact Rd.here (Sub.cutB (by omega)) | exact Rd.here (Sub.trans (Sub.hiB (by omega)) Sub.row) | exact Rd.here (Sub.trans (Sub.loB (by omega)) Sub.row) | exact Rd.here (Sub.trans (Sub.cutB (by omega)) Sub.row) | refine Rd.there ?_)); fail_if_success (focus skip)) (by omega)) rfl rfl rfl ?_); all_goals try (first | (refine W.stp0 (Stp.storeB rfl rfl (by (repeat constructor); fail_if_success (focus skip)) (by first | omega | (simp only [List.length_drop, List.length_take, List.length_append, List.length_replicate, List.length_set, List.length_cons, List.length_nil, Nat.min_def]; omega) | (simp; omega))) rfl rfl ?_; rintro _ _ rfl) | (refine W.stp0 (Stp.storeBk rfl rfl (by (repeat constructor); fail_if_success (focus skip)) (by omega) (by first | omega | (simp only [List.length_drop, List.length_take, List.length_append, List.length_replicate, List.length_set, List.length_cons, List.length_nil, Nat.min_def]; omega) | (simp; omega))) rfl rfl ?_; rintro _ _ rfl)); all_goals try refine W.nil ?_)
    | (refine WC.region (id := 10) ?_; try refine W.ev (Ev.move rfl) rfl rfl rfl ?_; all_goals try refine W.ev (Ev.move rfl) rfl rfl rfl ?_; all_goals try (first | (refine W.stp (Stp.copyB rfl rfl (by (repeat (first | exact Rds.nil | refine Rds.cons ?_ ?_ | exact Rd.here (Sub.refl _) | exact Rd.here Sub.row | exact Rd.here (Sub.hiB (by omega)) | exact Rd.here (Sub.loB (by omega)) | exact Rd.here (Sub.cutB (by omega)) | exact Rd.here (Sub.trans (Sub.hiB (by omega)) Sub.row) | exact Rd.here (Sub.trans (Sub.loB (by omega)) Sub.row) | exact Rd.here (Sub.trans (Sub.cutB (by omega)) Sub.row) | refine Rd.there ?_)); fail_if_success (focus skip)) rfl (by omega) (by omega)) rfl rfl rfl ?_; rintro _ _ ⟨A2, c2, rfl, rfl⟩) | (refine W.stp (Stp.appendB rfl rfl (by (repeat constructor); fail_if_success (focus skip)) (by (repeat (first | exact Rds.nil | refine Rds.cons ?_ ?_ | exact Rd.here (Sub.refl _) | exact Rd.here Sub.row | exact Rd.here (Sub.hiB (by omega)) | exact Rd.here (Sub.loB (by omega)) | exact Rd.here (Sub.cutB (by omega)) | exact Rd.here (Sub.trans (Sub.hiB (by omega)) Sub.row) | exact Rd.here (Sub.trans (Sub.loB (by omega)) Sub.row) | exact Rd.here (Sub.trans (Sub.cutB (by omega)) Sub.row) | refine Rd.there ?_)); fail_if_success (focus skip)) rfl (by omega) (by omega)) rfl rfl rfl ?_; rintro _ _ ⟨A2, c2, rfl, rfl⟩)); all_goals try refine W.ev (Ev.assign rfl) rfl rfl rfl ?_; all_goals try refine W.nil ?_)
    | (refine WC.region (id := 11) ?_; try refine W.ev (Ev.move rfl) rfl rfl rfl ?_; all_goals try refine W.ev (Ev.len rfl) rfl rfl rfl ?_; all_goals try refine W.ev (Ev.move rfl) rfl rfl rfl ?_; all_goals try refine W.ev (Ev.lss rfl rfl) rfl rfl rfl ?_; all_goals try refine W.nil ?_)
    | (refine WC.region (id := 12) ?_; try refine W.ev (Ev.move rfl) rfl rfl rfl ?_; all_goals try (refine W.stp (Stp.buildB [0] rfl rfl rfl rfl rfl) rfl rfl rfl ?_; rintro _ _ ⟨g, rfl, rfl⟩); all_goals try (first | (refine W.stp (Stp.copyB rfl rfl (by (repeat (first | exact Rds.nil | refine Rds.cons ?_ ?_ | exact Rd.here (Sub.refl _) | exact Rd.here Sub.row | exact Rd.here (Sub.hiB (by omega)) | exact Rd.here (Sub.loB (by omega)) | exact Rd.here (Sub.cutB (by omega)) | exact Rd.here (Sub.trans (Sub.hiB (by omega)) Sub.row) | exact Rd.here (Sub.trans (Sub.loB (by omega)) Sub.row) | exact Rd.here (Sub.trans (Sub.cutB (by omega)) Sub.row) | refine Rd.there ?_)); fail_if_success (focus skip)) rfl (by omega) (by omega)) rfl rfl rfl ?_; rintro _ _ ⟨A2, c2, rfl, rfl⟩) | (refine W.stp (Stp.appendB rfl rfl (by (repeat constructor); fail_if_success (focus skip)) (by (repeat (first | exact Rds.nil | refine Rds.cons ?_ ?_ | exact Rd.here (Sub.refl _) | exact Rd.here Sub.row | exact Rd.here (Sub.hiB (by omega)) | exact Rd.here (Sub.loB (by omega)) | exact Rd.here (Sub.cutB (by omega)) | exact Rd.here (Sub.trans (Sub.hiB (by omega)) Sub.row) | exact Rd.here (Sub.trans (Sub.loB (by omega)) Sub.row) | exact Rd.here (Sub.trans (Sub.cutB (by omega)) Sub.row) | refine Rd.there ?_)); fail_if_success (focus skip)) rfl (by omega) (by omega)) rfl rfl rfl ?_; rintro _ _ ⟨A2, c2, rfl, rfl⟩)); all_goals try refine W.ev (Ev.assign rfl) rfl rfl rfl ?_; all_goals try refine W.nil ?_)
    | (refine WC.region (id := 13) ?_; try refine W.ev (Ev.move rfl) rfl rfl rfl ?_; all_goals try refine W.ev (Ev.assign rfl) rfl rfl rfl ?_; all_goals try refine W.ev (Ev.assign rfl) rfl rfl rfl ?_; all_goals try refine W.nil ?_)
    | refine W.nil ?_
    | refine W.gon rfl rfl (by first | rfl | assumption | (apply decide_eq_true; first | rfl | omega) | (apply decide_eq_false; omega)) ?_
    | refine W.goff rfl rfl (by first | rfl | assumption | (apply decide_eq_true; first | rfl | omega) | (apply decide_eq_false; omega)) rfl ?_
    | refine W.goff0 rfl rfl (by first | rfl | assumption | (apply decide_eq_true; first | rfl | omega) | (apply decide_eq_false; omega)) ?_
    | refine W.goffu rfl rfl rfl ?_
    | refine W.goffu0 rfl rfl ?_
    | refine W.ev (Ev.assign rfl) rfl rfl rfl ?_
    | refine W.ev (Ev.move rfl) rfl rfl rfl ?_
    | refine W.ev (Ev.len rfl) rfl rfl rfl ?_
    | refine W.ev (Ev.gtr rfl rfl) rfl rfl rfl ?_
    | refine W.ev (Ev.pickT rfl rfl) rfl rfl rfl ?_ | refine W.ev (Ev.pickF rfl rfl) rfl rfl rfl ?_ | refine W.ev (Ev.pickB rfl rfl rfl) rfl rfl rfl ?_
    | refine W.ev (Ev.eql rfl rfl) rfl rfl rfl ?_
    | refine W.ev (Ev.quo rfl rfl (by refine ⟨?_, ?_, ?_⟩ <;> omega)) rfl rfl rfl ?_
    | refine W.ev (Ev.conv8 rfl) rfl rfl rfl ?_
    | refine W.ev (Ev.rem rfl rfl (by omega)) rfl rfl rfl ?_ | refine W.ev (Ev.remt rfl rfl (by omega)) rfl rfl rfl ?_
    | (refine W.stp (Stp.buildB [0, _, _] rfl rfl rfl rfl rfl) rfl rfl rfl ?_; rintro _ _ ⟨g, rfl, rfl⟩)
    | refine W.ev (Ev.indexAddrK rfl (by first | exact Int.toNat_zero | exact Int.toNat_one | (simp only [Int.reduceToNat]; rfl)) (by (repeat (first | exact Rds.nil | refine Rds.cons ?_ ?_ | exact Rd.here (Sub.refl _) | exact Rd.here Sub.row | exact Rd.here (Sub.hiB (by omega)) | exact Rd.here (Sub.loB (by omega)) | exact Rd.here (Sub.cutB (by omega)) | exact Rd.here (Sub.trans (Sub.hiB (by omega)) Sub.row) | exact Rd.here (Sub.trans (Sub.loB (by omega)) Sub.row) | exact Rd.here (Sub.trans (Sub.cutB (by omega)) Sub.row) | refine Rd.there ?_)); fail_if_success (focus skip)) (by omega)) rfl rfl rfl ?_ | refine W.ev (Ev.indexAddr1 rfl rfl (by (repeat (first | exact Rds.nil | refine Rds.cons ?_ ?_ | exact Rd.here (Sub.refl _) | exact Rd.here Sub.row | exact Rd.here (Sub.hiB (by omega)) | exact Rd.here (Sub.loB (by omega)) | exact Rd.here (Sub.cutB (by omega)) | exact Rd.here (Sub.trans (Sub.hiB (by omega)) Sub.row) | exact Rd.here (Sub.trans (Sub.loB (by omega)) Sub.row) | exact Rd.here (Sub.trans (Sub.cutB (by omega)) Sub.row) | refine Rd.there ?_)); fail_if_success (focus skip)) (by omega)) rfl rfl rfl ?_
    | (refine W.stp0 (Stp.storeB rfl rfl (by (repeat constructor); fail_if_success (focus skip)) (by first | omega | (simp only [List.length_drop, List.length_take, List.length_append, List.length_replicate, List.length_set, List.length_cons, List.length_nil, Nat.min_def]; omega) | (simp; omega))) rfl rfl ?_; rintro _ _ rfl)
    | (refine W.stp0 (Stp.storeBk rfl rfl (by (repeat constructor); fail_if_success (focus skip)) (by omega) (by first | omega | (simp only [List.length_drop, List.length_take, List.length_append, List.length_replicate, List.length_set, List.length_cons, List.length_nil, Nat.min_def]; omega) | (simp; omega))) rfl rfl ?_; rintro _ _ rfl)
    | (refine W.stp (Stp.copyB rfl rfl (by (repeat (first | exact Rds.nil | refine Rds.cons ?_ ?_ | exact Rd.here (Sub.refl _) | exact Rd.here Sub.row | exact Rd.here (Sub.hiB (by omega)) | exact Rd.here (Sub.loB (by omega)) | exact Rd.here (Sub.cutB (by omega)) | exact Rd.here (Sub.trans (Sub.hiB (by omega)) Sub.row) | exact Rd.here (Sub.trans (Sub.loB (by omega)) Sub.row) | exact Rd.here (Sub.trans (Sub.cutB (by omega)) Sub.row) | refine Rd.there ?_)); fail_if_success (focus skip)) rfl (by omega) (by omega)) rfl rfl rfl ?_; rintro _ _ ⟨A2, c2, rfl, rfl⟩)
    | (refine W.stp (Stp.appendB rfl rfl (by (repeat constructor); fail_if_success (focus skip)) (by (repeat (first | exact Rds.nil | refine Rds.cons ?_ ?_ | exact Rd.here (Sub.refl _) | exact Rd.here Sub.row | exact Rd.here (Sub.hiB (by omega)) | exact Rd.here (Sub.loB (by omega)) | exact Rd.here (Sub.cutB (by omega)) | exact Rd.here (Sub.trans (Sub.hiB (by omega)) Sub.row) | exact Rd.here (Sub.trans (Sub.loB (by omega)) Sub.row) | exact Rd.here (Sub.trans (Sub.cutB (by omega)) Sub.row) | refine Rd.there ?_)); fail_if_success (focus skip)) rfl (by omega) (by omega)) rfl rfl rfl ?_; rintro _ _ ⟨A2, c2, rfl, rfl⟩)
    | refine W.ev (Ev.lss rfl rfl) rfl rfl rfl ?_
    | (refine W.stp (Stp.buildB [0] rfl rfl rfl rfl rfl) rfl rfl rfl ?_; rintro _ _ ⟨g, rfl, rfl⟩))
    · rw [e1]
      exact ⟨(_, _, k + 1), by simp only; omega, by ((repeat (first | exact trivial | refine And.intro rfl ?_)); fail_if_success (focus skip)), ⟨_, by (repeat constructor); fail_if_success (focus skip)⟩, by simp only; omega⟩
    · obtain rfl : k = (padCls bs.length).toNat - 3 - bs.length := by omega
      rw [← padOut_ok h0, h0]
      repeat' (first
    | refine WC.seq ?_
    | refine WC.region ?_
    | refine W.nil ?_
    | refine WC.block ?_
    | refine WC.skip ?_
    | refine WC.exit ?_
    | refine WC.ret ?_
    | refine K.norm_then ?_
    | refine K.norm_block ?_
    | refine K.exit_then ?_
    | refine K.exit_hit ?_
    | refine K.exit_miss rfl ?_
    | refine K.ret_then ?_
    | refine K.ret_block ?_
    | refine W.gon rfl rfl (by first | rfl | assumption | (apply decide_eq_true; first | rfl | omega) | (apply decide_eq_false; omega)) ?_
    | refine W.goff rfl rfl (by first | rfl | assumption | (apply decide_eq_true; first | rfl | omega) | (apply decide_eq_false; omega)) rfl ?_
    | refine W.goff0 rfl rfl (by first | rfl | assumption | (apply decide_eq_true; first | rfl | omega) | (apply decide_eq_false; omega)) ?_
    | refine W.goffu rfl rfl rfl ?_
    | refine W.goffu0 rfl rfl ?_
    | refine W.ev (Ev.move rfl) rfl rfl rfl ?_
    | refine W.ev (Ev.assign rfl) rfl rfl rfl ?_)
      exact ⟨_, rfl, _, ⟨_, _, _, rfl, rfl⟩, _, by repeat constructor⟩
  · obtain rfl : tomb = true := by assumption
    have h0 : padErr bs.length true = 0 := by rcases herr with h | h | h <;> simp_all <;> omega
    refine WC.lst (congrArg (fun q => [bO _ _ _ _ q]) (hdT _ _ _)) ?_
    refine WC.loop (X := Option Addr × Nat × Nat) (A2, c2, 0) (fun x => 3 + bs.length + x.2.2 ≤ (padCls bs.length).toNat)
      (fun x => [(7, .int .i64 (padCls bs.length)), (8, .slice x.1 (3 + bs.length + x.2.2) x.2.1)]) (fun x => [bO x.1 x.2.1 5 (3 + bs.length + x.2.2) ((cond true 1 0) :: byteOf (bs.length / 256) :: byteOf bs.length :: (bs ++ List.replicate x.2.2 0))]) (fun x => (padCls bs.length).toNat - (3 + bs.length + x.2.2)) (by simp only; omega) (by ((repeat (first | exact trivial | refine And.intro rfl ?_)); fail_if_success (focus skip))) ⟨_, by (repeat constructor); fail_if_success (focus skip)⟩ ?_
    rintro ⟨B, cB, k⟩ hk
    dsimp only at hk ⊢
    have e1 : ∀ (a b c : UInt8), (a :: b :: c :: (bs ++ List.replicate k 0)) ++ [0] = a :: b :: c :: (bs ++ List.replicate (k + 1) 0) := fun a b c => by simp [List.replicate_succ']
    repeat' (first
    | refine WC.seq ?_
    | refine K.norm_then ?_
    | refine WC.block ?_
    | refine WC.skip ?_
    | refine WC.exit ?_
    | refine K.norm_block ?_
    | refine K.exit_then ?_
    | refine K.exit_hit ?_
    | refine K.exit_miss rfl ?_
    | refine WC.condT rfl (by first | rfl | assumption | (apply decide_eq_true; first | rfl | omega) | (apply decide_eq_false; omega)) ?_
    | refine WC.condF rfl (by first | rfl | assumption | (apply decide_eq_true; first | rfl | omega) | (apply decide_eq_false; omega)) ?_
    | (refine WC.cond rfl (fun hc => ?_) (fun hc => ?_) <;> (try simp only [Bool.not_eq_false', Bool.not_eq_true', Bool.not_false, Bool.not_true, decide_eq_true_eq, decide_eq_false_iff_not] at hc) <;> (try (exfalso; omega)))
    | (refine WC.region (id := 0) ?_; try refine W.ev (Ev.assign rfl) rfl rfl rfl ?_; all_goals try refine W.ev (Ev.assign rfl) rfl rfl rfl ?_; all_goals try refine W.nil ?_)
    | (refine WC.region (id := 1) ?_; try refine W.ev (Ev.move rfl) rfl rfl rfl ?_; all_goals try refine W.ev (Ev.move rfl) rfl rfl rfl ?_; all_goals try (first | (refine W.gon rfl rfl (by first | rfl | assumption | (apply decide_eq_true; first | rfl | omega) | (apply decide_eq_false; omega)) ?_; refine W.ev (Ev.move rfl) rfl rfl rfl ?_) | refine W.goff rfl rfl (by first | rfl | assumption | (apply decide_eq_true; first | rfl | omega) | (apply decide_eq_false; omega)) rfl ?_ | refine W.goffu rfl rfl rfl ?_ | ((refine W.gpart rfl rfl rfl (fun hc => ?_) (fun hc => ?_) <;> (try simp only [Bool.not_eq_false', Bool.not_eq_true', Bool.not_false, Bool.not_true, decide_eq_true_eq, decide_eq_false_iff_not] at hc) <;> (try (exfalso; omega))); all_goals try refine W.ev (Ev.move rfl) rfl rfl rfl ?_)); all_goals try (first | (refine W.gon rfl rfl (by first | rfl | assumption | (apply decide_eq_true; first | rfl | omega) | (apply decide_eq_false; omega)) ?_; refine W.ev (Ev.len rfl) rfl rfl rfl ?_) | refine W.goff rfl rfl (by first | rfl | assumption | (apply decide_eq_true; first | rfl | omega) | (apply decide_eq_false; omega)) rfl ?_ | refine W.goffu rfl rfl rfl ?_ | ((refine W.gpart rfl rfl rfl (fun hc => ?_) (fun hc => ?_) <;> (try simp only [Bool.not_eq_false', Bool.not_eq_true', Bool.not_false, Bool.not_true, decide_eq_true_eq, decide_eq_false_iff_not] at hc) <;> (try (exfalso; omega))); all_goals try refine W.ev (Ev.len rfl) rfl rfl rfl ?_)); all_goals try (first | (refine W.gon rfl rfl (by first | rfl | assumption | (apply decide_eq_true; first | rfl | omega) | (apply decide_eq_false; omega)) ?_; refine W.ev (Ev.gtr rfl rfl) rfl rfl rfl ?_) | refine W.goff rfl rfl (by first | rfl | assumption | (apply decide_eq_true; first | rfl | omega) | (apply decide_eq_false; omega)) rfl ?_ | refine W.goffu rfl rfl rfl ?_ | ((refine W.gpart rfl rfl rfl (fun hc => ?_) (fun hc => ?_) <;> (try simp only [Bool.not_eq_false', Bool.not_eq_true', Bool.not_false, Bool.not_true, decide_eq_true_eq, decide_eq_false_iff_not] at hc) <;> (try (exfalso; omega))); all_goals try refine W.ev (Ev.gtr rfl rfl) rfl rfl rfl ?_)); all_goals try (first | refine W.ev (Ev.pickT rfl rfl) rfl rfl rfl ?_ | refine W.ev (Ev.pickF rfl rfl) rfl rfl rfl ?_ | refine W.ev (Ev.pickB rfl rfl rfl) rfl rfl rfl ?_); all_goals try refine W.nil ?_)
    | (refine WC.region (id := 2) ?_; try refine W.ev (Ev.assign rfl) rfl rfl rfl ?_; all_goals try refine W.ev (Ev.assign rfl) rfl rfl rfl ?_; all_goals try refine W.nil ?_)
    | (refine WC.region (id := 3) ?_; try refine W.ev (Ev.move rfl) rfl rfl rfl ?_; all_goals try refine W.ev (Ev.len rfl) rfl rfl rfl ?_; all_goals try refine W.ev (Ev.assign rfl) rfl rfl rfl ?_; all_goals try refine W.nil ?_)
    | (refine WC.region (id := 4) ?_; try refine W.ev (Ev.move rfl) rfl rfl rfl ?_; all_goals try fail; all_goals try refine W.ev (Ev.assign rfl) rfl rfl rfl ?_; all_goals try refine W.nil ?_)
    | (refine WC.region (id := 5) ?_; try refine W.ev (Ev.move rfl) rfl rfl rfl ?_; all_goals try refine W.ev (Ev.eql rfl rfl) rfl rfl rfl ?_; all_goals try refine W.nil ?_)
    | (refine WC.region (id := 6) ?_; try refine W.ev (Ev.assign rfl) rfl rfl rfl ?_; all_goals try refine W.ev (Ev.assign rfl) rfl rfl rfl ?_; all_goals try refine W.nil ?_)
    | (refine WC.region (id := 7) ?_; try refine W.ev (Ev.move rfl) rfl rfl rfl ?_; all_goals try refine W.ev (Ev.quo rfl rfl (by refine ⟨?_, ?_, ?_⟩ <;> omega)) rfl rfl rfl ?_; all_goals try refine W.ev (Ev.conv8 rfl) rfl rfl rfl ?_; all_goals try refine W.ev (Ev.move rfl) rfl rfl rfl ?_; all_goals try (first | refine W.ev (Ev.rem rfl rfl (by omega)) rfl rfl rfl ?_ | refine W.ev (Ev.remt rfl rfl (by omega)) rfl rfl rfl ?_); all_goals try refine W.ev (Ev.conv8 rfl) rfl rfl rfl ?_; all_goals try (refine W.stp (Stp.buildB [0, _, _] rfl rfl rfl rfl rfl) rfl rfl rfl ?_; rintro _ _ ⟨g, rfl, rfl⟩); all_goals try refine W.ev (Ev.assign rfl) rfl rfl rfl ?_; all_goals try refine W.nil ?_)
    | (refine WC.region (id := 8) ?_; try refine W.ev (Ev.move rfl) rfl rfl rfl ?_; all_goals try refine W.nil ?_)
    | (refine WC.region (id := 9) ?_; try refine W.ev (Ev.move rfl) rfl rfl rfl ?_; all_goals try (first | refine W.ev (Ev.indexAddrK rfl (by first | exact Int.toNat_zero | exact Int.toNat_one | (simp only [Int.reduceToNat]; rfl)) (by (repeat (first | exact Rds.nil | refine Rds.cons ?_ ?_ | exact Rd.here (Sub.refl _) | exact Rd.here Sub.row | exact Rd.here (Sub.hiB (by omega)) | exact Rd.here (Sub.loB (by omega)) | exact Rd.here (Sub.cutB (by omega)) | exact Rd.here (Sub.trans (Sub.hiB (by omega)) Sub.row) | exact Rd.here (Sub.trans (Sub.loB (by omega)) Sub.row) | exact Rd.here (Sub.trans (Sub.cutB (by omega)) Sub.row) | refine Rd.there ?_)); fail_if_success (focus skip)) (by omega)) rfl rfl rfl ?_ | refine W.ev (Ev.indexAddr1 rfl rfl (by (repeat (first | exact Rds.nil | refine Rds.cons ?_ ?_ | exact Rd.here (Sub.refl _) | exact Rd.here Sub.row | exact Rd.here (Sub.hiB (by omega)) | exact Rd.here (Sub.loB (by omega)) | exact Rd.here (Sub.cutB (by omega)) | exact Rd.here (Sub.trans (Sub.hiB (by omega)) Sub.row) | exact Rd.here (Sub.trans (Sub.loB (by omega)) Sub.row) | exact Rd.here (Sub.trans (Sub.cutB (by omega)) Sub.row) | refine Rd.there ?_)); fail_if_success (focus skip)) (by omega)) rfl rfl rfl ?_); all_goals try (first | (refine W.stp0 (Stp.storeB rfl rfl (by (repeat constructor); fail_if_success (focus skip)) (by first | omega | (simp only [List.length_drop, List.length_take, List.length_append, List.length_replicate, List.length_set, List.length_cons, List.length_nil, Nat.min_def]; omega) | (simp; omega))) rfl rfl ?_; rintro _ _ rfl) | (refine W.stp0 (Stp.storeBk rfl rfl (by (repeat constructor); fail_if_success (focus skip)) (by omega) (by first | omega | (simp only [List.length_drop, List.length_take, List.length_append, List.length_replicate, List.length_set, List.length_cons, List.length_nil, Nat.min_def]; omega) | (simp; omega))) rfl rfl ?_; rintro _ _ rfl)); all_goals try refine W.nil ?_)
    | (refine WC.region (id := 10) ?_; try refine W.ev (Ev.move rfl) rfl rfl rfl ?_; all_goals try refine W.ev (Ev.move rfl) rfl rfl rfl ?_; all_goals try (first | (refine W.stp (Stp.copyB rfl rfl (by (repeat (first | exact Rds.nil | refine Rds.cons ?_ ?_ | exact Rd.here (Sub.refl _) | exact Rd.here Sub.row | exact Rd.here (Sub.hiB (by omega)) | exact Rd.here (Sub.loB (by omega)) | exact Rd.here (Sub.cutB (by omega)) | exact Rd.here (Sub.trans (Sub.hiB (by omega)) Sub.row) | exact Rd.here (Sub.trans (Sub.loB (by omega)) Sub.row) | exact Rd.here (Sub.trans (Sub.cutB (by omega)) Sub.row) | refine Rd.there ?_)); fail_if_success (focus skip)) rfl (by omega) (by omega)) rfl rfl rfl ?_; rintro _ _ ⟨A2, c2, rfl, rfl⟩) | (refine W.stp (Stp.appendB rfl rfl (by (repeat constructor); fail_if_success (focus skip)) (by (repeat (first | exact Rds.nil | refine Rds.cons ?_ ?_ | exact Rd.here (Sub.refl _) | exact Rd.here Sub.row | exact Rd.here (Sub.hiB (by omega)) | exact Rd.here (Sub.loB (by omega)) | exact Rd.here (Sub.cutB (by omega)) | exact Rd.here (Sub.trans (Sub.hiB (by omega)) Sub.row) | exact Rd.here (Sub.trans (Sub.loB (by omega)) Sub.row) | exact Rd.here (Sub.trans (Sub.cutB (by omega)) Sub.row) | refine Rd.there ?_)); fail_if_success (focus skip)) rfl (by omega) (by omega)) rfl rfl rfl ?_; rintro _ _ ⟨A2, c2, rfl, rfl⟩)); all_goals try refine W.ev (Ev.assign rfl) rfl rfl rfl ?_; all_goals try refine W.nil ?_)
    | (refine WC.region (id := 11) ?_; try refine W.ev (Ev.move rfl) rfl rfl rfl ?_; all_goals try refine W.ev (Ev.len rfl) rfl rfl rfl ?_; all_goals try refine W.ev (Ev.move rfl) rfl rfl rfl ?_; all_goals try refine W.ev (Ev.lss rfl rfl) rfl rfl rfl ?_; all_goals try refine W.nil ?_)
    | (refine WC.region (id := 12) ?_; try refine W.ev (Ev.move rfl) rfl rfl rfl ?_; all_goals try (refine W.stp (Stp.buildB [0] rfl rfl rfl rfl rfl) rfl rfl rfl ?_; rintro _ _ ⟨g, rfl, rfl⟩); all_goals try (first | (refine W.stp (Stp.copyB rfl rfl (by (repeat (first | exact Rds.nil | refine Rds.cons ?_ ?_ | exact Rd.here (Sub.refl _) | exact Rd.here Sub.row | exact Rd.here (Sub.hiB (by omega)) | exact Rd.here (Sub.loB (by omega)) | exact Rd.here (Sub.cutB (by omega)) | exact Rd.here (Sub.trans (Sub.hiB (by omega)) Sub.row) | exact Rd.here (Sub.trans (Sub.loB (by omega)) Sub.row) | exact Rd.here (Sub.trans (Sub.cutB (by omega)) Sub.row) | refine Rd.there ?_)); fail_if_success (focus skip)) rfl (by omega) (by omega)) rfl rfl rfl ?_; rintro _ _ ⟨A2, c2, rfl, rfl⟩) | (refine W.stp (Stp.appendB rfl rfl (by (repeat constructor); fail_if_success (focus skip)) (by (repeat (first | exact Rds.nil | refine Rds.cons ?_ ?_ | exact Rd.here (Sub.refl _) | exact Rd.here Sub.row | exact Rd.here (Sub.hiB (by omega)) | exact Rd.here (Sub.loB (by omega)) | exact Rd.here (Sub.cutB (by omega)) | exact Rd.here (Sub.trans (Sub.hiB (by omega)) Sub.row) | exact Rd.here (Sub.trans (Sub.loB (by omega)) Sub.row) | exact Rd.here (Sub.trans (Sub.cutB (by omega)) Sub.row) | refine Rd.there ?_)); fail_if_success (focus skip)) rfl (by omega) (by omega)) rfl rfl rfl ?_; rintro _ _ ⟨A2, c2, rfl, rfl⟩)); all_goals try refine W.ev (Ev.assign rfl) rfl rfl rfl ?_; all_goals try refine W.nil ?_)
    | (refine WC.region (id := 13) ?_; try refine W.ev (Ev.move rfl) rfl rfl rfl ?_; all_goals try refine W.ev (Ev.assign rfl) rfl rfl rfl ?_; all_goals try refine W.ev (Ev.assign rfl) rfl rfl rfl ?_; all_goals try refine W.nil ?_)
    | refine W.nil ?_
    | refine W.gon rfl rfl (by first | rfl | assumption | (apply decide_eq_true; first | rfl | omega) | (apply decide_eq_false; omega)) ?_
    | refine W.goff rfl rfl (by first | rfl | assumption | (apply decide_eq_true; first | rfl | omega) | (apply decide_eq_false; omega)) rfl ?_
    | refine W.goff0 rfl rfl (by first | rfl | assumption | (apply decide_eq_true; first | rfl | omega) | (apply decide_eq_false; omega)) ?_
    | refine W.goffu rfl rfl rfl ?_
    | refine W.goffu0 rfl rfl ?_
    | refine W.ev (Ev.assign rfl) rfl rfl rfl ?_
    | refine W.ev (Ev.move rfl) rfl rfl rfl ?_
    | refine W.ev (Ev.len rfl) rfl rfl rfl ?_
    | refine W.ev (Ev.gtr rfl rfl) rfl rfl rfl ?_
    | refine W.ev (Ev.pickT rfl rfl) rfl rfl rfl ?_ | refine W.ev (Ev.pickF rfl rfl) rfl rfl rfl ?_ | refine W.ev (Ev.pickB rfl rfl rfl) rfl rfl rfl ?_
    | refine W.ev (Ev.eql rfl rfl) rfl rfl rfl ?_
    | refine W.ev (Ev.quo rfl rfl (by refine ⟨?_, ?_, ?_⟩ <;> omega)) rfl rfl rfl ?_
    | refine W.ev (Ev.conv8 rfl) rfl rfl rfl ?_
    | refine W.ev (Ev.rem rfl rfl (by omega)) rfl rfl rfl ?_ | refine W.ev (Ev.remt rfl rfl (by omega)) rfl rfl rfl ?_
    | (refine W.stp (Stp.buildB [0, _, _] rfl rfl rfl rfl rfl) rfl rfl rfl ?_; rintro _ _ ⟨g, rfl, rfl⟩)
    | refine W.ev (Ev.indexAddrK rfl (by first | exact Int.toNat_zero | exact Int.toNat_one | (simp only [Int.reduceToNat]; rfl)) (by (repeat (first | exact Rds.nil | refine Rds.cons ?_ ?_ | exact Rd.here (Sub.refl _) | exact Rd.here Sub.row | exact Rd.here (Sub.hiB (by omega)) | exact Rd.here (Sub.loB (by omega)) | exact Rd.here (Sub.cutB (by omega)) | exact Rd.here (Sub.trans (Sub.hiB (by omega)) Sub.row) | exact Rd.here (Sub.trans (Sub.loB (by omega)) Sub.row) | exact Rd.here (Sub.trans (Sub.cutB (by omega)) Sub.row) | refine Rd.there ?_)); fail_if_success (focus skip)) (by omega)) rfl rfl rfl ?_ | refine W.ev (Ev.indexAddr1 rfl rfl (by (repeat (first | exact Rds.nil | refine Rds.cons ?_ ?_ | exact Rd.here (Sub.refl _) | exact Rd.here Sub.row | exact Rd.here (Sub.hiB (by omega)) | exact Rd.here (Sub.loB (by omega)) | exact Rd.here (Sub.cutB (by omega)) | exact Rd.here (Sub.trans (Sub.hiB (by omega)) Sub.row) | exact Rd.here (Sub.trans (Sub.loB (by omega)) Sub.row) | exact Rd.here (Sub.trans (Sub.cutB (by omega)) Sub.row) | refine Rd.there ?_)); fail_if_success (focus skip)) (by omega)) rfl rfl rfl ?_
    | (refine W.stp0 (Stp.storeB rfl rfl (by (repeat constructor); fail_if_success (focus skip)) (by first | omega | (simp only [List.length_drop, List.length_take, List.length_append, List.length_replicate, List.length_set, List.length_cons, List.length_nil, Nat.min_def]; omega) | (simp; omega))) rfl rfl ?_; rintro _ _ rfl)
    | (refine W.stp0 (Stp.storeBk rfl rfl (by (repeat constructor); fail_if_success (focus skip)) (by omega) (by first | omega | (simp only [List.length_drop, List.length_take, List.length_append, List.length_replicate, List.length_set, List.length_cons, List.length_nil, Nat.min_def]; omega) | (simp; omega))) rfl rfl ?_; rintro _ _ rfl)
    | (refine W.stp (Stp.copyB rfl rfl (by (repeat (first | exact Rds.nil | refine Rds.cons ?_ ?_ | exact Rd.here (Sub.refl _) | exact Rd.here Sub.row | exact Rd.here (Sub.hiB (by omega)) | exact Rd.here (Sub.loB (by omega)) | exact Rd.here (Sub.cutB (by omega)) | exact Rd.here (Sub.trans (Sub.hiB (by omega)) Sub.row) | exact Rd.here (Sub.trans (Sub.loB (by omega)) Sub.row) | exact Rd.here (Sub.trans (Sub.cutB (by omega)) Sub.row) | refine Rd.there ?_)); fail_if_success (focus skip)) rfl (by omega) (by omega)) rfl rfl rfl ?_; rintro _ _ ⟨A2, c2, rfl, rfl⟩)
    | (refine W.stp (Stp.appendB rfl rfl (by (repeat constructor); fail_if_success (focus skip)) (by (repeat (first | exact Rds.nil | refine Rds.cons ?_ ?_ | exact Rd.here (Sub.refl _) | exact Rd.here Sub.row | exact Rd.here (Sub.hiB (by omega)) | exact Rd.here (Sub.loB (by omega)) | exact Rd.here (Sub.cutB (by omega)) | exact Rd.here (Sub.trans (Sub.hiB (by omega)) Sub.row) | exact Rd.here (Sub.trans (Sub.loB (by omega)) Sub.row) | exact Rd.here (Sub.trans (Sub.cutB (by omega)) Sub.row) | refine Rd.there ?_)); fail_if_success (focus skip)) rfl (by omega) (by omega)) rfl rfl rfl ?_; rintro _ _ ⟨A2, c2, rfl, rfl⟩)
    | refine W.ev (Ev.lss rfl rfl) rfl rfl rfl ?_
    | (refine W.stp (Stp.buildB [0] rfl rfl rfl rfl rfl) rfl rfl rfl ?_; rintro _ _ ⟨g, rfl, rfl⟩))
    · rw [e1]
      exact ⟨(_, _, k + 1), by simp only; omega, by ((repeat (first | exact trivial | refine And.intro rfl ?_)); fail_if_success (focus skip)), ⟨_, by (repeat constructor); fail_if_success (focus skip)⟩, by simp only; omega⟩
    · obtain rfl : k = (padCls bs.length).toNat - 3 - bs.length := by omega
      rw [← padOut_ok h0, h0]
      repeat' (first
    | refine WC.seq ?_
    | refine WC.region ?_
    | refine W.nil ?_
    | refine WC.block ?_
    | refine WC.skip ?_
    | refine WC.exit ?_
    | refine WC.ret ?_
    | refine K.norm_then ?_
    | refine K.norm_block ?_
    | refine K.exit_then ?_
    | refine K.exit_hit ?_
    | refine K.exit_miss rfl ?_
    | refine K.ret_then ?_
    | refine K.ret_block ?_
    | refine W.gon rfl rfl (by first | rfl | assumption | (apply decide_eq_true; first | rfl | omega) | (apply decide_eq_false; omega)) ?_
    | refine W.goff rfl rfl (by first | rfl | assumption | (apply decide_eq_true; first | rfl | omega) | (apply decide_eq_false; omega)) rfl ?_
    | refine W.goff0 rfl rfl (by first | rfl | assumption | (apply decide_eq_true; first | rfl | omega) | (apply decide_eq_false; omega)) ?_
    | refine W.goffu rfl rfl rfl ?_
    | refine W.goffu0 rfl rfl ?_
    | refine W.ev (Ev.move rfl) rfl rfl rfl ?_
    | refine W.ev (Ev.assign rfl) rfl rfl rfl ?_)
      exact ⟨_, rfl, _, ⟨_, _, _, rfl, rfl⟩, _, by repeat constructor⟩
end Go.SX
