/- Opening: the program's and the reference's. -/
import Derived.Test.YtklegcedpknpdaaDoorPad3
namespace Go.SX
open Go Go.RowKit Go.Proofs
set_option linter.unusedVariables false
set_option linter.unusedSimpArgs false
set_option maxHeartbeats 4000000
/-- What an opening has to answer. -/
def PadOpens (bs : List UInt8) (v : List UInt8) (t : Bool) (e : Int) : Prop :=
  (e = 0 ∧ padErr v.length t = 0 ∧ padOut v t = bs) ∨ (e = 4 ∧ v = [] ∧ t = false ∧ ∀ u q, padErr u.length q = 0 → padOut u q ≠ bs)
theorem padErr_le {m : Nat} {t : Bool} (h : padErr m t = 0) : m ≤ 250 ∧ (t = true → m = 0) := by
  rcases padErr_cases m t with k | k | k
  · omega
  · omega
  · exact ⟨k.1.2, fun ht => by have := k.1.1; simp_all⟩
theorem byteOf_small {n : Int} (h : 0 ≤ n ∧ n < 256) : ((byteOf n).toNat : Int) = n := by rw [byteOf_toNat]; omega
/-- What is known of bytes that a padding has made. -/
theorem pad_shape {u bs : List UInt8} {q : Bool} (h : padErr u.length q = 0) (e : padOut u q = bs) :
    bs.length = (padCls u.length).toNat ∧ bs.getD 0 0 = cond q 1 0 ∧ ((bs.getD 1 0).toNat : Int) = 0 ∧ ((bs.getD 2 0).toNat : Int) = u.length ∧ (bs.drop 3).take u.length = u ∧
      (∀ j, 3 + u.length ≤ j → j < bs.length → bs.getD j 0 = 0) := by
  have hm := (padErr_le h).1
  have hlen := padOut_len u q
  rw [if_pos h, e] at hlen
  rw [padOut_ok h] at e
  refine ⟨hlen, ?_⟩
  subst e
  refine ⟨rfl, ?_, ?_, ?_, ?_⟩
  · show ((byteOf (u.length / 256)).toNat : Int) = 0
    rw [byteOf_small (by omega)]; omega
  · show ((byteOf u.length).toNat : Int) = _
    rw [byteOf_small (by omega)]
  · simp
  · intro j hj hjl
    obtain ⟨i, rfl⟩ : ∃ i, j = 3 + u.length + i := ⟨j - (3 + u.length), by omega⟩
    have : (3 + u.length + i) = (u.length + i) + 3 := by omega
    rw [this]
    simp only [List.length_cons, List.length_append, List.length_replicate] at hjl
    simp only [List.getD_eq_getElem?_getD, List.getElem?_cons_succ]
    rw [List.getElem?_append_right (by omega), List.getElem?_replicate]
    split <;> rfl
theorem pad_make {bs : List UInt8} {n : Nat} {q : Bool} (hn : n ≤ 250) (hl : (bs.length : Int) = padCls n) (hq : bs.getD 0 0 = cond q 1 0) (ht : q = true → n = 0) (h1 : ((bs.getD 1 0).toNat : Int) = 0) (h2 : ((bs.getD 2 0).toNat : Int) = n)
    (hz : ∀ j, 3 + n ≤ j → j < bs.length → bs.getD j 0 = 0) : padErr ((bs.drop 3).take n).length q = 0 ∧ padOut ((bs.drop 3).take n) q = bs := by
  have hcls := padCls_cases n
  have hlen : ((bs.drop 3).take n).length = n := by rw [List.length_take, List.length_drop]; omega
  have herr : padErr n q = 0 := by
    rcases padErr_cases n q with k | k | k
    · have := ht k.1.1; omega
    · omega
    · exact k.2
  refine ⟨by rw [hlen]; exact herr, ?_⟩
  rw [padOut_ok (by rw [hlen]; exact herr), hlen]
  rcases bs with _ | ⟨b0, _ | ⟨b1, _ | ⟨b2, rest⟩⟩⟩
  · simp at hl; omega
  · simp at hl; omega
  · simp at hl; omega
  simp only [List.getD_cons_zero, List.getD_cons_succ] at hq h1 h2
  have e1 : byteOf ((n : Int) / 256) = b1 := by
    apply UInt8.toNat_inj.1
    have := byteOf_small (n := (n : Int) / 256) (by omega)
    omega
  have e2 : byteOf (n : Int) = b2 := by
    apply UInt8.toNat_inj.1
    have := byteOf_small (n := (n : Int)) (by omega)
    omega
  rw [e1, e2, hq]
  congr 3
  show List.take n rest ++ List.replicate _ 0 = rest
  have hrl : rest.length + 3 = (padCls n).toNat := by simp only [List.length_cons] at hl; omega
  have hd : rest.drop n = List.replicate ((padCls n).toNat - 3 - n) 0 := by
    apply List.ext_getElem
    · rw [List.length_drop, List.length_replicate]; omega
    · intro i hi1 hi2
      rw [List.length_drop] at hi1
      have := hz (3 + n + i) (by omega) (by simp only [List.length_cons]; omega)
      have e3 : 3 + n + i = (n + i) + 3 := by omega
      rw [e3] at this
      simp only [List.getD_cons_succ] at this
      rw [List.getElem_drop, List.getElem_replicate]
      simpa [List.getD, show n + i < rest.length by omega] using this
  rw [← hd, List.take_append_drop]
theorem refOpen_spec (A : Option Addr) (c n : Nat) (bs : List UInt8) (hb : n ≤ 140737488351232) :
    Spec Tryd.prog 18 [.slice A n c] [] [bR A c n bs] (fun v l' => ∃ A' n' c' vs t e, PadOpens bs vs t e ∧ v = .tuple #[.slice A' n' c', .bool t, .int .i64 e] ∧ l' = [bO A' c' 5 n' vs]) := by
  refine Spec.fact (Rd.here (Sub.refl _)) bR_len fun hl => ?_
  obtain ⟨rfl, hl1, hl2⟩ := hl
  refine Spec.intro Tryd.func18 rfl rfl Tryd.ntmps18 rfl fun w0 => ?_
  repeat' (first
    | refine WC.seq ?_
    | refine K.norm_then ?_
    | refine WC.block ?_
    | refine WC.skip ?_
    | refine WC.exit ?_
    | refine K.norm_block ?_
    | refine K.exit_then ?_
    | refine K.exit_hit ?_
    | refine K.exit_miss rfl ?_
    | refine WC.condT rfl (by first | rfl | assumption | (apply decide_eq_true; first | rfl | omega) | (apply decide_eq_false; omega)) ?_
    | refine WC.condF rfl (by first | rfl | assumption | (apply decide_eq_true; first | rfl | omega) | (apply decide_eq_false; omega)) ?_
    | (refine WC.cond rfl (fun hc => ?_) (fun hc => ?_) <;> (try simp only [Bool.not_eq_false', Bool.not_eq_true', Bool.not_false, Bool.not_true, decide_eq_true_eq, decide_eq_false_iff_not] at hc) <;> (try (exfalso; omega)))
    | (refine WC.region (id := 0) ?_; try refine W.ev (Ev.assign rfl) rfl rfl rfl ?_; all_goals try refine W.ev (Ev.assign rfl) rfl rfl rfl ?_; all_goals try refine W.ev (Ev.assign rfl) rfl rfl rfl ?_; all_goals try refine W.nil ?_)
    | (refine WC.region (id := 1) ?_; try refine W.ev (Ev.move rfl) rfl rfl rfl ?_; all_goals try refine W.ev (Ev.len rfl) rfl rfl rfl ?_; all_goals try refine W.ev (Ev.lss rfl rfl) rfl rfl rfl ?_; all_goals try refine W.ev (Ev.move rfl) rfl rfl rfl ?_; all_goals try (first | (refine W.gon rfl rfl (by first | rfl | assumption | (apply decide_eq_true; first | rfl | omega) | (apply decide_eq_false; omega)) ?_; refine W.ev (Ev.move rfl) rfl rfl rfl ?_) | refine W.goff rfl rfl (by first | rfl | assumption | (apply decide_eq_true; first | rfl | omega) | (apply decide_eq_false; omega)) rfl ?_ | refine W.goffu rfl rfl rfl ?_ | ((refine W.gpart rfl rfl rfl (fun hc => ?_) (fun hc => ?_) <;> (try simp only [Bool.not_eq_false', Bool.not_eq_true', Bool.not_false, Bool.not_true, decide_eq_true_eq, decide_eq_false_iff_not] at hc) <;> (try (exfalso; omega))); all_goals try refine W.ev (Ev.move rfl) rfl rfl rfl ?_)); all_goals try (first | (refine W.gon rfl rfl (by first | rfl | assumption | (apply decide_eq_true; first | rfl | omega) | (apply decide_eq_false; omega)) ?_; (first | refine W.ev (Ev.indexAddrK rfl (by first | exact Int.toNat_zero | exact Int.toNat_one | (simp only [Int.reduceToNat]; rfl)) (by (repeat (first | exact Rds.nil | refine Rds.cons ?_ ?_ | exact Rd.here (Sub.refl _) | exact Rd.here Sub.row | exact Rd.here (Sub.hiB (by omega)) | exact Rd.here (Sub.loB (by omega)) | exact Rd.here (Sub.cutB (by omega)) | exact Rd.here (Sub.trans (Sub.hiB (by omega)) Sub.row) | exact Rd.here (Sub.trans (Sub.loB (by omega)) Sub.row) | exact Rd.here (Sub.trans (Sub.cutB (by omega)) Sub.row) | refine Rd.there ?_)); fail_if_success (focus skip)) (by omega)) rfl rfl rfl ?_ | refine W.ev (Ev.indexAddr1 rfl rfl (by (repeat (first | exact Rds.nil | refine Rds.cons ?_ ?_ | exact Rd.here (Sub.refl _) | exact Rd.here Sub.row | exact Rd.here (Sub.hiB (by omega)) | exact Rd.here (Sub.loB (by omega)) | exact Rd.here (Sub.cutB (by omega)) | exact Rd.here (Sub.trans (Sub.hiB (by omega)) Sub.row) | exact Rd.here (Sub.trans (Sub.loB (by omega)) Sub.row) | exact Rd.here (Sub.trans (Sub.cutB (by omega)) Sub.row) | refine Rd.there ?_)); fail_if_success (focus skip)) (by omega)) rfl rfl rfl ?_)) | refine W.goff rfl rfl (by first | rfl | assumption | (apply decide_eq_true; first | rfl | omega) | (apply decide_eq_false; omega)) rfl ?_ | refine W.goffu rfl rfl rfl ?_ | ((refine W.gpart rfl rfl rfl (fun hc => ?_) (fun hc => ?_) <;> (try simp only [Bool.not_eq_false', Bool.not_eq_true', Bool.not_false, Bool.not_true, decide_eq_true_eq, decide_eq_false_iff_not] at hc) <;> (try (exfalso; omega))); all_goals try (first | refine W.ev (Ev.indexAddrK rfl (by first | exact Int.toNat_zero | exact Int.toNat_one | (simp only [Int.reduceToNat]; rfl)) (by (repeat (first | exact Rds.nil | refine Rds.cons ?_ ?_ | exact Rd.here (Sub.refl _) | exact Rd.here Sub.row | exact Rd.here (Sub.hiB (by omega)) | exact Rd.here (Sub.loB (by omega)) | exact Rd.here (Sub.cutB (by omega)) | exact Rd.here (Sub.trans (Sub.hiB (by omega)) Sub.row) | exact Rd.here (Sub.trans (Sub.loB (by omega)) Sub.row) | exact Rd.here (Sub.trans (Sub.cutB (by omega)) Sub.row) | refine Rd.there ?_)); fail_if_success (focus skip)) (by omega)) rfl rfl rfl ?_ | refine W.ev (Ev.indexAddr1 rfl rfl (by (repeat (first | exact Rds.nil | refine Rds.cons ?_ ?_ | exact Rd.here (Sub.refl _) | exact Rd.here Sub.row | exact Rd.here (Sub.hiB (by omega)) | exact Rd.here (Sub.loB (by omega)) | exact Rd.here (Sub.cutB (by omega)) | exact Rd.here (Sub.trans (Sub.hiB (by omega)) Sub.row) | exact Rd.here (Sub.trans (Sub.loB (by omega)) Sub.row) | exact Rd.here (Sub.trans (Sub.cutB (by omega)) Sub.row) | refine Rd.there ?_)); fail_if_success (focus skip)) (by omega)) rfl rfl rfl ?_))); all_goals try (first | (refine W.gon rfl rfl (by first | rfl | assumption | (apply decide_eq_true; first | rfl | omega) | (apply decide_eq_false; omega)) ?_; refine W.evB (Ev.loadB rfl (by (repeat (first | exact Rds.nil | refine Rds.cons ?_ ?_ | exact Rd.here (Sub.refl _) | exact Rd.here Sub.row | exact Rd.here (Sub.hiB (by omega)) | exact Rd.here (Sub.loB (by omega)) | exact Rd.here (Sub.cutB (by omega)) | exact Rd.here (Sub.trans (Sub.hiB (by omega)) Sub.row) | exact Rd.here (Sub.trans (Sub.loB (by omega)) Sub.row) | exact Rd.here (Sub.trans (Sub.cutB (by omega)) Sub.row) | refine Rd.there ?_)); fail_if_success (focus skip)) (by first | omega | (simp only [List.length_drop, List.length_take, List.length_append, List.length_replicate, List.length_set, List.length_cons, List.length_nil, Nat.min_def]; omega) | (simp; omega))) rfl rfl rfl (fun hbyte => ?_)) | refine W.goff rfl rfl (by first | rfl | assumption | (apply decide_eq_true; first | rfl | omega) | (apply decide_eq_false; omega)) rfl ?_ | refine W.goffu rfl rfl rfl ?_ | ((refine W.gpart rfl rfl rfl (fun hc => ?_) (fun hc => ?_) <;> (try simp only [Bool.not_eq_false', Bool.not_eq_true', Bool.not_false, Bool.not_true, decide_eq_true_eq, decide_eq_false_iff_not] at hc) <;> (try (exfalso; omega))); all_goals try refine W.evB (Ev.loadB rfl (by (repeat (first | exact Rds.nil | refine Rds.cons ?_ ?_ | exact Rd.here (Sub.refl _) | exact Rd.here Sub.row | exact Rd.here (Sub.hiB (by omega)) | exact Rd.here (Sub.loB (by omega)) | exact Rd.here (Sub.cutB (by omega)) | exact Rd.here (Sub.trans (Sub.hiB (by omega)) Sub.row) | exact Rd.here (Sub.trans (Sub.loB (by omega)) Sub.row) | exact Rd.here (Sub.trans (Sub.cutB (by omega)) Sub.row) | refine Rd.there ?_)); fail_if_success (focus skip)) (by first | omega | (simp only [List.length_drop, List.length_take, List.length_append, List.length_replicate, List.length_set, List.length_cons, List.length_nil, Nat.min_def]; omega) | (simp; omega))) rfl rfl rfl (fun hbyte => ?_))); all_goals try (first | (refine W.gon rfl rfl (by first | rfl | assumption | (apply decide_eq_true; first | rfl | omega) | (apply decide_eq_false; omega)) ?_; refine W.ev (Ev.gtr rfl rfl) rfl rfl rfl ?_) | refine W.goff rfl rfl (by first | rfl | assumption | (apply decide_eq_true; first | rfl | omega) | (apply decide_eq_false; omega)) rfl ?_ | refine W.goffu rfl rfl rfl ?_ | ((refine W.gpart rfl rfl rfl (fun hc => ?_) (fun hc => ?_) <;> (try simp only [Bool.not_eq_false', Bool.not_eq_true', Bool.not_false, Bool.not_true, decide_eq_true_eq, decide_eq_false_iff_not] at hc) <;> (try (exfalso; omega))); all_goals try refine W.ev (Ev.gtr rfl rfl) rfl rfl rfl ?_)); all_goals try (first | refine W.ev (Ev.pickT rfl rfl) rfl rfl rfl ?_ | refine W.ev (Ev.pickF rfl rfl) rfl rfl rfl ?_ | refine W.ev (Ev.pickB rfl rfl rfl) rfl rfl rfl ?_); all_goals try refine W.nil ?_)
    | (refine WC.region (id := 2) ?_; try refine W.ev (Ev.assign rfl) rfl rfl rfl ?_; all_goals try refine W.ev (Ev.assign rfl) rfl rfl rfl ?_; all_goals try refine W.ev (Ev.assign rfl) rfl rfl rfl ?_; all_goals try refine W.nil ?_)
    | (refine WC.draw (id := 3) (ls := []) (.fl 0 (.fl 1 (.fl 2 (.fl 3 (.fl 4 (.fl 5 (.fl 6 (.fl 7 (.fl 8 (.fl 9 (.fl 10 .nil))))))))))) (by kernel_rfl) (by kernel_rfl) (by (repeat constructor); fail_if_success (focus skip)) ?_; repeat' (first | refine WD.one ?_ | refine WD.two ?_ ?_ | refine WD.three ?_ ?_ ?_ | refine WD.next ?_ | refine WD.nil ?_ | refine K.norm_draw ?_ | refine WD.ev (i := 0) rfl (Ev.move rfl) rfl rfl rfl ?_ | refine WO.ev (i := 0) rfl (Ev.move rfl) rfl rfl rfl ?_ | refine WD.ev (i := 1) rfl (Ev.indexAddrK rfl (by first | exact Int.toNat_zero | exact Int.toNat_one | (simp only [Int.reduceToNat]; rfl)) (by (repeat (first | exact Rds.nil | refine Rds.cons ?_ ?_ | exact Rd.here (Sub.refl _) | exact Rd.here Sub.row | exact Rd.here (Sub.hiB (by omega)) | exact Rd.here (Sub.loB (by omega)) | exact Rd.here (Sub.cutB (by omega)) | exact Rd.here (Sub.trans (Sub.hiB (by omega)) Sub.row) | exact Rd.here (Sub.trans (Sub.loB (by omega)) Sub.row) | exact Rd.here (Sub.trans (Sub.cutB (by omega)) Sub.row) | refine Rd.there ?_)); fail_if_success (focus skip)) (by omega)) rfl rfl rfl ?_ | refine WO.ev (i := 1) rfl (Ev.indexAddrK rfl (by first | exact Int.toNat_zero | exact Int.toNat_one | (simp only [Int.reduceToNat]; rfl)) (by (repeat (first | exact Rds.nil | refine Rds.cons ?_ ?_ | exact Rd.here (Sub.refl _) | exact Rd.here Sub.row | exact Rd.here (Sub.hiB (by omega)) | exact Rd.here (Sub.loB (by omega)) | exact Rd.here (Sub.cutB (by omega)) | exact Rd.here (Sub.trans (Sub.hiB (by omega)) Sub.row) | exact Rd.here (Sub.trans (Sub.loB (by omega)) Sub.row) | exact Rd.here (Sub.trans (Sub.cutB (by omega)) Sub.row) | refine Rd.there ?_)); fail_if_success (focus skip)) (by omega)) rfl rfl rfl ?_ | refine WD.ev (i := 1) rfl (Ev.indexAddr1 rfl rfl (by (repeat (first | exact Rds.nil | refine Rds.cons ?_ ?_ | exact Rd.here (Sub.refl _) | exact Rd.here Sub.row | exact Rd.here (Sub.hiB (by omega)) | exact Rd.here (Sub.loB (by omega)) | exact Rd.here (Sub.cutB (by omega)) | exact Rd.here (Sub.trans (Sub.hiB (by omega)) Sub.row) | exact Rd.here (Sub.trans (Sub.loB (by omega)) Sub.row) | exact Rd.here (Sub.trans (Sub.cutB (by omega)) Sub.row) | refine Rd.there ?_)); fail_if_success (focus skip)) (by omega)) rfl rfl rfl ?_ | refine WO.ev (i := 1) rfl (Ev.indexAddr1 rfl rfl (by (repeat (first | exact Rds.nil | refine Rds.cons ?_ ?_ | exact Rd.here (Sub.refl _) | exact Rd.here Sub.row | exact Rd.here (Sub.hiB (by omega)) | exact Rd.here (Sub.loB (by omega)) | exact Rd.here (Sub.cutB (by omega)) | exact Rd.here (Sub.trans (Sub.hiB (by omega)) Sub.row) | exact Rd.here (Sub.trans (Sub.loB (by omega)) Sub.row) | exact Rd.here (Sub.trans (Sub.cutB (by omega)) Sub.row) | refine Rd.there ?_)); fail_if_success (focus skip)) (by omega)) rfl rfl rfl ?_ | refine WD.evB (i := 2) rfl (Ev.loadB rfl (by (repeat (first | exact Rds.nil | refine Rds.cons ?_ ?_ | exact Rd.here (Sub.refl _) | exact Rd.here Sub.row | exact Rd.here (Sub.hiB (by omega)) | exact Rd.here (Sub.loB (by omega)) | exact Rd.here (Sub.cutB (by omega)) | exact Rd.here (Sub.trans (Sub.hiB (by omega)) Sub.row) | exact Rd.here (Sub.trans (Sub.loB (by omega)) Sub.row) | exact Rd.here (Sub.trans (Sub.cutB (by omega)) Sub.row) | refine Rd.there ?_)); fail_if_success (focus skip)) (by first | omega | (simp only [List.length_drop, List.length_take, List.length_append, List.length_replicate, List.length_set, List.length_cons, List.length_nil, Nat.min_def]; omega) | (simp; omega))) rfl rfl rfl (fun hbyte => ?_) | refine WO.evB (i := 2) rfl (Ev.loadB rfl (by (repeat (first | exact Rds.nil | refine Rds.cons ?_ ?_ | exact Rd.here (Sub.refl _) | exact Rd.here Sub.row | exact Rd.here (Sub.hiB (by omega)) | exact Rd.here (Sub.loB (by omega)) | exact Rd.here (Sub.cutB (by omega)) | exact Rd.here (Sub.trans (Sub.hiB (by omega)) Sub.row) | exact Rd.here (Sub.trans (Sub.loB (by omega)) Sub.row) | exact Rd.here (Sub.trans (Sub.cutB (by omega)) Sub.row) | refine Rd.there ?_)); fail_if_success (focus skip)) (by first | omega | (simp only [List.length_drop, List.length_take, List.length_append, List.length_replicate, List.length_set, List.length_cons, List.length_nil, Nat.min_def]; omega) | (simp; omega))) rfl rfl rfl (fun hbyte => ?_) | refine WD.ev (i := 3) rfl (Ev.of8 rfl) rfl rfl rfl ?_ | refine WO.ev (i := 3) rfl (Ev.of8 rfl) rfl rfl rfl ?_ | refine WD.ev (i := 4) rfl (Ev.mul rfl rfl (by omega)) rfl rfl rfl ?_ | refine WO.ev (i := 4) rfl (Ev.mul rfl rfl (by omega)) rfl rfl rfl ?_ | refine WD.ev (i := 5) rfl (Ev.move rfl) rfl rfl rfl ?_ | refine WO.ev (i := 5) rfl (Ev.move rfl) rfl rfl rfl ?_ | refine WD.ev (i := 6) rfl (Ev.indexAddrK rfl (by first | exact Int.toNat_zero | exact Int.toNat_one | (simp only [Int.reduceToNat]; rfl)) (by (repeat (first | exact Rds.nil | refine Rds.cons ?_ ?_ | exact Rd.here (Sub.refl _) | exact Rd.here Sub.row | exact Rd.here (Sub.hiB (by omega)) | exact Rd.here (Sub.loB (by omega)) | exact Rd.here (Sub.cutB (by omega)) | exact Rd.here (Sub.trans (Sub.hiB (by omega)) Sub.row) | exact Rd.here (Sub.trans (Sub.loB (by omega)) Sub.row) | exact Rd.here (Sub.trans (Sub.cutB (by omega)) Sub.row) | refine Rd.there ?_)); fail_if_success (focus skip)) (by omega)) rfl rfl rfl ?_ | refine WO.ev (i := 6) rfl (Ev.indexAddrK rfl (by first | exact Int.toNat_zero | exact Int.toNat_one | (simp only [Int.reduceToNat]; rfl)) (by (repeat (first | exact Rds.nil | refine Rds.cons ?_ ?_ | exact Rd.here (Sub.refl _) | exact Rd.here Sub.row | exact Rd.here (Sub.hiB (by omega)) | exact Rd.here (Sub.loB (by omega)) | exact Rd.here (Sub.cutB (by omega)) | exact Rd.here (Sub.trans (Sub.hiB (by omega)) Sub.row) | exact Rd.here (Sub.trans (Sub.loB (by omega)) Sub.row) | exact Rd.here (Sub.trans (Sub.cutB (by omega)) Sub.row) | refine Rd.there ?_)); fail_if_success (focus skip)) (by omega)) rfl rfl rfl ?_ | refine WD.ev (i := 6) rfl (Ev.indexAddr1 rfl rfl (by (repeat (first | exact Rds.nil | refine Rds.cons ?_ ?_ | exact Rd.here (Sub.refl _) | exact Rd.here Sub.row | exact Rd.here (Sub.hiB (by omega)) | exact Rd.here (Sub.loB (by omega)) | exact Rd.here (Sub.cutB (by omega)) | exact Rd.here (Sub.trans (Sub.hiB (by omega)) Sub.row) | exact Rd.here (Sub.trans (Sub.loB (by omega)) Sub.row) | exact Rd.here (Sub.trans (Sub.cutB (by omega)) Sub.row) | refine Rd.there ?_)); fail_if_success (focus skip)) (by omega)) rfl rfl rfl ?_ | refine WO.ev (i := 6) rfl (Ev.indexAddr1 rfl rfl (by (repeat (first | exact Rds.nil | refine Rds.cons ?_ ?_ | exact Rd.here (Sub.refl _) | exact Rd.here Sub.row | exact Rd.here (Sub.hiB (by omega)) | exact Rd.here (Sub.loB (by omega)) | exact Rd.here (Sub.cutB (by omega)) | exact Rd.here (Sub.trans (Sub.hiB (by omega)) Sub.row) | exact Rd.here (Sub.trans (Sub.loB (by omega)) Sub.row) | exact Rd.here (Sub.trans (Sub.cutB (by omega)) Sub.row) | refine Rd.there ?_)); fail_if_success (focus skip)) (by omega)) rfl rfl rfl ?_ | refine WD.evB (i := 7) rfl (Ev.loadB rfl (by (repeat (first | exact Rds.nil | refine Rds.cons ?_ ?_ | exact Rd.here (Sub.refl _) | exact Rd.here Sub.row | exact Rd.here (Sub.hiB (by omega)) | exact Rd.here (Sub.loB (by omega)) | exact Rd.here (Sub.cutB (by omega)) | exact Rd.here (Sub.trans (Sub.hiB (by omega)) Sub.row) | exact Rd.here (Sub.trans (Sub.loB (by omega)) Sub.row) | exact Rd.here (Sub.trans (Sub.cutB (by omega)) Sub.row) | refine Rd.there ?_)); fail_if_success (focus skip)) (by first | omega | (simp only [List.length_drop, List.length_take, List.length_append, List.length_replicate, List.length_set, List.length_cons, List.length_nil, Nat.min_def]; omega) | (simp; omega))) rfl rfl rfl (fun hbyte => ?_) | refine WO.evB (i := 7) rfl (Ev.loadB rfl (by (repeat (first | exact Rds.nil | refine Rds.cons ?_ ?_ | exact Rd.here (Sub.refl _) | exact Rd.here Sub.row | exact Rd.here (Sub.hiB (by omega)) | exact Rd.here (Sub.loB (by omega)) | exact Rd.here (Sub.cutB (by omega)) | exact Rd.here (Sub.trans (Sub.hiB (by omega)) Sub.row) | exact Rd.here (Sub.trans (Sub.loB (by omega)) Sub.row) | exact Rd.here (Sub.trans (Sub.cutB (by omega)) Sub.row) | refine Rd.there ?_)); fail_if_success (focus skip)) (by first | omega | (simp only [List.length_drop, List.length_take, List.length_append, List.length_replicate, List.length_set, List.length_cons, List.length_nil, Nat.min_def]; omega) | (simp; omega))) rfl rfl rfl (fun hbyte => ?_) | refine WD.ev (i := 8) rfl (Ev.of8 rfl) rfl rfl rfl ?_ | refine WO.ev (i := 8) rfl (Ev.of8 rfl) rfl rfl rfl ?_ | refine WD.ev (i := 9) rfl (Ev.add rfl rfl (by omega)) rfl rfl rfl ?_ | refine WO.ev (i := 9) rfl (Ev.add rfl rfl (by omega)) rfl rfl rfl ?_ | refine WD.ev (i := 10) rfl (Ev.assign rfl) rfl rfl rfl ?_ | refine WO.ev (i := 10) rfl (Ev.assign rfl) rfl rfl rfl ?_))
    | (refine WC.region (id := 4) ?_; try refine W.ev (Ev.move rfl) rfl rfl rfl ?_; all_goals try refine W.ev (Ev.move rfl) rfl rfl rfl ?_; all_goals try refine W.ev (Ev.len rfl) rfl rfl rfl ?_; all_goals try refine W.ev (Ev.sub rfl rfl (by omega)) rfl rfl rfl ?_; all_goals try refine W.ev (Ev.gtr rfl rfl) rfl rfl rfl ?_; all_goals try refine W.nil ?_)
    | (refine WC.region (id := 5) ?_; try refine W.ev (Ev.assign rfl) rfl rfl rfl ?_; all_goals try refine W.ev (Ev.assign rfl) rfl rfl rfl ?_; all_goals try refine W.ev (Ev.assign rfl) rfl rfl rfl ?_; all_goals try refine W.nil ?_)
    | (refine WC.draw (id := 6) (ls := []) (.fl 0 (.fl 1 (.fl 2 (.fl 3 (.fl 5 (.fl 6 (.fl 7 (.fl 8 (.one 4 (.fl 9 (.fl 10 .nil))))))))))) (by kernel_rfl) (by kernel_rfl) (by (repeat constructor); fail_if_success (focus skip)) ?_; repeat' (first | refine WD.one ?_ | refine WD.two ?_ ?_ | refine WD.three ?_ ?_ ?_ | refine WD.next ?_ | refine WD.nil ?_ | refine K.norm_draw ?_ | refine WD.ev (i := 0) rfl (Ev.move rfl) rfl rfl rfl ?_ | refine WO.ev (i := 0) rfl (Ev.move rfl) rfl rfl rfl ?_ | refine WD.ev (i := 1) rfl (Ev.move rfl) rfl rfl rfl ?_ | refine WO.ev (i := 1) rfl (Ev.move rfl) rfl rfl rfl ?_ | refine WD.ev (i := 2) rfl (Ev.add rfl rfl (by omega)) rfl rfl rfl ?_ | refine WO.ev (i := 2) rfl (Ev.add rfl rfl (by omega)) rfl rfl rfl ?_ | refine WD.ev (i := 3) rfl (Ev.slice2 rfl rfl rfl (by omega)) rfl rfl rfl ?_ | refine WO.ev (i := 3) rfl (Ev.slice2 rfl rfl rfl (by omega)) rfl rfl rfl ?_ | (refine WO.stp (i := 4) rfl (Stp.cal rfl rfl (CopyBytes_spec _ _ _ _ (by omega)) (by (repeat constructor); fail_if_success (focus skip)) (by (repeat (first | exact Rds.nil | refine Rds.cons ?_ ?_ | exact Rd.here (Sub.refl _) | exact Rd.here Sub.row | exact Rd.here (Sub.hiB (by omega)) | exact Rd.here (Sub.loB (by omega)) | exact Rd.here (Sub.cutB (by omega)) | exact Rd.here (Sub.trans (Sub.hiB (by omega)) Sub.row) | exact Rd.here (Sub.trans (Sub.loB (by omega)) Sub.row) | exact Rd.here (Sub.trans (Sub.cutB (by omega)) Sub.row) | refine Rd.there ?_)); fail_if_success (focus skip))) rfl rfl rfl ?_; rintro _ _ ⟨_, ⟨A2, c2, rfl, rfl⟩, rfl⟩) | refine WD.ev (i := 5) rfl (Ev.move rfl) rfl rfl rfl ?_ | refine WO.ev (i := 5) rfl (Ev.move rfl) rfl rfl rfl ?_ | refine WD.ev (i := 6) rfl (Ev.indexAddrK rfl (by first | exact Int.toNat_zero | exact Int.toNat_one | (simp only [Int.reduceToNat]; rfl)) (by (repeat (first | exact Rds.nil | refine Rds.cons ?_ ?_ | exact Rd.here (Sub.refl _) | exact Rd.here Sub.row | exact Rd.here (Sub.hiB (by omega)) | exact Rd.here (Sub.loB (by omega)) | exact Rd.here (Sub.cutB (by omega)) | exact Rd.here (Sub.trans (Sub.hiB (by omega)) Sub.row) | exact Rd.here (Sub.trans (Sub.loB (by omega)) Sub.row) | exact Rd.here (Sub.trans (Sub.cutB (by omega)) Sub.row) | refine Rd.there ?_)); fail_if_success (focus skip)) (by omega)) rfl rfl rfl ?_ | refine WO.ev (i := 6) rfl (Ev.indexAddrK rfl (by first | exact Int.toNat_zero | exact Int.toNat_one | (simp only [Int.reduceToNat]; rfl)) (by (repeat (first | exact Rds.nil | refine Rds.cons ?_ ?_ | exact Rd.here (Sub.refl _) | exact Rd.here Sub.row | exact Rd.here (Sub.hiB (by omega)) | exact Rd.here (Sub.loB (by omega)) | exact Rd.here (Sub.cutB (by omega)) | exact Rd.here (Sub.trans (Sub.hiB (by omega)) Sub.row) | exact Rd.here (Sub.trans (Sub.loB (by omega)) Sub.row) | exact Rd.here (Sub.trans (Sub.cutB (by omega)) Sub.row) | refine Rd.there ?_)); fail_if_success (focus skip)) (by omega)) rfl rfl rfl ?_ | refine WD.ev (i := 6) rfl (Ev.indexAddr1 rfl rfl (by (repeat (first | exact Rds.nil | refine Rds.cons ?_ ?_ | exact Rd.here (Sub.refl _) | exact Rd.here Sub.row | exact Rd.here (Sub.hiB (by omega)) | exact Rd.here (Sub.loB (by omega)) | exact Rd.here (Sub.cutB (by omega)) | exact Rd.here (Sub.trans (Sub.hiB (by omega)) Sub.row) | exact Rd.here (Sub.trans (Sub.loB (by omega)) Sub.row) | exact Rd.here (Sub.trans (Sub.cutB (by omega)) Sub.row) | refine Rd.there ?_)); fail_if_success (focus skip)) (by omega)) rfl rfl rfl ?_ | refine WO.ev (i := 6) rfl (Ev.indexAddr1 rfl rfl (by (repeat (first | exact Rds.nil | refine Rds.cons ?_ ?_ | exact Rd.here (Sub.refl _) | exact Rd.here Sub.row | exact Rd.here (Sub.hiB (by omega)) | exact Rd.here (Sub.loB (by omega)) | exact Rd.here (Sub.cutB (by omega)) | exact Rd.here (Sub.trans (Sub.hiB (by omega)) Sub.row) | exact Rd.here (Sub.trans (Sub.loB (by omega)) Sub.row) | exact Rd.here (Sub.trans (Sub.cutB (by omega)) Sub.row) | refine Rd.there ?_)); fail_if_success (focus skip)) (by omega)) rfl rfl rfl ?_ | refine WD.evB (i := 7) rfl (Ev.loadB rfl (by (repeat (first | exact Rds.nil | refine Rds.cons ?_ ?_ | exact Rd.here (Sub.refl _) | exact Rd.here Sub.row | exact Rd.here (Sub.hiB (by omega)) | exact Rd.here (Sub.loB (by omega)) | exact Rd.here (Sub.cutB (by omega)) | exact Rd.here (Sub.trans (Sub.hiB (by omega)) Sub.row) | exact Rd.here (Sub.trans (Sub.loB (by omega)) Sub.row) | exact Rd.here (Sub.trans (Sub.cutB (by omega)) Sub.row) | refine Rd.there ?_)); fail_if_success (focus skip)) (by first | omega | (simp only [List.length_drop, List.length_take, List.length_append, List.length_replicate, List.length_set, List.length_cons, List.length_nil, Nat.min_def]; omega) | (simp; omega))) rfl rfl rfl (fun hbyte => ?_) | refine WO.evB (i := 7) rfl (Ev.loadB rfl (by (repeat (first | exact Rds.nil | refine Rds.cons ?_ ?_ | exact Rd.here (Sub.refl _) | exact Rd.here Sub.row | exact Rd.here (Sub.hiB (by omega)) | exact Rd.here (Sub.loB (by omega)) | exact Rd.here (Sub.cutB (by omega)) | exact Rd.here (Sub.trans (Sub.hiB (by omega)) Sub.row) | exact Rd.here (Sub.trans (Sub.loB (by omega)) Sub.row) | exact Rd.here (Sub.trans (Sub.cutB (by omega)) Sub.row) | refine Rd.there ?_)); fail_if_success (focus skip)) (by first | omega | (simp only [List.length_drop, List.length_take, List.length_append, List.length_replicate, List.length_set, List.length_cons, List.length_nil, Nat.min_def]; omega) | (simp; omega))) rfl rfl rfl (fun hbyte => ?_) | refine WD.ev (i := 8) rfl (Ev.eql rfl rfl) rfl rfl rfl ?_ | refine WO.ev (i := 8) rfl (Ev.eql rfl rfl) rfl rfl rfl ?_ | refine WD.ev (i := 9) rfl (Ev.assign rfl) rfl rfl rfl ?_ | refine WO.ev (i := 9) rfl (Ev.assign rfl) rfl rfl rfl ?_ | refine WD.ev (i := 10) rfl (Ev.assign rfl) rfl rfl rfl ?_ | refine WO.ev (i := 10) rfl (Ev.assign rfl) rfl rfl rfl ?_))
    | (refine WC.region (id := 7) ?_; try refine W.ev (Ev.move rfl) rfl rfl rfl ?_; all_goals try refine W.ev (Ev.move rfl) rfl rfl rfl ?_; all_goals try (refine W.stp (Stp.cal rfl rfl (refPad_spec _ _ _ _ _ (by omega)) (by (repeat constructor); fail_if_success (focus skip)) (by (repeat (first | exact Rds.nil | refine Rds.cons ?_ ?_ | exact Rd.here (Sub.refl _) | exact Rd.here Sub.row | exact Rd.here (Sub.hiB (by omega)) | exact Rd.here (Sub.loB (by omega)) | exact Rd.here (Sub.cutB (by omega)) | exact Rd.here (Sub.trans (Sub.hiB (by omega)) Sub.row) | exact Rd.here (Sub.trans (Sub.loB (by omega)) Sub.row) | exact Rd.here (Sub.trans (Sub.cutB (by omega)) Sub.row) | refine Rd.there ?_)); fail_if_success (focus skip))) rfl rfl rfl ?_; rintro _ _ ⟨_, ⟨A3, n3, c3, rfl, rfl⟩, rfl⟩); all_goals try refine W.ev (Ev.move rfl) rfl rfl rfl ?_; all_goals try refine W.ev (Ev.extract rfl rfl) rfl rfl rfl ?_; all_goals try refine W.ev (Ev.extract rfl rfl) rfl rfl rfl ?_; all_goals try refine W.ev (Ev.assign rfl) rfl rfl rfl ?_; all_goals try refine W.ev (Ev.assign rfl) rfl rfl rfl ?_; all_goals try refine W.nil ?_)
    | (refine WC.region (id := 8) ?_; try refine W.ev (Ev.move rfl) rfl rfl rfl ?_; all_goals try refine W.ev (Ev.neq rfl rfl) rfl rfl rfl ?_; all_goals try refine W.ev (Ev.move rfl) rfl rfl rfl ?_; all_goals try (first | (refine W.gon rfl rfl (by first | rfl | assumption | (apply decide_eq_true; first | rfl | omega) | (apply decide_eq_false; omega)) ?_; refine W.ev (Ev.move rfl) rfl rfl rfl ?_) | refine W.goff rfl rfl (by first | rfl | assumption | (apply decide_eq_true; first | rfl | omega) | (apply decide_eq_false; omega)) rfl ?_ | refine W.goffu rfl rfl rfl ?_ | ((refine W.gpart rfl rfl rfl (fun hc => ?_) (fun hc => ?_) <;> (try simp only [Bool.not_eq_false', Bool.not_eq_true', Bool.not_false, Bool.not_true, decide_eq_true_eq, decide_eq_false_iff_not] at hc) <;> (try (exfalso; omega))); all_goals try refine W.ev (Ev.move rfl) rfl rfl rfl ?_)); all_goals try (first | (refine W.gon rfl rfl (by first | rfl | assumption | (apply decide_eq_true; first | rfl | omega) | (apply decide_eq_false; omega)) ?_; refine W.ev (Ev.move rfl) rfl rfl rfl ?_) | refine W.goff rfl rfl (by first | rfl | assumption | (apply decide_eq_true; first | rfl | omega) | (apply decide_eq_false; omega)) rfl ?_ | refine W.goffu rfl rfl rfl ?_ | ((refine W.gpart rfl rfl rfl (fun hc => ?_) (fun hc => ?_) <;> (try simp only [Bool.not_eq_false', Bool.not_eq_true', Bool.not_false, Bool.not_true, decide_eq_true_eq, decide_eq_false_iff_not] at hc) <;> (try (exfalso; omega))); all_goals try refine W.ev (Ev.move rfl) rfl rfl rfl ?_)); all_goals try (first | (refine W.gon rfl rfl (by first | rfl | assumption | (apply decide_eq_true; first | rfl | omega) | (apply decide_eq_false; omega)) ?_; (refine W.stp (Stp.cal rfl rfl (EqBytes_spec _ _ _ _ _ _ _ _) (by (repeat constructor); fail_if_success (focus skip)) (by (repeat (first | exact Rds.nil | refine Rds.cons ?_ ?_ | exact Rd.here (Sub.refl _) | exact Rd.here Sub.row | exact Rd.here (Sub.hiB (by omega)) | exact Rd.here (Sub.loB (by omega)) | exact Rd.here (Sub.cutB (by omega)) | exact Rd.here (Sub.trans (Sub.hiB (by omega)) Sub.row) | exact Rd.here (Sub.trans (Sub.loB (by omega)) Sub.row) | exact Rd.here (Sub.trans (Sub.cutB (by omega)) Sub.row) | refine Rd.there ?_)); fail_if_success (focus skip))) rfl rfl rfl ?_; rintro _ _ ⟨_, ⟨rfl, rfl⟩, rfl⟩)) | refine W.goff rfl rfl (by first | rfl | assumption | (apply decide_eq_true; first | rfl | omega) | (apply decide_eq_false; omega)) rfl ?_ | refine W.goffu rfl rfl rfl ?_ | ((refine W.gpart rfl rfl rfl (fun hc => ?_) (fun hc => ?_) <;> (try simp only [Bool.not_eq_false', Bool.not_eq_true', Bool.not_false, Bool.not_true, decide_eq_true_eq, decide_eq_false_iff_not] at hc) <;> (try (exfalso; omega))); all_goals try (refine W.stp (Stp.cal rfl rfl (EqBytes_spec _ _ _ _ _ _ _ _) (by (repeat constructor); fail_if_success (focus skip)) (by (repeat (first | exact Rds.nil | refine Rds.cons ?_ ?_ | exact Rd.here (Sub.refl _) | exact Rd.here Sub.row | exact Rd.here (Sub.hiB (by omega)) | exact Rd.here (Sub.loB (by omega)) | exact Rd.here (Sub.cutB (by omega)) | exact Rd.here (Sub.trans (Sub.hiB (by omega)) Sub.row) | exact Rd.here (Sub.trans (Sub.loB (by omega)) Sub.row) | exact Rd.here (Sub.trans (Sub.cutB (by omega)) Sub.row) | refine Rd.there ?_)); fail_if_success (focus skip))) rfl rfl rfl ?_; rintro _ _ ⟨_, ⟨rfl, rfl⟩, rfl⟩))); all_goals try (first | (refine W.gon rfl rfl (by first | rfl | assumption | (apply decide_eq_true; first | rfl | omega) | (apply decide_eq_false; omega)) ?_; refine W.ev (Ev.not rfl) rfl rfl rfl ?_) | refine W.goff rfl rfl (by first | rfl | assumption | (apply decide_eq_true; first | rfl | omega) | (apply decide_eq_false; omega)) rfl ?_ | refine W.goffu rfl rfl rfl ?_ | ((refine W.gpart rfl rfl rfl (fun hc => ?_) (fun hc => ?_) <;> (try simp only [Bool.not_eq_false', Bool.not_eq_true', Bool.not_false, Bool.not_true, decide_eq_true_eq, decide_eq_false_iff_not] at hc) <;> (try (exfalso; omega))); all_goals try refine W.ev (Ev.not rfl) rfl rfl rfl ?_)); all_goals try (first | refine W.ev (Ev.pickT rfl rfl) rfl rfl rfl ?_ | refine W.ev (Ev.pickF rfl rfl) rfl rfl rfl ?_ | refine W.ev (Ev.pickB rfl rfl rfl) rfl rfl rfl ?_); all_goals try refine W.nil ?_)
    | (refine WC.region (id := 9) ?_; try refine W.ev (Ev.assign rfl) rfl rfl rfl ?_; all_goals try refine W.ev (Ev.assign rfl) rfl rfl rfl ?_; all_goals try refine W.ev (Ev.assign rfl) rfl rfl rfl ?_; all_goals try refine W.nil ?_)
    | (refine WC.region (id := 10) ?_; try refine W.ev (Ev.move rfl) rfl rfl rfl ?_; all_goals try refine W.ev (Ev.move rfl) rfl rfl rfl ?_; all_goals try refine W.ev (Ev.assign rfl) rfl rfl rfl ?_; all_goals try refine W.ev (Ev.assign rfl) rfl rfl rfl ?_; all_goals try refine W.ev (Ev.assign rfl) rfl rfl rfl ?_; all_goals try refine W.nil ?_)
    | refine W.nil ?_
    | refine W.gon rfl rfl (by first | rfl | assumption | (apply decide_eq_true; first | rfl | omega) | (apply decide_eq_false; omega)) ?_
    | refine W.goff rfl rfl (by first | rfl | assumption | (apply decide_eq_true; first | rfl | omega) | (apply decide_eq_false; omega)) rfl ?_
    | refine W.goff0 rfl rfl (by first | rfl | assumption | (apply decide_eq_true; first | rfl | omega) | (apply decide_eq_false; omega)) ?_
    | refine W.goffu rfl rfl rfl ?_
    | refine W.goffu0 rfl rfl ?_
    | refine W.ev (Ev.assign rfl) rfl rfl rfl ?_
    | refine W.ev (Ev.move rfl) rfl rfl rfl ?_
    | refine W.ev (Ev.len rfl) rfl rfl rfl ?_
    | refine W.ev (Ev.lss rfl rfl) rfl rfl rfl ?_
    | refine W.ev (Ev.indexAddrK rfl (by first | exact Int.toNat_zero | exact Int.toNat_one | (simp only [Int.reduceToNat]; rfl)) (by (repeat (first | exact Rds.nil | refine Rds.cons ?_ ?_ | exact Rd.here (Sub.refl _) | exact Rd.here Sub.row | exact Rd.here (Sub.hiB (by omega)) | exact Rd.here (Sub.loB (by omega)) | exact Rd.here (Sub.cutB (by omega)) | exact Rd.here (Sub.trans (Sub.hiB (by omega)) Sub.row) | exact Rd.here (Sub.trans (Sub.loB (by omega)) Sub.row) | exact Rd.here (Sub.trans (Sub.cutB (by omega)) Sub.row) | refine Rd.there ?_)); fail_if_success (focus skip)) (by omega)) rfl rfl rfl ?_ | refine W.ev (Ev.indexAddr1 rfl rfl (by (repeat (first | exact Rds.nil | refine Rds.cons ?_ ?_ | exact Rd.here (Sub.refl _) | exact Rd.here Sub.row | exact Rd.here (Sub.hiB (by omega)) | exact Rd.here (Sub.loB (by omega)) | exact Rd.here (Sub.cutB (by omega)) | exact Rd.here (Sub.trans (Sub.hiB (by omega)) Sub.row) | exact Rd.here (Sub.trans (Sub.loB (by omega)) Sub.row) | exact Rd.here (Sub.trans (Sub.cutB (by omega)) Sub.row) | refine Rd.there ?_)); fail_if_success (focus skip)) (by omega)) rfl rfl rfl ?_
    | refine W.evB (Ev.loadB rfl (by (repeat (first | exact Rds.nil | refine Rds.cons ?_ ?_ | exact Rd.here (Sub.refl _) | exact Rd.here Sub.row | exact Rd.here (Sub.hiB (by omega)) | exact Rd.here (Sub.loB (by omega)) | exact Rd.here (Sub.cutB (by omega)) | exact Rd.here (Sub.trans (Sub.hiB (by omega)) Sub.row) | exact Rd.here (Sub.trans (Sub.loB (by omega)) Sub.row) | exact Rd.here (Sub.trans (Sub.cutB (by omega)) Sub.row) | refine Rd.there ?_)); fail_if_success (focus skip)) (by first | omega | (simp only [List.length_drop, List.length_take, List.length_append, List.length_replicate, List.length_set, List.length_cons, List.length_nil, Nat.min_def]; omega) | (simp; omega))) rfl rfl rfl (fun hbyte => ?_)
    | refine W.ev (Ev.gtr rfl rfl) rfl rfl rfl ?_
    | refine W.ev (Ev.pickT rfl rfl) rfl rfl rfl ?_ | refine W.ev (Ev.pickF rfl rfl) rfl rfl rfl ?_ | refine W.ev (Ev.pickB rfl rfl rfl) rfl rfl rfl ?_
    | refine W.ev (Ev.sub rfl rfl (by omega)) rfl rfl rfl ?_
    | (refine W.stp (Stp.cal rfl rfl (refPad_spec _ _ _ _ _ (by omega)) (by (repeat constructor); fail_if_success (focus skip)) (by (repeat (first | exact Rds.nil | refine Rds.cons ?_ ?_ | exact Rd.here (Sub.refl _) | exact Rd.here Sub.row | exact Rd.here (Sub.hiB (by omega)) | exact Rd.here (Sub.loB (by omega)) | exact Rd.here (Sub.cutB (by omega)) | exact Rd.here (Sub.trans (Sub.hiB (by omega)) Sub.row) | exact Rd.here (Sub.trans (Sub.loB (by omega)) Sub.row) | exact Rd.here (Sub.trans (Sub.cutB (by omega)) Sub.row) | refine Rd.there ?_)); fail_if_success (focus skip))) rfl rfl rfl ?_; rintro _ _ ⟨_, ⟨A3, n3, c3, rfl, rfl⟩, rfl⟩)
    | refine W.ev (Ev.extract rfl rfl) rfl rfl rfl ?_
    | refine W.ev (Ev.neq rfl rfl) rfl rfl rfl ?_
    | (refine W.stp (Stp.cal rfl rfl (EqBytes_spec _ _ _ _ _ _ _ _) (by (repeat constructor); fail_if_success (focus skip)) (by (repeat (first | exact Rds.nil | refine Rds.cons ?_ ?_ | exact Rd.here (Sub.refl _) | exact Rd.here Sub.row | exact Rd.here (Sub.hiB (by omega)) | exact Rd.here (Sub.loB (by omega)) | exact Rd.here (Sub.cutB (by omega)) | exact Rd.here (Sub.trans (Sub.hiB (by omega)) Sub.row) | exact Rd.here (Sub.trans (Sub.loB (by omega)) Sub.row) | exact Rd.here (Sub.trans (Sub.cutB (by omega)) Sub.row) | refine Rd.there ?_)); fail_if_success (focus skip))) rfl rfl rfl ?_; rintro _ _ ⟨_, ⟨rfl, rfl⟩, rfl⟩)
    | refine W.ev (Ev.not rfl) rfl rfl rfl ?_)
  · have hno : ∀ u q, padErr u.length q = 0 → padOut u q ≠ bs := by
      intro u q hu he
      obtain ⟨s1, s2, s3, s4, s5, s6⟩ := pad_shape hu he
      rw [s2] at hc
      cases q <;> simp at hc
    refine WC.nilRow 5 1 ?_
    repeat' (first
    | refine WC.seq ?_
    | refine WC.region ?_
    | refine W.nil ?_
    | refine WC.block ?_
    | refine WC.skip ?_
    | refine WC.exit ?_
    | refine WC.ret ?_
    | refine K.norm_then ?_
    | refine K.norm_block ?_
    | refine K.exit_then ?_
    | refine K.exit_hit ?_
    | refine K.exit_miss rfl ?_
    | refine K.ret_then ?_
    | refine K.ret_block ?_
    | refine W.gon rfl rfl (by first | rfl | assumption | (apply decide_eq_true; first | rfl | omega) | (apply decide_eq_false; omega)) ?_
    | refine W.goff rfl rfl (by first | rfl | assumption | (apply decide_eq_true; first | rfl | omega) | (apply decide_eq_false; omega)) rfl ?_
    | refine W.goff0 rfl rfl (by first | rfl | assumption | (apply decide_eq_true; first | rfl | omega) | (apply decide_eq_false; omega)) ?_
    | refine W.goffu rfl rfl rfl ?_
    | refine W.goffu0 rfl rfl ?_)
    exact ⟨_, rfl, _, ⟨_, _, _, [], false, 4, .inr ⟨rfl, rfl, rfl, hno⟩, rfl, rfl⟩, _, by repeat constructor⟩
  · have hno : ∀ u q, padErr u.length q = 0 → padOut u q ≠ bs := by
      intro u q hu he
      obtain ⟨s1, s2, s3, s4, s5, s6⟩ := pad_shape hu he
      have := padCls_cases u.length
      have := padErr_le hu
      omega
    refine WC.nilRow 5 1 ?_
    repeat' (first
    | refine WC.seq ?_
    | refine WC.region ?_
    | refine W.nil ?_
    | refine WC.block ?_
    | refine WC.skip ?_
    | refine WC.exit ?_
    | refine WC.ret ?_
    | refine K.norm_then ?_
    | refine K.norm_block ?_
    | refine K.exit_then ?_
    | refine K.exit_hit ?_
    | refine K.exit_miss rfl ?_
    | refine K.ret_then ?_
    | refine K.ret_block ?_
    | refine W.gon rfl rfl (by first | rfl | assumption | (apply decide_eq_true; first | rfl | omega) | (apply decide_eq_false; omega)) ?_
    | refine W.goff rfl rfl (by first | rfl | assumption | (apply decide_eq_true; first | rfl | omega) | (apply decide_eq_false; omega)) rfl ?_
    | refine W.goff0 rfl rfl (by first | rfl | assumption | (apply decide_eq_true; first | rfl | omega) | (apply decide_eq_false; omega)) ?_
    | refine W.goffu rfl rfl rfl ?_
    | refine W.goffu0 rfl rfl ?_)
    exact ⟨_, rfl, _, ⟨_, _, _, [], false, 4, .inr ⟨rfl, rfl, rfl, hno⟩, rfl, rfl⟩, _, by repeat constructor⟩
  · have hno : ∀ u q, padErr u.length q = 0 → padOut u q ≠ bs := by
      intro u q hu he
      obtain ⟨s1, s2, s3, s4, s5, s6⟩ := pad_shape hu he
      have e1 : (3 + (256 * ((bs.getD 1 0).toNat : Int) + ((bs.getD 2 0).toNat : Int))).toNat - Int.toNat 3 = u.length := by omega
      have e2 : decide (((bs.getD 0 0).toNat : Int) = 1) = q := by rw [s2]; cases q <;> rfl
      have e3 : List.drop (Int.toNat 3) bs = bs.drop 3 := rfl
      rw [e1, e2, e3, s5] at hc
      simp [he] at hc
    refine WC.nilRow 5 1 ?_
    repeat' (first
    | refine WC.seq ?_
    | refine WC.region ?_
    | refine W.nil ?_
    | refine WC.block ?_
    | refine WC.skip ?_
    | refine WC.exit ?_
    | refine WC.ret ?_
    | refine K.norm_then ?_
    | refine K.norm_block ?_
    | refine K.exit_then ?_
    | refine K.exit_hit ?_
    | refine K.exit_miss rfl ?_
    | refine K.ret_then ?_
    | refine K.ret_block ?_
    | refine W.gon rfl rfl (by first | rfl | assumption | (apply decide_eq_true; first | rfl | omega) | (apply decide_eq_false; omega)) ?_
    | refine W.goff rfl rfl (by first | rfl | assumption | (apply decide_eq_true; first | rfl | omega) | (apply decide_eq_false; omega)) rfl ?_
    | refine W.goff0 rfl rfl (by first | rfl | assumption | (apply decide_eq_true; first | rfl | omega) | (apply decide_eq_false; omega)) ?_
    | refine W.goffu rfl rfl rfl ?_
    | refine W.goffu0 rfl rfl ?_)
    exact ⟨_, rfl, _, ⟨_, _, _, [], false, 4, .inr ⟨rfl, rfl, rfl, hno⟩, rfl, rfl⟩, _, by repeat constructor⟩
  · rename_i herr
    have hv : (List.take ((3 + (256 * ((bs.getD 1 0).toNat : Int) + ((bs.getD 2 0).toNat : Int))).toNat - Int.toNat 3) (List.drop (Int.toNat 3) bs)).length = (3 + (256 * ((bs.getD 1 0).toNat : Int) + ((bs.getD 2 0).toNat : Int))).toNat - Int.toNat 3 := by
      rw [List.length_take, List.length_drop]; omega
    rw [← hv] at herr
    repeat' (first
    | refine WC.seq ?_
    | refine WC.region ?_
    | refine W.nil ?_
    | refine WC.block ?_
    | refine WC.skip ?_
    | refine WC.exit ?_
    | refine WC.ret ?_
    | refine K.norm_then ?_
    | refine K.norm_block ?_
    | refine K.exit_then ?_
    | refine K.exit_hit ?_
    | refine K.exit_miss rfl ?_
    | refine K.ret_then ?_
    | refine K.ret_block ?_
    | refine W.gon rfl rfl (by first | rfl | assumption | (apply decide_eq_true; first | rfl | omega) | (apply decide_eq_false; omega)) ?_
    | refine W.goff rfl rfl (by first | rfl | assumption | (apply decide_eq_true; first | rfl | omega) | (apply decide_eq_false; omega)) rfl ?_
    | refine W.goff0 rfl rfl (by first | rfl | assumption | (apply decide_eq_true; first | rfl | omega) | (apply decide_eq_false; omega)) ?_
    | refine W.goffu rfl rfl rfl ?_
    | refine W.goffu0 rfl rfl ?_)
    exact ⟨_, rfl, _, ⟨_, _, _, _, _, 0, .inl ⟨rfl, Decidable.not_not.1 herr, by simpa using hc⟩, rfl, rfl⟩, _, by repeat constructor⟩
  · have hno : ∀ u q, padErr u.length q = 0 → padOut u q ≠ bs := by
      intro u q hu he
      obtain ⟨s1, s2, s3, s4, s5, s6⟩ := pad_shape hu he
      have e1 : (3 + (256 * ((bs.getD 1 0).toNat : Int) + ((bs.getD 2 0).toNat : Int))).toNat - Int.toNat 3 = u.length := by omega
      have e2 : decide (((bs.getD 0 0).toNat : Int) = 1) = q := by rw [s2]; cases q <;> rfl
      rw [e1, e2] at hc
      simp [hu] at hc
    refine WC.nilRow 5 1 ?_
    repeat' (first
    | refine WC.seq ?_
    | refine WC.region ?_
    | refine W.nil ?_
    | refine WC.block ?_
    | refine WC.skip ?_
    | refine WC.exit ?_
    | refine WC.ret ?_
    | refine K.norm_then ?_
    | refine K.norm_block ?_
    | refine K.exit_then ?_
    | refine K.exit_hit ?_
    | refine K.exit_miss rfl ?_
    | refine K.ret_then ?_
    | refine K.ret_block ?_
    | refine W.gon rfl rfl (by first | rfl | assumption | (apply decide_eq_true; first | rfl | omega) | (apply decide_eq_false; omega)) ?_
    | refine W.goff rfl rfl (by first | rfl | assumption | (apply decide_eq_true; first | rfl | omega) | (apply decide_eq_false; omega)) rfl ?_
    | refine W.goff0 rfl rfl (by first | rfl | assumption | (apply decide_eq_true; first | rfl | omega) | (apply decide_eq_false; omega)) ?_
    | refine W.goffu rfl rfl rfl ?_
    | refine W.goffu0 rfl rfl ?_)
    exact ⟨_, rfl, _, ⟨_, _, _, [], false, 4, .inr ⟨rfl, rfl, rfl, hno⟩, rfl, rfl⟩, _, by repeat constructor⟩
  · have hno : ∀ u q, padErr u.length q = 0 → padOut u q ≠ bs := by
      intro u q hu he
      obtain ⟨s1, s2, s3, s4, s5, s6⟩ := pad_shape hu he
      have := padCls_cases u.length
      have := padErr_le hu
      omega
    refine WC.nilRow 5 1 ?_
    repeat' (first
    | refine WC.seq ?_
    | refine WC.region ?_
    | refine W.nil ?_
    | refine WC.block ?_
    | refine WC.skip ?_
    | refine WC.exit ?_
    | refine WC.ret ?_
    | refine K.norm_then ?_
    | refine K.norm_block ?_
    | refine K.exit_then ?_
    | refine K.exit_hit ?_
    | refine K.exit_miss rfl ?_
    | refine K.ret_then ?_
    | refine K.ret_block ?_
    | refine W.gon rfl rfl (by first | rfl | assumption | (apply decide_eq_true; first | rfl | omega) | (apply decide_eq_false; omega)) ?_
    | refine W.goff rfl rfl (by first | rfl | assumption | (apply decide_eq_true; first | rfl | omega) | (apply decide_eq_false; omega)) rfl ?_
    | refine W.goff0 rfl rfl (by first | rfl | assumption | (apply decide_eq_true; first | rfl | omega) | (apply decide_eq_false; omega)) ?_
    | refine W.goffu rfl rfl rfl ?_
    | refine W.goffu0 rfl rfl ?_)
    exact ⟨_, rfl, _, ⟨_, _, _, [], false, 4, .inr ⟨rfl, rfl, rfl, hno⟩, rfl, rfl⟩, _, by repeat constructor⟩
end Go.SX
