/- ViewUntil. -/
import Derived.Test.YtkiofjedeecijaaVw10
namespace Go.SX
open Go Go.RowKit Go.Proofs
set_option linter.unusedVariables false
set_option linter.unusedSimpArgs false
set_option maxHeartbeats 4000000
theorem RowsOK.bs {hs : List RH} (h : RowsOK hs) : ∀ r ∈ hs.map RH.vr, r.bs.length ≤ 1000000 := by
  intro r hr
  obtain ⟨x, hx, rfl⟩ := List.mem_map.1 hr
  obtain ⟨k, hk, rfl⟩ := List.mem_iff_getElem.1 hx
  have := (h.row k hk).2.2
  rw [nth_get hk] at this
  exact Nat.le_trans this (by decide)
theorem RowsOK.none {hs : List RH} (h : RowsOK hs) : (hs.map RH.vr).filter (fun r => decide (r.step ≤ -1)) = [] := by
  rw [List.filter_eq_nil_iff]
  intro r hr
  obtain ⟨x, hx, rfl⟩ := List.mem_map.1 hr
  obtain ⟨k, hk, rfl⟩ := List.mem_iff_getElem.1 hx
  have := (h.row k hk).1.2.1
  rw [nth_get hk] at this
  simp only [decide_eq_true_eq]
  omega
theorem ViewUntil_core (A : Option Addr) (c : Nat) (ss : List SH) (st : Int) (hsc : ∀ s ∈ ss, s.bs.length ≤ s.c) (hs : List RH) (hhs : hs = madeL ss (min ss.length 60)) (hok : RowsOK hs) :
    Spec Try.prog 4 [.slice A ss.length c, .int .i64 st] [] [sliceC A c 4 ss.length (recs SH.cells ss), allC (ss.map SH.rd), allC (hs.map RH.rd)] (fun v l' => v = .bool true ∧ l' = []) := by
  obtain ⟨j, hj, hf, hlo, hhi⟩ := filter_up hok.up (st % 130)
  have hl60 := hok.len
  have hlen : (hs.map RH.vr).length ≤ 20000 := hok.ok.1
  have hlj : ((hs.map RH.vr).take j).length = j := by rw [List.length_take, List.length_map]; omega
  have hr60 : (hs.map RH.vr).length = hs.length := List.length_map ..
  refine Spec.intro Try.func4 rfl rfl Try.ntmps4 rfl fun w0 => ?_
  /- loops of sealchain/sealchainlaw24.ViewUntil: 11 live [5, 6, 7] vary [9] -/
  (all_goals (refine WC.auto ?_; (conv => whnf))); repeat' (first
          | ((with_reducible refine WB.auto ?_); (conv => whnf))
          | ((with_reducible refine WCB.auto ?_); (conv => whnf))
          | ((with_reducible refine Ob.at ?_); first | (refine Ob.mk (by first | omega | exact u8_bound _ | (have := u8_bound; omega) | (simp only [List.length_drop, List.length_take, List.length_append, List.length_replicate, List.length_set, List.length_cons, List.length_nil, Nat.min_def]; omega)) ?_; (conv => whnf)) | (refine Ob.mk' ?_ ?_; (conv => whnf)))
          | (refine spl_mk (fun hc => ?_) (fun hc => ?_) <;> (try simp only [Bool.not_eq_false', and_self, and_true, true_and, not_true, Bool.not_eq_true', Bool.not_false, Bool.not_true, decide_eq_true_eq, decide_eq_false_iff_not, Bool.false_eq_true, reduceCtorEq, Bool.true_eq_false, ne_eq, Decidable.not_not, Int.not_lt, Int.not_le, beq_self_eq_true, eq_self, not_true_eq_false, not_false_eq_true, Bool.not_eq_eq_eq_not, Bool.not_eq_true, Bool.not_eq_false, beq_iff_eq, beq_eq_false_iff_ne] at hc) <;> (try (exfalso; omega)) <;> (conv => whnf))
          | ((with_reducible refine NatK.at ?_); first | ((with_reducible refine NatK.cast ?_); (conv => whnf)) | (refine NatK.sym (by first | omega | exact u8_bound _ | (have := u8_bound; omega) | (simp only [List.length_drop, List.length_take, List.length_append, List.length_replicate, List.length_set, List.length_cons, List.length_nil, Nat.min_def]; omega)) (fun m hm => ?_); (conv => whnf)))
          | (intro q hq; (conv => whnf))
          | ((with_reducible refine W.at 11 ?_); first | ((refine W.stp (Stp.cal rfl rfl (made_to _ _ ss hs hsc hhs) pksA rdsA) rfl rfl rfl ?_; rintro _ _ ⟨_, ⟨A11, c11, rfl, rfl⟩, rfl⟩); all_goals ((refine W.auto ?_); (conv => whnf))))
          | ((with_reducible refine W.at 13 ?_); first | ((refine W.stp (Stp.cal rfl rfl (of_spec _ _ hs hok.ok) pksA rdsA) rfl rfl rfl ?_; rintro _ _ ⟨_, ⟨g13, a13, rfl, ha13, rfl⟩, rfl⟩); all_goals ((refine W.auto ?_); (conv => whnf))))
          | ((with_reducible refine W.at 17 ?_); first | ((first | (refine W.stp (Stp.cal rfl rfl (BringN_spec _ _ ⟨by omega, by omega⟩) pksA rdsA) rfl rfl rfl ?_; rintro _ _ ⟨_, ⟨w17, rfl, hm17, hw17, rfl⟩, rfl⟩) | (refine W.stp (Stp.cal rfl rfl (Bring_spec _ _ ⟨by omega, by omega⟩) pksA rdsA) rfl rfl rfl ?_; rintro _ _ ⟨_, ⟨⟨m17, rfl, hm17, hl17, hu17⟩, rfl⟩, rfl⟩)); all_goals ((refine W.auto ?_); (conv => whnf))))
          | ((with_reducible refine W.at 20 ?_); first | ((first | (refine W.stp (Stp.cal rfl rfl (Until_to g13 a13 (hs.map RH.vr) ((hs.map RH.vr).take j) w17 ha13 hlen hok.bs (by rw [hm17]; exact hf)) pksA rdsA) rfl rfl rfl ?_; rintro _ _ ⟨_, ⟨g20, a20, rfl, ha20, rfl⟩, rfl⟩) | (refine W.stp (Stp.cal rfl rfl (Until_to g13 a13 (hs.map RH.vr) [] (-1) ha13 hlen hok.bs hok.none) pksA rdsA) rfl rfl rfl ?_; rintro _ _ ⟨_, ⟨g20, a20, rfl, ha20, rfl⟩, rfl⟩)); all_goals ((refine W.auto ?_); (conv => whnf))))
          | ((with_reducible refine W.at 22 ?_); first | ((first | (refine W.stp (Stp.cal rfl rfl (Len_to g20 a20 _ ha20) pksA rdsA) rfl rfl rfl ?_; rintro _ _ ⟨_, ⟨rfl, rfl⟩, rfl⟩; (rw [hlj])) | (refine W.stp (Stp.cal rfl rfl (Len_to g101 a101 _ ha101) pksA rdsA) rfl rfl rfl ?_; rintro _ _ ⟨_, ⟨rfl, rfl⟩, rfl⟩)); all_goals ((refine W.auto ?_); (conv => whnf))))
          | ((with_reducible refine W.at 35 ?_); first | ((first | (first | (first | (refine W.stp (Stp.cal rfl rfl (First_to g13 a13 g20 a20 _ _ j ha13 ha20 hlen (by omega) (by rw [firstU_take _ j 0 (by omega), Nat.zero_add])) pksA rdsA) rfl rfl rfl ?_; rintro _ _ ⟨_, ⟨rfl, rfl⟩, rfl⟩) | (refine W.stp (Stp.cal rfl rfl (First_to g13 a13 g20 a20 _ _ (-1) ha13 ha20 hlen (by omega) (by rw [List.take_of_length_le (by omega)]; exact firstU_refl _ 0)) pksA rdsA) rfl rfl rfl ?_; rintro _ _ ⟨_, ⟨rfl, rfl⟩, rfl⟩)) | (refine W.stp (Stp.cal rfl rfl (First_to g20 a g13 a13 _ _ (-1) hk.2.2 ha13 (by rw [List.length_map, List.length_take]; omega) hlen (by rw [List.take_of_length_le (by omega)]; exact firstU_refl _ 0)) pksA rdsA) rfl rfl rfl ?_; rintro _ _ ⟨_, ⟨rfl, rfl⟩, rfl⟩)) | (refine W.stp (Stp.cal rfl rfl (First_spec _ _ _ _ (by assumption) (by assumption)) pksA rdsA) rfl rfl rfl ?_; rintro _ _ ⟨_, ⟨rfl, rfl⟩, rfl⟩)); all_goals ((refine W.auto ?_); (conv => whnf))))
          | ((with_reducible refine W.at 48 ?_); first | ((first | (first | (first | (refine W.stp (Stp.cal rfl rfl (First_to g13 a13 g20 a20 _ _ j ha13 ha20 hlen (by omega) (by rw [firstU_take _ j 0 (by omega), Nat.zero_add])) pksA rdsA) rfl rfl rfl ?_; rintro _ _ ⟨_, ⟨rfl, rfl⟩, rfl⟩) | (refine W.stp (Stp.cal rfl rfl (First_to g13 a13 g20 a20 _ _ (-1) ha13 ha20 hlen (by omega) (by rw [List.take_of_length_le (by omega)]; exact firstU_refl _ 0)) pksA rdsA) rfl rfl rfl ?_; rintro _ _ ⟨_, ⟨rfl, rfl⟩, rfl⟩)) | (refine W.stp (Stp.cal rfl rfl (First_to g20 a g13 a13 _ _ (-1) hk.2.2 ha13 (by rw [List.length_map, List.length_take]; omega) hlen (by rw [List.take_of_length_le (by omega)]; exact firstU_refl _ 0)) pksA rdsA) rfl rfl rfl ?_; rintro _ _ ⟨_, ⟨rfl, rfl⟩, rfl⟩)) | (refine W.stp (Stp.cal rfl rfl (First_spec _ _ _ _ (by assumption) (by assumption)) pksA rdsA) rfl rfl rfl ?_; rintro _ _ ⟨_, ⟨rfl, rfl⟩, rfl⟩)); all_goals ((refine W.auto ?_); (conv => whnf))))
          | ((with_reducible refine W.at 59 ?_); first | (refine W.ev (Ev.indexRec rfl rfl rdA (by omega) (by rfl)) rfl rfl rfl ?_; all_goals ((refine W.auto ?_); (conv => whnf))))
          | ((with_reducible refine W.at 61 ?_); first | (refine W.ev (Ev.loadRecF rfl rfl rdA (by exact fun _ => rfl) (by omega) (by rfl) (by rfl)) rfl rfl rfl ?_; all_goals ((refine W.auto ?_); (conv => whnf))))
          | ((with_reducible refine W.at 74 ?_); first | (refine W.ev (Ev.indexRec rfl rfl rdA (by omega) (by rfl)) rfl rfl rfl ?_; all_goals ((refine W.auto ?_); (conv => whnf))))
          | ((with_reducible refine W.at 76 ?_); first | (refine W.ev (Ev.loadRecF rfl rfl rdA (by exact fun _ => rfl) (by omega) (by rfl) (by rfl)) rfl rfl rfl ?_; all_goals ((refine W.auto ?_); (conv => whnf))))
          | ((with_reducible refine W.at 91 ?_); first | (refine W.ev (Ev.indexRec rfl rfl rdA (by omega) (by rfl)) rfl rfl rfl ?_; all_goals ((refine W.auto ?_); (conv => whnf))))
          | ((with_reducible refine W.at 92 ?_); first | (refine W.ev (Ev.loadRec rfl rfl rdA (by exact fun _ => rfl) (by omega) (by rfl)) rfl rfl rfl ?_; all_goals ((refine W.auto ?_); (conv => whnf))))
          | ((with_reducible refine W.at 93 ?_); first | ((refine W.stp (Stp.cal rfl rfl (Add_ok g20 a _ _ _ _ _ _ (nth hs k).bs rfl (by have := vr_len hk.2.2; rw [List.length_take] at this; omega) (hok.ok.at (by omega) hk.2.2)) pksA rdsA) rfl rfl rfl ?_; rintro _ _ ⟨_, ⟨a93, rfl, ha93, rfl⟩, rfl⟩); all_goals ((refine W.auto ?_); (conv => whnf))))
          | ((with_reducible refine W.at 97 ?_); first | ((first | (first | (first | (refine W.stp (Stp.cal rfl rfl (First_to g13 a13 g20 a20 _ _ j ha13 ha20 hlen (by omega) (by rw [firstU_take _ j 0 (by omega), Nat.zero_add])) pksA rdsA) rfl rfl rfl ?_; rintro _ _ ⟨_, ⟨rfl, rfl⟩, rfl⟩) | (refine W.stp (Stp.cal rfl rfl (First_to g13 a13 g20 a20 _ _ (-1) ha13 ha20 hlen (by omega) (by rw [List.take_of_length_le (by omega)]; exact firstU_refl _ 0)) pksA rdsA) rfl rfl rfl ?_; rintro _ _ ⟨_, ⟨rfl, rfl⟩, rfl⟩)) | (refine W.stp (Stp.cal rfl rfl (First_to g20 a g13 a13 _ _ (-1) hk.2.2 ha13 (by rw [List.length_map, List.length_take]; omega) hlen (by rw [List.take_of_length_le (by omega)]; exact firstU_refl _ 0)) pksA rdsA) rfl rfl rfl ?_; rintro _ _ ⟨_, ⟨rfl, rfl⟩, rfl⟩)) | (refine W.stp (Stp.cal rfl rfl (First_spec _ _ _ _ (by assumption) (by assumption)) pksA rdsA) rfl rfl rfl ?_; rintro _ _ ⟨_, ⟨rfl, rfl⟩, rfl⟩)); all_goals ((refine W.auto ?_); (conv => whnf))))
          | ((with_reducible refine W.at 101 ?_); first | ((first | (refine W.stp (Stp.cal rfl rfl (Until_to g13 a13 (hs.map RH.vr) ((hs.map RH.vr).take j) w17 ha13 hlen hok.bs (by rw [hm17]; exact hf)) pksA rdsA) rfl rfl rfl ?_; rintro _ _ ⟨_, ⟨g101, a101, rfl, ha101, rfl⟩, rfl⟩) | (refine W.stp (Stp.cal rfl rfl (Until_to g13 a13 (hs.map RH.vr) [] (-1) ha13 hlen hok.bs hok.none) pksA rdsA) rfl rfl rfl ?_; rintro _ _ ⟨_, ⟨g101, a101, rfl, ha101, rfl⟩, rfl⟩)); all_goals ((refine W.auto ?_); (conv => whnf))))
          | ((with_reducible refine W.at 102 ?_); first | ((first | (refine W.stp (Stp.cal rfl rfl (Len_to g20 a20 _ ha20) pksA rdsA) rfl rfl rfl ?_; rintro _ _ ⟨_, ⟨rfl, rfl⟩, rfl⟩; (rw [hlj])) | (refine W.stp (Stp.cal rfl rfl (Len_to g101 a101 _ ha101) pksA rdsA) rfl rfl rfl ?_; rintro _ _ ⟨_, ⟨rfl, rfl⟩, rfl⟩)); all_goals ((refine W.auto ?_); (conv => whnf))))
          | ((with_reducible refine W.at 106 ?_); first | ((refine W.stp (Stp.cal rfl rfl (vworks_spec) pksA rdsA) rfl rfl rfl ?_; rintro _ _ ⟨_, ⟨rfl, rfl⟩, rfl⟩); all_goals ((refine W.auto ?_); (conv => whnf))))
          | ((with_reducible refine WC.atC (c := .loop (.seq (.seq (.region 11 _ _) _) _)) ?_); refine WC.loopL2 (X := Nat) (Y := VA) (j) (a20) (fun k a => j ≤ k ∧ k ≤ hs.length ∧ a.hs.map RH.vr = (hs.take k).map RH.vr) (fun k a => [(9, .int .i64 (k : Int))]) (fun k a => [viewC g20 a, viewC g13 a13, rowC A11 c11 37 4 hs.length (recs RH.cells hs)]) (fun k a => hs.length - k) [5, 6, 7] (⟨Nat.le_refl j, hj, by rw [ha20, List.map_take]⟩) ?_; (conv => whnf); refine LoopQ2.mk (by ((repeat (first | exact trivial | refine And.intro rfl ?_)); fail_if_success (focus skip))) (⟨_, pksA⟩) ?_; rintro k a hk; refine WC.auto ?_; (conv => whnf))
          | ((with_reducible refine W.at 59 ?_); refine W.ev (Ev.indexRecE (k := j - 1) (s := 4) rfl rfl (by omega) rdA (by omega) (by rfl) (by decide)) rfl rfl rfl ?_; refine W.auto ?_; (conv => whnf))
          | (refine ⟨k + 1, a93, ?_, by ((repeat (first | exact trivial | refine And.intro rfl ?_)); fail_if_success (focus skip)), (by (with_reducible refine chLeI ?_); exact ⟨_, pksA⟩), by omega⟩)
          | refine Exists.intro _ (And.intro (resv_rfl rfl) ?_))
  all_goals first
    | (exfalso; have := hhi j (Nat.le_refl j) (by omega); omega)
    | (exfalso; have := hlo (j - 1) (by omega); omega)
    | exact ⟨by omega, by omega, by rw [ha93, hk.2.2, take_vr (by omega)]; rfl⟩
    | first | exact ⟨_, ⟨rfl, rfl⟩, _, pksA⟩ | skip
    | skip
end Go.SX
