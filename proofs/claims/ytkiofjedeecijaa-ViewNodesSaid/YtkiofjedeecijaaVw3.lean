/- Views: rows that are chosen, one by one. -/
import Derived.Test.YtkiofjedeecijaaVw2
namespace Go.SX
open Go Go.RowKit Go.Proofs
set_option linter.unusedVariables false
set_option linter.unusedSimpArgs false
set_option maxHeartbeats 4000000
theorem filter_step {p : VR → Bool} {hs : List RH} {k : Nat} (hk : k < hs.length) : ((hs.take (k + 1)).map RH.vr).filter p = ((hs.take k).map RH.vr).filter p ++ (if p (nth hs k).vr then [(nth hs k).vr] else []) := by
  rw [List.take_add_one, List.getElem?_eq_getElem hk, List.map_append, List.filter_append, nth_get hk]
  congr 1
  simp only [Option.toList_some, List.map_cons, List.map_nil, List.filter_cons, List.filter_nil]
theorem vr_mem {hs : List RH} {k : Nat} (hk : k < hs.length) : (nth hs k).vr ∈ hs.map RH.vr := List.mem_map.2 ⟨_, nth_mem hk, rfl⟩
theorem chosen1_spec {σ : Type} (os : σ → List RH) (C : σ → Chunk) (s0 : σ) (h0 : os s0 = []) (l0 : Nat) (R : Loop) (gb gi fi : Nat) [Fun Try.prog fi] (us : List Value) (cap : Chunk) (p : VR → Bool) (A : Option Addr) (c : Nat) (hs : List RH) (hl : hs.length ≤ 20000) (hb : ∀ h ∈ hs, h.bs.length ≤ 1000000)
    (his : ∀ h : RH, Spec Try.prog fi (rhV h :: us) [] [cap] (fun v l' => v = .bool (p h.vr) ∧ l' = []))
    (hy : ∀ (s : σ) (st nd kd : Int) (A' : Option Addr) (c' : Nat) (bs : List UInt8), (os s).length < 20000 → (⟨st, nd, kd, bs⟩ : VR) ∈ hs.map RH.vr → YSpec Try.prog l0 [.agg #[.int .i64 st, .int .i64 nd, .int .i64 kd, .slice A' bs.length c']] [loopC l0 R, C s, bO A' c' 5 bs.length bs] [] (fun v l' => ∃ s', os s' = os s ++ [⟨st, nd, kd, A', c', bs⟩] ∧ v = .bool true ∧ l' = [loopC l0 R, C s'])) :
    Spec Try.prog 47 [.func (.yield l0) #[] #[], .pointer (some ⟨gb, 0, none⟩), .pointer (some ⟨gi, 0, none⟩)] [loopC l0 R, C s0]
      [cellsC gb 62 [.slice A hs.length c, ownF], cellsC gi 55 [.func (.func fi) #[] us.toArray], rowC A c 37 4 hs.length (recs RH.cells hs), starM RH.own hs, cap]
      (fun v l' => ∃ s, (os s).map RH.vr = (hs.map RH.vr).filter p ∧ l' = [loopC l0 R, C s]) := by
  refine Spec.intro Try.func47 rfl rfl Try.ntmps47 rfl fun w0 => ?_
  /- loops of (sealchain/view.rows[sealchain/api.Row]).chosen$1: 1 live [0, 1, 2, 7, 8] vary [9] -/
  (all_goals (refine WC.auto ?_; (conv => whnf))); repeat' (first
          | ((with_reducible refine WB.auto ?_); (conv => whnf))
          | ((with_reducible refine WCB.auto ?_); (conv => whnf))
          | ((with_reducible refine Ob.at ?_); first | (refine Ob.mk (by first | omega | exact u8_bound _ | (have := u8_bound; omega) | (simp only [List.length_drop, List.length_take, List.length_append, List.length_replicate, List.length_set, List.length_cons, List.length_nil, Nat.min_def]; omega)) ?_; (conv => whnf)) | (refine Ob.mk' ?_ ?_; (conv => whnf)))
          | (refine spl_mk (fun hc => ?_) (fun hc => ?_) <;> (try simp only [Bool.not_eq_false', and_self, and_true, true_and, not_true, Bool.not_eq_true', Bool.not_false, Bool.not_true, decide_eq_true_eq, decide_eq_false_iff_not, Bool.false_eq_true, reduceCtorEq, Bool.true_eq_false, ne_eq, Decidable.not_not, Int.not_lt, Int.not_le, beq_self_eq_true, eq_self, not_true_eq_false, not_false_eq_true, Bool.not_eq_eq_eq_not, Bool.not_eq_true, Bool.not_eq_false, beq_iff_eq, beq_eq_false_iff_ne] at hc) <;> (try (exfalso; omega)) <;> (conv => whnf))
          | ((with_reducible refine NatK.at ?_); first | ((with_reducible refine NatK.cast ?_); (conv => whnf)) | (refine NatK.sym (by first | omega | exact u8_bound _ | (have := u8_bound; omega) | (simp only [List.length_drop, List.length_take, List.length_append, List.length_replicate, List.length_set, List.length_cons, List.length_nil, Nat.min_def]; omega)) (fun m hm => ?_); (conv => whnf)))
          | (intro q hq; (conv => whnf))
          | ((with_reducible refine W.at 7 ?_); first | (refine W.ev (Ev.load rfl rfl rdA rfl) rfl rfl rfl ?_; all_goals ((refine W.auto ?_); (conv => whnf))))
          | ((with_reducible refine W.at 11 ?_); first | (refine W.ev (Ev.indexRec rfl rfl rdA (by omega) (by rfl)) rfl rfl rfl ?_; all_goals ((refine W.auto ?_); (conv => whnf))))
          | ((with_reducible refine W.at 12 ?_); first | (refine W.ev (Ev.loadRec rfl rfl rdA (by exact fun _ => rfl) (by omega) (by rfl)) rfl rfl rfl ?_; all_goals ((refine W.auto ?_); (conv => whnf))))
          | ((with_reducible refine W.at 5 ?_); first | ((refine W.stp (Stp.allocA rfl) rfl rfl rfl ?_; rintro _ _ ⟨g5, rfl, rfl⟩); all_goals ((refine W.auto ?_); (conv => whnf))))
          | ((with_reducible refine W.atS 5 ?_); first | (refine stWP rfl rfl (by intro v hv; (repeat' (first | rfl | (cases hv; done) | (rcases List.mem_cons.1 hv with rfl | hv)))) (by rfl) pkA ?_; (conv => whnf)))
          | ((with_reducible refine W.at 13 ?_); first | (refine W.ev (Ev.load rfl rfl rdA rfl) rfl rfl rfl ?_; all_goals ((refine W.auto ?_); (conv => whnf))))
          | ((with_reducible refine W.at 14 ?_); first | (refine W.ev (Ev.loadAll rfl rfl rdA (by first | rfl | (simp; done) | (simp only [u8s_length]; omega) | (simp only [u8s_length]; assumption))) rfl rfl rfl ?_; all_goals ((refine W.auto ?_); (conv => whnf))) | (refine W.ev (Ev.loadAgg rfl rfl rdA (by exact Nat.le_of_ble_eq_true rfl)) rfl rfl rfl ?_; all_goals ((refine W.auto ?_); (conv => whnf))))
          | ((with_reducible refine W.at 15 ?_); first | ((first | (first | (refine W.stp (Stp.calc rfl rfl ((his (nth hs k))) pksA rdsA) rfl rfl rfl ?_; rintro _ _ ⟨_, ⟨rfl, rfl⟩, rfl⟩) | (refine W.stp (Stp.cal rfl rfl (vcopied_spec _ _ _ _ _ _ (nth hs k).bs rfl (hb _ (nth_mem (by omega)))) pksA rdsA) rfl rfl rfl ?_; rintro _ _ ⟨_, ⟨A15, c15, rfl, rfl⟩, rfl⟩)) | (refine W.stpY (StpY.yield rfl rfl (hy s _ _ _ _ _ _ (by have := hj.2.2; omega) (vr_mem (by omega))) pksA rdsA) rfl rfl rfl ?_; rintro _ _ ⟨_, ⟨s15, hs15, rfl, rfl⟩, rfl⟩)); all_goals ((refine W.auto ?_); (conv => whnf))))
          | ((with_reducible refine W.at 19 ?_); first | (refine W.ev (Ev.load rfl rfl rdA rfl) rfl rfl rfl ?_; all_goals ((refine W.auto ?_); (conv => whnf))))
          | ((with_reducible refine W.at 20 ?_); first | (refine W.ev (Ev.loadAll rfl rfl rdA (by first | rfl | (simp; done) | (simp only [u8s_length]; omega) | (simp only [u8s_length]; assumption))) rfl rfl rfl ?_; all_goals ((refine W.auto ?_); (conv => whnf))) | (refine W.ev (Ev.loadAgg rfl rfl rdA (by exact Nat.le_of_ble_eq_true rfl)) rfl rfl rfl ?_; all_goals ((refine W.auto ?_); (conv => whnf))))
          | ((with_reducible refine W.at 21 ?_); first | ((first | (first | (refine W.stp (Stp.calc rfl rfl ((his (nth hs k))) pksA rdsA) rfl rfl rfl ?_; rintro _ _ ⟨_, ⟨rfl, rfl⟩, rfl⟩) | (refine W.stp (Stp.cal rfl rfl (vcopied_spec _ _ _ _ _ _ (nth hs k).bs rfl (hb _ (nth_mem (by omega)))) pksA rdsA) rfl rfl rfl ?_; rintro _ _ ⟨_, ⟨A21, c21, rfl, rfl⟩, rfl⟩)) | (refine W.stpY (StpY.yield rfl rfl (hy s _ _ _ _ _ _ (by have := hj.2.2; omega) (vr_mem (by omega))) pksA rdsA) rfl rfl rfl ?_; rintro _ _ ⟨_, ⟨s21, hs21, rfl, rfl⟩, rfl⟩)); all_goals ((refine W.auto ?_); (conv => whnf))))
          | ((with_reducible refine W.at 22 ?_); first | ((first | (first | (refine W.stp (Stp.calc rfl rfl ((his (nth hs k))) pksA rdsA) rfl rfl rfl ?_; rintro _ _ ⟨_, ⟨rfl, rfl⟩, rfl⟩) | (refine W.stp (Stp.cal rfl rfl (vcopied_spec _ _ _ _ _ _ (nth hs k).bs rfl (hb _ (nth_mem (by omega)))) pksA rdsA) rfl rfl rfl ?_; rintro _ _ ⟨_, ⟨A22, c22, rfl, rfl⟩, rfl⟩)) | (refine W.stpY (StpY.yield rfl rfl (hy s _ _ _ _ _ _ (by have := hj.2.2; omega) (vr_mem (by omega))) pksA rdsA) rfl rfl rfl ?_; rintro _ _ ⟨_, ⟨s22, hs22, rfl, rfl⟩, rfl⟩)); all_goals ((refine W.auto ?_); (conv => whnf))))
          | ((with_reducible refine WC.atC (c := .loop (.seq (.region 1 _ _) _)) ?_); refine WC.loopL2 (X := Nat) (Y := σ) (0) (s0) (fun k s => k ≤ hs.length ∧ (os s).map RH.vr = ((hs.take k).map RH.vr).filter p ∧ (os s).length ≤ k) (fun k s => [(9, .int .i64 (k : Int))]) (fun k s => [loopC l0 R, C s]) (fun k s => hs.length - k) [0, 1, 2, 7, 8] (⟨by omega, by rw [h0]; rfl, by rw [h0]; exact Nat.le_refl 0⟩) ?_; (conv => whnf); refine LoopQ2.mk (by ((repeat (first | exact trivial | refine And.intro rfl ?_)); fail_if_success (focus skip))) (⟨_, pksA⟩) ?_; rintro k s hj; refine WC.auto ?_; (conv => whnf))
          | (refine ⟨k + 1, s22, ?_, by ((repeat (first | exact trivial | refine And.intro rfl ?_)); fail_if_success (focus skip)), (by (with_reducible refine chLeI ?_); exact ⟨_, pksA⟩), by omega⟩)
          | (refine ⟨k + 1, s, ?_, by ((repeat (first | exact trivial | refine And.intro rfl ?_)); fail_if_success (focus skip)), (by (with_reducible refine chLeI ?_); exact ⟨_, pksA⟩), by omega⟩)
          | refine Exists.intro _ (And.intro (resv_rfl rfl) ?_))
  all_goals first
    | exact ⟨_, ⟨s, (by have e : k = hs.length := (by omega); subst e; have := hj.2.1; rwa [List.take_length] at this), rfl⟩, ChLe.refl _⟩
    | exact ⟨by omega, by rw [filter_step (by omega), hc]; simp only [hs22, List.map_append, hj.2.1, if_true]; rfl, by rw [hs22, List.length_append]; have := hj.2.2; exact Nat.add_le_add this (Nat.le_refl 1)⟩
    | exact ⟨by omega, by rw [filter_step (by omega), hc]; simp only [hj.2.1, List.append_nil, Bool.false_eq_true, if_false], by have := hj.2.2; omega⟩
    | skip
end Go.SX
