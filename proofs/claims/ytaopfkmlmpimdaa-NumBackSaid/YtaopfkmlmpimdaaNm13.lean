/- Numbers: NumReads. -/
import Derived.Test.YtaopfkmlmpimdaaNm12
namespace Go.SX
open Go Go.RowKit Go.Proofs
set_option linter.unusedVariables false
set_option linter.unusedSimpArgs false
set_option maxHeartbeats 8000000
theorem nrRaw_le (s : NR) (n : Int) : (nrRaw s n).2.b.length ≤ s.b.length ∧ (nrRaw s n).1.length ≤ s.b.length := by
  unfold nrRaw
  split
  · exact ⟨Nat.le_refl _, Nat.zero_le _⟩
  split
  · exact ⟨Nat.zero_le _, Nat.zero_le _⟩
  split
  · exact ⟨Nat.zero_le _, Nat.zero_le _⟩
  · exact ⟨by simp, by simp; omega⟩
theorem nrNum_le (s : NR) (w : Int) : (nrNum s w).2.b.length ≤ s.b.length := by
  unfold nrNum
  split
  · exact Nat.le_refl _
  split
  · exact Nat.zero_le _
  split
  · exact Nat.zero_le _
  · exact (nrRaw_le s w).1
theorem nrText_le (s : NR) (m : Int) : (nrText s m).2.b.length ≤ s.b.length := by
  unfold nrText
  have h := (nrCount_facts s m).1
  split
  · exact Nat.le_trans (nrRaw_le _ _).1 h
  · exact h
theorem NumReads_law (A0 : Option Addr) (c0 n0 : Nat) (bs : List UInt8) (A : Option Addr) (c : Nat) (ds : List NPut) (hok : ∀ d ∈ ds, d.ok) :
    Spec Try.prog 6 [.slice A0 n0 c0, .slice A ds.length c] [] [bR A0 c0 n0 bs, sliceC A c 4 ds.length (recs NPut.cells ds), allC (ds.map NPut.inner)] (fun v l' => v = .bool true ∧ l' = []) := by
  refine Spec.fact (d := bR A0 c0 n0 bs) (Rd.here (Sub.refl _)) bR_len fun hb => ?_
  refine Spec.fact (d := sliceC A c 4 ds.length (recs NPut.cells ds)) (Rd.there (Rd.here (Sub.refl _))) (fun w h => (sliceC_len w h).2) fun hx => ?_
  obtain ⟨hb1, hb2, hb3⟩ := hb
  subst hb1
  obtain ⟨hx2, hx3⟩ := hx
  have hk2 : ∀ k, k < ds.length → (nth ds k).n ≤ 9223372036854775807 ∧ (nth ds k).width ≤ 9223372036854775807 := fun k hk => hok _ (nth_mem hk)
  refine Spec.intro Try.func6 rfl rfl Try.ntmps6 rfl fun w0 => ?_
  (all_goals (refine WC.auto ?_; (conv => whnf))); repeat' (first
          | ((with_reducible refine WB.auto ?_); (conv => whnf))
          | ((with_reducible refine WCB.auto ?_); (conv => whnf))
          | ((with_reducible refine WDB.auto ?_); (conv => whnf))
          | ((with_reducible refine Ob.at ?_); first | (refine Ob.mk (by first | omega | exact u8_bound _ | (have := u8_bound; omega) | (simp only [List.length_drop, List.length_take, List.length_append, List.length_replicate, List.length_set, List.length_cons, List.length_nil, Nat.min_def]; omega)) ?_; (conv => whnf)) | (refine Ob.mk' ?_ ?_; (conv => whnf)))
          | (refine spl_mk (fun hc => ?_) (fun hc => ?_) <;> (try simp only [Bool.not_eq_false', and_self, and_true, true_and, not_true, Bool.not_eq_true', Bool.not_false, Bool.not_true, decide_eq_true_eq, decide_eq_false_iff_not, Bool.false_eq_true, reduceCtorEq, Bool.true_eq_false, ne_eq, Decidable.not_not, Int.not_lt, Int.not_le, beq_self_eq_true, eq_self, not_true_eq_false, not_false_eq_true, Bool.not_eq_eq_eq_not, Bool.not_eq_true, Bool.not_eq_false, beq_iff_eq, beq_eq_false_iff_ne] at hc) <;> (try (exfalso; omega)) <;> (conv => whnf))
          | ((with_reducible refine NatK.at ?_); first | ((with_reducible refine NatK.cast ?_); (conv => whnf)) | (refine NatK.sym (by first | omega | exact u8_bound _ | (have := u8_bound; omega) | (simp only [List.length_drop, List.length_take, List.length_append, List.length_replicate, List.length_set, List.length_cons, List.length_nil, Nat.min_def]; omega)) (fun m hm => ?_); (conv => whnf)))
          | (intro q hq; (conv => whnf))
          | ((with_reducible refine WC.atR 21 ?_); refine WC.draw (id := 21) (ls := [cellsC g10 29 ((nth ds k).cells ++ [])]) (.fl 0 (.fl 1 (.fl 2 (.fl 4 (.fl 5 (.fl 6 (.one 3 (.one 7 (.fl 8 (.fl 9 .nil)))))))))) (by kernel_rfl) (by kernel_rfl) picksA ?_; refine WD.auto ?_; (conv => whnf))
          | ((with_reducible refine WC.atR 23 ?_); refine WC.draw (id := 23) (ls := [cellsC g10 29 ((nth ds k).cells ++ [])]) (.fl 0 (.fl 1 (.fl 2 (.fl 4 (.fl 5 (.fl 6 (.one 3 (.one 7 (.fl 8 (.fl 9 .nil)))))))))) (by kernel_rfl) (by kernel_rfl) picksA ?_; refine WD.auto ?_; (conv => whnf))
          | ((with_reducible refine WC.atR 25 ?_); refine WC.draw (id := 25) (ls := [cellsC g10 29 ((nth ds k).cells ++ [])]) (.fl 0 (.fl 1 (.fl 2 (.fl 4 (.fl 5 (.fl 6 (.one 3 (.one 7 (.one 8 (.fl 9 .nil)))))))))) (by kernel_rfl) (by kernel_rfl) picksA ?_; refine WD.auto ?_; (conv => whnf))
          | ((with_reducible refine W.at 20 ?_); first | ((refine W.stp (Stp.cal rfl rfl (CopyBytes_spec _ _ _ _ (by omega)) pksA rdsA) rfl rfl rfl ?_; rintro _ _ ⟨_, ⟨A20, c20, rfl, rfl⟩, rfl⟩); all_goals ((refine W.auto ?_); (conv => whnf))))
          | ((with_reducible refine W.at 22 ?_); first | ((refine W.stp (Stp.cal rfl rfl (Read0_spec _ _ _ _ (by omega)) pksA rdsA) rfl rfl rfl ?_; rintro _ _ ⟨_, ⟨g22, a22, rfl, rfl⟩, rfl⟩); all_goals ((refine W.auto ?_); (conv => whnf))))
          | ((with_reducible refine W.at 24 ?_); first | ((refine W.stp (Stp.cal rfl rfl (rRead0_spec _ _ _ _ (by omega)) pksA rdsA) rfl rfl rfl ?_; rintro _ _ ⟨_, ⟨g24, a24, rfl, rfl⟩, rfl⟩); all_goals ((refine W.auto ?_); (conv => whnf))))
          | ((with_reducible refine W.at 35 ?_); first | (refine W.ev (Ev.indexAddrN rfl rfl rdA (by omega)) rfl rfl rfl ?_; all_goals ((refine W.auto ?_); (conv => whnf))) | (refine W.ev (Ev.indexAddr1 rfl rfl rdA (by omega)) rfl rfl rfl ?_; all_goals ((refine W.auto ?_); (conv => whnf))))
          | ((with_reducible refine W.at 36 ?_); first | (refine W.evB (Ev.loadB rfl rdA (by first | omega | (simp only [List.length_drop, List.length_take, List.length_append, List.length_replicate, List.length_set, List.length_cons, List.length_nil, Nat.min_def]; omega) | (simp; omega))) rfl rfl rfl (fun hbyte => ?_); all_goals ((refine W.auto ?_); (conv => whnf))) | (refine W.ev (Ev.loadRec0 rfl rfl rdA (by exact fun _ => rfl) (by omega) (by rfl)) rfl rfl rfl ?_; all_goals ((refine W.auto ?_); (conv => whnf))))
          | ((with_reducible refine W.at 37 ?_); first | (refine W.ev (Ev.xor8 rfl rfl) rfl rfl rfl ?_; all_goals ((refine W.auto ?_); (conv => whnf))) | (refine W.ev (Ev.xor8k rfl rfl (by omega)) rfl rfl rfl ?_; all_goals ((refine W.auto ?_); (conv => whnf))))
          | ((with_reducible refine W.at 38 ?_); first | (refine W.ev (Ev.indexAddrN rfl rfl rdA (by omega)) rfl rfl rfl ?_; all_goals ((refine W.auto ?_); (conv => whnf))) | (refine W.ev (Ev.indexAddr1 rfl rfl rdA (by omega)) rfl rfl rfl ?_; all_goals ((refine W.auto ?_); (conv => whnf))))
          | ((with_reducible refine W.atS 38 ?_); first | (refine stW1 rfl rfl rfl pkA ?_; (conv => whnf)) | ((refine W.stp0 (Stp.storeB rfl rfl pkA (by first | omega | (simp only [List.length_drop, List.length_take, List.length_append, List.length_replicate, List.length_set, List.length_cons, List.length_nil, Nat.min_def]; omega) | (simp; omega))) rfl rfl ?_; rintro _ _ rfl); all_goals ((refine W.auto ?_); (conv => whnf))) | ((refine W.stp0 (Stp.storeBk rfl rfl pkA (by omega) (by first | omega | (simp only [List.length_drop, List.length_take, List.length_append, List.length_replicate, List.length_set, List.length_cons, List.length_nil, Nat.min_def]; omega) | (simp; omega))) rfl rfl ?_; rintro _ _ rfl); all_goals ((refine W.auto ?_); (conv => whnf))))
          | ((with_reducible refine W.at 51 ?_); first | (refine W.ev (Ev.indexRec rfl rfl rdA (by omega) (by rfl)) rfl rfl rfl ?_; all_goals ((refine W.auto ?_); (conv => whnf))))
          | ((with_reducible refine W.at 52 ?_); first | (refine W.ev (Ev.loadRec rfl rfl rdA (by exact fun _ => rfl) (by omega) (by rfl)) rfl rfl rfl ?_; all_goals ((refine W.auto ?_); (conv => whnf))))
          | ((with_reducible refine W.at 10 ?_); first | ((refine W.stp (Stp.allocA rfl) rfl rfl rfl ?_; rintro _ _ ⟨g10, rfl, rfl⟩); all_goals ((refine W.auto ?_); (conv => whnf))))
          | ((with_reducible refine W.atS 10 ?_); first | (refine stWP rfl rfl (by intro v hv; (repeat' (first | rfl | (cases hv; done) | (rcases List.mem_cons.1 hv with rfl | hv)))) (by rfl) pkA ?_; (conv => whnf)))
          | ((with_reducible refine W.at 54 ?_); first | (refine W.ev (Ev.load rfl rfl rdA rfl) rfl rfl rfl ?_; all_goals ((refine W.auto ?_); (conv => whnf))) | (refine W.ev (Ev.loadI rfl rdA (by first | omega | (simp only [List.length_drop, List.length_take, List.length_append, List.length_replicate, List.length_set, List.length_cons, List.length_nil, Nat.min_def]; omega) | (simp; omega))) rfl rfl rfl ?_; all_goals ((refine W.auto ?_); (conv => whnf))))
          | ((with_reducible refine W.at 55 ?_); first | ((refine W.stp (Stp.cal rfl rfl (Bring_spec _ _ ⟨by omega, by omega⟩) pksA rdsA) rfl rfl rfl ?_; rintro _ _ ⟨_, ⟨⟨m55, rfl, hm55, hl55, hu55⟩, rfl⟩, rfl⟩); all_goals ((refine W.auto ?_); (conv => whnf))))
          | ((with_reducible refine WO.at 0 ?_); first | (refine WO.auto rfl rfl ?_; (conv => whnf); (fail_if_success (show False))) | (refine WO.auto rfl rfl ?_; (conv => whnf); (fail_if_success (show False))) | (refine WO.auto rfl rfl ?_; (conv => whnf); (fail_if_success (show False))) | (refine WO.off rfl rfl rfl rfl ?_; refine WD.auto ?_; (conv => whnf)))
          | ((with_reducible refine WO.at 1 ?_); first | (refine WO.auto rfl rfl ?_; (conv => whnf); (fail_if_success (show False))) | (refine WO.auto rfl rfl ?_; (conv => whnf); (fail_if_success (show False))) | (refine WO.auto rfl rfl ?_; (conv => whnf); (fail_if_success (show False))) | (refine WO.off rfl rfl rfl rfl ?_; refine WD.auto ?_; (conv => whnf)))
          | ((with_reducible refine WD.at 2 ?_); first | (refine WD.ev rfl (Ev.load rfl rfl rdA rfl) rfl rfl rfl ?_; all_goals (refine WD.auto ?_; (conv => whnf))) | (refine WD.ev rfl (Ev.loadI rfl rdA (by first | omega | (simp only [List.length_drop, List.length_take, List.length_append, List.length_replicate, List.length_set, List.length_cons, List.length_nil, Nat.min_def]; omega) | (simp; omega))) rfl rfl rfl ?_; all_goals (refine WD.auto ?_; (conv => whnf))))
          | ((with_reducible refine WO.at 2 ?_); first | (refine WO.ev rfl (Ev.load rfl rfl rdA rfl) rfl rfl rfl ?_; all_goals (refine WD.auto ?_; (conv => whnf))) | (refine WO.ev rfl (Ev.loadI rfl rdA (by first | omega | (simp only [List.length_drop, List.length_take, List.length_append, List.length_replicate, List.length_set, List.length_cons, List.length_nil, Nat.min_def]; omega) | (simp; omega))) rfl rfl rfl ?_; all_goals (refine WD.auto ?_; (conv => whnf))) | (refine WO.off rfl rfl rfl rfl ?_; refine WD.auto ?_; (conv => whnf)))
          | ((with_reducible refine WO.at 3 ?_); first | ((refine WO.stp rfl (Stp.cal rfl rfl (RNum_spec _ _ s _ ⟨(hk2 k (by omega)).2, by omega⟩) pksA rdsA) rfl rfl rfl ?_; rintro _ _ ⟨_, ⟨a85, rfl, rfl⟩, rfl⟩); all_goals (refine WD.auto ?_; (conv => whnf))) | ((refine WO.stp rfl (Stp.cal rfl rfl (RCount_spec _ _ s _ (by omega)) pksA rdsA) rfl rfl rfl ?_; rintro _ _ ⟨_, ⟨a96, rfl, rfl⟩, rfl⟩); all_goals (refine WD.auto ?_; (conv => whnf))) | ((refine WO.stp rfl (Stp.cal rfl rfl (RText_spec _ _ s _ (by omega)) pksA rdsA) rfl rfl rfl ?_; rintro _ _ ⟨_, ⟨A107, c107, k107, a107, hk107, rfl, rfl⟩, rfl⟩); all_goals (refine WD.auto ?_; (conv => whnf))) | (refine WO.off rfl rfl rfl rfl ?_; refine WD.auto ?_; (conv => whnf)))
          | ((with_reducible refine WO.at 4 ?_); first | (refine WO.auto rfl rfl ?_; (conv => whnf); (fail_if_success (show False))) | (refine WO.auto rfl rfl ?_; (conv => whnf); (fail_if_success (show False))) | (refine WO.auto rfl rfl ?_; (conv => whnf); (fail_if_success (show False))) | (refine WO.off rfl rfl rfl rfl ?_; refine WD.auto ?_; (conv => whnf)))
          | ((with_reducible refine WO.at 5 ?_); first | (refine WO.auto rfl rfl ?_; (conv => whnf); (fail_if_success (show False))) | (refine WO.auto rfl rfl ?_; (conv => whnf); (fail_if_success (show False))) | (refine WO.auto rfl rfl ?_; (conv => whnf); (fail_if_success (show False))) | (refine WO.off rfl rfl rfl rfl ?_; refine WD.auto ?_; (conv => whnf)))
          | ((with_reducible refine WD.at 6 ?_); first | (refine WD.ev rfl (Ev.load rfl rfl rdA rfl) rfl rfl rfl ?_; all_goals (refine WD.auto ?_; (conv => whnf))) | (refine WD.ev rfl (Ev.loadI rfl rdA (by first | omega | (simp only [List.length_drop, List.length_take, List.length_append, List.length_replicate, List.length_set, List.length_cons, List.length_nil, Nat.min_def]; omega) | (simp; omega))) rfl rfl rfl ?_; all_goals (refine WD.auto ?_; (conv => whnf))))
          | ((with_reducible refine WO.at 6 ?_); first | (refine WO.ev rfl (Ev.load rfl rfl rdA rfl) rfl rfl rfl ?_; all_goals (refine WD.auto ?_; (conv => whnf))) | (refine WO.ev rfl (Ev.loadI rfl rdA (by first | omega | (simp only [List.length_drop, List.length_take, List.length_append, List.length_replicate, List.length_set, List.length_cons, List.length_nil, Nat.min_def]; omega) | (simp; omega))) rfl rfl rfl ?_; all_goals (refine WD.auto ?_; (conv => whnf))) | (refine WO.off rfl rfl rfl rfl ?_; refine WD.auto ?_; (conv => whnf)))
          | ((with_reducible refine WO.at 7 ?_); first | ((refine WO.stp rfl (Stp.cal rfl rfl (rNum2_spec _ _ s _ ⟨(hk2 k (by omega)).2, by omega⟩) pksA rdsA) rfl rfl rfl ?_; rintro _ _ ⟨_, ⟨a89, rfl, rfl⟩, rfl⟩); all_goals (refine WD.auto ?_; (conv => whnf))) | ((refine WO.stp rfl (Stp.cal rfl rfl (rCount2_spec _ _ s _ (by omega)) pksA rdsA) rfl rfl rfl ?_; rintro _ _ ⟨_, ⟨a100, rfl, rfl⟩, rfl⟩); all_goals (refine WD.auto ?_; (conv => whnf))) | ((refine WO.stp rfl (Stp.cal rfl rfl (rText2_spec _ _ s _ (by omega)) pksA rdsA) rfl rfl rfl ?_; rintro _ _ ⟨_, ⟨A111, c111, k111, a111, hk111, rfl, rfl⟩, rfl⟩); all_goals (refine WD.auto ?_; (conv => whnf))) | (refine WO.off rfl rfl rfl rfl ?_; refine WD.auto ?_; (conv => whnf)))
          | ((with_reducible refine WO.at 8 ?_); first | (refine WO.auto rfl rfl ?_; (conv => whnf); (fail_if_success (show False))) | (refine WO.auto rfl rfl ?_; (conv => whnf); (fail_if_success (show False))) | ((refine WO.stp rfl (Stp.cal rfl rfl (EqBytes_spec _ _ _ _ _ _ _ _) pksA rdsA) rfl rfl rfl ?_; rintro _ _ ⟨_, ⟨rfl, rfl⟩, rfl⟩); all_goals (refine WD.auto ?_; (conv => whnf))) | (refine WO.off rfl rfl rfl rfl ?_; refine WD.auto ?_; (conv => whnf)))
          | ((with_reducible refine WO.at 9 ?_); first | (refine WO.auto rfl rfl ?_; (conv => whnf); (fail_if_success (show False))) | (refine WO.auto rfl rfl ?_; (conv => whnf); (fail_if_success (show False))) | (refine WO.auto rfl rfl ?_; (conv => whnf); (fail_if_success (show False))) | (refine WO.off rfl rfl rfl rfl ?_; refine WD.auto ?_; (conv => whnf)))
          | ((with_reducible refine W.at 58 ?_); first | (refine W.ev (Ev.load rfl rfl rdA rfl) rfl rfl rfl ?_; all_goals ((refine W.auto ?_); (conv => whnf))) | (refine W.ev (Ev.loadI rfl rdA (by first | omega | (simp only [List.length_drop, List.length_take, List.length_append, List.length_replicate, List.length_set, List.length_cons, List.length_nil, Nat.min_def]; omega) | (simp; omega))) rfl rfl rfl ?_; all_goals ((refine W.auto ?_); (conv => whnf))))
          | ((with_reducible refine W.at 59 ?_); first | ((refine W.stp (Stp.cal rfl rfl (RRaw_spec _ _ s _ ⟨(hk2 k (by omega)).1, by omega⟩) pksA rdsA) rfl rfl rfl ?_; rintro _ _ ⟨_, ⟨A59, c59, k59, a59, hk59, rfl, rfl⟩, rfl⟩); all_goals ((refine W.auto ?_); (conv => whnf))))
          | ((with_reducible refine W.at 63 ?_); first | (refine W.ev (Ev.load rfl rfl rdA rfl) rfl rfl rfl ?_; all_goals ((refine W.auto ?_); (conv => whnf))) | (refine W.ev (Ev.loadI rfl rdA (by first | omega | (simp only [List.length_drop, List.length_take, List.length_append, List.length_replicate, List.length_set, List.length_cons, List.length_nil, Nat.min_def]; omega) | (simp; omega))) rfl rfl rfl ?_; all_goals ((refine W.auto ?_); (conv => whnf))))
          | ((with_reducible refine W.at 64 ?_); first | ((refine W.stp (Stp.cal rfl rfl (rRaw2_spec _ _ s _ ⟨(hk2 k (by omega)).1, by omega⟩) pksA rdsA) rfl rfl rfl ?_; rintro _ _ ⟨_, ⟨A64, c64, k64, a64, hk64, rfl, rfl⟩, rfl⟩); all_goals ((refine W.auto ?_); (conv => whnf))))
          | ((with_reducible refine W.at 65 ?_); first | ((refine W.stp (Stp.cal rfl rfl (EqBytes_spec _ _ _ _ _ _ _ _) pksA rdsA) rfl rfl rfl ?_; rintro _ _ ⟨_, ⟨rfl, rfl⟩, rfl⟩); all_goals ((refine W.auto ?_); (conv => whnf))))
          | ((with_reducible refine W.at 76 ?_); first | (refine W.ev (Ev.indexAddrN rfl rfl rdA (by omega)) rfl rfl rfl ?_; all_goals ((refine W.auto ?_); (conv => whnf))) | (refine W.ev (Ev.indexAddr1 rfl rfl rdA (by omega)) rfl rfl rfl ?_; all_goals ((refine W.auto ?_); (conv => whnf))))
          | ((with_reducible refine W.at 77 ?_); first | (refine W.evB (Ev.loadB rfl rdA (by first | omega | (simp only [List.length_drop, List.length_take, List.length_append, List.length_replicate, List.length_set, List.length_cons, List.length_nil, Nat.min_def]; omega) | (simp; omega))) rfl rfl rfl (fun hbyte => ?_); all_goals ((refine W.auto ?_); (conv => whnf))) | (refine W.ev (Ev.loadRec0 rfl rfl rdA (by exact fun _ => rfl) (by omega) (by rfl)) rfl rfl rfl ?_; all_goals ((refine W.auto ?_); (conv => whnf))))
          | ((with_reducible refine W.at 78 ?_); first | (refine W.ev (Ev.xor8 rfl rfl) rfl rfl rfl ?_; all_goals ((refine W.auto ?_); (conv => whnf))) | (refine W.ev (Ev.xor8k rfl rfl (by omega)) rfl rfl rfl ?_; all_goals ((refine W.auto ?_); (conv => whnf))))
          | ((with_reducible refine W.at 79 ?_); first | (refine W.ev (Ev.indexAddrN rfl rfl rdA (by omega)) rfl rfl rfl ?_; all_goals ((refine W.auto ?_); (conv => whnf))) | (refine W.ev (Ev.indexAddr1 rfl rfl rdA (by omega)) rfl rfl rfl ?_; all_goals ((refine W.auto ?_); (conv => whnf))))
          | ((with_reducible refine W.atS 79 ?_); first | (refine stW1 rfl rfl rfl pkA ?_; (conv => whnf)) | ((refine W.stp0 (Stp.storeB rfl rfl pkA (by first | omega | (simp only [List.length_drop, List.length_take, List.length_append, List.length_replicate, List.length_set, List.length_cons, List.length_nil, Nat.min_def]; omega) | (simp; omega))) rfl rfl ?_; rintro _ _ rfl); all_goals ((refine W.auto ?_); (conv => whnf))) | ((refine W.stp0 (Stp.storeBk rfl rfl pkA (by omega) (by first | omega | (simp only [List.length_drop, List.length_take, List.length_append, List.length_replicate, List.length_set, List.length_cons, List.length_nil, Nat.min_def]; omega) | (simp; omega))) rfl rfl ?_; rintro _ _ rfl); all_goals ((refine W.auto ?_); (conv => whnf))))
          | ((with_reducible refine W.at 117 ?_); first | ((refine W.stp (Stp.cal rfl rfl (Left_spec _ _ _) pksA rdsA) rfl rfl rfl ?_; rintro _ _ ⟨_, ⟨rfl, rfl⟩, rfl⟩); all_goals ((refine W.auto ?_); (conv => whnf))))
          | ((with_reducible refine W.at 119 ?_); first | ((refine W.stp (Stp.cal rfl rfl (rLeft_spec _ _ _) pksA rdsA) rfl rfl rfl ?_; rintro _ _ ⟨_, ⟨rfl, rfl⟩, rfl⟩); all_goals ((refine W.auto ?_); (conv => whnf))))
          | ((with_reducible refine W.at 124 ?_); first | ((refine W.stp (Stp.cal rfl rfl (Err_spec _ _ _) pksA rdsA) rfl rfl rfl ?_; rintro _ _ ⟨_, ⟨rfl, rfl⟩, rfl⟩); all_goals ((refine W.auto ?_); (conv => whnf))))
          | ((with_reducible refine W.at 126 ?_); first | ((refine W.stp (Stp.cal rfl rfl (rErr_spec _ _ _) pksA rdsA) rfl rfl rfl ?_; rintro _ _ ⟨_, ⟨rfl, rfl⟩, rfl⟩); all_goals ((refine W.auto ?_); (conv => whnf))))
          | ((with_reducible refine W.at 131 ?_); first | ((refine W.stp (Stp.cal rfl rfl (End_spec _ _ _) pksA rdsA) rfl rfl rfl ?_; rintro _ _ ⟨_, ⟨rfl, rfl⟩, rfl⟩); all_goals ((refine W.auto ?_); (conv => whnf))))
          | ((with_reducible refine W.at 133 ?_); first | ((refine W.stp (Stp.cal rfl rfl (rEnd_spec _ _ _) pksA rdsA) rfl rfl rfl ?_; rintro _ _ ⟨_, ⟨rfl, rfl⟩, rfl⟩); all_goals ((refine W.auto ?_); (conv => whnf))))
          | ((with_reducible refine W.at 137 ?_); first | ((refine W.stp (Stp.cal rfl rfl (End_spec _ _ _) pksA rdsA) rfl rfl rfl ?_; rintro _ _ ⟨_, ⟨rfl, rfl⟩, rfl⟩); all_goals ((refine W.auto ?_); (conv => whnf))))
          | ((with_reducible refine W.at 139 ?_); first | ((refine W.stp (Stp.cal rfl rfl (rEnd_spec _ _ _) pksA rdsA) rfl rfl rfl ?_; rintro _ _ ⟨_, ⟨rfl, rfl⟩, rfl⟩); all_goals ((refine W.auto ?_); (conv => whnf))))
          | ((with_reducible refine W.at 142 ?_); first | ((refine W.stp (Stp.cal rfl rfl (works_spec) pksA rdsA) rfl rfl rfl ?_; rintro _ _ ⟨_, ⟨rfl, rfl⟩, rfl⟩); all_goals ((refine W.auto ?_); (conv => whnf))))
          | (with_reducible refine WD.one ?_)
          | (with_reducible refine WD.two ?_ ?_)
          | (with_reducible refine WD.three ?_ ?_ ?_)
          | ((with_reducible refine WC.atC (c := .seq (.block _ (.seq (.region 11 _ _) _)) _) ?_); refine WC.seq ?_; refine WC.block ?_; refine WC.seq ?_; refine WC.auto ?_; (conv => whnf))
          | ((with_reducible refine WC.atC (c := .seq (.region 12 _ _) _) ?_); refine WC.seq ?_; refine WC.auto ?_; (conv => whnf))
          | ((with_reducible refine WC.atC (c := .seq (.seq (.region 13 _ _) _) _) ?_); refine WC.cutL4 (X := NR) (Y := NWA) (Z := NWA) (U := Bool) (fun s' aw ar q => s'.b.length ≤ 600 ∧ q = true) (fun s' aw ar q => [(11, .bool q)]) (fun s' aw ar q => [nrC g22 aw s', rrC g24 ar s']) [1, 6, 7, 9] ?_; (conv => whnf); refine CutQ4.mk ?_ ?_; rotate_left; (rintro s' aw2 ar2 q ⟨hs', hq'⟩; refine WC.auto ?_; (conv => whnf)); rotate_left; (refine WC.auto ?_; (conv => whnf)))
          | ((with_reducible refine WC.atC (c := .region 10 _ _) ?_); refine WC.auto ?_; (conv => whnf))
          | (refine ⟨_, _, _, _, ?_, by ((repeat (first | exact trivial | refine And.intro rfl ?_)); fail_if_success (focus skip)), (by (with_reducible refine chLeI ?_); exact ⟨_, pksA⟩)⟩)
          | ((with_reducible refine WC.atC (c := .loop (.seq (.seq (.region 5 _ _) _) _)) ?_); refine WC.loopL2 (X := Nat) (Y := List UInt8) (0) (List.take m bs) (fun j zs => j ≤ m ∧ zs.length = m) (fun j zs => [(8, .int .i64 (j : Int))]) (fun j zs => [nrC g22 a22 ⟨List.take m bs, 0⟩, rrC g24 a24 ⟨List.take m bs, 0⟩, bO A20 c20 5 m zs]) (fun j _ => m - j) [1, 5, 6, 7] (⟨by omega, by rw [List.length_take]; omega⟩) ?_; (conv => whnf); refine LoopQ2.mk (by ((repeat (first | exact trivial | refine And.intro rfl ?_)); fail_if_success (focus skip))) (⟨_, pksA⟩) ?_; rintro j zs ⟨hj, hzs⟩; refine WC.auto ?_; (conv => whnf))
          | ((with_reducible refine WC.atC (c := .loop (.seq (.seq (.region 9 _ _) _) _)) ?_); refine WC.loopL4 (X := Nat) (Y := NR) (Z := NWA) (U := NWA) (0) (⟨List.take m bs, 0⟩) (a22) (a24) (fun k s aw ar => k ≤ 40 ∧ s.b.length ≤ 600) (fun k s aw ar => [(9, .int .i64 (k : Int))]) (fun k s aw ar => [nrC g22 aw s, rrC g24 ar s]) (fun k _ _ _ => 40 - k) [1, 6, 7] (⟨by omega, by dsimp only; rw [List.length_take]; omega⟩) ?_; (conv => whnf); refine LoopQ4.mk (by ((repeat (first | exact trivial | refine And.intro rfl ?_)); fail_if_success (focus skip))) (⟨_, pksA⟩) ?_; rintro k s aw ar ⟨hk40, hsl⟩; refine WC.seq ?_; refine WC.auto ?_; (conv => whnf))
          | ((with_reducible refine WC.atC (c := .loop (.seq (.seq (.region 17 _ _) _) _)) ?_); refine WC.loopL2 (X := Nat) (Y := List UInt8) (0) ((nrRaw s (nth ds k).n).1) (fun j zs => j ≤ k59 ∧ zs.length = k59) (fun j zs => [(13, .int .i64 (j : Int))]) (fun j zs => [nrC g22 a59 (nrRaw s (nth ds k).n).2, rrC g24 a64 (nrRaw s (nth ds k).n).2, bO A59 c59 5 k59 zs]) (fun j _ => k59 - j) [1, 6, 7, 9, 11, 12] (⟨by omega, by omega⟩) ?_; (conv => whnf); refine LoopQ2.mk (by ((repeat (first | exact trivial | refine And.intro rfl ?_)); fail_if_success (focus skip))) (⟨_, pksA⟩) ?_; rintro j zs ⟨hj, hzs⟩; refine WC.auto ?_; (conv => whnf))
          | (refine ⟨j + 1, _, ?_, by ((repeat (first | exact trivial | refine And.intro rfl ?_)); fail_if_success (focus skip)), (by (with_reducible refine chLeI ?_); exact ⟨_, pksA⟩), by omega⟩)
          | (refine ⟨k + 1, _, _, _, ?_, by ((repeat (first | exact trivial | refine And.intro rfl ?_)); fail_if_success (focus skip)), (by (with_reducible refine chLeI ?_); exact ⟨_, pksA⟩), by omega⟩)
          | refine Exists.intro _ (And.intro (resv_rfl rfl) ?_))
  all_goals first
    | omega
    | (rw [List.length_set]; omega)
    | exact ⟨Nat.le_trans (nrNum_le _ _) (by omega), decide_eq_true rfl⟩
    | exact ⟨Nat.le_trans (nrCount_facts _ _).1 (by omega), decide_eq_true rfl⟩
    | exact ⟨Nat.le_trans (nrText_le _ _) (by omega), decide_eq_true rfl⟩
    | exact ⟨Nat.le_trans (nrRaw_le _ _).1 (by omega), decide_eq_true rfl⟩
    | (have := (nrRaw_le s (nth ds k).n).2; omega)
    | (exfalso; subst hq'; simp at hc; done)
    | (exfalso; exact absurd (hc.symm.trans hq') (by decide))
    | (exfalso; exact absurd (hq'.symm.trans hc) (by decide))
    | first | exact ⟨_, ⟨rfl, rfl⟩, _, pksA⟩ | skip
    | skip
end Go.SX
