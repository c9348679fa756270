/- Leaders: no two masters have a ballot in common. -/
import Derived.Test.YtmcfcnlglohliaaDoorLd10
namespace Go.SX
open Go Go.RowKit Go.Proofs
set_option linter.unusedVariables false
set_option linter.unusedSimpArgs false
set_option maxHeartbeats 4000000
structure P2 where
  x : Int
  y : Int
instance : Inhabited P2 := ⟨⟨0, 0⟩⟩
def P2.cells (p : P2) : List Value := [.int .i64 p.x, .int .i64 p.y]
/-- A leader that has started, or not yet. -/
def lbS (id b : Int) : LM := if b = 0 then lm0 id else ⟨id, b, 1, 1, 0, [], none, 0⟩
theorem lbS_id (id b : Int) : (lbS id b).id = id ∧ (lbS id b).b = b := by unfold lbS; split <;> simp_all [lm0]
theorem okL {id b : Int} (h : 0 ≤ id ∧ id < 3) (hb : 0 ≤ b ∧ b ≤ 2305843009213693952) : LdOK (lbS id b) := by
  have e := lbS_id id b
  refine ⟨by rw [e.1]; exact h, by rw [e.2]; omega, ?_, ?_, ?_, ?_⟩ <;> unfold lbS <;> split <;> simp [lm0]
theorem nextB_of {id b : Int} (h : 0 ≤ id ∧ id < 3) (hb : 0 ≤ b) : b ≤ nextB id b ∧ nextB id b ≤ b + 2 ∧ nextB id b % 3 = id := by unfold nextB; omega
section
variable (g : Nat) (a : LA)
theorem Start_l (id b above : Int) (h : 0 ≤ id ∧ id < 3) (hb : 0 ≤ b ∧ b ≤ 2305843009213693952) (ha : 0 ≤ above ∧ above ≤ 9007199254740988) :
    Spec Tryd.prog 11 [.pointer (some ⟨g, 0, none⟩), .int .i64 above, .int .i64 1] [leadC g a (lbS id b)] []
      (fun v l' => ∃ nb a', above < nb ∧ b < nb ∧ nb % 3 = id ∧ nb ≤ max above b + 3 ∧ v = .tuple #[.int .i64 nb, .int .i64 0] ∧ l' = [leadC g a' (lbS id nb)]) := by
  have e := lbS_id id b
  refine (Start_spec g a (lbS id b) above 1 (okL h hb)).mono ?_
  rintro v l' ⟨a', h1, h2⟩
  have hm : ldStart (lbS id b) above 1 = (nextB id (max b above + 1), 0, lbS id (nextB id (max b above + 1))) := by
    unfold ldStart
    rw [if_neg (by omega), e.1, e.2]
    have := nextB_of h (b := max b above + 1) (by omega)
    congr 2
    unfold lbS
    rw [if_neg (by omega)]
  rw [hm] at h1 h2
  have := nextB_of h (b := max b above + 1) (by omega)
  exact ⟨_, a', by omega, by omega, this.2.2, by omega, h1, h2⟩
theorem Ballot_l (id b : Int) : Spec Tryd.prog 18 [.pointer (some ⟨g, 0, none⟩)] [] [leadC g a (lbS id b)] (fun v l' => v = .int .i64 b ∧ l' = []) := by
  have := Ballot_spec g a (lbS id b)
  rwa [(lbS_id id b).2] at this
theorem Phase_l (id b : Int) (h : b ≠ 0) : Spec Tryd.prog 16 [.pointer (some ⟨g, 0, none⟩)] [] [leadC g a (lbS id b)] (fun v l' => v = .int .i64 1 ∧ l' = []) := by
  have := Phase_spec g a (lbS id b)
  rwa [show (lbS id b).p = 1 by unfold lbS; rw [if_neg h]] at this
theorem New_l (id : Int) (h : 0 ≤ id ∧ id < 3) : Spec Tryd.prog 10 [.int .i64 id] [] [] (fun v l' => ∃ g a, v = .tuple #[.pointer (some ⟨g, 0, none⟩), .int .i64 0] ∧ l' = [leadC g a (lbS id 0)]) := New_ok id h
end
theorem LeadBallots_law (A : Option Addr) (c : Nat) (ps : List P2) (hl : ps.length ≤ 9223372036854775807) (tb : List UInt8) (htb : tb.length = 64) :
    Spec Tryd.prog 4 [.slice A ps.length c] [] [sliceC A c 2 ps.length (recs P2.cells ps), tzC tb] (fun v l' => v = .bool true ∧ l' = []) := by
  refine Spec.intro Tryd.func4 rfl rfl Tryd.ntmps4 rfl fun w0 => ?_
  (all_goals (refine WC.auto ?_; (conv => whnf))); repeat' (first
          | ((with_reducible refine WB.auto ?_); (conv => whnf))
          | ((with_reducible refine WCB.auto ?_); (conv => whnf))
          | ((with_reducible refine WDB.auto ?_); (conv => whnf))
          | ((with_reducible refine Ob.at ?_); first | (refine Ob.mk (by first | omega | exact u8_bound _ | (have := u8_bound; omega) | (simp only [List.length_drop, List.length_take, List.length_append, List.length_replicate, List.length_set, List.length_cons, List.length_nil, Nat.min_def]; omega)) ?_; (conv => whnf)) | (refine Ob.mk' ?_ ?_; (conv => whnf)))
          | (refine spl_mk (fun hc => ?_) (fun hc => ?_) <;> (try simp only [Bool.not_eq_false', and_self, and_true, true_and, not_true, Bool.not_eq_true', Bool.not_false, Bool.not_true, decide_eq_true_eq, decide_eq_false_iff_not, Bool.false_eq_true, reduceCtorEq, Bool.true_eq_false, ne_eq, Decidable.not_not, Int.not_lt, Int.not_le, beq_self_eq_true, eq_self, not_true_eq_false, not_false_eq_true, Bool.not_eq_eq_eq_not, Bool.not_eq_true, Bool.not_eq_false, beq_iff_eq, beq_eq_false_iff_ne] at hc) <;> (try (exfalso; omega)) <;> (conv => whnf))
          | ((with_reducible refine NatK.at ?_); first | ((with_reducible refine NatK.cast ?_); (conv => whnf)) | (refine NatK.lit 0 rfl ?_; (conv => whnf)) | (refine NatK.lit 1 rfl ?_; (conv => whnf)) | (refine NatK.lit 2 rfl ?_; (conv => whnf)) | (refine NatK.sym (by first | omega | exact u8_bound _ | (have := u8_bound; omega) | (simp only [List.length_drop, List.length_take, List.length_append, List.length_replicate, List.length_set, List.length_cons, List.length_nil, Nat.min_def]; omega)) (fun m hm => ?_); (conv => whnf)))
          | (intro q hq; (conv => whnf))
          | ((with_reducible refine WC.atR 13 ?_); refine WC.draw (id := 13) (ls := _) (.fl 0 (.fl 1 (.fl 2 (.fl 3 (.fl 4 (.fl 6 (.fl 7 (.fl 8 (.fl 9 (.fl 10 (.one 5 (.one 11 (.fl 12 (.fl 13 .nil)))))))))))))) (by kernel_rfl) (by kernel_rfl) (Picks.refl _) ?_; refine WD.auto ?_; (conv => whnf))
          | ((with_reducible refine WC.atR 15 ?_); refine WC.draw (id := 15) (ls := _) (.fl 0 (.fl 1 (.fl 2 (.fl 3 (.fl 4 (.fl 5 (.fl 6 (.fl 7 (.fl 8 (.fl 9 (.fl 10 (.fl 11 (.one 12 (.fl 13 (.fl 14 .nil))))))))))))))) (by kernel_rfl) (by kernel_rfl) (Picks.refl _) ?_; refine WD.auto ?_; (conv => whnf))
          | ((with_reducible refine W.at 3 ?_); first | ((refine W.stp (Stp.allocA rfl) rfl rfl rfl ?_; rintro _ _ ⟨g3, rfl, rfl⟩); all_goals ((refine W.auto ?_); (conv => whnf))))
          | ((with_reducible refine W.at 4 ?_); first | ((refine W.stp (Stp.allocA rfl) rfl rfl rfl ?_; rintro _ _ ⟨g4, rfl, rfl⟩); all_goals ((refine W.auto ?_); (conv => whnf))))
          | ((with_reducible refine W.at 19 ?_); first | ((refine W.stp (Stp.cal rfl rfl (New_l _ (by decide)) pksA rdsA) rfl rfl rfl ?_; rintro _ _ ⟨_, ⟨g19, a19, rfl, rfl⟩, rfl⟩); all_goals ((refine W.auto ?_); (conv => whnf))))
          | ((with_reducible refine W.atS 26 ?_); first | (refine stW1 rfl rfl rfl pkA ?_; (conv => whnf)))
          | ((with_reducible refine WO.at 0 ?_); first | (refine WO.auto rfl rfl ?_; (conv => whnf); (fail_if_success (show False))) | (refine WO.auto rfl rfl ?_; (conv => whnf); (fail_if_success (show False))) | (refine WO.off rfl rfl rfl rfl ?_; refine WD.auto ?_; (conv => whnf)))
          | ((with_reducible refine WO.at 1 ?_); first | (refine WO.auto rfl rfl ?_; (conv => whnf); (fail_if_success (show False))) | (refine WO.ev rfl (Ev.load rfl rfl rdA rfl) rfl rfl rfl ?_; all_goals (refine WD.auto ?_; (conv => whnf))) | (refine WO.ev rfl (Ev.loadI rfl rdA (by first | omega | (simp only [List.length_drop, List.length_take, List.length_append, List.length_replicate, List.length_set, List.length_cons, List.length_nil, Nat.min_def]; omega) | (simp; omega))) rfl rfl rfl ?_; all_goals (refine WD.auto ?_; (conv => whnf))) | (refine WO.off rfl rfl rfl rfl ?_; refine WD.auto ?_; (conv => whnf)))
          | ((with_reducible refine WD.at 2 ?_); first | (refine WD.ev rfl (Ev.indexRec rfl rfl rdA (by omega) (by rfl)) rfl rfl rfl ?_; all_goals (refine WD.auto ?_; (conv => whnf))))
          | ((with_reducible refine WO.at 2 ?_); first | (refine WO.ev rfl (Ev.indexRec rfl rfl rdA (by omega) (by rfl)) rfl rfl rfl ?_; all_goals (refine WD.auto ?_; (conv => whnf))) | (refine WO.auto rfl rfl ?_; (conv => whnf); (fail_if_success (show False))) | (refine WO.off rfl rfl rfl rfl ?_; refine WD.auto ?_; (conv => whnf)))
          | ((with_reducible refine WO.at 3 ?_); first | (refine WO.auto rfl rfl ?_; (conv => whnf); (fail_if_success (show False))) | (refine WO.ev rfl (Ev.load rfl rfl rdA rfl) rfl rfl rfl ?_; all_goals (refine WD.auto ?_; (conv => whnf))) | (refine WO.ev rfl (Ev.loadI rfl rdA (by first | omega | (simp only [List.length_drop, List.length_take, List.length_append, List.length_replicate, List.length_set, List.length_cons, List.length_nil, Nat.min_def]; omega) | (simp; omega))) rfl rfl rfl ?_; all_goals (refine WD.auto ?_; (conv => whnf))) | (refine WO.off rfl rfl rfl rfl ?_; refine WD.auto ?_; (conv => whnf)))
          | ((with_reducible refine WD.at 4 ?_); first | (refine WD.ev rfl (Ev.loadRecF rfl rfl rdA (by exact fun _ => rfl) (by omega) (by rfl) (by rfl)) rfl rfl rfl ?_; all_goals (refine WD.auto ?_; (conv => whnf))))
          | ((with_reducible refine WO.at 4 ?_); first | (refine WO.ev rfl (Ev.loadRecF rfl rfl rdA (by exact fun _ => rfl) (by omega) (by rfl) (by rfl)) rfl rfl rfl ?_; all_goals (refine WD.auto ?_; (conv => whnf))) | (refine WO.auto rfl rfl ?_; (conv => whnf); (fail_if_success (show False))) | (refine WO.off rfl rfl rfl rfl ?_; refine WD.auto ?_; (conv => whnf)))
          | ((with_reducible refine WO.at 5 ?_); first | ((first | (refine WO.stp rfl (Stp.cal rfl rfl (Bring_spec _ _ ⟨by omega, by omega⟩) pksA rdsA) rfl rfl rfl ?_; rintro _ _ ⟨_, ⟨w42, rfl, hm42, hw42, rfl⟩, rfl⟩; (try (obtain rfl | rfl | rfl : w42 = 0 ∨ w42 = 1 ∨ w42 = 2 := by omega))) | (refine WO.stp rfl (Stp.cal rfl rfl (Bring_spec _ _ ⟨by omega, by omega⟩) pksA rdsA) rfl rfl rfl ?_; rintro _ _ ⟨_, ⟨w42, rfl, hm42, hw42, rfl⟩, rfl⟩)); all_goals (refine WD.auto ?_; (conv => whnf))) | (refine WO.ev rfl (Ev.load rfl rfl rdA rfl) rfl rfl rfl ?_; all_goals (refine WD.auto ?_; (conv => whnf))) | (refine WO.ev rfl (Ev.loadI rfl rdA (by first | omega | (simp only [List.length_drop, List.length_take, List.length_append, List.length_replicate, List.length_set, List.length_cons, List.length_nil, Nat.min_def]; omega) | (simp; omega))) rfl rfl rfl ?_; all_goals (refine WD.auto ?_; (conv => whnf))) | (refine WO.off rfl rfl rfl rfl ?_; refine WD.auto ?_; (conv => whnf)))
          | ((with_reducible refine WO.at 6 ?_); first | (refine WO.auto rfl rfl ?_; (conv => whnf); (fail_if_success (show False))) | (refine WO.auto rfl rfl ?_; (conv => whnf); (fail_if_success (show False))) | (refine WO.off rfl rfl rfl rfl ?_; refine WD.auto ?_; (conv => whnf)))
          | ((with_reducible refine WO.at 7 ?_); first | (refine WO.auto rfl rfl ?_; (conv => whnf); (fail_if_success (show False))) | (refine WO.auto rfl rfl ?_; (conv => whnf); (fail_if_success (show False))) | (refine WO.off rfl rfl rfl rfl ?_; refine WD.auto ?_; (conv => whnf)))
          | ((with_reducible refine WD.at 8 ?_); first | (refine WD.ev rfl (Ev.indexRec rfl rfl rdA (by omega) (by rfl)) rfl rfl rfl ?_; all_goals (refine WD.auto ?_; (conv => whnf))))
          | ((with_reducible refine WO.at 8 ?_); first | (refine WO.ev rfl (Ev.indexRec rfl rfl rdA (by omega) (by rfl)) rfl rfl rfl ?_; all_goals (refine WD.auto ?_; (conv => whnf))) | (refine WO.auto rfl rfl ?_; (conv => whnf); (fail_if_success (show False))) | (refine WO.off rfl rfl rfl rfl ?_; refine WD.auto ?_; (conv => whnf)))
          | ((with_reducible refine WO.at 9 ?_); first | (refine WO.auto rfl rfl ?_; (conv => whnf); (fail_if_success (show False))) | (refine WO.ev rfl (Ev.indexRec rfl rfl rdA (by omega) (by rfl)) rfl rfl rfl ?_; all_goals (refine WD.auto ?_; (conv => whnf))) | (refine WO.off rfl rfl rfl rfl ?_; refine WD.auto ?_; (conv => whnf)))
          | ((with_reducible refine WD.at 10 ?_); first | (refine WD.ev rfl (Ev.loadRecF rfl rfl rdA (by exact fun _ => rfl) (by omega) (by rfl) (by rfl)) rfl rfl rfl ?_; all_goals (refine WD.auto ?_; (conv => whnf))))
          | ((with_reducible refine WO.at 10 ?_); first | (refine WO.ev rfl (Ev.loadRecF rfl rfl rdA (by exact fun _ => rfl) (by omega) (by rfl) (by rfl)) rfl rfl rfl ?_; all_goals (refine WD.auto ?_; (conv => whnf))) | (refine WO.auto rfl rfl ?_; (conv => whnf); (fail_if_success (show False))) | (refine WO.off rfl rfl rfl rfl ?_; refine WD.auto ?_; (conv => whnf)))
          | ((with_reducible refine WO.at 11 ?_); first | ((first | (refine WO.stp rfl (Stp.cal rfl rfl (Bring_spec _ _ ⟨by omega, by omega⟩) pksA rdsA) rfl rfl rfl ?_; rintro _ _ ⟨_, ⟨w48, rfl, hm48, hw48, rfl⟩, rfl⟩; (try (obtain rfl | rfl | rfl : w42 = 0 ∨ w42 = 1 ∨ w42 = 2 := by omega))) | (refine WO.stp rfl (Stp.cal rfl rfl (Bring_spec _ _ ⟨by omega, by omega⟩) pksA rdsA) rfl rfl rfl ?_; rintro _ _ ⟨_, ⟨w48, rfl, hm48, hw48, rfl⟩, rfl⟩)); all_goals (refine WD.auto ?_; (conv => whnf))) | (refine WO.ev rfl (Ev.loadRecF rfl rfl rdA (by exact fun _ => rfl) (by omega) (by rfl) (by rfl)) rfl rfl rfl ?_; all_goals (refine WD.auto ?_; (conv => whnf))) | (refine WO.off rfl rfl rfl rfl ?_; refine WD.auto ?_; (conv => whnf)))
          | ((with_reducible refine WO.at 12 ?_); first | (refine WO.auto rfl rfl ?_; (conv => whnf); (fail_if_success (show False))) | ((first | (refine WO.stp rfl (Stp.cal rfl rfl (Bring_spec _ _ ⟨by omega, by omega⟩) pksA rdsA) rfl rfl rfl ?_; rintro _ _ ⟨_, ⟨w68, rfl, hm68, hw68, rfl⟩, rfl⟩; (try (obtain rfl | rfl | rfl : w42 = 0 ∨ w42 = 1 ∨ w42 = 2 := by omega))) | (refine WO.stp rfl (Stp.cal rfl rfl (Bring_spec _ _ ⟨by omega, by omega⟩) pksA rdsA) rfl rfl rfl ?_; rintro _ _ ⟨_, ⟨w68, rfl, hm68, hw68, rfl⟩, rfl⟩)); all_goals (refine WD.auto ?_; (conv => whnf))) | (refine WO.off rfl rfl rfl rfl ?_; refine WD.auto ?_; (conv => whnf)))
          | ((with_reducible refine WO.at 13 ?_); first | (refine WO.auto rfl rfl ?_; (conv => whnf); (fail_if_success (show False))) | (refine WO.auto rfl rfl ?_; (conv => whnf); (fail_if_success (show False))) | (refine WO.off rfl rfl rfl rfl ?_; refine WD.auto ?_; (conv => whnf)))
          | ((with_reducible refine W.at 51 ?_); first | (refine W.ev (Ev.indexRec rfl rfl rdA (by omega) (by rfl)) rfl rfl rfl ?_; all_goals ((refine W.auto ?_); (conv => whnf))))
          | ((with_reducible refine W.at 53 ?_); first | (refine W.ev (Ev.loadRecF rfl rfl rdA (by exact fun _ => rfl) (by omega) (by rfl) (by rfl)) rfl rfl rfl ?_; all_goals ((refine W.auto ?_); (conv => whnf))))
          | ((with_reducible refine W.at 54 ?_); first | (refine W.ev (Ev.rem rfl rfl (by omega)) rfl rfl rfl ?_; all_goals ((refine W.auto ?_); (conv => whnf))) | (refine W.ev (Ev.remt rfl rfl (by omega)) rfl rfl rfl ?_; all_goals ((refine W.auto ?_); (conv => whnf))))
          | ((with_reducible refine WD.at 1 ?_); first | (refine WD.ev rfl (Ev.load rfl rfl rdA rfl) rfl rfl rfl ?_; all_goals (refine WD.auto ?_; (conv => whnf))) | (refine WD.ev rfl (Ev.loadI rfl rdA (by first | omega | (simp only [List.length_drop, List.length_take, List.length_append, List.length_replicate, List.length_set, List.length_cons, List.length_nil, Nat.min_def]; omega) | (simp; omega))) rfl rfl rfl ?_; all_goals (refine WD.auto ?_; (conv => whnf))))
          | ((with_reducible refine WD.at 3 ?_); first | (refine WD.ev rfl (Ev.load rfl rfl rdA rfl) rfl rfl rfl ?_; all_goals (refine WD.auto ?_; (conv => whnf))) | (refine WD.ev rfl (Ev.loadI rfl rdA (by first | omega | (simp only [List.length_drop, List.length_take, List.length_append, List.length_replicate, List.length_set, List.length_cons, List.length_nil, Nat.min_def]; omega) | (simp; omega))) rfl rfl rfl ?_; all_goals (refine WD.auto ?_; (conv => whnf))))
          | ((with_reducible refine WD.at 5 ?_); first | (refine WD.ev rfl (Ev.load rfl rfl rdA rfl) rfl rfl rfl ?_; all_goals (refine WD.auto ?_; (conv => whnf))) | (refine WD.ev rfl (Ev.loadI rfl rdA (by first | omega | (simp only [List.length_drop, List.length_take, List.length_append, List.length_replicate, List.length_set, List.length_cons, List.length_nil, Nat.min_def]; omega) | (simp; omega))) rfl rfl rfl ?_; all_goals (refine WD.auto ?_; (conv => whnf))))
          | ((with_reducible refine WD.at 9 ?_); first | (refine WD.ev rfl (Ev.indexRec rfl rfl rdA (by omega) (by rfl)) rfl rfl rfl ?_; all_goals (refine WD.auto ?_; (conv => whnf))))
          | ((with_reducible refine WD.at 11 ?_); first | (refine WD.ev rfl (Ev.loadRecF rfl rfl rdA (by exact fun _ => rfl) (by omega) (by rfl) (by rfl)) rfl rfl rfl ?_; all_goals (refine WD.auto ?_; (conv => whnf))))
          | ((with_reducible refine WO.at 14 ?_); first | (refine WO.auto rfl rfl ?_; (conv => whnf); (fail_if_success (show False))) | (refine WO.off rfl rfl rfl rfl ?_; refine WD.auto ?_; (conv => whnf)))
          | ((with_reducible refine W.at 75 ?_); first | (refine W.ev (Ev.load rfl rfl rdA rfl) rfl rfl rfl ?_; all_goals ((refine W.auto ?_); (conv => whnf))))
          | ((with_reducible refine W.at 77 ?_); first | ((first | (first | (first | (refine W.stp (Stp.cal rfl rfl (Start_l gA _ 0 b0 _ ⟨by omega, by omega⟩ ⟨by omega, by omega⟩ ⟨by omega, by omega⟩) pksA rdsA) rfl rfl rfl ?_; rintro _ _ ⟨_, ⟨nb77, a77, hn1_77, hn2_77, hn3_77, hn4_77, rfl, rfl⟩, rfl⟩) | (refine W.stp (Stp.cal rfl rfl (Start_l gB _ 1 b1 _ ⟨by omega, by omega⟩ ⟨by omega, by omega⟩ ⟨by omega, by omega⟩) pksA rdsA) rfl rfl rfl ?_; rintro _ _ ⟨_, ⟨nb77, a77, hn1_77, hn2_77, hn3_77, hn4_77, rfl, rfl⟩, rfl⟩)) | (refine W.stp (Stp.cal rfl rfl (Start_l g19 _ 2 b2 _ ⟨by omega, by omega⟩ ⟨by omega, by omega⟩ ⟨by omega, by omega⟩) pksA rdsA) rfl rfl rfl ?_; rintro _ _ ⟨_, ⟨nb77, a77, hn1_77, hn2_77, hn3_77, hn4_77, rfl, rfl⟩, rfl⟩)) | (refine W.stp (Stp.cal rfl rfl (Spec.ask fun (hq : _) => Start_spec _ _ _ _ _ hq) pksA rdsA) rfl rfl rfl ?_; rintro _ _ ⟨_, ⟨a77, rfl, rfl⟩, rfl⟩)); all_goals ((refine W.auto ?_); (conv => whnf))))
          | ((with_reducible refine W.at 91 ?_); first | (refine W.ev (Ev.load rfl rfl rdA rfl) rfl rfl rfl ?_; all_goals ((refine W.auto ?_); (conv => whnf))) | (refine W.ev (Ev.loadI rfl rdA (by first | omega | (simp only [List.length_drop, List.length_take, List.length_append, List.length_replicate, List.length_set, List.length_cons, List.length_nil, Nat.min_def]; omega) | (simp; omega))) rfl rfl rfl ?_; all_goals ((refine W.auto ?_); (conv => whnf))))
          | ((with_reducible refine W.at 96 ?_); first | (refine W.ev (Ev.rem rfl rfl (by omega)) rfl rfl rfl ?_; all_goals ((refine W.auto ?_); (conv => whnf))) | (refine W.ev (Ev.remt rfl rfl (by omega)) rfl rfl rfl ?_; all_goals ((refine W.auto ?_); (conv => whnf))))
          | ((with_reducible refine W.at 105 ?_); first | (refine W.ev (Ev.load rfl rfl rdA rfl) rfl rfl rfl ?_; all_goals ((refine W.auto ?_); (conv => whnf))) | (refine W.ev (Ev.loadI rfl rdA (by first | omega | (simp only [List.length_drop, List.length_take, List.length_append, List.length_replicate, List.length_set, List.length_cons, List.length_nil, Nat.min_def]; omega) | (simp; omega))) rfl rfl rfl ?_; all_goals ((refine W.auto ?_); (conv => whnf))))
          | ((with_reducible refine W.at 113 ?_); first | (refine W.ev (Ev.load rfl rfl rdA rfl) rfl rfl rfl ?_; all_goals ((refine W.auto ?_); (conv => whnf))))
          | ((with_reducible refine W.at 114 ?_); first | ((first | (refine W.stp (Stp.cal rfl rfl (Ballot_l _ _ _ _) pksA rdsA) rfl rfl rfl ?_; rintro _ _ ⟨_, ⟨rfl, rfl⟩, rfl⟩) | (refine W.stp (Stp.cal rfl rfl (Ballot_spec _ _ _) pksA rdsA) rfl rfl rfl ?_; rintro _ _ ⟨_, ⟨rfl, rfl⟩, rfl⟩)); all_goals ((refine W.auto ?_); (conv => whnf))))
          | ((with_reducible refine W.at 121 ?_); first | (refine W.ev (Ev.load rfl rfl rdA rfl) rfl rfl rfl ?_; all_goals ((refine W.auto ?_); (conv => whnf))))
          | ((with_reducible refine W.at 122 ?_); first | ((first | (refine W.stp (Stp.cal rfl rfl (Phase_l _ _ _ nb77 (by omega)) pksA rdsA) rfl rfl rfl ?_; rintro _ _ ⟨_, ⟨rfl, rfl⟩, rfl⟩) | (refine W.stp (Stp.cal rfl rfl (Phase_spec _ _ _) pksA rdsA) rfl rfl rfl ?_; rintro _ _ ⟨_, ⟨rfl, rfl⟩, rfl⟩)); all_goals ((refine W.auto ?_); (conv => whnf))))
          | ((with_reducible refine W.atS 127 ?_); first | (refine stW1 rfl rfl rfl pkA ?_; (conv => whnf)))
          | ((with_reducible refine W.at 128 ?_); first | ((refine W.stp (Stp.cal rfl rfl (works_spec _ (by assumption)) pksA rdsA) rfl rfl rfl ?_; rintro _ _ ⟨_, ⟨rfl, rfl⟩, rfl⟩); all_goals ((refine W.auto ?_); (conv => whnf))))
          | (with_reducible refine WD.one ?_)
          | (with_reducible refine WD.two ?_ ?_)
          | (with_reducible refine WD.three ?_ ?_ ?_)
          | ((with_reducible refine WC.atC (c := .loop (.seq (.seq (.region 4 _ _) _) _)) ?_); refine WC.loopU ?_; refine WL.step ?_; refine WC.auto ?_; (conv => whnf))
          | ((with_reducible refine WC.atC (c := .loop (.seq (.seq (.region 11 _ _) _) _)) ?_); rename_i gA aA gB aB; refine WC.loopL5 (X := Nat) (Y := Int) (Z := Int) (U := Int) (V := (LA × LA × LA)) (0) (0) (0) (0) ((aA, aB, a19)) (fun k b0 b1 b2 a => k ≤ 60 ∧ (0 ≤ b0 ∧ b0 ≤ 1099511627776 + 3 * k) ∧ (0 ≤ b1 ∧ b1 ≤ 1099511627776 + 3 * k) ∧ (0 ≤ b2 ∧ b2 ≤ 1099511627776 + 3 * k)) (fun k b0 b1 b2 a => [(8, .int .i64 (k : Int))]) (fun k b0 b1 b2 a => [cellsC g3 47 [.pointer (some ⟨gA, 0, none⟩), .pointer (some ⟨gB, 0, none⟩), .pointer (some ⟨g19, 0, none⟩)], cellsC g4 31 [.int .i64 b0, .int .i64 b1, .int .i64 b2], leadC gA a.1 (lbS 0 b0), leadC gB a.2.1 (lbS 1 b1), leadC g19 a.2.2 (lbS 2 b2)]) (fun k b0 b1 b2 a => ps.length - k) [0, 3, 4] (⟨by omega, by simp, by simp, by simp⟩) ?_; (conv => whnf); refine LoopQ5.mk (by ((repeat (first | exact trivial | refine And.intro rfl ?_)); fail_if_success (focus skip))) (⟨_, pksA⟩) ?_; rintro k b0 b1 b2 ⟨a0, a1, a2⟩ ⟨hj0, hj1, hj2, hj3⟩; refine WC.auto ?_; (conv => whnf))
          | (refine ⟨k + 1, nb77, b1, b2, (a77, a1, a2), ?_, by ((repeat (first | exact trivial | refine And.intro rfl ?_)); fail_if_success (focus skip)), (by (with_reducible refine chLeI ?_); exact ⟨_, pksA⟩), by omega⟩)
          | (refine ⟨k + 1, b0, nb77, b2, (a0, a77, a2), ?_, by ((repeat (first | exact trivial | refine And.intro rfl ?_)); fail_if_success (focus skip)), (by (with_reducible refine chLeI ?_); exact ⟨_, pksA⟩), by omega⟩)
          | (refine ⟨k + 1, b0, b1, nb77, (a0, a1, a77), ?_, by ((repeat (first | exact trivial | refine And.intro rfl ?_)); fail_if_success (focus skip)), (by (with_reducible refine chLeI ?_); exact ⟨_, pksA⟩), by omega⟩)
          | (refine WL.step ?_; refine WC.auto ?_; (conv => whnf))
          | refine Exists.intro _ (And.intro (resv_rfl rfl) ?_))
  all_goals first
    | exact ⟨by omega, ⟨by omega, by omega⟩, ⟨by omega, by omega⟩, by omega, by omega⟩
    | first | exact ⟨_, ⟨rfl, rfl⟩, _, pksA⟩ | skip
end Go.SX
