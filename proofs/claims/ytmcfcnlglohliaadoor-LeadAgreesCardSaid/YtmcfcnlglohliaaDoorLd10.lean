/- Leaders: promises and yeses count once for each master. -/
import Derived.Test.YtmcfcnlglohliaaDoorLd9
namespace Go.SX
open Go Go.RowKit Go.Proofs
set_option linter.unusedVariables false
set_option linter.unusedSimpArgs false
set_option maxHeartbeats 4000000
theorem bring_arith (i n : Int) (h : 0 < n) : (-n < i.tmod n ∧ i.tmod n < n) ∧ (0 ≤ i.tmod n → i.tmod n = i % n) ∧ (i.tmod n < 0 → i.tmod n + n = i % n) ∧ 0 ≤ i % n ∧ i % n < n := by
  refine ⟨⟨by have := Int.lt_tmod_of_pos i h; omega, Int.tmod_lt_of_pos i h⟩, ?_⟩
  have h1 := Int.emod_nonneg i (show n ≠ 0 by omega)
  have h2 := Int.emod_lt_of_pos i h
  rw [Int.tmod_eq_emod]
  split
  · refine ⟨?_, ?_, ?_, ?_⟩ <;> (try intro _) <;> omega
  · refine ⟨?_, ?_, ?_, ?_⟩ <;> (try intro _) <;> omega
/-- A number, brought. -/
theorem Bring_spec (i n : Int) (h : 0 < n ∧ n ≤ 9223372036854775807) : Spec Tryd.prog 9 [.int .i64 i, .int .i64 n] [] [] (fun v l' => ∃ w : Nat, v = .int .i64 (w : Int) ∧ (w : Int) = i % n ∧ (w : Int) < n ∧ l' = []) := by
  obtain ⟨hb, he⟩ := bring_arith i n h.1
  obtain ⟨w, hw⟩ := Int.eq_ofNat_of_zero_le he.2.2.1
  refine Spec.intro Tryd.func9 rfl rfl Tryd.ntmps9 rfl fun w0 => ?_
  (all_goals (refine WC.auto ?_; (conv => whnf))); repeat' (first
          | ((with_reducible refine WB.auto ?_); (conv => whnf))
          | ((with_reducible refine WCB.auto ?_); (conv => whnf))
          | ((with_reducible refine Ob.at ?_); first | (refine Ob.mk (by first | omega | exact u8_bound _ | (have := u8_bound; omega) | (simp only [List.length_drop, List.length_take, List.length_append, List.length_replicate, List.length_set, List.length_cons, List.length_nil, Nat.min_def]; omega)) ?_; (conv => whnf)) | (refine Ob.mk' ?_ ?_; (conv => whnf)))
          | (refine spl_mk (fun hc => ?_) (fun hc => ?_) <;> (try simp only [Bool.not_eq_false', and_self, and_true, true_and, not_true, Bool.not_eq_true', Bool.not_false, Bool.not_true, decide_eq_true_eq, decide_eq_false_iff_not, Bool.false_eq_true, reduceCtorEq, Bool.true_eq_false, ne_eq, Decidable.not_not, Int.not_lt, Int.not_le, beq_self_eq_true, eq_self, not_true_eq_false, not_false_eq_true, Bool.not_eq_eq_eq_not, Bool.not_eq_true, Bool.not_eq_false, beq_iff_eq, beq_eq_false_iff_ne] at hc) <;> (try (exfalso; omega)) <;> (conv => whnf))
          | ((with_reducible refine NatK.at ?_); first | ((with_reducible refine NatK.cast ?_); (conv => whnf)) | (refine NatK.sym (by first | omega | exact u8_bound _ | (have := u8_bound; omega) | (simp only [List.length_drop, List.length_take, List.length_append, List.length_replicate, List.length_set, List.length_cons, List.length_nil, Nat.min_def]; omega)) (fun m hm => ?_); (conv => whnf)))
          | (intro q hq; (conv => whnf))
          | ((with_reducible refine W.at 7 ?_); first | (refine W.ev (Ev.rem rfl rfl (by omega)) rfl rfl rfl ?_; all_goals ((refine W.auto ?_); (conv => whnf))) | (refine W.ev (Ev.remt rfl rfl (by omega)) rfl rfl rfl ?_; all_goals ((refine W.auto ?_); (conv => whnf))))
          | refine Exists.intro _ (And.intro (resv_rfl rfl) ?_))
  all_goals first | exact ⟨_, ⟨w, congrArg (Value.int .i64) (by omega), by omega, by omega, rfl⟩, _, pksA⟩ | skip

def prOf (a b c : Bool) : Nat := a.toNat + 2 * b.toNat + 4 * c.toNat
/-- A leader of one ballot, with so many promises. -/
def cS (id : Int) (pr : Nat) : LM := ⟨id, nextB id 1, 1, if 2 ≤ setN pr then 2 else 1, pr, [], none, 0⟩
def cY (id : Int) (pr said : Nat) : LM := ⟨id, nextB id 1, if 2 ≤ setN said then 2 else 1, 2, pr, [], if 2 ≤ setN said then none else some ⟨1, 1, [10]⟩, said⟩
theorem nextB_in {id : Int} (h : 0 ≤ id ∧ id < 3) : 0 ≤ nextB id 1 ∧ nextB id 1 ≤ 4 := by unfold nextB; omega
theorem okS {id : Int} {pr : Nat} (h : 0 ≤ id ∧ id < 3) (hp : pr < 8) : LdOK (cS id pr) := by
  have := nextB_in h
  exact ⟨h, ⟨by show 0 ≤ nextB id 1; omega, by show nextB id 1 ≤ _; omega⟩, hp, (by show 0 < 8; decide), fun v hv => (by cases hv), fun c hc => (by cases hc)⟩
theorem okY {id : Int} {pr said : Nat} (h : 0 ≤ id ∧ id < 3) (hp : pr < 8) (hs : said < 8) : LdOK (cY id pr said) := by
  have := nextB_in h
  refine ⟨h, ⟨by show 0 ≤ nextB id 1; omega, by show nextB id 1 ≤ _; omega⟩, hp, hs, fun v hv => (by cases hv), fun c hc => ?_⟩
  simp only [cY] at hc
  split at hc
  · cases hc
  · obtain rfl := Option.some.inj hc; decide
section
variable (g : Nat) (a : LA)
theorem Start_c (id : Int) (h : 0 ≤ id ∧ id < 3) : Spec Tryd.prog 11 [.pointer (some ⟨g, 0, none⟩), .int .i64 0, .int .i64 1] [leadC g a (lm0 id)] [] (LdPost g (.tuple #[.int .i64 (nextB id 1), .int .i64 0]) (cS id 0)) :=
  Start_to g a (lm0 id) 0 1 (nextB id 1, 0, cS id 0) rfl ⟨h, ⟨by show (0 : Int) ≤ 0; decide, by show (0 : Int) ≤ _; decide⟩, (by show 0 < 8; decide), (by show 0 < 8; decide), fun v hv => (by cases hv), fun c hc => (by cases hc)⟩
theorem Prom_c (id : Int) (pr w : Nat) (tb : List UInt8) (h : 0 ≤ id ∧ id < 3) (hp : pr < 8) (h1 : setN pr < 2) (hw : w < 3) (htb : tb.length = 64) : Spec Tryd.prog 13 [.pointer (some ⟨g, 0, none⟩), .int .i64 (w : Int), .int .i64 (nextB id 1), .slice none 0 0] [leadC g a (cS id pr)] [tzC tb]
    (LdPost g (.tuple #[.bool (decide (2 ≤ setN (setW pr w))), .int .i64 0]) (cS id (setW pr w))) := by
  refine Promise_nil g a (cS id pr) w (nextB id 1) tb (decide (2 ≤ setN (setW pr w)), 0, cS id (setW pr w)) ?_ (okS h hp) htb
  have e : (cS id pr).p = 1 := if_neg (by omega)
  unfold ldPromise
  rw [if_neg (by omega), if_neg (by rw [e]; simp [cS])]
  rfl
theorem Prop_no (id : Int) (pr : Nat) (c : Option Addr) (k n : Nat) (xs : List Int) (num full : Int) (h : 0 ≤ id ∧ id < 3) (hp : pr < 8) (h1 : setN pr < 2) (hn : n = xs.length) (hx : xs.length ≤ 1000000) : Spec Tryd.prog 19 [.pointer (some ⟨g, 0, none⟩), .agg #[.int .i64 num, .int .i64 full, .slice c n k]] [leadC g a (cS id pr)] [iR c k n xs]
    (PpPost g (cf0, 170, cS id pr)) := by
  refine Propose_to g a (cS id pr) num full c k n xs _ ?_ (okS h hp) hn hx
  have e : (cS id pr).p = 1 := if_neg (by omega)
  unfold ldPropose
  rw [if_pos (by rw [e]; simp)]
theorem Prop_yes (id : Int) (pr : Nat) (c : Option Addr) (k n : Nat) (h : 0 ≤ id ∧ id < 3) (hp : pr < 8) (h1 : 2 ≤ setN pr) (hn : n = 1) : Spec Tryd.prog 19 [.pointer (some ⟨g, 0, none⟩), .agg #[.int .i64 1, .int .i64 1, .slice c n k]] [leadC g a (cS id pr)] [iR c k n [10]]
    (PpPost g (⟨1, 1, [10]⟩, 0, cY id pr 0)) := by
  subst hn
  refine Propose_to g a (cS id pr) 1 1 c k 1 [10] _ ?_ (okS h hp) rfl (by decide)
  have e : (cS id pr).p = 2 := if_pos h1
  unfold ldPropose
  rw [if_neg (by rw [e]; simp [cS]), if_neg (by show ¬ (1 : Int) < 1; decide)]
  have hc : cS id pr = ⟨id, nextB id 1, 1, 2, pr, [], none, 0⟩ := by unfold cS; rw [if_pos h1]
  rw [hc]
  rfl
theorem Yes_c (id : Int) (pr said w : Nat) (h : 0 ≤ id ∧ id < 3) (hp : pr < 8) (hs : said < 8) (h1 : setN said < 2) (hw : w < 3) : Spec Tryd.prog 20 [.pointer (some ⟨g, 0, none⟩), .int .i64 (w : Int), .int .i64 (nextB id 1), .int .i64 1] [leadC g a (cY id pr said)] []
    (LdPost g (.tuple #[.bool (decide (2 ≤ setN (setW said w))), .int .i64 0]) (cY id pr (setW said w))) := by
  refine Yes_to g a (cY id pr said) w (nextB id 1) 1 (decide (2 ≤ setN (setW said w)), 0, cY id pr (setW said w)) ?_ (okY h hp hs) (by decide)
  have e : cY id pr said = ⟨id, nextB id 1, 1, 2, pr, [], some ⟨1, 1, [10]⟩, said⟩ := by unfold cY; rw [if_neg (by omega), if_neg (by omega)]
  unfold ldYes
  rw [if_neg (by omega), e]
  dsimp only
  rw [if_neg (by simp), Int.toNat_natCast]
  by_cases hn : setN (setW said w) < 2
  · rw [if_pos hn, decide_eq_false (by omega)]
    unfold cY
    rw [if_neg (by omega), if_neg (by omega)]
  · rw [if_neg hn, decide_eq_true (by omega)]
    unfold cY
    rw [if_pos (by omega), if_pos (by omega)]
    rfl
theorem Pend_c (id : Int) (pr said : Nat) (h : 0 ≤ id ∧ id < 3) (hp : pr < 8) (hs : said < 8) : Spec Tryd.prog 21 [.pointer (some ⟨g, 0, none⟩)] [] [leadC g a (cY id pr said)]
    (fun v l' => ∃ A k c, v = .tuple #[cfV c A k, .bool (decide (setN said < 2))] ∧ l' = [cfC c A k]) := by
  refine (Pending_spec g a (cY id pr said) (okY h hp hs)).mono ?_
  rintro v l' ⟨A, k, h1, h2⟩
  refine ⟨A, k, _, ?_, h2⟩
  rw [h1]
  have e : (cY id pr said).pend.isSome = decide (setN said < 2) := by
    unfold cY
    by_cases hn : 2 ≤ setN said
    · simp [hn]
    · simp [hn]; omega
  rw [e]
end
theorem LeadCounts_law (id : Int) (A1 : Option Addr) (c1 n1 : Nat) (xs : List Int) (A2 : Option Addr) (c2 n2 : Nat) (ys : List Int) (tb : List UInt8) (htb : tb.length = 64) :
    Spec Tryd.prog 5 [.int .i64 id, .slice A1 n1 c1, .slice A2 n2 c2] [] [iR A1 c1 n1 xs, iR A2 c2 n2 ys, tzC tb] (fun v l' => v = .bool true ∧ l' = []) := by
  refine Spec.fact (d := iR A1 c1 n1 xs) (Rd.here (Sub.refl _)) iR_len fun hx => ?_
  refine Spec.fact (d := iR A2 c2 n2 ys) (Rd.there (Rd.here (Sub.refl _))) iR_len fun hy => ?_
  obtain ⟨hx1, hx2, hx3⟩ := hx
  obtain ⟨hy1, hy2, hy3⟩ := hy
  subst hx1 hy1
  refine Spec.intro Tryd.func5 rfl rfl Tryd.ntmps5 rfl fun w0 => ?_
  (all_goals (refine WC.seq ?_; refine WC.auto ?_; (conv => whnf))); repeat' (first
          | ((with_reducible refine WB.auto ?_); (conv => whnf))
          | ((with_reducible refine WCB.auto ?_); (conv => whnf))
          | ((with_reducible refine Ob.at ?_); first | (refine Ob.mk (by first | omega | exact u8_bound _ | (have := u8_bound; omega) | (simp only [List.length_drop, List.length_take, List.length_append, List.length_replicate, List.length_set, List.length_cons, List.length_nil, Nat.min_def]; omega)) ?_; (conv => whnf)) | (refine Ob.mk' ?_ ?_; (conv => whnf)))
          | (refine spl_mk (fun hc => ?_) (fun hc => ?_) <;> (try simp only [Bool.not_eq_false', and_self, and_true, true_and, not_true, Bool.not_eq_true', Bool.not_false, Bool.not_true, decide_eq_true_eq, decide_eq_false_iff_not, Bool.false_eq_true, reduceCtorEq, Bool.true_eq_false, ne_eq, Decidable.not_not, Int.not_lt, Int.not_le, beq_self_eq_true, eq_self, not_true_eq_false, not_false_eq_true, Bool.not_eq_eq_eq_not, Bool.not_eq_true, Bool.not_eq_false, beq_iff_eq, beq_eq_false_iff_ne] at hc) <;> (try (exfalso; omega)) <;> (conv => whnf))
          | ((with_reducible refine NatK.at ?_); first | ((with_reducible refine NatK.cast ?_); (conv => whnf)) | (refine NatK.lit 0 rfl ?_; (conv => whnf)) | (refine NatK.lit 1 rfl ?_; (conv => whnf)) | (refine NatK.lit 2 rfl ?_; (conv => whnf)) | (refine NatK.sym (by first | omega | exact u8_bound _ | (have := u8_bound; omega) | (simp only [List.length_drop, List.length_take, List.length_append, List.length_replicate, List.length_set, List.length_cons, List.length_nil, Nat.min_def]; omega)) (fun m hm => ?_); (conv => whnf)))
          | (intro q hq; (conv => whnf))
          | ((with_reducible refine W.at 29 ?_); first | ((refine W.stp (Stp.cal rfl rfl (Bring_spec _ _ ⟨by omega, by omega⟩) pksA rdsA) rfl rfl rfl ?_; rintro _ _ ⟨_, ⟨w29, rfl, hm29, hw29, rfl⟩, rfl⟩); all_goals ((refine W.auto ?_); (conv => whnf))))
          | ((with_reducible refine W.at 30 ?_); first | ((refine W.stp (Stp.cal rfl rfl (New_ok _ ⟨by omega, by omega⟩) pksA rdsA) rfl rfl rfl ?_; rintro _ _ ⟨_, ⟨g30, a30, rfl, rfl⟩, rfl⟩); all_goals ((refine W.auto ?_); (conv => whnf))))
          | ((with_reducible refine W.at 37 ?_); first | ((first | (refine W.stp (Stp.cal rfl rfl (Spec.ask fun (hq : _) => Start_c _ _ _ hq) pksA rdsA) rfl rfl rfl ?_; rintro _ _ ⟨_, ⟨a37, rfl, rfl⟩, rfl⟩) | (refine W.stp (Stp.cal rfl rfl (Spec.ask fun (hq : _) => Start_spec _ _ _ _ _ hq) pksA rdsA) rfl rfl rfl ?_; rintro _ _ ⟨_, ⟨a37, rfl, rfl⟩, rfl⟩)); all_goals ((refine W.auto ?_); (conv => whnf))))
          | ((with_reducible refine W.at 11 ?_); first | ((refine W.stp (Stp.allocA rfl) rfl rfl rfl ?_; rintro _ _ ⟨g11, rfl, rfl⟩); all_goals ((refine W.auto ?_); (conv => whnf))))
          | ((with_reducible refine W.at 58 ?_); first | (refine W.ev (Ev.indexAddrN rfl rfl rdA (by omega)) rfl rfl rfl ?_; all_goals ((refine W.auto ?_); (conv => whnf))) | (refine W.ev (Ev.indexAddr1 rfl rfl rdA (by omega)) rfl rfl rfl ?_; all_goals ((refine W.auto ?_); (conv => whnf))))
          | ((with_reducible refine W.at 59 ?_); first | (refine W.ev (Ev.loadI rfl rdA (by first | omega | (simp only [List.length_drop, List.length_take, List.length_append, List.length_replicate, List.length_set, List.length_cons, List.length_nil, Nat.min_def]; omega) | (simp; omega))) rfl rfl rfl ?_; all_goals ((refine W.auto ?_); (conv => whnf))) | (refine W.ev (Ev.loadRec0 rfl rfl rdA (by exact fun _ => rfl) (by omega) (by rfl)) rfl rfl rfl ?_; all_goals ((refine W.auto ?_); (conv => whnf))))
          | ((with_reducible refine W.at 60 ?_); first | ((refine W.stp (Stp.cal rfl rfl (Bring_spec _ _ ⟨by omega, by omega⟩) pksA rdsA) rfl rfl rfl ?_; rintro _ _ ⟨_, ⟨w60, rfl, hm60, hw60, rfl⟩, rfl⟩); (try ((obtain rfl | rfl | rfl : w60 = 0 ∨ w60 = 1 ∨ w60 = 2 := by omega))); all_goals ((refine W.auto ?_); (conv => whnf))))
          | ((with_reducible refine W.at 63 ?_); first | (refine W.ev (Ev.load rfl rfl rdA rfl) rfl rfl rfl ?_; all_goals ((refine W.auto ?_); (conv => whnf))))
          | ((with_reducible refine W.atS 68 ?_); first | (refine stW1 rfl rfl rfl pkA ?_; (conv => whnf)))
          | ((with_reducible refine W.at 73 ?_); first | ((first | (refine W.stp (Stp.cal rfl rfl (Spec.ask fun (hq : _ ∧ _ ∧ _ ∧ _) => Prom_c _ _ _ _ _ tb hq.1 hq.2.1 hq.2.2.1 hq.2.2.2 htb) pksA rdsA) rfl rfl rfl ?_; rintro _ _ ⟨_, ⟨a73, rfl, rfl⟩, rfl⟩) | (refine W.stp (Stp.cal rfl rfl (Spec.ask fun (hq : _ ∧ _ ∧ _ ∧ _ ∧ _) => Promise_spec _ _ _ _ _ _ _ _ _ _ hq.1 hq.2.1 hq.2.2.1 hq.2.2.2.1 hq.2.2.2.2) pksA rdsA) rfl rfl rfl ?_; rintro _ _ ⟨_, ⟨a73, rfl, rfl⟩, rfl⟩)); all_goals ((refine W.auto ?_); (conv => whnf))))
          | ((with_reducible refine W.at 87 ?_); first | ((refine W.stp (Stp.cal rfl rfl (Phase_spec _ _ _) pksA rdsA) rfl rfl rfl ?_; rintro _ _ ⟨_, ⟨rfl, rfl⟩, rfl⟩); all_goals ((refine W.auto ?_); (conv => whnf))))
          | ((with_reducible refine W.at 95 ?_); first | ((refine W.stp (Stp.cal rfl rfl (conf_spec _ _) pksA rdsA) rfl rfl rfl ?_; rintro _ _ ⟨_, ⟨A95, c95, rfl, rfl⟩, rfl⟩); all_goals ((refine W.auto ?_); (conv => whnf))))
          | ((with_reducible refine W.at 96 ?_); first | ((first | (first | (refine W.stp (Stp.cal rfl rfl (Spec.ask fun (hq : _ ∧ _ ∧ _ ∧ _ ∧ _) => Prop_no _ _ _ _ _ _ _ _ _ _ hq.1 hq.2.1 hq.2.2.1 hq.2.2.2.1 hq.2.2.2.2) pksA rdsA) rfl rfl rfl ?_; rintro _ _ ⟨_, ⟨A96, c96, a96, rfl, rfl⟩, rfl⟩) | (refine W.stp (Stp.cal rfl rfl (Spec.ask fun (hq : _ ∧ _ ∧ _ ∧ _) => Prop_yes _ _ _ _ _ _ _ hq.1 hq.2.1 hq.2.2.1 hq.2.2.2) pksA rdsA) rfl rfl rfl ?_; rintro _ _ ⟨_, ⟨A96, c96, a96, rfl, rfl⟩, rfl⟩)) | (refine W.stp (Stp.cal rfl rfl (Spec.ask fun (hq : _ ∧ _) => Propose_spec _ _ _ _ _ _ _ _ hq.1 hq.2) pksA rdsA) rfl rfl rfl ?_; rintro _ _ ⟨_, ⟨A96, c96, a96, rfl, rfl⟩, rfl⟩)); all_goals ((refine W.auto ?_); (conv => whnf))))
          | ((with_reducible refine W.at 17 ?_); first | ((refine W.stp (Stp.allocA rfl) rfl rfl rfl ?_; rintro _ _ ⟨g17, rfl, rfl⟩); all_goals ((refine W.auto ?_); (conv => whnf))))
          | ((with_reducible refine W.atS 17 ?_); first | (refine stWP rfl rfl (by intro v hv; (repeat' (first | rfl | (cases hv; done) | (rcases List.mem_cons.1 hv with rfl | hv)))) (by rfl) pkA ?_; (conv => whnf)))
          | ((with_reducible refine W.at 102 ?_); first | ((refine W.stp (Stp.cal rfl rfl (works_spec _ (by assumption)) pksA rdsA) rfl rfl rfl ?_; rintro _ _ ⟨_, ⟨rfl, rfl⟩, rfl⟩); all_goals ((refine W.auto ?_); (conv => whnf))))
          | ((with_reducible refine W.at 106 ?_); first | ((refine W.stp (Stp.cal rfl rfl (conf_spec _ _) pksA rdsA) rfl rfl rfl ?_; rintro _ _ ⟨_, ⟨A106, c106, rfl, rfl⟩, rfl⟩); all_goals ((refine W.auto ?_); (conv => whnf))))
          | ((with_reducible refine W.at 107 ?_); first | ((first | (first | (refine W.stp (Stp.cal rfl rfl (Spec.ask fun (hq : _ ∧ _ ∧ _ ∧ _ ∧ _) => Prop_no _ _ _ _ _ _ _ _ _ _ hq.1 hq.2.1 hq.2.2.1 hq.2.2.2.1 hq.2.2.2.2) pksA rdsA) rfl rfl rfl ?_; rintro _ _ ⟨_, ⟨A107, c107, a107, rfl, rfl⟩, rfl⟩) | (refine W.stp (Stp.cal rfl rfl (Spec.ask fun (hq : _ ∧ _ ∧ _ ∧ _) => Prop_yes _ _ _ _ _ _ _ hq.1 hq.2.1 hq.2.2.1 hq.2.2.2) pksA rdsA) rfl rfl rfl ?_; rintro _ _ ⟨_, ⟨A107, c107, a107, rfl, rfl⟩, rfl⟩)) | (refine W.stp (Stp.cal rfl rfl (Spec.ask fun (hq : _ ∧ _) => Propose_spec _ _ _ _ _ _ _ _ hq.1 hq.2) pksA rdsA) rfl rfl rfl ?_; rintro _ _ ⟨_, ⟨A107, c107, a107, rfl, rfl⟩, rfl⟩)); all_goals ((refine W.auto ?_); (conv => whnf))))
          | ((with_reducible refine W.at 19 ?_); first | ((refine W.stp (Stp.allocA rfl) rfl rfl rfl ?_; rintro _ _ ⟨g19, rfl, rfl⟩); all_goals ((refine W.auto ?_); (conv => whnf))))
          | ((with_reducible refine W.atS 19 ?_); first | (refine stWP rfl rfl (by intro v hv; (repeat' (first | rfl | (cases hv; done) | (rcases List.mem_cons.1 hv with rfl | hv)))) (by rfl) pkA ?_; (conv => whnf)))
          | ((with_reducible refine W.atS 11 ?_); first | (refine stWP rfl rfl (by intro v hv; (repeat' (first | rfl | (cases hv; done) | (rcases List.mem_cons.1 hv with rfl | hv)))) (by rfl) pkA ?_; (conv => whnf)))
          | ((with_reducible refine W.at 129 ?_); first | (refine W.ev (Ev.indexAddrN rfl rfl rdA (by omega)) rfl rfl rfl ?_; all_goals ((refine W.auto ?_); (conv => whnf))) | (refine W.ev (Ev.indexAddr1 rfl rfl rdA (by omega)) rfl rfl rfl ?_; all_goals ((refine W.auto ?_); (conv => whnf))))
          | ((with_reducible refine W.at 130 ?_); first | (refine W.ev (Ev.loadI rfl rdA (by first | omega | (simp only [List.length_drop, List.length_take, List.length_append, List.length_replicate, List.length_set, List.length_cons, List.length_nil, Nat.min_def]; omega) | (simp; omega))) rfl rfl rfl ?_; all_goals ((refine W.auto ?_); (conv => whnf))) | (refine W.ev (Ev.loadRec0 rfl rfl rdA (by exact fun _ => rfl) (by omega) (by rfl)) rfl rfl rfl ?_; all_goals ((refine W.auto ?_); (conv => whnf))))
          | ((with_reducible refine W.at 131 ?_); first | ((refine W.stp (Stp.cal rfl rfl (Bring_spec _ _ ⟨by omega, by omega⟩) pksA rdsA) rfl rfl rfl ?_; rintro _ _ ⟨_, ⟨w131, rfl, hm131, hw131, rfl⟩, rfl⟩); (try ((obtain rfl | rfl | rfl : w131 = 0 ∨ w131 = 1 ∨ w131 = 2 := by omega))); all_goals ((refine W.auto ?_); (conv => whnf))))
          | ((with_reducible refine W.at 134 ?_); first | (refine W.ev (Ev.load rfl rfl rdA rfl) rfl rfl rfl ?_; all_goals ((refine W.auto ?_); (conv => whnf))))
          | ((with_reducible refine W.atS 139 ?_); first | (refine stW1 rfl rfl rfl pkA ?_; (conv => whnf)))
          | ((with_reducible refine W.at 144 ?_); first | ((first | (refine W.stp (Stp.cal rfl rfl (Spec.ask fun (hq : _ ∧ _ ∧ _ ∧ _ ∧ _) => Yes_c _ _ _ _ _ _ hq.1 hq.2.1 hq.2.2.1 hq.2.2.2.1 hq.2.2.2.2) pksA rdsA) rfl rfl rfl ?_; rintro _ _ ⟨_, ⟨a144, rfl, rfl⟩, rfl⟩) | (refine W.stp (Stp.cal rfl rfl (Spec.ask fun (hq : _ ∧ _) => Yes_spec _ _ _ _ _ _ hq.1 hq.2) pksA rdsA) rfl rfl rfl ?_; rintro _ _ ⟨_, ⟨a144, rfl, rfl⟩, rfl⟩)); all_goals ((refine W.auto ?_); (conv => whnf))))
          | ((with_reducible refine W.at 157 ?_); first | ((first | (refine W.stp (Stp.cal rfl rfl (Spec.ask fun (hq : _ ∧ _ ∧ _) => Pend_c _ _ _ _ _ hq.1 hq.2.1 hq.2.2) pksA rdsA) rfl rfl rfl ?_; rintro _ _ ⟨_, ⟨A157, c157, q157, rfl, rfl⟩, rfl⟩) | (refine W.stp (Stp.cal rfl rfl (Spec.ask fun (hq : _) => Pending_spec _ _ _ hq) pksA rdsA) rfl rfl rfl ?_; rintro _ _ ⟨_, ⟨A157, c157, rfl, rfl⟩, rfl⟩)); all_goals ((refine W.auto ?_); (conv => whnf))))
          | ((with_reducible refine W.at 25 ?_); first | ((refine W.stp (Stp.allocA rfl) rfl rfl rfl ?_; rintro _ _ ⟨g25, rfl, rfl⟩); all_goals ((refine W.auto ?_); (conv => whnf))))
          | ((with_reducible refine W.atS 25 ?_); first | (refine stWP rfl rfl (by intro v hv; (repeat' (first | rfl | (cases hv; done) | (rcases List.mem_cons.1 hv with rfl | hv)))) (by rfl) pkA ?_; (conv => whnf)))
          | ((with_reducible refine W.at 165 ?_); first | ((refine W.stp (Stp.cal rfl rfl (works_spec _ (by assumption)) pksA rdsA) rfl rfl rfl ?_; rintro _ _ ⟨_, ⟨rfl, rfl⟩, rfl⟩); all_goals ((refine W.auto ?_); (conv => whnf))))
          | ((with_reducible refine WC.atC (c := .seq (.seq (.region 9 _ _) _) _) ?_); refine WC.cutL (X := Nat × Bool × Bool × Bool × LA) (fun z => z.1 < 8) (fun z => [(12, .int .i64 (setN z.1 : Int))]) (fun z => [cellsC g11 50 [.bool z.2.1, .bool z.2.2.1, .bool z.2.2.2.1], leadC g30 z.2.2.2.2 (cS (w29 : Int) z.1)]) [2, 7, 9, 11] ?_; (conv => whnf); refine CutQ.mk ?_ ?_; rotate_left; (rintro ⟨pr, b0, b1, b2, a⟩ hpr; refine WC.auto ?_; (conv => whnf)); rotate_left; (refine WC.auto ?_; (conv => whnf)))
          | ((with_reducible refine WC.atC (c := .seq (.region 8 _ _) _) ?_); refine WC.seq ?_; refine WC.auto ?_; (conv => whnf))
          | ((with_reducible refine WC.atC (c := .seq (.region 7 _ _) _) ?_); refine WC.seq ?_; refine WC.auto ?_; (conv => whnf))
          | ((with_reducible refine WC.atC (c := .seq (.seq (.region 5 _ _) _) _) ?_); refine WC.seq ?_; refine WC.auto ?_; (conv => whnf))
          | ((with_reducible refine WC.atC (c := .seq (.region 4 _ _) _) ?_); refine WC.seq ?_; refine WC.auto ?_; (conv => whnf))
          | ((with_reducible refine WC.atC (c := .seq (.seq (.region 2 _ _) _) _) ?_); refine WC.seq ?_; refine WC.auto ?_; (conv => whnf))
          | ((with_reducible refine WC.atC (c := .seq (.region 1 _ _) _) ?_); refine WC.seq ?_; refine WC.auto ?_; (conv => whnf))
          | ((with_reducible refine WC.atC (c := .loop (.seq (.seq (.region 10 _ _) _) _)) ?_); refine WC.loopL5 (X := Nat) (Y := Bool) (Z := Bool) (U := Bool) (V := LA) (0) (false) (false) (false) (a37) (fun k b0 b1 b2 a => True) (fun k b0 b1 b2 a => [(13, .int .i64 (k : Int)), (12, .int .i64 (setN (prOf b0 b1 b2) : Int))]) (fun k b0 b1 b2 a => [cellsC g11 50 [.bool b0, .bool b1, .bool b2], leadC g30 a (cS (w29 : Int) (prOf b0 b1 b2))]) (fun k b0 b1 b2 a => xs.length - k) [1, 2, 7, 9, 11] (trivial) ?_; (conv => whnf); refine LoopQ5.mk (by ((repeat (first | exact trivial | refine And.intro rfl ?_)); fail_if_success (focus skip))) (⟨_, pksA⟩) ?_; rintro k b0 b1 b2 a hj; (rcases b0 with _ | _ <;> rcases b1 with _ | _ <;> rcases b2 with _ | _); all_goals (refine WC.auto ?_; (conv => whnf)))
          | (refine ⟨k + 1, true, false, false, _, ?_, by ((repeat (first | exact trivial | refine And.intro rfl ?_)); fail_if_success (focus skip)), (by (with_reducible refine chLeI ?_); exact ⟨_, pksA⟩), by omega⟩)
          | (refine ⟨k + 1, false, true, false, _, ?_, by ((repeat (first | exact trivial | refine And.intro rfl ?_)); fail_if_success (focus skip)), (by (with_reducible refine chLeI ?_); exact ⟨_, pksA⟩), by omega⟩)
          | (refine ⟨k + 1, false, false, true, _, ?_, by ((repeat (first | exact trivial | refine And.intro rfl ?_)); fail_if_success (focus skip)), (by (with_reducible refine chLeI ?_); exact ⟨_, pksA⟩), by omega⟩)
          | (refine ⟨k + 1, true, true, false, _, ?_, by ((repeat (first | exact trivial | refine And.intro rfl ?_)); fail_if_success (focus skip)), (by (with_reducible refine chLeI ?_); exact ⟨_, pksA⟩), by omega⟩)
          | (refine ⟨k + 1, true, false, true, _, ?_, by ((repeat (first | exact trivial | refine And.intro rfl ?_)); fail_if_success (focus skip)), (by (with_reducible refine chLeI ?_); exact ⟨_, pksA⟩), by omega⟩)
          | (refine ⟨k + 1, false, true, true, _, ?_, by ((repeat (first | exact trivial | refine And.intro rfl ?_)); fail_if_success (focus skip)), (by (with_reducible refine chLeI ?_); exact ⟨_, pksA⟩), by omega⟩)
          | ((with_reducible refine WC.atC (c := .loop (.seq (.seq (.region 27 _ _) _) _)) ?_); refine WC.loopL5 (X := Nat) (Y := Bool) (Z := Bool) (U := Bool) (V := LA) (0) (false) (false) (false) (a107) (fun k b0 b1 b2 a => True) (fun k b0 b1 b2 a => [(21, .int .i64 (k : Int)), (12, .int .i64 (setN (prOf b0 b1 b2) : Int))]) (fun k b0 b1 b2 a => [cellsC g11 50 [.bool b0, .bool b1, .bool b2], leadC g30 a (cY (w29 : Int) pr (prOf b0 b1 b2))]) (fun k b0 b1 b2 a => ys.length - k) [2, 7, 9, 11] (trivial) ?_; (conv => whnf); refine LoopQ5.mk (by ((repeat (first | exact trivial | refine And.intro rfl ?_)); fail_if_success (focus skip))) (⟨_, pksA⟩) ?_; rintro k b0 b1 b2 a hj; (rcases b0 with _ | _ <;> rcases b1 with _ | _ <;> rcases b2 with _ | _); all_goals (refine WC.auto ?_; (conv => whnf)))
          | (refine ⟨(_, _, _, _, _), ?_, by ((repeat (first | exact trivial | refine And.intro rfl ?_)); fail_if_success (focus skip)), (by (with_reducible refine chLeI ?_); exact ⟨_, pksA⟩)⟩)
          | refine Exists.intro _ (And.intro (resv_rfl rfl) ?_))
  all_goals first
    | trivial
    | exact ⟨by decide, by decide⟩
    | (dsimp only; decide)
    | omega
    | first | exact ⟨_, ⟨rfl, rfl⟩, _, pksA⟩ | skip
end Go.SX
