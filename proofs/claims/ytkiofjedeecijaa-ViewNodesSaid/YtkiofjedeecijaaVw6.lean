/- Views: Of, and the law's own rows. -/
import Derived.Test.YtkiofjedeecijaaVw5
namespace Go.SX
open Go Go.RowKit Go.Proofs
set_option linter.unusedVariables false
set_option linter.unusedSimpArgs false
set_option maxHeartbeats 4000000
/-- A row's bytes, that may be read. -/
def RH.rd (h : RH) : Chunk := bR h.A h.c h.bs.length h.bs
theorem Add_ok (g : Nat) (a : VA) (st nd kd : Int) (rA : Option Addr) (rc n : Nat) (bs : List UInt8) (hn : n = bs.length) (hl : a.hs.length ≤ 20000) (h0 : addE (a.hs.map RH.vr) ⟨st, nd, kd, bs⟩ = 0) :
    Spec Try.prog 18 [.pointer (some ⟨g, 0, none⟩), .agg #[.int .i64 st, .int .i64 nd, .int .i64 kd, .slice rA n rc]] [viewC g a] [bR rA rc n bs]
    (fun v l' => ∃ a' : VA, v = .int .i64 0 ∧ a'.hs.map RH.vr = a.hs.map RH.vr ++ [⟨st, nd, kd, bs⟩] ∧ l' = [viewC g a']) :=
  (Add_spec g a st nd kd rA rc n bs hn hl).mono fun v l' ⟨a', h1, h2, h3⟩ => ⟨a', by rw [h1, h0], by rw [h2, addR, if_pos h0], h3⟩
/-- Rows that may be added, one by one. -/
def okR (rs : List VR) : Prop := rs.length ≤ 20000 ∧ ∀ k (h : k < rs.length), addE (rs.take k) rs[k] = 0
theorem okR.at {hs : List RH} {k : Nat} {a : VA} (h : okR (hs.map RH.vr)) (hk : k < hs.length) (ha : a.hs.map RH.vr = (hs.take k).map RH.vr) : addE (a.hs.map RH.vr) (nth hs k).vr = 0 := by
  have := h.2 k (by simpa using hk)
  rw [ha, nth_get hk]
  simpa [List.map_take] using this
theorem take_vr {hs : List RH} {k : Nat} (hk : k < hs.length) : (hs.take (k + 1)).map RH.vr = (hs.take k).map RH.vr ++ [(nth hs k).vr] := by
  rw [List.take_add_one, List.getElem?_eq_getElem hk, List.map_append, nth_get hk]; rfl
theorem vr_len {hs hs' : List RH} (h : hs.map RH.vr = hs'.map RH.vr) : hs.length = hs'.length := by simpa using congrArg List.length h
theorem Of_spec (A : Option Addr) (c : Nat) (hs : List RH) (hok : okR (hs.map RH.vr)) :
    Spec Try.prog 21 [.slice A hs.length c] [] [rowC A c 37 4 hs.length (recs RH.cells hs), allC (hs.map RH.rd)]
      (fun v l' => ∃ g a', v = .tuple #[.pointer (some ⟨g, 0, none⟩), .int .i64 0] ∧ a'.hs.map RH.vr = hs.map RH.vr ∧ l' = [viewC g a']) := by
  have hl : hs.length ≤ 20000 := by simpa using hok.1
  refine Spec.intro Try.func21 rfl rfl Try.ntmps21 rfl fun w0 => ?_
  /- loops of sealchain/view.Of: 3 live [4, 9, 10] vary [11] -/
  (all_goals (refine WC.auto ?_; (conv => whnf))); repeat' (first
          | ((with_reducible refine WB.auto ?_); (conv => whnf))
          | ((with_reducible refine WCB.auto ?_); (conv => whnf))
          | ((with_reducible refine Ob.at ?_); first | (refine Ob.mk (by first | omega | exact u8_bound _ | (have := u8_bound; omega) | (simp only [List.length_drop, List.length_take, List.length_append, List.length_replicate, List.length_set, List.length_cons, List.length_nil, Nat.min_def]; omega)) ?_; (conv => whnf)) | (refine Ob.mk' ?_ ?_; (conv => whnf)))
          | (refine spl_mk (fun hc => ?_) (fun hc => ?_) <;> (try simp only [Bool.not_eq_false', and_self, and_true, true_and, not_true, Bool.not_eq_true', Bool.not_false, Bool.not_true, decide_eq_true_eq, decide_eq_false_iff_not, Bool.false_eq_true, reduceCtorEq, Bool.true_eq_false, ne_eq, Decidable.not_not, Int.not_lt, Int.not_le, beq_self_eq_true, eq_self, not_true_eq_false, not_false_eq_true, Bool.not_eq_eq_eq_not, Bool.not_eq_true, Bool.not_eq_false, beq_iff_eq, beq_eq_false_iff_ne] at hc) <;> (try (exfalso; omega)) <;> (conv => whnf))
          | ((with_reducible refine NatK.at ?_); first | ((with_reducible refine NatK.cast ?_); (conv => whnf)) | (refine NatK.sym (by first | omega | exact u8_bound _ | (have := u8_bound; omega) | (simp only [List.length_drop, List.length_take, List.length_append, List.length_replicate, List.length_set, List.length_cons, List.length_nil, Nat.min_def]; omega)) (fun m hm => ?_); (conv => whnf)))
          | (intro q hq; (conv => whnf))
          | ((with_reducible refine W.at 8 ?_); first | ((refine W.stp (Stp.cal rfl rfl (vNew_spec) pksA rdsA) rfl rfl rfl ?_; rintro _ _ ⟨_, ⟨g8, rfl, rfl⟩, rfl⟩); all_goals ((refine W.auto ?_); (conv => whnf))))
          | ((with_reducible refine W.at 13 ?_); first | (refine W.ev (Ev.indexRec rfl rfl rdA (by omega) (by rfl)) rfl rfl rfl ?_; all_goals ((refine W.auto ?_); (conv => whnf))))
          | ((with_reducible refine W.at 14 ?_); first | (refine W.ev (Ev.loadRec rfl rfl rdA (by exact fun _ => rfl) (by omega) (by rfl)) rfl rfl rfl ?_; all_goals ((refine W.auto ?_); (conv => whnf))))
          | ((with_reducible refine W.at 6 ?_); first | ((refine W.stp (Stp.allocA rfl) rfl rfl rfl ?_; rintro _ _ ⟨g6, rfl, rfl⟩); all_goals ((refine W.auto ?_); (conv => whnf))))
          | ((with_reducible refine W.atS 6 ?_); first | (refine stWP rfl rfl (by intro v hv; (repeat' (first | rfl | (cases hv; done) | (rcases List.mem_cons.1 hv with rfl | hv)))) (by rfl) pkA ?_; (conv => whnf)))
          | ((with_reducible refine W.at 16 ?_); first | (refine W.ev (Ev.loadAll rfl rfl rdA (by first | rfl | (simp; done) | (simp only [u8s_length]; omega) | (simp only [u8s_length]; assumption))) rfl rfl rfl ?_; all_goals ((refine W.auto ?_); (conv => whnf))) | (refine W.ev (Ev.loadAgg rfl rfl rdA (by exact Nat.le_of_ble_eq_true rfl)) rfl rfl rfl ?_; all_goals ((refine W.auto ?_); (conv => whnf))))
          | ((with_reducible refine W.at 17 ?_); first | ((refine W.stp (Stp.cal rfl rfl (Add_ok _ _ _ _ _ _ _ _ (nth hs k).bs rfl (by have := vr_len hj.2; rw [List.length_take] at this; omega) (hok.at (by omega) hj.2)) pksA rdsA) rfl rfl rfl ?_; rintro _ _ ⟨_, ⟨a17, rfl, ha17, rfl⟩, rfl⟩); all_goals ((refine W.auto ?_); (conv => whnf))))
          | ((with_reducible refine WC.atC (c := .loop (.seq (.region 3 _ _) _)) ?_); refine WC.loopL2 (X := Nat) (Y := VA) (0) (⟨none, 0, []⟩) (fun k a => k ≤ hs.length ∧ a.hs.map RH.vr = (hs.take k).map RH.vr) (fun k a => [(11, .int .i64 (k : Int))]) (fun k a => [viewC g8 a]) (fun k a => hs.length - k) [4, 9, 10] (⟨by omega, rfl⟩) ?_; (conv => whnf); refine LoopQ2.mk (by ((repeat (first | exact trivial | refine And.intro rfl ?_)); fail_if_success (focus skip))) (⟨_, pksA⟩) ?_; rintro k a hj; refine WC.auto ?_; (conv => whnf))
          | (refine ⟨k + 1, a17, ?_, by ((repeat (first | exact trivial | refine And.intro rfl ?_)); fail_if_success (focus skip)), (by (with_reducible refine chLeI ?_); exact ⟨_, pksA⟩), by omega⟩)
          | refine Exists.intro _ (And.intro (resv_rfl rfl) ?_))
  all_goals first
    | exact ⟨by omega, by rw [ha17, hj.2, take_vr (by omega)]; rfl⟩
    | exact ⟨_, ⟨_, a, rfl, by have e : k = hs.length := (by omega); rw [hj.2, e, List.take_length], rfl⟩, ChLe.refl _⟩
    | skip

theorem of_spec (A : Option Addr) (c : Nat) (hs : List RH) (hok : okR (hs.map RH.vr)) :
    Spec Try.prog 7 [.slice A hs.length c] [] [rowC A c 37 4 hs.length (recs RH.cells hs), allC (hs.map RH.rd)]
      (fun v l' => ∃ g a', v = .pointer (some ⟨g, 0, none⟩) ∧ a'.hs.map RH.vr = hs.map RH.vr ∧ l' = [viewC g a']) := by
  refine Spec.intro Try.func7 rfl rfl Try.ntmps7 rfl fun w0 => ?_
  (all_goals (refine WC.auto ?_; (conv => whnf))); repeat' (first
          | ((with_reducible refine WB.auto ?_); (conv => whnf))
          | ((with_reducible refine WCB.auto ?_); (conv => whnf))
          | ((with_reducible refine Ob.at ?_); first | (refine Ob.mk (by first | omega | exact u8_bound _ | (have := u8_bound; omega) | (simp only [List.length_drop, List.length_take, List.length_append, List.length_replicate, List.length_set, List.length_cons, List.length_nil, Nat.min_def]; omega)) ?_; (conv => whnf)) | (refine Ob.mk' ?_ ?_; (conv => whnf)))
          | (refine spl_mk (fun hc => ?_) (fun hc => ?_) <;> (try simp only [Bool.not_eq_false', and_self, and_true, true_and, not_true, Bool.not_eq_true', Bool.not_false, Bool.not_true, decide_eq_true_eq, decide_eq_false_iff_not, Bool.false_eq_true, reduceCtorEq, Bool.true_eq_false, ne_eq, Decidable.not_not, Int.not_lt, Int.not_le, beq_self_eq_true, eq_self, not_true_eq_false, not_false_eq_true, Bool.not_eq_eq_eq_not, Bool.not_eq_true, Bool.not_eq_false, beq_iff_eq, beq_eq_false_iff_ne] at hc) <;> (try (exfalso; omega)) <;> (conv => whnf))
          | ((with_reducible refine NatK.at ?_); first | ((with_reducible refine NatK.cast ?_); (conv => whnf)) | (refine NatK.sym (by first | omega | exact u8_bound _ | (have := u8_bound; omega) | (simp only [List.length_drop, List.length_take, List.length_append, List.length_replicate, List.length_set, List.length_cons, List.length_nil, Nat.min_def]; omega)) (fun m hm => ?_); (conv => whnf)))
          | (intro q hq; (conv => whnf))
          | ((with_reducible refine W.at 7 ?_); first | ((refine W.stp (Stp.cal rfl rfl (Of_spec _ _ hs hok) pksA rdsA) rfl rfl rfl ?_; rintro _ _ ⟨_, ⟨g7, a7, rfl, ha7, rfl⟩, rfl⟩); all_goals ((refine W.auto ?_); (conv => whnf))))
          | refine Exists.intro _ (And.intro (resv_rfl rfl) ?_))
  all_goals exact ⟨_, ⟨_, _, rfl, ha7, rfl⟩, ChLe.refl _⟩
def nodeL : List Int := [0, 1, 2, 10, 11, 12, 13]
theorem nodes_spec : Spec Try.prog 8 [] [] [] (fun v l' => ∃ g, v = .slice (some ⟨g, 0, none⟩) 7 7 ∧ l' = [iO (some ⟨g, 0, none⟩) 7 3 7 nodeL]) := by
  refine Spec.intro Try.func8 rfl rfl Try.ntmps8 rfl fun w0 => ?_
  (all_goals (refine WC.auto ?_; (conv => whnf))); repeat' (first
          | ((with_reducible refine WB.auto ?_); (conv => whnf))
          | ((with_reducible refine WCB.auto ?_); (conv => whnf))
          | ((with_reducible refine Ob.at ?_); first | (refine Ob.mk (by first | omega | exact u8_bound _ | (have := u8_bound; omega) | (simp only [List.length_drop, List.length_take, List.length_append, List.length_replicate, List.length_set, List.length_cons, List.length_nil, Nat.min_def]; omega)) ?_; (conv => whnf)) | (refine Ob.mk' ?_ ?_; (conv => whnf)))
          | (refine spl_mk (fun hc => ?_) (fun hc => ?_) <;> (try simp only [Bool.not_eq_false', and_self, and_true, true_and, not_true, Bool.not_eq_true', Bool.not_false, Bool.not_true, decide_eq_true_eq, decide_eq_false_iff_not, Bool.false_eq_true, reduceCtorEq, Bool.true_eq_false, ne_eq, Decidable.not_not, Int.not_lt, Int.not_le, beq_self_eq_true, eq_self, not_true_eq_false, not_false_eq_true, Bool.not_eq_eq_eq_not, Bool.not_eq_true, Bool.not_eq_false, beq_iff_eq, beq_eq_false_iff_ne] at hc) <;> (try (exfalso; omega)) <;> (conv => whnf))
          | ((with_reducible refine NatK.at ?_); first | ((with_reducible refine NatK.cast ?_); (conv => whnf)) | (refine NatK.sym (by first | omega | exact u8_bound _ | (have := u8_bound; omega) | (simp only [List.length_drop, List.length_take, List.length_append, List.length_replicate, List.length_set, List.length_cons, List.length_nil, Nat.min_def]; omega)) (fun m hm => ?_); (conv => whnf)))
          | (intro q hq; (conv => whnf))
          | ((with_reducible refine W.at 1 ?_); first | ((refine W.stp (Stp.buildI [0, 1, 2, 10, 11, 12, 13] rfl rfl rfl rfl rfl) rfl rfl rfl ?_; rintro _ _ ⟨g1, rfl, rfl⟩); all_goals ((refine W.auto ?_); (conv => whnf))))
          | refine Exists.intro _ (And.intro (resv_rfl rfl) ?_))
  all_goals exact ⟨_, ⟨_, rfl, rfl⟩, ChLe.refl _⟩

theorem row_spec (st nd kd : Int) (A : Option Addr) (n c : Nat) : Spec Try.prog 29 [.int .i64 st, .int .i64 nd, .int .i64 kd, .slice A n c] [] [] (fun v l' => v = .agg #[.int .i64 st, .int .i64 nd, .int .i64 kd, .slice A n c] ∧ l' = []) := by
  refine Spec.introM Try.func29 rfl rfl Try.ntmps29 rfl fun w0 => ?_
  (all_goals (refine WC.auto ?_; (conv => whnf))); repeat' (first
          | ((with_reducible refine WB.auto ?_); (conv => whnf))
          | ((with_reducible refine WCB.auto ?_); (conv => whnf))
          | ((with_reducible refine Ob.at ?_); first | (refine Ob.mk (by first | omega | exact u8_bound _ | (have := u8_bound; omega) | (simp only [List.length_drop, List.length_take, List.length_append, List.length_replicate, List.length_set, List.length_cons, List.length_nil, Nat.min_def]; omega)) ?_; (conv => whnf)) | (refine Ob.mk' ?_ ?_; (conv => whnf)))
          | (refine spl_mk (fun hc => ?_) (fun hc => ?_) <;> (try simp only [Bool.not_eq_false', and_self, and_true, true_and, not_true, Bool.not_eq_true', Bool.not_false, Bool.not_true, decide_eq_true_eq, decide_eq_false_iff_not, Bool.false_eq_true, reduceCtorEq, Bool.true_eq_false, ne_eq, Decidable.not_not, Int.not_lt, Int.not_le, beq_self_eq_true, eq_self, not_true_eq_false, not_false_eq_true, Bool.not_eq_eq_eq_not, Bool.not_eq_true, Bool.not_eq_false, beq_iff_eq, beq_eq_false_iff_ne] at hc) <;> (try (exfalso; omega)) <;> (conv => whnf))
          | ((with_reducible refine NatK.at ?_); first | ((with_reducible refine NatK.cast ?_); (conv => whnf)) | (refine NatK.sym (by first | omega | exact u8_bound _ | (have := u8_bound; omega) | (simp only [List.length_drop, List.length_take, List.length_append, List.length_replicate, List.length_set, List.length_cons, List.length_nil, Nat.min_def]; omega)) (fun m hm => ?_); (conv => whnf)))
          | (intro q hq; (conv => whnf))
          | ((with_reducible refine W.at 8 ?_); first | ((refine W.stp (Stp.allocA rfl) rfl rfl rfl ?_; rintro _ _ ⟨g8, rfl, rfl⟩); all_goals ((refine W.auto ?_); (conv => whnf))))
          | ((with_reducible refine W.atS 8 ?_); first | (refine stWP rfl rfl (by intro v hv; (repeat' (first | rfl | (cases hv; done) | (rcases List.mem_cons.1 hv with rfl | hv)))) (by rfl) pkA ?_; (conv => whnf)))
          | refine Exists.intro [_] (And.intro (resM_mk ⟨⟨_, _, _, rfl, by (repeat (first | exact Rds.nil | refine Rds.cons ?_ ?_ | exact Rd.here (Sub.refl _) | exact Rd.here Sub.row | refine Rd.there ?_)); fail_if_success (focus skip), CellVal.all rfl (by rfl)⟩, trivial⟩) ?_))
  all_goals first | exact ⟨_, ⟨rfl, rfl⟩, _, pksA⟩ | skip

/-- A seed in memory. -/
structure SH where
  on : Int
  node : Int
  kind : Int
  A : Option Addr
  c : Nat
  bs : List UInt8
instance : Inhabited SH := ⟨⟨0, 0, 0, none, 0, []⟩⟩
def SH.cells (h : SH) : List Value := [.int .i64 h.on, .int .i64 h.node, .int .i64 h.kind, .slice h.A h.bs.length h.c]
def SH.rd (h : SH) : Chunk := bR h.A h.c h.bs.length h.bs
/-- The steps behind so many. -/
def stepS (ss : List SH) : Nat → Int
  | 0 => 0
  | k + 1 => stepS ss k + (nth ss k).on % 3
theorem stepS_le (ss : List SH) : ∀ k, 0 ≤ stepS ss k ∧ stepS ss k ≤ 2 * k
  | 0 => ⟨Int.le_refl 0, Int.le_refl 0⟩
  | k + 1 => by
    have := stepS_le ss k
    show 0 ≤ stepS ss k + _ ∧ stepS ss k + _ ≤ _
    omega
def mkR (ss : List SH) (k : Nat) : RH := ⟨stepS ss (k + 1), nodeL.getD ((nth ss k).node % 7).toNat 0, 1 + (nth ss k).kind % 3, (nth ss k).A, (nth ss k).c, (nth ss k).bs.take 100⟩
def madeL (ss : List SH) (m : Nat) : List RH := (List.range m).map (mkR ss)
theorem madeL_succ (ss : List SH) (m : Nat) : madeL ss (m + 1) = madeL ss m ++ [mkR ss m] := by simp [madeL, List.range_succ]
theorem madeL_len (ss : List SH) (m : Nat) : (madeL ss m).length = m := by simp [madeL]
theorem mkR_cells {ss : List SH} {k w25 w35 w43 m : Nat} (h1 : (w25 : Int) = (nth ss k).on % 3) (h2 : (w35 : Int) = (nth ss k).node % 7) (h3 : (w43 : Int) = (nth ss k).kind % 3) (h4 : (m : Int) = min 100 ((nth ss k).bs.length : Int)) :
    recs RH.cells (madeL ss k) ++ [.int .i64 (stepS ss k + w25), .int .i64 (nodeL.getD w35 0), .int .i64 (1 + w43), .slice (nth ss k).A m (nth ss k).c] = recs RH.cells (madeL ss (k + 1)) := by
  have e4 : ((nth ss k).bs.take 100).length = m := by rw [List.length_take]; omega
  have e2 : ((nth ss k).node % 7).toNat = w35 := by omega
  rw [madeL_succ, recs_snoc]
  simp only [RH.cells, mkR, stepS, e4, e2, ← h1, ← h3]
theorem BringN_spec (i n : Int) (h : 0 < n ∧ n ≤ 9223372036854775807) : Spec Try.prog 14 [.int .i64 i, .int .i64 n] [] [] (fun v l' => ∃ w : Nat, v = .int .i64 w ∧ (w : Int) = i % n ∧ (w : Int) < n ∧ l' = []) :=
  (Bring_spec i n h).mono fun v l' ⟨⟨m, h1, h2, h3, h4⟩, h5⟩ => ⟨m.toNat, by rw [h1, Int.toNat_of_nonneg h3], by omega, by omega, h5⟩
theorem made_spec (A : Option Addr) (c most : Nat) (ss : List SH) (hm : most ≤ 60) (hsc : ∀ s ∈ ss, s.bs.length ≤ s.c) :
    Spec Try.prog 6 [.slice A ss.length c, .int .i64 most] [] [sliceC A c 4 ss.length (recs SH.cells ss), allC (ss.map SH.rd)]
      (fun v l' => ∃ A' c', v = .slice A' (min ss.length most) c' ∧ l' = [rowC A' c' 37 4 (min ss.length most) (recs RH.cells (madeL ss (min ss.length most)))]) := by
  have hn7 : nodeL.length = 7 := rfl
  refine Spec.intro Try.func6 rfl rfl Try.ntmps6 rfl fun w0 => ?_
  /- loops of sealchain/sealchainlaw24.made: 4 live [0, 1] vary [5, 6, 7] -/
  (all_goals (refine WC.auto ?_; (conv => whnf))); repeat' (first
          | ((with_reducible refine WB.auto ?_); (conv => whnf))
          | ((with_reducible refine WCB.auto ?_); (conv => whnf))
          | ((with_reducible refine WDB.auto ?_); (conv => whnf))
          | ((with_reducible refine Ob.at ?_); first | (refine Ob.mk (by first | omega | exact u8_bound _ | (have := u8_bound; omega) | (simp only [List.length_drop, List.length_take, List.length_append, List.length_replicate, List.length_set, List.length_cons, List.length_nil, Nat.min_def]; omega) | ((have := hsc _ (nth_mem (show k < ss.length by omega)); omega))) ?_; (conv => whnf)) | (refine Ob.mk' ?_ ?_; (conv => whnf)))
          | (refine spl_mk (fun hc => ?_) (fun hc => ?_) <;> (try simp only [Bool.not_eq_false', and_self, and_true, true_and, not_true, Bool.not_eq_true', Bool.not_false, Bool.not_true, decide_eq_true_eq, decide_eq_false_iff_not, Bool.false_eq_true, reduceCtorEq, Bool.true_eq_false, ne_eq, Decidable.not_not, Int.not_lt, Int.not_le, beq_self_eq_true, eq_self, not_true_eq_false, not_false_eq_true, Bool.not_eq_eq_eq_not, Bool.not_eq_true, Bool.not_eq_false, beq_iff_eq, beq_eq_false_iff_ne] at hc) <;> (try (exfalso; omega)) <;> (conv => whnf))
          | ((with_reducible refine NatK.at ?_); first | ((with_reducible refine NatK.cast ?_); (conv => whnf)) | (refine NatK.sym (by first | omega | exact u8_bound _ | (have := u8_bound; omega) | (simp only [List.length_drop, List.length_take, List.length_append, List.length_replicate, List.length_set, List.length_cons, List.length_nil, Nat.min_def]; omega) | ((have := hsc _ (nth_mem (show k < ss.length by omega)); omega))) (fun m hm => ?_); (conv => whnf)))
          | (intro q hq; (conv => whnf))
          | ((with_reducible refine WC.atR 7 ?_); refine WC.draw (id := 7) (ls := []) (.fl 0 (.fl 1 (.fl 3 (.fl 4 (.fl 5 (.fl 6 (.fl 7 (.fl 11 (.fl 12 (.fl 13 (.fl 14 (.fl 15 (.fl 18 (.fl 19 (.fl 20 (.fl 21 (.fl 22 (.fl 23 (.fl 24 (.fl 25 (.fl 26 (.fl 27 (.fl 28 (.fl 29 (.fl 30 (.one 2 (.one 8 (.two 9 (.two 10 (.one 16 (.fl 17 (.one 31 (.one 32 (.one 33 (.fl 34 .nil)))))) 16 (.fl 17 (.one 10 (.one 31 (.one 32 (.one 33 (.fl 34 .nil))))))) 16 (.fl 17 (.one 9 (.one 10 (.one 31 (.one 32 (.one 33 (.fl 34 .nil))))))))))))))))))))))))))))))))))) (by kernel_rfl) (by kernel_rfl) picksA ?_; refine WD.auto ?_; (conv => whnf))
          | ((with_reducible refine W.at 22 ?_); first | (refine W.ev (Ev.indexRec rfl rfl rdA (by omega) (by rfl)) rfl rfl rfl ?_; all_goals ((refine W.auto ?_); (conv => whnf))))
          | ((with_reducible refine W.at 24 ?_); first | (refine W.ev (Ev.loadRecF rfl rfl rdA (by exact fun _ => rfl) (by omega) (by rfl) (by rfl)) rfl rfl rfl ?_; all_goals ((refine W.auto ?_); (conv => whnf))))
          | ((with_reducible refine W.at 25 ?_); first | ((first | (refine W.stp (Stp.cal rfl rfl (BringN_spec _ _ ⟨by omega, by omega⟩) pksA rdsA) rfl rfl rfl ?_; rintro _ _ ⟨_, ⟨w25, rfl, hm25, hw25, rfl⟩, rfl⟩) | (refine W.stp (Stp.cal rfl rfl (Bring_spec _ _ ⟨by omega, by omega⟩) pksA rdsA) rfl rfl rfl ?_; rintro _ _ ⟨_, ⟨⟨m25, rfl, hm25, hl25, hu25⟩, rfl⟩, rfl⟩)); all_goals ((refine W.auto ?_); (conv => whnf))))
          | ((with_reducible refine WO.at 0 ?_); first | (refine WO.auto rfl rfl ?_; (conv => whnf); (fail_if_success (show False))) | (refine WO.off rfl rfl rfl rfl ?_; refine WD.auto ?_; (conv => whnf)))
          | ((with_reducible refine WO.at 1 ?_); first | (refine WO.auto rfl rfl ?_; (conv => whnf); (fail_if_success (show False))) | (refine WO.off rfl rfl rfl rfl ?_; refine WD.auto ?_; (conv => whnf)))
          | ((with_reducible refine WO.at 2 ?_); first | ((refine WO.stp rfl (Stp.cal rfl rfl (nodes_spec) pksA rdsA) rfl rfl rfl ?_; rintro _ _ ⟨_, ⟨g29, rfl, rfl⟩, rfl⟩); all_goals (refine WD.auto ?_; (conv => whnf))) | (refine WO.off rfl rfl rfl rfl ?_; refine WD.auto ?_; (conv => whnf)))
          | ((with_reducible refine WO.at 3 ?_); first | (refine WO.auto rfl rfl ?_; (conv => whnf); (fail_if_success (show False))) | (refine WO.off rfl rfl rfl rfl ?_; refine WD.auto ?_; (conv => whnf)))
          | ((with_reducible refine WO.at 4 ?_); first | (refine WO.auto rfl rfl ?_; (conv => whnf); (fail_if_success (show False))) | (refine WO.off rfl rfl rfl rfl ?_; refine WD.auto ?_; (conv => whnf)))
          | ((with_reducible refine WD.at 5 ?_); first | (refine WD.ev rfl (Ev.indexRec rfl rfl rdA (by omega) (by rfl)) rfl rfl rfl ?_; all_goals (refine WD.auto ?_; (conv => whnf))))
          | ((with_reducible refine WO.at 5 ?_); first | (refine WO.ev rfl (Ev.indexRec rfl rfl rdA (by omega) (by rfl)) rfl rfl rfl ?_; all_goals (refine WD.auto ?_; (conv => whnf))) | (refine WO.off rfl rfl rfl rfl ?_; refine WD.auto ?_; (conv => whnf)))
          | ((with_reducible refine WO.at 6 ?_); first | (refine WO.auto rfl rfl ?_; (conv => whnf); (fail_if_success (show False))) | (refine WO.off rfl rfl rfl rfl ?_; refine WD.auto ?_; (conv => whnf)))
          | ((with_reducible refine WD.at 7 ?_); first | (refine WD.ev rfl (Ev.loadRecF rfl rfl rdA (by exact fun _ => rfl) (by omega) (by rfl) (by rfl)) rfl rfl rfl ?_; all_goals (refine WD.auto ?_; (conv => whnf))))
          | ((with_reducible refine WO.at 7 ?_); first | (refine WO.ev rfl (Ev.loadRecF rfl rfl rdA (by exact fun _ => rfl) (by omega) (by rfl) (by rfl)) rfl rfl rfl ?_; all_goals (refine WD.auto ?_; (conv => whnf))) | (refine WO.off rfl rfl rfl rfl ?_; refine WD.auto ?_; (conv => whnf)))
          | ((with_reducible refine WO.at 8 ?_); first | ((first | (refine WO.stp rfl (Stp.cal rfl rfl (BringN_spec _ _ ⟨by omega, by omega⟩) pksA rdsA) rfl rfl rfl ?_; rintro _ _ ⟨_, ⟨w35, rfl, hm35, hw35, rfl⟩, rfl⟩) | (refine WO.stp rfl (Stp.cal rfl rfl (Bring_spec _ _ ⟨by omega, by omega⟩) pksA rdsA) rfl rfl rfl ?_; rintro _ _ ⟨_, ⟨⟨m35, rfl, hm35, hl35, hu35⟩, rfl⟩, rfl⟩)); all_goals (refine WD.auto ?_; (conv => whnf))) | (refine WO.off rfl rfl rfl rfl ?_; refine WD.auto ?_; (conv => whnf)))
          | ((with_reducible refine WD.at 9 ?_); first | (refine WD.ev rfl (Ev.indexAddrN rfl rfl rdA (by omega)) rfl rfl rfl ?_; all_goals (refine WD.auto ?_; (conv => whnf))) | (refine WD.ev rfl (Ev.indexAddr1 rfl rfl rdA (by omega)) rfl rfl rfl ?_; all_goals (refine WD.auto ?_; (conv => whnf))))
          | ((with_reducible refine WO.at 9 ?_); first | (refine WO.ev rfl (Ev.indexAddrN rfl rfl rdA (by omega)) rfl rfl rfl ?_; all_goals (refine WD.auto ?_; (conv => whnf))) | (refine WO.ev rfl (Ev.indexAddr1 rfl rfl rdA (by omega)) rfl rfl rfl ?_; all_goals (refine WD.auto ?_; (conv => whnf))) | (refine WO.off rfl rfl rfl rfl ?_; refine WD.auto ?_; (conv => whnf)))
          | ((with_reducible refine WD.at 10 ?_); first | (refine WD.ev rfl (Ev.loadI rfl rdA (by first | omega | (simp only [List.length_drop, List.length_take, List.length_append, List.length_replicate, List.length_set, List.length_cons, List.length_nil, Nat.min_def]; omega) | (simp; omega))) rfl rfl rfl ?_; all_goals (refine WD.auto ?_; (conv => whnf))) | (refine WD.ev rfl (Ev.loadRec0 rfl rfl rdA (by exact fun _ => rfl) (by omega) (by rfl)) rfl rfl rfl ?_; all_goals (refine WD.auto ?_; (conv => whnf))))
          | ((with_reducible refine WO.at 10 ?_); first | (refine WO.ev rfl (Ev.loadI rfl rdA (by first | omega | (simp only [List.length_drop, List.length_take, List.length_append, List.length_replicate, List.length_set, List.length_cons, List.length_nil, Nat.min_def]; omega) | (simp; omega))) rfl rfl rfl ?_; all_goals (refine WD.auto ?_; (conv => whnf))) | (refine WO.ev rfl (Ev.loadRec0 rfl rfl rdA (by exact fun _ => rfl) (by omega) (by rfl)) rfl rfl rfl ?_; all_goals (refine WD.auto ?_; (conv => whnf))) | (refine WO.off rfl rfl rfl rfl ?_; refine WD.auto ?_; (conv => whnf)))
          | ((with_reducible refine WO.at 11 ?_); first | (refine WO.auto rfl rfl ?_; (conv => whnf); (fail_if_success (show False))) | (refine WO.off rfl rfl rfl rfl ?_; refine WD.auto ?_; (conv => whnf)))
          | ((with_reducible refine WO.at 12 ?_); first | (refine WO.auto rfl rfl ?_; (conv => whnf); (fail_if_success (show False))) | (refine WO.off rfl rfl rfl rfl ?_; refine WD.auto ?_; (conv => whnf)))
          | ((with_reducible refine WD.at 13 ?_); first | (refine WD.ev rfl (Ev.indexRec rfl rfl rdA (by omega) (by rfl)) rfl rfl rfl ?_; all_goals (refine WD.auto ?_; (conv => whnf))))
          | ((with_reducible refine WO.at 13 ?_); first | (refine WO.ev rfl (Ev.indexRec rfl rfl rdA (by omega) (by rfl)) rfl rfl rfl ?_; all_goals (refine WD.auto ?_; (conv => whnf))) | (refine WO.off rfl rfl rfl rfl ?_; refine WD.auto ?_; (conv => whnf)))
          | ((with_reducible refine WO.at 14 ?_); first | (refine WO.auto rfl rfl ?_; (conv => whnf); (fail_if_success (show False))) | (refine WO.off rfl rfl rfl rfl ?_; refine WD.auto ?_; (conv => whnf)))
          | ((with_reducible refine WD.at 15 ?_); first | (refine WD.ev rfl (Ev.loadRecF rfl rfl rdA (by exact fun _ => rfl) (by omega) (by rfl) (by rfl)) rfl rfl rfl ?_; all_goals (refine WD.auto ?_; (conv => whnf))))
          | ((with_reducible refine WO.at 15 ?_); first | (refine WO.ev rfl (Ev.loadRecF rfl rfl rdA (by exact fun _ => rfl) (by omega) (by rfl) (by rfl)) rfl rfl rfl ?_; all_goals (refine WD.auto ?_; (conv => whnf))) | (refine WO.off rfl rfl rfl rfl ?_; refine WD.auto ?_; (conv => whnf)))
          | ((with_reducible refine WO.at 16 ?_); first | ((first | (refine WO.stp rfl (Stp.cal rfl rfl (BringN_spec _ _ ⟨by omega, by omega⟩) pksA rdsA) rfl rfl rfl ?_; rintro _ _ ⟨_, ⟨w43, rfl, hm43, hw43, rfl⟩, rfl⟩) | (refine WO.stp rfl (Stp.cal rfl rfl (Bring_spec _ _ ⟨by omega, by omega⟩) pksA rdsA) rfl rfl rfl ?_; rintro _ _ ⟨_, ⟨⟨m43, rfl, hm43, hl43, hu43⟩, rfl⟩, rfl⟩)); all_goals (refine WD.auto ?_; (conv => whnf))) | (refine WO.off rfl rfl rfl rfl ?_; refine WD.auto ?_; (conv => whnf)))
          | ((with_reducible refine WO.at 17 ?_); first | (refine WO.auto rfl rfl ?_; (conv => whnf); (fail_if_success (show False))) | (refine WO.off rfl rfl rfl rfl ?_; refine WD.auto ?_; (conv => whnf)))
          | ((with_reducible refine WO.at 18 ?_); first | (refine WO.auto rfl rfl ?_; (conv => whnf); (fail_if_success (show False))) | (refine WO.off rfl rfl rfl rfl ?_; refine WD.auto ?_; (conv => whnf)))
          | ((with_reducible refine WO.at 19 ?_); first | (refine WO.auto rfl rfl ?_; (conv => whnf); (fail_if_success (show False))) | (refine WO.off rfl rfl rfl rfl ?_; refine WD.auto ?_; (conv => whnf)))
          | ((with_reducible refine WD.at 20 ?_); first | (refine WD.ev rfl (Ev.indexRec rfl rfl rdA (by omega) (by rfl)) rfl rfl rfl ?_; all_goals (refine WD.auto ?_; (conv => whnf))))
          | ((with_reducible refine WO.at 20 ?_); first | (refine WO.ev rfl (Ev.indexRec rfl rfl rdA (by omega) (by rfl)) rfl rfl rfl ?_; all_goals (refine WD.auto ?_; (conv => whnf))) | (refine WO.off rfl rfl rfl rfl ?_; refine WD.auto ?_; (conv => whnf)))
          | ((with_reducible refine WO.at 21 ?_); first | (refine WO.auto rfl rfl ?_; (conv => whnf); (fail_if_success (show False))) | (refine WO.off rfl rfl rfl rfl ?_; refine WD.auto ?_; (conv => whnf)))
          | ((with_reducible refine WD.at 22 ?_); first | (refine WD.ev rfl (Ev.loadRecF rfl rfl rdA (by exact fun _ => rfl) (by omega) (by rfl) (by rfl)) rfl rfl rfl ?_; all_goals (refine WD.auto ?_; (conv => whnf))))
          | ((with_reducible refine WO.at 22 ?_); first | (refine WO.ev rfl (Ev.loadRecF rfl rfl rdA (by exact fun _ => rfl) (by omega) (by rfl) (by rfl)) rfl rfl rfl ?_; all_goals (refine WD.auto ?_; (conv => whnf))) | (refine WO.off rfl rfl rfl rfl ?_; refine WD.auto ?_; (conv => whnf)))
          | ((with_reducible refine WO.at 23 ?_); first | (refine WO.auto rfl rfl ?_; (conv => whnf); (fail_if_success (show False))) | (refine WO.off rfl rfl rfl rfl ?_; refine WD.auto ?_; (conv => whnf)))
          | ((with_reducible refine WO.at 24 ?_); first | (refine WO.auto rfl rfl ?_; (conv => whnf); (fail_if_success (show False))) | (refine WO.off rfl rfl rfl rfl ?_; refine WD.auto ?_; (conv => whnf)))
          | ((with_reducible refine WD.at 25 ?_); first | (refine WD.ev rfl (Ev.indexRec rfl rfl rdA (by omega) (by rfl)) rfl rfl rfl ?_; all_goals (refine WD.auto ?_; (conv => whnf))))
          | ((with_reducible refine WO.at 25 ?_); first | (refine WO.ev rfl (Ev.indexRec rfl rfl rdA (by omega) (by rfl)) rfl rfl rfl ?_; all_goals (refine WD.auto ?_; (conv => whnf))) | (refine WO.off rfl rfl rfl rfl ?_; refine WD.auto ?_; (conv => whnf)))
          | ((with_reducible refine WO.at 26 ?_); first | (refine WO.auto rfl rfl ?_; (conv => whnf); (fail_if_success (show False))) | (refine WO.off rfl rfl rfl rfl ?_; refine WD.auto ?_; (conv => whnf)))
          | ((with_reducible refine WD.at 27 ?_); first | (refine WD.ev rfl (Ev.loadRecF rfl rfl rdA (by exact fun _ => rfl) (by omega) (by rfl) (by rfl)) rfl rfl rfl ?_; all_goals (refine WD.auto ?_; (conv => whnf))))
          | ((with_reducible refine WO.at 27 ?_); first | (refine WO.ev rfl (Ev.loadRecF rfl rfl rdA (by exact fun _ => rfl) (by omega) (by rfl) (by rfl)) rfl rfl rfl ?_; all_goals (refine WD.auto ?_; (conv => whnf))) | (refine WO.off rfl rfl rfl rfl ?_; refine WD.auto ?_; (conv => whnf)))
          | ((with_reducible refine WO.at 28 ?_); first | (refine WO.auto rfl rfl ?_; (conv => whnf); (fail_if_success (show False))) | (refine WO.off rfl rfl rfl rfl ?_; refine WD.auto ?_; (conv => whnf)))
          | ((with_reducible refine WO.at 29 ?_); first | (refine WO.auto rfl rfl ?_; (conv => whnf); (fail_if_success (show False))) | (refine WO.off rfl rfl rfl rfl ?_; refine WD.auto ?_; (conv => whnf)))
          | ((with_reducible refine WO.at 30 ?_); first | (refine WO.auto rfl rfl ?_; (conv => whnf); (fail_if_success (show False))) | (refine WO.off rfl rfl rfl rfl ?_; refine WD.auto ?_; (conv => whnf)))
          | ((with_reducible refine WO.at 31 ?_); first | (refine WO.auto rfl rfl ?_; (conv => whnf); (fail_if_success (show False))) | (refine WO.off rfl rfl rfl rfl ?_; refine WD.auto ?_; (conv => whnf)))
          | ((with_reducible refine WO.at 32 ?_); first | ((refine WO.stp rfl (Stp.buildOne rfl (by rfl) ⟨by decide, by decide⟩ (by rfl)) rfl rfl rfl ?_; rintro _ _ ⟨g59, rfl, rfl⟩); all_goals (refine WD.auto ?_; (conv => whnf))) | (refine WO.off rfl rfl rfl rfl ?_; refine WD.auto ?_; (conv => whnf)))
          | ((with_reducible refine WO.at 33 ?_); first | ((refine WO.stp rfl (Stp.append rfl rfl pkA rdA (by exact (by intro v hv; (repeat' (first | rfl | (cases hv; done) | (rcases List.mem_cons.1 hv with rfl | hv))))) (by rfl) (by omega) (by omega) (by omega)) rfl rfl rfl ?_; rintro _ _ ⟨A2_60, c2_60, rfl, rfl⟩); all_goals (refine WD.auto ?_; (conv => whnf))) | ((refine WO.stp rfl (Stp.nil (Stp.append rfl rfl (by exact Pick.here) rdA (by exact (by intro v hv; (repeat' (first | rfl | (cases hv; done) | (rcases List.mem_cons.1 hv with rfl | hv))))) (by rfl) (by omega) (by omega) (by omega))) rfl rfl rfl ?_; rintro _ _ ⟨A2_60, c2_60, rfl, rfl⟩); all_goals (refine WD.auto ?_; (conv => whnf))) | (refine WO.off rfl rfl rfl rfl ?_; refine WD.auto ?_; (conv => whnf)))
          | ((with_reducible refine WO.at 34 ?_); first | (refine WO.auto rfl rfl ?_; (conv => whnf); (fail_if_success (show False))) | (refine WO.off rfl rfl rfl rfl ?_; refine WD.auto ?_; (conv => whnf)))
          | (with_reducible refine WD.one ?_)
          | (with_reducible refine WD.two ?_ ?_)
          | (with_reducible refine WD.three ?_ ?_ ?_)
          | ((with_reducible refine WC.atC (c := .loop (.seq (.seq (.region 4 _ _) _) _)) ?_); refine WC.loopL2 (X := Nat) (Y := (Option Addr × Nat)) (0) ((none, 0)) (fun k p => k ≤ min ss.length most ∧ 0 ≤ stepS ss k ∧ stepS ss k ≤ 2 * k) (fun k p => [(5, .slice p.1 k p.2), (6, .int .i64 (stepS ss k)), (7, .int .i64 (k : Int))]) (fun k p => [rowC p.1 p.2 37 4 k (recs RH.cells (madeL ss k))]) (fun k p => ss.length - k) [0, 1] (⟨by omega, stepS_le ss 0⟩) ?_; (conv => whnf); refine LoopQ2.mk (by ((repeat (first | exact trivial | refine And.intro rfl ?_)); fail_if_success (focus skip))) (⟨_, pksA⟩) ?_; rintro k p hj; refine WC.auto ?_; (conv => whnf))
          | (refine ⟨k + 1, (A2_60, c2_60), ?_, by ((repeat (first | exact trivial | refine And.intro rfl ?_)); fail_if_success (focus skip)), (by (with_reducible refine chLeI ?_); exact ⟨_, pksA⟩), by omega⟩)
          | refine Exists.intro _ (And.intro (resv_rfl rfl) ?_))
  all_goals first
    | (have hS : stepS ss k + (w25 : Int) = stepS ss (k + 1) := (by rw [hm25]; rfl)
       rw [mkR_cells hm25 hm35 hm43 hm, hS]
       have := stepS_le ss (k + 1)
       refine ⟨k + 1, (A2_60, c2_60), ⟨by omega, stepS_le ss (k + 1)⟩, by ((repeat (first | exact trivial | refine And.intro rfl ?_)); fail_if_success (focus skip)), (by (with_reducible refine chLeI ?_); exact ⟨_, pksA⟩), by omega⟩)
    | (have e : k = min ss.length most := (by omega)
       exact ⟨_, ⟨p.1, p.2, by rw [← e]; rfl, rfl⟩, by rw [← e]; exact ChLe.refl _⟩)
    | skip
end Go.SX
