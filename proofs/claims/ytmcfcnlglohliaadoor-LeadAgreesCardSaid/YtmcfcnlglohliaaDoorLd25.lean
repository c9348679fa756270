/- LeadAgrees: the walk. -/
import Derived.Test.YtmcfcnlglohliaaDoorLd18
import Derived.Test.YtmcfcnlglohliaaDoorLd19
import Derived.Test.YtmcfcnlglohliaaDoorLd20
import Derived.Test.YtmcfcnlglohliaaDoorLd22
import Derived.Test.YtmcfcnlglohliaaDoorLd23
import Derived.Test.YtmcfcnlglohliaaDoorLd24
namespace Go.SX
open Go Go.RowKit Go.Proofs
set_option linter.unusedVariables false
set_option linter.unusedSimpArgs false
set_option maxHeartbeats 4000000
abbrev councilX (g : Nat) (a : CA) (st : CS) : List Chunk :=
  [cellsC g 72 [.pointer (some ⟨a.g0, 0, none⟩), .pointer (some ⟨a.g1, 0, none⟩), .pointer (some ⟨a.g2, 0, none⟩),
    .int .i64 (st.v 0).pm, .int .i64 (st.v 0).v.b, .int .i64 (st.v 0).v.c.num, .int .i64 (st.v 0).v.c.full, .slice a.A0 (st.v 0).v.c.xs.length a.c0,
    .int .i64 (st.v 1).pm, .int .i64 (st.v 1).v.b, .int .i64 (st.v 1).v.c.num, .int .i64 (st.v 1).v.c.full, .slice a.A1 (st.v 1).v.c.xs.length a.c1,
    .int .i64 (st.v 2).pm, .int .i64 (st.v 2).v.b, .int .i64 (st.v 2).v.c.num, .int .i64 (st.v 2).v.c.full, .slice a.A2 (st.v 2).v.c.xs.length a.c2,
    .int .i64 st.ch],
   leadC a.g0 a.a0 (st.s 0), leadC a.g1 a.a1 (st.s 1), leadC a.g2 a.a2 (st.s 2), vtC (st.v 0) a.A0 a.c0, vtC (st.v 1) a.A1 a.c1, vtC (st.v 2) a.A2 a.c2]
abbrev AskX (g : Nat) (val : Val) (N : Int) (who : Nat) (st : CS) (v : Value) (l' : List Chunk) : Prop := ∃ (ca : CA) (st' : CS) (acc : Acc), v = .bool true ∧ Inv acc val (N + 3) st' ∧ st'.ch = st.ch ∧ ((st'.s who).p = 2 → st.ch ≠ 0 → ∃ n, (st'.s who).bs = [⟨n, ⟨1, 1, [st.ch]⟩⟩]) ∧ l' = councilX g ca st'
abbrev PropX (g : Nat) (N : Int) (v : Value) (l' : List Chunk) : Prop := ∃ (ca : CA) (st' : CS) (acc : Acc) (val : Val), v = .bool true ∧ Inv acc val N st' ∧ l' = councilX g ca st'
theorem asks_spec (who whom : Nat) (hw : who < 3) (hm : whom < 3) (g : Nat) (ca : CA) (st : CS) (acc : Acc) (val : Val) (N : Int) (h : Inv acc val N st) (hN : N ≤ 900000) (tb : List UInt8) (htb : tb.length = 64) :
    Spec Tryd.prog 27 [.pointer (some ⟨g, 0, none⟩), .int .i64 who, .int .i64 whom] (councilL g ca st) [tzC tb] (AskPost g val N who st) := by
  have e1 : who = 0 ∨ who = 1 ∨ who = 2 := by omega
  have e2 : whom = 0 ∨ whom = 1 ∨ whom = 2 := by omega
  rcases e1 with rfl | rfl | rfl <;> rcases e2 with rfl | rfl | rfl
  · exact asks_00 g ca st acc val N h hN tb htb
  · exact asks_01 g ca st acc val N h hN tb htb
  · exact asks_02 g ca st acc val N h hN tb htb
  · exact asks_10 g ca st acc val N h hN tb htb
  · exact asks_11 g ca st acc val N h hN tb htb
  · exact asks_12 g ca st acc val N h hN tb htb
  · exact asks_20 g ca st acc val N h hN tb htb
  · exact asks_21 g ca st acc val N h hN tb htb
  · exact asks_22 g ca st acc val N h hN tb htb
theorem props_spec (who whom : Nat) (hw : who < 3) (hm : whom < 3) (g : Nat) (ca : CA) (st : CS) (acc : Acc) (val : Val) (N : Int) (h : Inv acc val N st) (hN : N ≤ 900000) :
    Spec Tryd.prog 28 [.pointer (some ⟨g, 0, none⟩), .int .i64 who, .int .i64 whom] (councilL g ca st) [] (PropPost g N) := by
  have e1 : who = 0 ∨ who = 1 ∨ who = 2 := by omega
  have e2 : whom = 0 ∨ whom = 1 ∨ whom = 2 := by omega
  rcases e1 with rfl | rfl | rfl <;> rcases e2 with rfl | rfl | rfl
  · exact props_00 g ca st acc val N h hN
  · exact props_01 g ca st acc val N h hN
  · exact props_02 g ca st acc val N h hN
  · exact props_10 g ca st acc val N h hN
  · exact props_11 g ca st acc val N h hN
  · exact props_12 g ca st acc val N h hN
  · exact props_20 g ca st acc val N h hN
  · exact props_21 g ca st acc val N h hN
  · exact props_22 g ca st acc val N h hN
theorem asksX (who whom : Nat) (hw : who < 3) (hm : whom < 3) (g : Nat) (ca : CA) (st : CS) (acc : Acc) (val : Val) (N : Int) (h : Inv acc val N st) (hN : N ≤ 900000) (tb : List UInt8) (htb : tb.length = 64) :
    Spec Tryd.prog 27 [.pointer (some ⟨g, 0, none⟩), .int .i64 who, .int .i64 whom] (councilX g ca st) [tzC tb] (AskX g val N who st) :=
  (asks_spec who whom hw hm g ca st acc val N h hN tb htb).mono fun v l' ⟨ca', st', acc', h1, h2, h3, h4, h5⟩ => ⟨ca', st', acc', h1, h3, h4, h5, h2⟩
theorem propsX (who whom : Nat) (hw : who < 3) (hm : whom < 3) (g : Nat) (ca : CA) (st : CS) (acc : Acc) (val : Val) (N : Int) (h : Inv acc val N st) (hN : N ≤ 900000) :
    Spec Tryd.prog 28 [.pointer (some ⟨g, 0, none⟩), .int .i64 who, .int .i64 whom] (councilX g ca st) [] (PropX g N) :=
  (props_spec who whom hw hm g ca st acc val N h hN).mono fun v l' ⟨ca', st', acc', val', h1, h2, h3⟩ => ⟨ca', st', acc', val', h1, h3, h2⟩
theorem Bound_o (g : Nat) (a : LA) (s : LM) (num : Int) (o : Option CF) (ho : ldBound s num = o) (h : LdOK s) : Spec Tryd.prog 14 [.pointer (some ⟨g, 0, none⟩), .int .i64 num] [] [leadC g a s]
    (fun v l' => ∃ A k, v = .tuple #[cfV (o.getD cf0) A k, .bool o.isSome] ∧ l' = [cfC (o.getD cf0) A k]) := by subst ho; exact Bound_spec g a s num h
theorem Inv.mono {acc : Acc} {val : Val} {N N' : Int} {st : CS} (h : Inv acc val N st) (hN : N ≤ N') : Inv acc val N' st :=
  ⟨fun i hi => (h.l i hi).ext (Ext.refl _ _ _) hN fun h _ => h, fun i hi => (h.v i hi).ext (fun _ => Iff.rfl) (fun _ _ h => h) hN, h.a, h.w, h.ch⟩
structure R3 where
  x : Int
  y : Int
  z : Int
theorem bound_of {s : LM} {n v : Int} (h : s.bs = [⟨n, ⟨1, 1, [v]⟩⟩]) : ldBound s 1 = some ⟨1, 1, [v]⟩ := by unfold ldBound bfind; rw [h]; rfl
theorem Bound_y (g : Nat) (a : LA) (s : LM) (num v : Int) (ho : ldBound s num = some ⟨1, 1, [v]⟩) (h : LdOK s) : Spec Tryd.prog 14 [.pointer (some ⟨g, 0, none⟩), .int .i64 num] [] [leadC g a s]
    (fun r l' => ∃ A k, r = .tuple #[.agg #[.int .i64 1, .int .i64 1, .slice A 1 k], .bool true] ∧ l' = [iO A k 3 1 [v]]) := Bound_o g a s num _ ho h
theorem bound_case {s : LM} {ch : Int} (h : s.p = 2 → ch ≠ 0 → ∃ n, s.bs = [⟨n, ⟨1, 1, [ch]⟩⟩]) : ∃ o, ldBound s 1 = o ∧ ((s.p = 2 ∧ ch ≠ 0 ∧ o = some ⟨1, 1, [ch]⟩) ∨ ¬ (s.p = 2 ∧ ch ≠ 0)) := by
  by_cases hc : s.p = 2 ∧ ch ≠ 0
  · obtain ⟨n, hn⟩ := h hc.1 hc.2
    exact ⟨_, rfl, .inl ⟨hc.1, hc.2, bound_of hn⟩⟩
  · exact ⟨_, rfl, .inr hc⟩
theorem LeadAgrees_law (A : Option Addr) (c : Nat) (ps : List P3) (hl : ps.length ≤ 9223372036854775807) (tb : List UInt8) (htb : tb.length = 64) :
    Spec Tryd.prog 7 [.slice A ps.length c] [] [sliceC A c 3 ps.length (recs P3.cells ps), tzC tb] (fun v l' => v = .bool true ∧ l' = []) := by
  refine Spec.intro Tryd.func7 rfl rfl Tryd.ntmps7 rfl fun w0 => ?_
  /- loops of sealchain/sealchainlaw16.LeadAgrees: 5 live [0, 3] vary [4]; 12 live [0, 3] vary [7] -/
  (all_goals (refine WC.auto ?_; (conv => whnf))); repeat' (first
          | ((with_reducible refine WB.auto ?_); (conv => whnf))
          | ((with_reducible refine WCB.auto ?_); (conv => whnf))
          | ((with_reducible refine WDB.auto ?_); (conv => whnf))
          | ((with_reducible refine Ob.at ?_); first | (refine Ob.mk (by first | omega | exact u8_bound _ | (have := u8_bound; omega) | (simp only [List.length_drop, List.length_take, List.length_append, List.length_replicate, List.length_set, List.length_cons, List.length_nil, Nat.min_def]; omega)) ?_; (conv => whnf)) | (refine Ob.mk' ?_ ?_; (conv => whnf)))
          | (refine spl_mk (fun hc => ?_) (fun hc => ?_) <;> (try simp only [Bool.not_eq_false', and_self, and_true, true_and, not_true, Bool.not_eq_true', Bool.not_false, Bool.not_true, decide_eq_true_eq, decide_eq_false_iff_not, Bool.false_eq_true, reduceCtorEq, Bool.true_eq_false, ne_eq, Decidable.not_not, Int.not_lt, Int.not_le, beq_self_eq_true, eq_self, not_true_eq_false, not_false_eq_true, Bool.not_eq_eq_eq_not, Bool.not_eq_true, Bool.not_eq_false, beq_iff_eq, beq_eq_false_iff_ne] at hc) <;> (try (exfalso; omega)) <;> (conv => whnf))
          | ((with_reducible refine NatK.at ?_); first | ((with_reducible refine NatK.cast ?_); (conv => whnf)) | (refine NatK.lit 0 rfl ?_; (conv => whnf)) | (refine NatK.lit 1 rfl ?_; (conv => whnf)) | (refine NatK.lit 2 rfl ?_; (conv => whnf)) | (refine NatK.sym (by first | omega | exact u8_bound _ | (have := u8_bound; omega) | (simp only [List.length_drop, List.length_take, List.length_append, List.length_replicate, List.length_set, List.length_cons, List.length_nil, Nat.min_def]; omega)) (fun m hm => ?_); (conv => whnf)))
          | (intro q hq; (conv => whnf))
          | ((with_reducible refine WC.atR 14 ?_); refine WC.draw (id := 14) (ls := _) (.fl 0 (.fl 1 (.fl 2 (.fl 3 (.fl 4 (.fl 6 (.fl 7 (.fl 8 (.fl 9 (.fl 10 (.one 5 (.one 11 (.fl 12 (.fl 13 .nil)))))))))))))) (by kernel_rfl) (by kernel_rfl) (Picks.refl _) ?_; refine WD.auto ?_; (conv => whnf))
          | ((with_reducible refine W.at 13 ?_); first | ((refine W.stp (Stp.cal rfl rfl (works_spec _ (by assumption)) pksA rdsA) rfl rfl rfl ?_; rintro _ _ ⟨_, ⟨rfl, rfl⟩, rfl⟩); all_goals ((refine W.auto ?_); (conv => whnf))))
          | ((with_reducible refine W.at 16 ?_); first | ((refine W.stp (Stp.boxA rfl) rfl rfl rfl ?_; rintro _ _ ⟨g16, rfl, rfl⟩); all_goals ((refine W.auto ?_); (conv => whnf))))
          | ((with_reducible refine W.at 23 ?_); first | ((refine W.stp (Stp.cal rfl rfl (New_ok _ (by decide)) pksA rdsA) rfl rfl rfl ?_; rintro _ _ ⟨_, ⟨g23, a23, rfl, rfl⟩, rfl⟩); all_goals ((refine W.auto ?_); (conv => whnf))))
          | ((with_reducible refine W.atS 33 ?_); first | (refine stW1 rfl rfl rfl pkA ?_; (conv => whnf)))
          | ((with_reducible refine WO.at 0 ?_); first | (refine WO.auto rfl rfl ?_; (conv => whnf); (fail_if_success (show False))) | (refine WO.off rfl rfl rfl rfl ?_; refine WD.auto ?_; (conv => whnf)))
          | ((with_reducible refine WO.at 1 ?_); first | (refine WO.auto rfl rfl ?_; (conv => whnf); (fail_if_success (show False))) | (refine WO.off rfl rfl rfl rfl ?_; refine WD.auto ?_; (conv => whnf)))
          | ((with_reducible refine WD.at 2 ?_); first | (refine WD.ev rfl (Ev.indexRec rfl rfl rdA (by omega) (by rfl)) rfl rfl rfl ?_; all_goals (refine WD.auto ?_; (conv => whnf))))
          | ((with_reducible refine WO.at 2 ?_); first | (refine WO.ev rfl (Ev.indexRec rfl rfl rdA (by omega) (by rfl)) rfl rfl rfl ?_; all_goals (refine WD.auto ?_; (conv => whnf))) | (refine WO.off rfl rfl rfl rfl ?_; refine WD.auto ?_; (conv => whnf)))
          | ((with_reducible refine WO.at 3 ?_); first | (refine WO.auto rfl rfl ?_; (conv => whnf); (fail_if_success (show False))) | (refine WO.off rfl rfl rfl rfl ?_; refine WD.auto ?_; (conv => whnf)))
          | ((with_reducible refine WD.at 4 ?_); first | (refine WD.ev rfl (Ev.loadRecF rfl rfl rdA (by exact fun _ => rfl) (by omega) (by rfl) (by rfl)) rfl rfl rfl ?_; all_goals (refine WD.auto ?_; (conv => whnf))))
          | ((with_reducible refine WO.at 4 ?_); first | (refine WO.ev rfl (Ev.loadRecF rfl rfl rdA (by exact fun _ => rfl) (by omega) (by rfl) (by rfl)) rfl rfl rfl ?_; all_goals (refine WD.auto ?_; (conv => whnf))) | (refine WO.off rfl rfl rfl rfl ?_; refine WD.auto ?_; (conv => whnf)))
          | ((with_reducible refine WO.at 5 ?_); first | ((first | (refine WO.stp rfl (Stp.cal rfl rfl (Bring_spec _ _ ⟨by omega, by omega⟩) pksA rdsA) rfl rfl rfl ?_; rintro _ _ ⟨_, ⟨w49, rfl, hm49, hw49, rfl⟩, rfl⟩; (try (obtain rfl | rfl | rfl : w49 = 0 ∨ w49 = 1 ∨ w49 = 2 := by omega))) | (refine WO.stp rfl (Stp.cal rfl rfl (Bring_spec _ _ ⟨by omega, by omega⟩) pksA rdsA) rfl rfl rfl ?_; rintro _ _ ⟨_, ⟨w49, rfl, hm49, hw49, rfl⟩, rfl⟩)); all_goals (refine WD.auto ?_; (conv => whnf))) | (refine WO.off rfl rfl rfl rfl ?_; refine WD.auto ?_; (conv => whnf)))
          | ((with_reducible refine WO.at 6 ?_); first | (refine WO.auto rfl rfl ?_; (conv => whnf); (fail_if_success (show False))) | (refine WO.off rfl rfl rfl rfl ?_; refine WD.auto ?_; (conv => whnf)))
          | ((with_reducible refine WO.at 7 ?_); first | (refine WO.auto rfl rfl ?_; (conv => whnf); (fail_if_success (show False))) | (refine WO.off rfl rfl rfl rfl ?_; refine WD.auto ?_; (conv => whnf)))
          | ((with_reducible refine WD.at 8 ?_); first | (refine WD.ev rfl (Ev.indexRec rfl rfl rdA (by omega) (by rfl)) rfl rfl rfl ?_; all_goals (refine WD.auto ?_; (conv => whnf))))
          | ((with_reducible refine WO.at 8 ?_); first | (refine WO.ev rfl (Ev.indexRec rfl rfl rdA (by omega) (by rfl)) rfl rfl rfl ?_; all_goals (refine WD.auto ?_; (conv => whnf))) | (refine WO.off rfl rfl rfl rfl ?_; refine WD.auto ?_; (conv => whnf)))
          | ((with_reducible refine WO.at 9 ?_); first | (refine WO.auto rfl rfl ?_; (conv => whnf); (fail_if_success (show False))) | (refine WO.off rfl rfl rfl rfl ?_; refine WD.auto ?_; (conv => whnf)))
          | ((with_reducible refine WD.at 10 ?_); first | (refine WD.ev rfl (Ev.loadRecF rfl rfl rdA (by exact fun _ => rfl) (by omega) (by rfl) (by rfl)) rfl rfl rfl ?_; all_goals (refine WD.auto ?_; (conv => whnf))))
          | ((with_reducible refine WO.at 10 ?_); first | (refine WO.ev rfl (Ev.loadRecF rfl rfl rdA (by exact fun _ => rfl) (by omega) (by rfl) (by rfl)) rfl rfl rfl ?_; all_goals (refine WD.auto ?_; (conv => whnf))) | (refine WO.off rfl rfl rfl rfl ?_; refine WD.auto ?_; (conv => whnf)))
          | ((with_reducible refine WO.at 11 ?_); first | ((first | (refine WO.stp rfl (Stp.cal rfl rfl (Bring_spec _ _ ⟨by omega, by omega⟩) pksA rdsA) rfl rfl rfl ?_; rintro _ _ ⟨_, ⟨w55, rfl, hm55, hw55, rfl⟩, rfl⟩; (try (obtain rfl | rfl | rfl : w49 = 0 ∨ w49 = 1 ∨ w49 = 2 := by omega))) | (refine WO.stp rfl (Stp.cal rfl rfl (Bring_spec _ _ ⟨by omega, by omega⟩) pksA rdsA) rfl rfl rfl ?_; rintro _ _ ⟨_, ⟨w55, rfl, hm55, hw55, rfl⟩, rfl⟩)); all_goals (refine WD.auto ?_; (conv => whnf))) | (refine WO.off rfl rfl rfl rfl ?_; refine WD.auto ?_; (conv => whnf)))
          | ((with_reducible refine WO.at 12 ?_); first | (refine WO.auto rfl rfl ?_; (conv => whnf); (fail_if_success (show False))) | (refine WO.off rfl rfl rfl rfl ?_; refine WD.auto ?_; (conv => whnf)))
          | ((with_reducible refine WO.at 13 ?_); first | (refine WO.auto rfl rfl ?_; (conv => whnf); (fail_if_success (show False))) | (refine WO.off rfl rfl rfl rfl ?_; refine WD.auto ?_; (conv => whnf)))
          | ((with_reducible refine W.at 59 ?_); first | (refine W.ev (Ev.load rfl rfl rdA rfl) rfl rfl rfl ?_; all_goals ((refine W.auto ?_); (conv => whnf))) | (refine W.ev (Ev.loadI rfl rdA (by first | omega | (simp only [List.length_drop, List.length_take, List.length_append, List.length_replicate, List.length_set, List.length_cons, List.length_nil, Nat.min_def]; omega) | (simp; omega))) rfl rfl rfl ?_; all_goals ((refine W.auto ?_); (conv => whnf))))
          | ((with_reducible refine W.at 62 ?_); first | (refine W.ev (Ev.indexRec rfl rfl rdA (by omega) (by rfl)) rfl rfl rfl ?_; all_goals ((refine W.auto ?_); (conv => whnf))))
          | ((with_reducible refine W.at 64 ?_); first | (refine W.ev (Ev.loadRecF rfl rfl rdA (by exact fun _ => rfl) (by omega) (by rfl) (by rfl)) rfl rfl rfl ?_; all_goals ((refine W.auto ?_); (conv => whnf))))
          | ((with_reducible refine W.at 65 ?_); first | ((first | (refine W.stp (Stp.cal rfl rfl (Bring_spec _ _ ⟨by omega, by omega⟩) pksA rdsA) rfl rfl rfl ?_; rintro _ _ ⟨_, ⟨w65, rfl, hm65, hw65, rfl⟩, rfl⟩; (try (obtain rfl | rfl | rfl : w49 = 0 ∨ w49 = 1 ∨ w49 = 2 := by omega))) | (refine W.stp (Stp.cal rfl rfl (Bring_spec _ _ ⟨by omega, by omega⟩) pksA rdsA) rfl rfl rfl ?_; rintro _ _ ⟨_, ⟨w65, rfl, hm65, hw65, rfl⟩, rfl⟩)); all_goals ((refine W.auto ?_); (conv => whnf))))
          | ((with_reducible refine W.at 70 ?_); first | ((refine W.stp (Stp.cal rfl rfl (asksX _ w55 (by decide) (by omega) g16 ca st acc val _ hI (by omega) tb htb) pksA rdsA) rfl rfl rfl ?_; rintro _ _ ⟨_, ⟨ca70, st70, acc70, rfl, hI70, hch70, hb70, rfl⟩, rfl⟩; all_goals (obtain ⟨o70, ho70, (⟨hp70, hq70, rfl⟩ | hn70)⟩ := bound_case hb70)); all_goals ((refine W.auto ?_); (conv => whnf))))
          | ((with_reducible refine W.at 78 ?_); first | (refine W.ev (Ev.load rfl rfl rdA rfl) rfl rfl rfl ?_; all_goals ((refine W.auto ?_); (conv => whnf))))
          | ((with_reducible refine W.at 79 ?_); first | ((first | (first | (refine W.stp (Stp.cal rfl rfl (Bound_y _ _ _ 1 st.ch ho70 (hI70.ok (by omega) (by decide))) pksA rdsA) rfl rfl rfl ?_; rintro _ _ ⟨_, ⟨A79, k79, rfl, rfl⟩, rfl⟩) | (refine W.stp (Stp.cal rfl rfl (Bound_o _ _ _ 1 _ ho70 (hI70.ok (by omega) (by decide))) pksA rdsA) rfl rfl rfl ?_; rintro _ _ ⟨_, ⟨A79, k79, rfl, rfl⟩, rfl⟩)) | (refine W.stp (Stp.cal rfl rfl (Spec.ask fun (hq : _) => Bound_spec _ _ _ _ hq) pksA rdsA) rfl rfl rfl ?_; rintro _ _ ⟨_, ⟨A79, c79, rfl, rfl⟩, rfl⟩)); all_goals ((refine W.auto ?_); (conv => whnf))))
          | ((with_reducible refine W.at 11 ?_); first | ((refine W.stp (Stp.allocA rfl) rfl rfl rfl ?_; rintro _ _ ⟨g11, rfl, rfl⟩); all_goals ((refine W.auto ?_); (conv => whnf))))
          | ((with_reducible refine W.atS 11 ?_); first | (refine stWP rfl rfl (by intro v hv; (repeat' (first | rfl | (cases hv; done) | (rcases List.mem_cons.1 hv with rfl | hv)))) (by rfl) pkA ?_; (conv => whnf)))
          | ((with_reducible refine W.at 90 ?_); first | (refine W.ev (Ev.load rfl rfl rdA rfl) rfl rfl rfl ?_; all_goals ((refine W.auto ?_); (conv => whnf))))
          | ((with_reducible refine W.at 91 ?_); first | ((refine W.stp (Stp.cal rfl rfl (Phase_spec _ _ _) pksA rdsA) rfl rfl rfl ?_; rintro _ _ ⟨_, ⟨rfl, rfl⟩, rfl⟩); all_goals ((refine W.auto ?_); (conv => whnf))))
          | ((with_reducible refine W.at 99 ?_); first | (refine W.ev (Ev.load rfl rfl rdA rfl) rfl rfl rfl ?_; all_goals ((refine W.auto ?_); (conv => whnf))))
          | ((with_reducible refine W.at 100 ?_); first | (refine W.ev (Ev.indexAddrK rfl (by first | exact Int.toNat_zero | exact Int.toNat_one | (simp only [Int.reduceToNat]; rfl)) rdA (by omega)) rfl rfl rfl ?_; all_goals ((refine W.auto ?_); (conv => whnf))))
          | ((with_reducible refine W.at 101 ?_); first | (refine W.ev (Ev.loadI rfl rdA (by first | omega | (simp only [List.length_drop, List.length_take, List.length_append, List.length_replicate, List.length_set, List.length_cons, List.length_nil, Nat.min_def]; omega) | (simp; omega))) rfl rfl rfl ?_; all_goals ((refine W.auto ?_); (conv => whnf))) | (refine W.ev (Ev.loadRec0 rfl rfl rdA (by exact fun _ => rfl) (by omega) (by rfl)) rfl rfl rfl ?_; all_goals ((refine W.auto ?_); (conv => whnf))))
          | ((with_reducible refine W.at 109 ?_); first | ((refine W.stp (Stp.cal rfl rfl (propsX _ w55 (by decide) (by omega) g16 ca st acc val _ hI (by omega)) pksA rdsA) rfl rfl rfl ?_; rintro _ _ ⟨_, ⟨ca109, st109, acc109, val109, rfl, hI109, rfl⟩, rfl⟩); all_goals ((refine W.auto ?_); (conv => whnf))))
          | (with_reducible refine WD.one ?_)
          | (with_reducible refine WD.two ?_ ?_)
          | (with_reducible refine WD.three ?_ ?_ ?_)
          | ((with_reducible refine WC.atC (c := .loop (.seq (.seq (.region 5 _ _) _) _)) ?_); refine WC.loopU ?_; refine WL.step ?_; refine WC.auto ?_; (conv => whnf))
          | ((with_reducible refine WC.atC (c := .loop (.seq (.seq (.region 12 _ _) _) _)) ?_); rename_i gA aA gB aB; refine WC.loopL3 (X := Nat) (Y := CA) (Z := CS) (0) (⟨gA, gB, g23, aA, aB, a23, none, 0, none, 0, none, 0⟩) (cs0) (fun k ca st => k ≤ 80 ∧ ∃ acc val, Inv acc val (3 * (k : Int)) st) (fun k ca st => [(7, .int .i64 (k : Int))]) (fun k ca st => councilX g16 ca st) (fun k ca st => ps.length - k) [0, 3] (⟨by omega, _, _, Inv.zero.mono (by omega)⟩) ?_; (conv => whnf); refine LoopQ3.mk (by ((repeat (first | exact trivial | refine And.intro rfl ?_)); fail_if_success (focus skip))) (⟨_, pksA⟩) ?_; rintro k ca st ⟨hk, acc, val, hI⟩; refine WC.auto ?_; (conv => whnf))
          | (refine ⟨k + 1, ca70, st70, ?_, by ((repeat (first | exact trivial | refine And.intro rfl ?_)); fail_if_success (focus skip)), (by (with_reducible refine chLeI ?_); exact ⟨_, pksA⟩), by omega⟩)
          | (refine ⟨k + 1, ca109, st109, ?_, by ((repeat (first | exact trivial | refine And.intro rfl ?_)); fail_if_success (focus skip)), (by (with_reducible refine chLeI ?_); exact ⟨_, pksA⟩), by omega⟩)
          | (refine WL.step ?_; refine WC.auto ?_; (conv => whnf))
          | refine Exists.intro _ (And.intro (resv_rfl rfl) ?_))
  all_goals first
    | exact ⟨by omega, acc70, val, hI70.mono (by omega)⟩
    | exact ⟨by omega, acc109, val109, hI109.mono (by omega)⟩
    | (exfalso; exact hc rfl)
    | (exfalso; exact hc (by omega))
    | first | exact ⟨_, ⟨rfl, rfl⟩, _, pksA⟩ | skip
    | skip
end Go.SX
