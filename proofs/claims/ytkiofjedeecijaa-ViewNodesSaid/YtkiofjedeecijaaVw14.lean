/- ViewNodes. -/
import Derived.Test.YtkiofjedeecijaaVw13
namespace Go.SX
open Go Go.RowKit Go.Proofs
set_option linter.unusedVariables false
set_option linter.unusedSimpArgs false
set_option maxHeartbeats 4000000
theorem RowsOK.all {hs : List RH} (h : RowsOK hs) : ∀ r ∈ hs.map RH.vr, mayP r ∧ r.node ∈ nodeL := by
  intro r hr
  obtain ⟨x, hx, rfl⟩ := List.mem_map.1 hr
  obtain ⟨k, hk, rfl⟩ := List.mem_iff_getElem.1 hx
  have := h.row k hk
  rw [nth_get hk] at this
  exact ⟨this.1, this.2.1⟩
theorem Many_sum (g : Nat) (a : VA) (rs : List VR) (node : Int) (ha : a.hs.map RH.vr = rs) (hl : rs.length ≤ 60) (hb : ∀ r ∈ rs, r.bs.length ≤ 1000000) (hm : ∀ r ∈ rs, mayP r) :
    Spec Try.prog 11 [.pointer (some ⟨g, 0, none⟩), .int .i64 node] [] [viewC g a] (fun v l' => ∃ x y z : Nat, v = .agg #[.int .i64 x, .int .i64 y, .int .i64 z] ∧ x + y + z = (rs.filter fun r => decide (r.node = node)).length ∧ x + y + z ≤ 60 ∧ l' = []) :=
  (Many_spec g a.A a.c a.hs (by rw [vlen ha]; omega) (fun h hh => hb h.vr (ha ▸ List.mem_map_of_mem hh)) (fun r hr => by have := hm r (ha ▸ hr); exact ⟨this.2.2.2.1, this.2.2.2.2.1⟩) node).mono fun v l' ⟨h1, h2⟩ => by
    have h3 := cnt_all (rs.filter fun r => decide (r.node = node)) (fun r hr => by have := hm r (List.mem_filter.1 hr).1; exact ⟨this.2.2.2.1, this.2.2.2.2.1⟩)
    have h4 := List.length_filter_le (fun r => decide (r.node = node)) rs
    exact ⟨_, _, _, by rw [h1, ha]; rfl, h3, by omega, h2⟩
theorem vflen {hs os : List RH} {p : VR → Bool} (h : os.map RH.vr = (hs.map RH.vr).filter p) : os.length ≤ hs.length := by
  have h1 := congrArg List.length h
  have h2 := List.length_filter_le p (hs.map RH.vr)
  rw [List.length_map] at h1 h2
  omega
theorem Sub.two' {Q : List VA} {i j : Nat} {c : Chunk} (hc : c = RH.own (nth (nth Q i).hs j)) (hi : i < Q.length) (hj : j < (nth Q i).hs.length) : Sub c (starM (fun a : VA => starM RH.own a.hs) Q) := by rw [hc]; exact Sub.two hi hj
theorem Sub.row_two {Q : List VA} {i j : Nat} (hi : i < Q.length) (hj : j < (nth Q i).hs.length) : Sub (bR (nth (nth Q i).hs j).A (nth (nth Q i).hs j).c (nth (nth Q i).hs j).bs.length (nth (nth Q i).hs j).bs) (starM (fun a : VA => starM RH.own a.hs) Q) :=
  Sub.trans Sub.row (Sub.two hi hj)
theorem Sub.row_all {hs : List RH} {k : Nat} (hk : k < hs.length) : Sub (bR (nth hs k).A (nth hs k).c (nth hs k).bs.length (nth hs k).bs) (allC (hs.map RH.rd)) := Sub.allAt' rfl hk
theorem vr_eq {x y : RH} (h : x.vr = y.vr) : x.step = y.step ∧ x.node = y.node ∧ x.kind = y.kind ∧ x.bs = y.bs := by
  unfold RH.vr at h
  simp only [VR.mk.injEq] at h
  exact h
theorem node7 {x : Int} (h : x ∈ nodeL) : x = 0 ∨ x = 1 ∨ x = 2 ∨ x = 10 ∨ x = 11 ∨ x = 12 ∨ x = 13 := by
  simpa only [nodeL, List.mem_cons, List.not_mem_nil, or_false] using h
theorem node_ix {x : Int} (h : x ∈ nodeL) : ∃ n j : Nat, n < 14 ∧ j < 7 ∧ x = (n : Int) ∧ ((n : Nat) : Int) = nodeL.getD j 0 := by
  rcases node7 h with h | h | h | h | h | h | h
  · exact ⟨0, 0, by decide, by decide, h, rfl⟩
  · exact ⟨1, 1, by decide, by decide, h, rfl⟩
  · exact ⟨2, 2, by decide, by decide, h, rfl⟩
  · exact ⟨10, 3, by decide, by decide, h, rfl⟩
  · exact ⟨11, 4, by decide, by decide, h, rfl⟩
  · exact ⟨12, 5, by decide, by decide, h, rfl⟩
  · exact ⟨13, 6, by decide, by decide, h, rfl⟩
theorem putK_set : ∀ {us : List Value} {o : Nat} {v : Value} {k : List Value → Prop}, o < us.length → k (us.set o v) → putK us o v k
  | [], _, _, _, h, _ => absurd h (Nat.not_lt_zero _)
  | _ :: _, 0, _, _, _, hk => hk
  | _ :: us, o + 1, v, k, h, hk => putK_set (us := us) (by simpa using h) hk
theorem atV_len (hs : List RH) (k : Nat) : (atV hs k).length = 14 := rfl
theorem atV_get (hs : List RH) (k : Nat) {n : Nat} (hn : n < 14) : (atV hs k)[0 + n * 1]? = some (.int .i64 (cn hs k n)) := by
  have : n = 0 ∨ n = 1 ∨ n = 2 ∨ n = 3 ∨ n = 4 ∨ n = 5 ∨ n = 6 ∨ n = 7 ∨ n = 8 ∨ n = 9 ∨ n = 10 ∨ n = 11 ∨ n = 12 ∨ n = 13 := by omega
  rcases this with rfl | rfl | rfl | rfl | rfl | rfl | rfl | rfl | rfl | rfl | rfl | rfl | rfl | rfl <;> rfl
theorem partV_get {Q : List VA} (hq : Q.length = 7) {n j : Nat} (hj : j < 7) (h : ((n : Nat) : Int) = nodeL.getD j 0) : (partV Q)[0 + n * 1]? = some (slV Q j) := by
  have : j = 0 ∨ j = 1 ∨ j = 2 ∨ j = 3 ∨ j = 4 ∨ j = 5 ∨ j = 6 := by omega
  rcases this with rfl | rfl | rfl | rfl | rfl | rfl | rfl
  · obtain rfl : n = 0 := by simp [nodeL] at h; omega
    rfl
  · obtain rfl : n = 1 := by simp [nodeL] at h; omega
    rfl
  · obtain rfl : n = 2 := by simp [nodeL] at h; omega
    rfl
  · obtain rfl : n = 10 := by simp [nodeL] at h; omega
    rfl
  · obtain rfl : n = 11 := by simp [nodeL] at h; omega
    rfl
  · obtain rfl : n = 12 := by simp [nodeL] at h; omega
    rfl
  · obtain rfl : n = 13 := by simp [nodeL] at h; omega
    rfl
theorem ViewNodes_core (A : Option Addr) (c : Nat) (ss : List SH) (hsc : ∀ s ∈ ss, s.bs.length ≤ s.c) (hs : List RH) (hhs : hs = madeL ss (min ss.length 60)) (hok : RowsOK hs) :
    Spec Try.prog 3 [.slice A ss.length c] [] [sliceC A c 4 ss.length (recs SH.cells ss), allC (ss.map SH.rd), allC (hs.map RH.rd)] (fun v l' => v = .bool true ∧ l' = []) := by
  have hl60 := hok.len
  have hlen : (hs.map RH.vr).length ≤ 20000 := hok.ok.1
  have hr60 : (hs.map RH.vr).length = hs.length := List.length_map ..
  have hmay : ∀ r ∈ hs.map RH.vr, mayP r := fun r hr => (hok.all r hr).1
  have hn7 : nodeL.length = 7 := rfl
  refine Spec.intro Try.func3 rfl rfl Try.ntmps3 rfl fun w0 => ?_
  /- loops of sealchain/sealchainlaw24.ViewNodes: 10 live [3, 4, 5, 6, 8] vary [7, 9]; 19 live [3, 5, 6, 7] vary [12] -/
  (all_goals (refine WC.auto ?_; (conv => whnf))); repeat' (first
          | ((with_reducible refine WB.auto ?_); (conv => whnf))
          | ((with_reducible refine WCB.auto ?_); (conv => whnf))
          | ((with_reducible refine WDB.auto ?_); (conv => whnf))
          | ((with_reducible refine Ob.at ?_); first | (refine Ob.mk (by first | omega | exact u8_bound _ | (have := u8_bound; omega) | (simp only [List.length_drop, List.length_take, List.length_append, List.length_replicate, List.length_set, List.length_cons, List.length_nil, Nat.min_def]; omega)) ?_; (conv => whnf)) | (refine Ob.mk' ?_ ?_; (conv => whnf)))
          | (refine spl_mk (fun hc => ?_) (fun hc => ?_) <;> (try simp only [Bool.not_eq_false', and_self, and_true, true_and, not_true, Bool.not_eq_true', Bool.not_false, Bool.not_true, decide_eq_true_eq, decide_eq_false_iff_not, Bool.false_eq_true, reduceCtorEq, Bool.true_eq_false, ne_eq, Decidable.not_not, Int.not_lt, Int.not_le, beq_self_eq_true, eq_self, not_true_eq_false, not_false_eq_true, Bool.not_eq_eq_eq_not, Bool.not_eq_true, Bool.not_eq_false, beq_iff_eq, beq_eq_false_iff_ne] at hc) <;> (try (exfalso; omega)) <;> (conv => whnf))
          | ((with_reducible refine NatK.at ?_); first | ((with_reducible refine NatK.cast ?_); (conv => whnf)) | (refine NatK.lit 0 rfl ?_; (conv => whnf)) | (refine NatK.lit 1 rfl ?_; (conv => whnf)) | (refine NatK.lit 2 rfl ?_; (conv => whnf)) | (refine NatK.lit 3 rfl ?_; (conv => whnf)) | (refine NatK.lit 4 rfl ?_; (conv => whnf)) | (refine NatK.lit 5 rfl ?_; (conv => whnf)) | (refine NatK.lit 6 rfl ?_; (conv => whnf)) | (refine NatK.lit 7 rfl ?_; (conv => whnf)) | (refine NatK.lit 8 rfl ?_; (conv => whnf)) | (refine NatK.lit 9 rfl ?_; (conv => whnf)) | (refine NatK.lit 10 rfl ?_; (conv => whnf)) | (refine NatK.lit 11 rfl ?_; (conv => whnf)) | (refine NatK.lit 12 rfl ?_; (conv => whnf)) | (refine NatK.lit 13 rfl ?_; (conv => whnf)) | (refine NatK.sym (by first | omega | exact u8_bound _ | (have := u8_bound; omega) | (simp only [List.length_drop, List.length_take, List.length_append, List.length_replicate, List.length_set, List.length_cons, List.length_nil, Nat.min_def]; omega)) (fun m hm => ?_); (conv => whnf)))
          | (intro q hq; (conv => whnf))
          | ((with_reducible refine WC.atR 16 ?_); refine WC.draw (id := 16) (ls := _) (.fl 0 (.fl 1 (.fl 2 (.fl 3 (.fl 4 (.fl 5 (.fl 6 (.fl 7 (.fl 8 (.fl 9 (.fl 10 (.fl 11 (.fl 12 .nil))))))))))))) (by kernel_rfl) (by kernel_rfl) (Picks.refl _) ?_; refine WD.auto ?_; (conv => whnf))
          | ((with_reducible refine WC.atR 22 ?_); refine WC.draw (id := 22) (ls := _) (.fl 0 (.fl 1 (.fl 2 (.fl 3 (.fl 4 (.fl 5 (.fl 6 (.fl 7 .nil)))))))) (by kernel_rfl) (by kernel_rfl) (Picks.refl _) ?_; refine WD.auto ?_; (conv => whnf))
          | ((with_reducible refine WC.atR 24 ?_); refine WC.draw (id := 24) (ls := _) (.fl 0 (.fl 1 (.fl 2 (.fl 3 (.fl 4 (.fl 5 (.fl 6 (.fl 7 (.one 8 (.one 9 .nil)))))))))) (by kernel_rfl) (by kernel_rfl) (Picks.refl _) ?_; refine WD.auto ?_; (conv => whnf))
          | ((with_reducible refine WC.atR 26 ?_); refine WC.lstT (cs := [cellsC g5 27 (atV hs (k + 1))]) (.eqc (d := cellsC g5 _ _) pkA (congrArg (cellsC g5 27) (by rw [Nat.zero_add, Nat.mul_one]; exact hst.symm)) .nil) ?_; refine WC.draw (id := 26) (ls := _) (.fl 0 (.fl 1 (.fl 2 (.fl 3 (.fl 4 (.fl 5 (.fl 6 (.fl 7 (.fl 8 (.fl 9 (.fl 10 (.fl 11 (.fl 12 (.fl 13 (.fl 14 (.fl 15 (.fl 16 (.fl 17 (.fl 18 (.fl 19 (.fl 20 (.fl 21 (.fl 22 (.fl 23 (.fl 24 (.fl 25 (.fl 26 (.fl 27 (.fl 28 (.fl 29 (.fl 30 (.fl 31 (.one 32 (.fl 33 (.fl 34 .nil))))))))))))))))))))))))))))))))))) (by kernel_rfl) (by kernel_rfl) (Picks.refl _) ?_; refine WD.auto ?_; (conv => whnf))
          | ((with_reducible refine W.at 16 ?_); first | ((refine W.stp (Stp.cal rfl rfl (made_to _ _ ss hs hsc hhs) pksA rdsA) rfl rfl rfl ?_; rintro _ _ ⟨_, ⟨A16, c16, rfl, rfl⟩, rfl⟩); all_goals ((refine W.auto ?_); (conv => whnf))))
          | ((with_reducible refine W.at 18 ?_); first | ((refine W.stp (Stp.cal rfl rfl (of_spec _ _ hs hok.ok) pksA rdsA) rfl rfl rfl ?_; rintro _ _ ⟨_, ⟨g18, a18, rfl, ha18, rfl⟩, rfl⟩); all_goals ((refine W.auto ?_); (conv => whnf))))
          | ((with_reducible refine W.at 5 ?_); first | ((refine W.stp (Stp.allocA rfl) rfl rfl rfl ?_; rintro _ _ ⟨g5, rfl, rfl⟩); all_goals ((refine W.auto ?_); (conv => whnf))))
          | ((with_reducible refine W.at 6 ?_); first | ((refine W.stp (Stp.allocA rfl) rfl rfl rfl ?_; rintro _ _ ⟨g6, rfl, rfl⟩); all_goals ((refine W.auto ?_); (conv => whnf))))
          | ((with_reducible refine W.at 21 ?_); first | ((refine W.stp (Stp.cal rfl rfl (nodes_spec) pksA rdsA) rfl rfl rfl ?_; rintro _ _ ⟨_, ⟨g21, rfl, rfl⟩, rfl⟩); all_goals ((refine W.auto ?_); (conv => whnf))))
          | ((with_reducible refine W.at 30 ?_); first | (refine W.ev (Ev.indexAddrN rfl rfl rdA (by omega)) rfl rfl rfl ?_; all_goals ((refine W.auto ?_); (conv => whnf))) | (refine W.ev (Ev.indexAddr1 rfl rfl rdA (by omega)) rfl rfl rfl ?_; all_goals ((refine W.auto ?_); (conv => whnf))))
          | ((with_reducible refine W.at 31 ?_); first | (refine W.ev (Ev.loadI rfl rdA (by first | omega | (simp only [List.length_drop, List.length_take, List.length_append, List.length_replicate, List.length_set, List.length_cons, List.length_nil, Nat.min_def]; omega) | (simp; omega))) rfl rfl rfl ?_; all_goals ((refine W.auto ?_); (conv => whnf))) | (refine W.ev (Ev.loadRec0 rfl rfl rdA (by exact fun _ => rfl) (by omega) (by rfl)) rfl rfl rfl ?_; all_goals ((refine W.auto ?_); (conv => whnf))))
          | ((with_reducible refine W.at 35 ?_); first | ((refine W.stp (Stp.cal rfl rfl (Node_to g18 a18 (hs.map RH.vr) _ _ ha18 hlen hok.bs rfl) pksA rdsA) rfl rfl rfl ?_; rintro _ _ ⟨_, ⟨g35, a35, rfl, ha35, rfl⟩, rfl⟩); all_goals ((refine W.auto ?_); (conv => whnf))))
          | ((with_reducible refine W.at 36 ?_); first | ((refine W.stp (Stp.cal rfl rfl (Rows_to g35 a35 _ ha35 (Nat.le_trans (List.length_filter_le _ _) hlen) (fun r hr => hok.bs r (List.mem_filter.1 hr).1)) pksA rdsA) rfl rfl rfl ?_; rintro _ _ ⟨_, ⟨a36, rfl, ha36, rfl⟩, rfl⟩); (try (have hl36 := vlen ha36; have hf36 := vflen ha36; have hlq : (nth (Q ++ [a36]) Q.length).hs.length = a36.hs.length := (by simp [nth, List.getD]); rw [hq1] at hlq)); all_goals ((refine W.auto ?_); (conv => whnf))))
          | ((with_reducible refine W.atS 37 ?_); first | (refine stW1 rfl rfl rfl pkA ?_; (conv => whnf)))
          | ((with_reducible refine W.at 40 ?_); first | ((refine W.stp (Stp.cal rfl rfl (Many_sum g18 a18 (hs.map RH.vr) _ ha18 (by omega) hok.bs hmay) pksA rdsA) rfl rfl rfl ?_; rintro _ _ ⟨_, ⟨x40, y40, z40, rfl, hx40, hy40, rfl⟩, rfl⟩); (try (refine W.lstT (cs := [cellsC g6 28 (partV (Q ++ [a36])), starM rowOf (Q ++ [a36]), starM (fun a : VA => starM RH.own a.hs) (Q ++ [a36])]) (.eqc (d := cellsC g6 _ _) pkA (congrArg (cellsC g6 28) (by have := partV_set Q a36 (by omega); rw [hq1] at this; exact this.symm)) (.snocM pkA pkA (.snocM pkA pkA .nil))) ?_)); all_goals ((refine W.auto ?_); (conv => whnf))))
          | ((with_reducible refine W.at 11 ?_); first | ((refine W.stp (Stp.allocA rfl) rfl rfl rfl ?_; rintro _ _ ⟨g11, rfl, rfl⟩); all_goals ((refine W.auto ?_); (conv => whnf))))
          | ((with_reducible refine W.atS 11 ?_); first | (refine stWP rfl rfl (by intro v hv; (repeat' (first | rfl | (cases hv; done) | (rcases List.mem_cons.1 hv with rfl | hv)))) (by rfl) pkA ?_; (conv => whnf)))
          | ((with_reducible refine W.at 44 ?_); first | (refine W.ev (Ev.load rfl rfl rdA rfl) rfl rfl rfl ?_; all_goals ((refine W.auto ?_); (conv => whnf))))
          | ((with_reducible refine WO.at 0 ?_); first | (refine WO.auto rfl rfl ?_; (conv => whnf); (fail_if_success (show False))) | (refine WO.auto rfl rfl ?_; (conv => whnf); (fail_if_success (show False))) | (refine WO.auto rfl rfl ?_; (conv => whnf); (fail_if_success (show False))) | (refine WO.auto rfl rfl ?_; (conv => whnf); (fail_if_success (show False))) | (refine WO.off rfl rfl rfl rfl ?_; refine WD.auto ?_; (conv => whnf)))
          | ((with_reducible refine WD.at 1 ?_); first | (refine WD.ev rfl (Ev.load rfl rfl rdA rfl) rfl rfl rfl ?_; all_goals (refine WD.auto ?_; (conv => whnf))) | (refine WD.ev rfl (Ev.loadI rfl rdA (by first | omega | (simp only [List.length_drop, List.length_take, List.length_append, List.length_replicate, List.length_set, List.length_cons, List.length_nil, Nat.min_def]; omega) | (simp; omega))) rfl rfl rfl ?_; all_goals (refine WD.auto ?_; (conv => whnf))))
          | ((with_reducible refine WO.at 1 ?_); first | (refine WO.ev rfl (Ev.load rfl rfl rdA rfl) rfl rfl rfl ?_; all_goals (refine WD.auto ?_; (conv => whnf))) | (refine WO.ev rfl (Ev.loadI rfl rdA (by first | omega | (simp only [List.length_drop, List.length_take, List.length_append, List.length_replicate, List.length_set, List.length_cons, List.length_nil, Nat.min_def]; omega) | (simp; omega))) rfl rfl rfl ?_; all_goals (refine WD.auto ?_; (conv => whnf))) | (refine WO.auto rfl rfl ?_; (conv => whnf); (fail_if_success (show False))) | (refine WO.auto rfl rfl ?_; (conv => whnf); (fail_if_success (show False))) | (refine WO.off rfl rfl rfl rfl ?_; refine WD.auto ?_; (conv => whnf)))
          | ((with_reducible refine WO.at 2 ?_); first | (refine WO.auto rfl rfl ?_; (conv => whnf); (fail_if_success (show False))) | (refine WO.ev rfl (Ev.load rfl rfl rdA rfl) rfl rfl rfl ?_; all_goals (refine WD.auto ?_; (conv => whnf))) | (refine WO.ev rfl (Ev.loadI rfl rdA (by first | omega | (simp only [List.length_drop, List.length_take, List.length_append, List.length_replicate, List.length_set, List.length_cons, List.length_nil, Nat.min_def]; omega) | (simp; omega))) rfl rfl rfl ?_; all_goals (refine WD.auto ?_; (conv => whnf))) | (refine WO.auto rfl rfl ?_; (conv => whnf); (fail_if_success (show False))) | (refine WO.off rfl rfl rfl rfl ?_; refine WD.auto ?_; (conv => whnf)))
          | ((with_reducible refine WD.at 3 ?_); first | (refine WD.ev rfl (Ev.load rfl rfl rdA rfl) rfl rfl rfl ?_; all_goals (refine WD.auto ?_; (conv => whnf))) | (refine WD.ev rfl (Ev.loadI rfl rdA (by first | omega | (simp only [List.length_drop, List.length_take, List.length_append, List.length_replicate, List.length_set, List.length_cons, List.length_nil, Nat.min_def]; omega) | (simp; omega))) rfl rfl rfl ?_; all_goals (refine WD.auto ?_; (conv => whnf))))
          | ((with_reducible refine WO.at 3 ?_); first | (refine WO.ev rfl (Ev.load rfl rfl rdA rfl) rfl rfl rfl ?_; all_goals (refine WD.auto ?_; (conv => whnf))) | (refine WO.ev rfl (Ev.loadI rfl rdA (by first | omega | (simp only [List.length_drop, List.length_take, List.length_append, List.length_replicate, List.length_set, List.length_cons, List.length_nil, Nat.min_def]; omega) | (simp; omega))) rfl rfl rfl ?_; all_goals (refine WD.auto ?_; (conv => whnf))) | (refine WO.auto rfl rfl ?_; (conv => whnf); (fail_if_success (show False))) | (refine WO.auto rfl rfl ?_; (conv => whnf); (fail_if_success (show False))) | (refine WO.auto rfl rfl ?_; (conv => whnf); (fail_if_success (show False))) | (refine WO.off rfl rfl rfl rfl ?_; refine WD.auto ?_; (conv => whnf)))
          | ((with_reducible refine WO.at 4 ?_); first | (refine WO.auto rfl rfl ?_; (conv => whnf); (fail_if_success (show False))) | (refine WO.auto rfl rfl ?_; (conv => whnf); (fail_if_success (show False))) | (refine WO.auto rfl rfl ?_; (conv => whnf); (fail_if_success (show False))) | (refine WO.ev rfl (Ev.indexRec rfl rfl rdA (by omega) (by rfl)) rfl rfl rfl ?_; all_goals (refine WD.auto ?_; (conv => whnf))) | (refine WO.off rfl rfl rfl rfl ?_; refine WD.auto ?_; (conv => whnf)))
          | ((with_reducible refine WO.at 5 ?_); first | (refine WO.auto rfl rfl ?_; (conv => whnf); (fail_if_success (show False))) | (refine WO.ev rfl (Ev.load rfl rfl rdA rfl) rfl rfl rfl ?_; all_goals (refine WD.auto ?_; (conv => whnf))) | (refine WO.ev rfl (Ev.loadI rfl rdA (by first | omega | (simp only [List.length_drop, List.length_take, List.length_append, List.length_replicate, List.length_set, List.length_cons, List.length_nil, Nat.min_def]; omega) | (simp; omega))) rfl rfl rfl ?_; all_goals (refine WD.auto ?_; (conv => whnf))) | (refine WO.auto rfl rfl ?_; (conv => whnf); (fail_if_success (show False))) | (refine WO.off rfl rfl rfl rfl ?_; refine WD.auto ?_; (conv => whnf)))
          | ((with_reducible refine WD.at 6 ?_); first | (refine WD.ev rfl (Ev.load rfl rfl rdA rfl) rfl rfl rfl ?_; all_goals (refine WD.auto ?_; (conv => whnf))) | (refine WD.ev rfl (Ev.loadI rfl rdA (by first | omega | (simp only [List.length_drop, List.length_take, List.length_append, List.length_replicate, List.length_set, List.length_cons, List.length_nil, Nat.min_def]; omega) | (simp; omega))) rfl rfl rfl ?_; all_goals (refine WD.auto ?_; (conv => whnf))) | (refine WD.ev rfl (Ev.indexRec rfl rfl rdA (by omega) (by rfl)) rfl rfl rfl ?_; all_goals (refine WD.auto ?_; (conv => whnf))) | (refine WD.ev rfl (Ev.loadRecF rfl rfl rdA (by exact fun _ => rfl) (by omega) (by rfl) (by rfl)) rfl rfl rfl ?_; all_goals (refine WD.auto ?_; (conv => whnf))))
          | ((with_reducible refine WO.at 6 ?_); first | (refine WO.ev rfl (Ev.load rfl rfl rdA rfl) rfl rfl rfl ?_; all_goals (refine WD.auto ?_; (conv => whnf))) | (refine WO.ev rfl (Ev.loadI rfl rdA (by first | omega | (simp only [List.length_drop, List.length_take, List.length_append, List.length_replicate, List.length_set, List.length_cons, List.length_nil, Nat.min_def]; omega) | (simp; omega))) rfl rfl rfl ?_; all_goals (refine WD.auto ?_; (conv => whnf))) | (refine WO.auto rfl rfl ?_; (conv => whnf); (fail_if_success (show False))) | (refine WO.ev rfl (Ev.indexRec rfl rfl rdA (by omega) (by rfl)) rfl rfl rfl ?_; all_goals (refine WD.auto ?_; (conv => whnf))) | (refine WO.ev rfl (Ev.loadRecF rfl rfl rdA (by exact fun _ => rfl) (by omega) (by rfl) (by rfl)) rfl rfl rfl ?_; all_goals (refine WD.auto ?_; (conv => whnf))) | (refine WO.off rfl rfl rfl rfl ?_; refine WD.auto ?_; (conv => whnf)))
          | ((with_reducible refine WO.at 7 ?_); first | (refine WO.auto rfl rfl ?_; (conv => whnf); (fail_if_success (show False))) | (refine WO.auto rfl rfl ?_; (conv => whnf); (fail_if_success (show False))) | (refine WO.ev rfl (Ev.loadRec rfl rfl rdA (by exact fun _ => rfl) (by omega) (by rfl)) rfl rfl rfl ?_; all_goals (refine WD.auto ?_; (conv => whnf))) | (refine WO.auto rfl rfl ?_; (conv => whnf); (fail_if_success (show False))) | (refine WO.off rfl rfl rfl rfl ?_; refine WD.auto ?_; (conv => whnf)))
          | ((with_reducible refine WO.at 8 ?_); first | (refine WO.auto rfl rfl ?_; (conv => whnf); (fail_if_success (show False))) | ((refine WO.stp rfl (Stp.allocA rfl) rfl rfl rfl ?_; rintro _ _ ⟨g14, rfl, rfl⟩); all_goals (refine WD.auto ?_; (conv => whnf))) | (refine WO.auto rfl rfl ?_; (conv => whnf); (fail_if_success (show False))) | (refine WO.off rfl rfl rfl rfl ?_; refine WD.auto ?_; (conv => whnf)))
          | ((with_reducible refine WO.at 9 ?_); first | (refine WO.auto rfl rfl ?_; (conv => whnf); (fail_if_success (show False))) | (refine stOP (i := 9) rfl rfl rfl (by intro v hv; (repeat' (first | rfl | (cases hv; done) | (rcases List.mem_cons.1 hv with rfl | hv)))) (by rfl) pkA ?_; (conv => whnf)) | (refine WO.auto rfl rfl ?_; (conv => whnf); (fail_if_success (show False))) | (refine WO.off rfl rfl rfl rfl ?_; refine WD.auto ?_; (conv => whnf)))
          | ((with_reducible refine WD.at 10 ?_); first | (refine WD.ev rfl (Ev.load rfl rfl rdA rfl) rfl rfl rfl ?_; all_goals (refine WD.auto ?_; (conv => whnf))) | (refine WD.ev rfl (Ev.loadI rfl rdA (by first | omega | (simp only [List.length_drop, List.length_take, List.length_append, List.length_replicate, List.length_set, List.length_cons, List.length_nil, Nat.min_def]; omega) | (simp; omega))) rfl rfl rfl ?_; all_goals (refine WD.auto ?_; (conv => whnf))))
          | ((with_reducible refine WO.at 10 ?_); first | (refine WO.ev rfl (Ev.load rfl rfl rdA rfl) rfl rfl rfl ?_; all_goals (refine WD.auto ?_; (conv => whnf))) | (refine WO.ev rfl (Ev.loadI rfl rdA (by first | omega | (simp only [List.length_drop, List.length_take, List.length_append, List.length_replicate, List.length_set, List.length_cons, List.length_nil, Nat.min_def]; omega) | (simp; omega))) rfl rfl rfl ?_; all_goals (refine WD.auto ?_; (conv => whnf))) | (refine WO.off rfl rfl rfl rfl ?_; refine WD.auto ?_; (conv => whnf)))
          | ((with_reducible refine WO.at 11 ?_); first | (refine WO.auto rfl rfl ?_; (conv => whnf); (fail_if_success (show False))) | (refine WO.auto rfl rfl ?_; (conv => whnf); (fail_if_success (show False))) | (refine WO.off rfl rfl rfl rfl ?_; refine WD.auto ?_; (conv => whnf)))
          | ((with_reducible refine WO.at 12 ?_); first | (refine WO.auto rfl rfl ?_; (conv => whnf); (fail_if_success (show False))) | (refine WO.auto rfl rfl ?_; (conv => whnf); (fail_if_success (show False))) | (refine WO.off rfl rfl rfl rfl ?_; refine WD.auto ?_; (conv => whnf)))
          | ((with_reducible refine W.at 68 ?_); first | (refine W.ev (Ev.indexRec rfl rfl rdA (by omega) (by rfl)) rfl rfl rfl ?_; all_goals ((refine W.auto ?_); (conv => whnf))))
          | ((with_reducible refine W.at 70 ?_); first | (refine W.ev (Ev.loadRecF rfl rfl rdA (by exact fun _ => rfl) (by omega) (by rfl) (by rfl)) rfl rfl rfl ?_; (try (rw [hnode])); all_goals ((refine W.auto ?_); (conv => whnf))))
          | ((with_reducible refine WD.at 2 ?_); first | (refine WD.ev rfl (Ev.load rfl rfl rdA rfl) rfl rfl rfl ?_; all_goals (refine WD.auto ?_; (conv => whnf))) | (refine WD.ev rfl (Ev.loadI rfl rdA (by first | omega | (simp only [List.length_drop, List.length_take, List.length_append, List.length_replicate, List.length_set, List.length_cons, List.length_nil, Nat.min_def]; omega) | (simp; omega))) rfl rfl rfl ?_; all_goals (refine WD.auto ?_; (conv => whnf))))
          | ((with_reducible refine WD.at 5 ?_); first | (refine WD.ev rfl (Ev.load rfl rfl rdA rfl) rfl rfl rfl ?_; all_goals (refine WD.auto ?_; (conv => whnf))) | (refine WD.ev rfl (Ev.loadI rfl rdA (by first | omega | (simp only [List.length_drop, List.length_take, List.length_append, List.length_replicate, List.length_set, List.length_cons, List.length_nil, Nat.min_def]; omega) | (simp; omega))) rfl rfl rfl ?_; all_goals (refine WD.auto ?_; (conv => whnf))))
          | ((with_reducible refine WD.at 7 ?_); first | (refine WD.ev rfl (Ev.loadRec rfl rfl rdA (by exact fun _ => rfl) (by omega) (by rfl)) rfl rfl rfl ?_; all_goals (refine WD.auto ?_; (conv => whnf))))
          | ((with_reducible refine W.at 90 ?_); first | (refine W.ev (Ev.load rfl rfl rdA rfl) rfl rfl rfl ?_; all_goals ((refine W.auto ?_); (conv => whnf))) | (refine W.ev (Ev.loadI rfl rdA (by first | omega | (simp only [List.length_drop, List.length_take, List.length_append, List.length_replicate, List.length_set, List.length_cons, List.length_nil, Nat.min_def]; omega) | (simp; omega))) rfl rfl rfl ?_; all_goals ((refine W.auto ?_); (conv => whnf))))
          | ((with_reducible refine W.atS 92 ?_); first | (refine stW1 rfl rfl rfl pkA ?_; (conv => whnf)))
          | ((with_reducible refine WD.at 4 ?_); first | (refine WD.ev rfl (Ev.indexRec rfl rfl rdA (by omega) (by rfl)) rfl rfl rfl ?_; all_goals (refine WD.auto ?_; (conv => whnf))))
          | ((with_reducible refine WD.at 13 ?_); first | (refine WD.ev rfl (Ev.indexRec rfl rfl rdA (by omega) (by rfl)) rfl rfl rfl ?_; all_goals (refine WD.auto ?_; (conv => whnf))))
          | ((with_reducible refine WO.at 13 ?_); first | (refine WO.ev rfl (Ev.indexRec rfl rfl rdA (by omega) (by rfl)) rfl rfl rfl ?_; all_goals (refine WD.auto ?_; (conv => whnf))) | (refine WO.off rfl rfl rfl rfl ?_; refine WD.auto ?_; (conv => whnf)))
          | ((with_reducible refine WO.at 14 ?_); first | (refine WO.auto rfl rfl ?_; (conv => whnf); (fail_if_success (show False))) | (refine WO.off rfl rfl rfl rfl ?_; refine WD.auto ?_; (conv => whnf)))
          | ((with_reducible refine WD.at 15 ?_); first | (refine WD.ev rfl (Ev.loadRecF rfl rfl rdA (by exact fun _ => rfl) (by omega) (by rfl) (by rfl)) rfl rfl rfl ?_; all_goals (refine WD.auto ?_; (conv => whnf))))
          | ((with_reducible refine WO.at 15 ?_); first | (refine WO.ev rfl (Ev.loadRecF rfl rfl rdA (by exact fun _ => rfl) (by omega) (by rfl) (by rfl)) rfl rfl rfl ?_; all_goals (refine WD.auto ?_; (conv => whnf))) | (refine WO.off rfl rfl rfl rfl ?_; refine WD.auto ?_; (conv => whnf)))
          | ((with_reducible refine WO.at 16 ?_); first | (refine WO.auto rfl rfl ?_; (conv => whnf); (fail_if_success (show False))) | (refine WO.off rfl rfl rfl rfl ?_; refine WD.auto ?_; (conv => whnf)))
          | ((with_reducible refine WO.at 17 ?_); first | (refine WO.auto rfl rfl ?_; (conv => whnf); (fail_if_success (show False))) | (refine WO.off rfl rfl rfl rfl ?_; refine WD.auto ?_; (conv => whnf)))
          | ((with_reducible refine WO.at 18 ?_); first | (refine WO.auto rfl rfl ?_; (conv => whnf); (fail_if_success (show False))) | (refine WO.off rfl rfl rfl rfl ?_; refine WD.auto ?_; (conv => whnf)))
          | ((with_reducible refine WO.at 19 ?_); first | (refine WO.auto rfl rfl ?_; (conv => whnf); (fail_if_success (show False))) | (refine WO.off rfl rfl rfl rfl ?_; refine WD.auto ?_; (conv => whnf)))
          | ((with_reducible refine WD.at 20 ?_); first | (refine WD.ev rfl (Ev.load rfl rfl rdA rfl) rfl rfl rfl ?_; all_goals (refine WD.auto ?_; (conv => whnf))) | (refine WD.ev rfl (Ev.loadI rfl rdA (by first | omega | (simp only [List.length_drop, List.length_take, List.length_append, List.length_replicate, List.length_set, List.length_cons, List.length_nil, Nat.min_def]; omega) | (simp; omega))) rfl rfl rfl ?_; all_goals (refine WD.auto ?_; (conv => whnf))))
          | ((with_reducible refine WO.at 20 ?_); first | (refine WO.ev rfl (Ev.load rfl rfl rdA rfl) rfl rfl rfl ?_; all_goals (refine WD.auto ?_; (conv => whnf))) | (refine WO.ev rfl (Ev.loadI rfl rdA (by first | omega | (simp only [List.length_drop, List.length_take, List.length_append, List.length_replicate, List.length_set, List.length_cons, List.length_nil, Nat.min_def]; omega) | (simp; omega))) rfl rfl rfl ?_; all_goals (refine WD.auto ?_; (conv => whnf))) | (refine WO.off rfl rfl rfl rfl ?_; refine WD.auto ?_; (conv => whnf)))
          | ((with_reducible refine WO.at 21 ?_); first | (refine WO.auto rfl rfl ?_; (conv => whnf); (fail_if_success (show False))) | (refine WO.off rfl rfl rfl rfl ?_; refine WD.auto ?_; (conv => whnf)))
          | ((with_reducible refine WO.at 22 ?_); first | (refine WO.auto rfl rfl ?_; (conv => whnf); (fail_if_success (show False))) | (refine WO.off rfl rfl rfl rfl ?_; refine WD.auto ?_; (conv => whnf)))
          | ((with_reducible refine WO.at 23 ?_); first | (refine WO.auto rfl rfl ?_; (conv => whnf); (fail_if_success (show False))) | (refine WO.off rfl rfl rfl rfl ?_; refine WD.auto ?_; (conv => whnf)))
          | ((with_reducible refine WO.at 24 ?_); first | (refine WO.auto rfl rfl ?_; (conv => whnf); (fail_if_success (show False))) | (refine WO.off rfl rfl rfl rfl ?_; refine WD.auto ?_; (conv => whnf)))
          | ((with_reducible refine WO.at 25 ?_); first | (refine WO.auto rfl rfl ?_; (conv => whnf); (fail_if_success (show False))) | (refine WO.off rfl rfl rfl rfl ?_; refine WD.auto ?_; (conv => whnf)))
          | ((with_reducible refine WD.at 26 ?_); first | (refine WD.ev rfl (Ev.load rfl rfl rdA rfl) rfl rfl rfl ?_; all_goals (refine WD.auto ?_; (conv => whnf))))
          | ((with_reducible refine WO.at 26 ?_); first | (refine WO.ev rfl (Ev.load rfl rfl rdA rfl) rfl rfl rfl ?_; all_goals (refine WD.auto ?_; (conv => whnf))) | (refine WO.off rfl rfl rfl rfl ?_; refine WD.auto ?_; (conv => whnf)))
          | ((with_reducible refine WO.at 27 ?_); first | (refine WO.auto rfl rfl ?_; (conv => whnf); (fail_if_success (show False))) | (refine WO.off rfl rfl rfl rfl ?_; refine WD.auto ?_; (conv => whnf)))
          | ((with_reducible refine WO.at 28 ?_); first | (refine WO.auto rfl rfl ?_; (conv => whnf); (fail_if_success (show False))) | (refine WO.off rfl rfl rfl rfl ?_; refine WD.auto ?_; (conv => whnf)))
          | ((with_reducible refine WD.at 29 ?_); first | (refine WD.ev rfl (Ev.indexRec rfl rfl rdA (by omega) (by rfl)) rfl rfl rfl ?_; all_goals (refine WD.auto ?_; (conv => whnf))))
          | ((with_reducible refine WO.at 29 ?_); first | (refine WO.ev rfl (Ev.indexRec rfl rfl rdA (by omega) (by rfl)) rfl rfl rfl ?_; all_goals (refine WD.auto ?_; (conv => whnf))) | (refine WO.off rfl rfl rfl rfl ?_; refine WD.auto ?_; (conv => whnf)))
          | ((with_reducible refine WO.at 30 ?_); first | (refine WO.auto rfl rfl ?_; (conv => whnf); (fail_if_success (show False))) | (refine WO.off rfl rfl rfl rfl ?_; refine WD.auto ?_; (conv => whnf)))
          | ((with_reducible refine WD.at 31 ?_); first | (refine WD.ev rfl (Ev.loadRecF rfl rfl rdA (by exact fun _ => rfl) (by omega) (by rfl) (by rfl)) rfl rfl rfl ?_; all_goals (refine WD.auto ?_; (conv => whnf))))
          | ((with_reducible refine WO.at 31 ?_); first | (refine WO.ev rfl (Ev.loadRecF rfl rfl rdA (by exact fun _ => rfl) (by omega) (by rfl) (by rfl)) rfl rfl rfl ?_; all_goals (refine WD.auto ?_; (conv => whnf))) | (refine WO.off rfl rfl rfl rfl ?_; refine WD.auto ?_; (conv => whnf)))
          | ((with_reducible refine WO.at 32 ?_); first | ((first | (refine WO.stp rfl (Stp.cal rfl rfl (EqBytes_spec _ _ _ _ _ _ _ _) pksA (.cons (by repeat (first | exact Rd.here hsub | refine Rd.there ?_)) (.cons (by repeat (first | exact Rd.here hall | refine Rd.there ?_)) .nil))) rfl rfl rfl ?_; rintro _ _ ⟨_, ⟨rfl, rfl⟩, rfl⟩) | (refine WO.stp rfl (Stp.cal rfl rfl (EqBytes_spec _ _ _ _ _ _ _ _) pksA rdsA) rfl rfl rfl ?_; rintro _ _ ⟨_, ⟨rfl, rfl⟩, rfl⟩)); all_goals (refine WD.auto ?_; (conv => whnf))) | (refine WO.off rfl rfl rfl rfl ?_; refine WD.auto ?_; (conv => whnf)))
          | ((with_reducible refine WO.at 33 ?_); first | (refine WO.auto rfl rfl ?_; (conv => whnf); (fail_if_success (show False))) | (refine WO.off rfl rfl rfl rfl ?_; refine WD.auto ?_; (conv => whnf)))
          | ((with_reducible refine WO.at 34 ?_); first | (refine WO.auto rfl rfl ?_; (conv => whnf); (fail_if_success (show False))) | (refine WO.off rfl rfl rfl rfl ?_; refine WD.auto ?_; (conv => whnf)))
          | ((with_reducible refine W.at 133 ?_); first | ((refine W.stp (Stp.cal rfl rfl (vworks_spec) pksA rdsA) rfl rfl rfl ?_; rintro _ _ ⟨_, ⟨rfl, rfl⟩, rfl⟩); all_goals ((refine W.auto ?_); (conv => whnf))))
          | (with_reducible refine WD.one ?_)
          | (with_reducible refine WD.two ?_ ?_)
          | (with_reducible refine WD.three ?_ ?_ ?_)
          | ((with_reducible refine WC.atC (c := .loop (.seq (.seq (.region 10 _ _) _) _)) ?_); refine WC.loopL3 (X := Nat) (Y := List VA) (Z := Int) (0) ([]) (0) (fun i Q s => Q.length = i ∧ i ≤ 7 ∧ PartsOK (hs.map RH.vr) Q ∧ sumL Q ≤ 60 * i ∧ s = (sumL Q : Nat)) (fun i Q s => [(9, .int .i64 (i : Int)), (7, .int .i64 s)]) (fun i Q s => [cellsC g6 28 (partV Q), starM rowOf Q, starM (fun a : VA => starM RH.own a.hs) Q, cellsC g5 27 (atV hs 0), viewC g18 a18, rowC A16 c16 37 4 hs.length (recs RH.cells hs), iO (some ⟨g21, 0, none⟩) 7 3 7 nodeL]) (fun i Q s => 7 - i) [3, 4, 5, 6, 8] (⟨rfl, by omega, fun j hj => absurd hj (Nat.not_lt_zero j), by decide, rfl⟩) ?_; (conv => whnf); refine LoopQ3.mk (by ((repeat (first | exact trivial | refine And.intro rfl ?_)); fail_if_success (focus skip))) (⟨_, pksA⟩) ?_; rintro i Q s ⟨hq1, hq2, hq3, hq4, hq5⟩; ((obtain rfl | rfl | rfl | rfl | rfl | rfl | rfl | rfl : i = 0 ∨ i = 1 ∨ i = 2 ∨ i = 3 ∨ i = 4 ∨ i = 5 ∨ i = 6 ∨ i = 7 := (by omega))); all_goals (refine WC.auto ?_; (conv => whnf)))
          | ((with_reducible refine WO.at 2 ?_); refine WO.ev rfl (Ev.load rfl rfl rdA hat) rfl rfl rfl ?_; refine WD.auto ?_; (conv => whnf))
          | ((with_reducible refine WD.at 2 ?_); refine WD.ev rfl (Ev.load rfl rfl rdA hat) rfl rfl rfl ?_; refine WD.auto ?_; (conv => whnf))
          | ((with_reducible refine WO.at 5 ?_); refine WO.ev rfl (Ev.load rfl rfl rdA hpart) rfl rfl rfl ?_; refine WD.auto ?_; (conv => whnf))
          | ((with_reducible refine WD.at 5 ?_); refine WD.ev rfl (Ev.load rfl rfl rdA hpart) rfl rfl rfl ?_; refine WD.auto ?_; (conv => whnf))
          | ((with_reducible refine WO.at 2 ?_); refine WO.ev rfl (Ev.load rfl rfl rdA hpart) rfl rfl rfl ?_; refine WD.auto ?_; (conv => whnf))
          | ((with_reducible refine WD.at 2 ?_); refine WD.ev rfl (Ev.load rfl rfl rdA hpart) rfl rfl rfl ?_; refine WD.auto ?_; (conv => whnf))
          | ((with_reducible refine WO.at 5 ?_); refine WO.ev rfl (Ev.load rfl rfl rdA hat) rfl rfl rfl ?_; refine WD.auto ?_; (conv => whnf))
          | ((with_reducible refine WD.at 5 ?_); refine WD.ev rfl (Ev.load rfl rfl rdA hat) rfl rfl rfl ?_; refine WD.auto ?_; (conv => whnf))
          | ((with_reducible refine W.at 90 ?_); refine W.ev (Ev.load rfl rfl rdA hat) rfl rfl rfl ?_; refine W.auto ?_; (conv => whnf))
          | (refine putK_set (us := atV hs k) (by rw [atV_len]; omega) ?_; (conv => whnf))
          | ((with_reducible refine WC.atC (c := .loop (.seq (.seq (.region 19 _ _) _) _)) ?_); refine WC.loopL (X := Nat) (0) (fun k => k ≤ hs.length) (fun k => [(12, .int .i64 (k : Int))]) (fun k => [cellsC g6 28 (partV Q), starM rowOf Q, starM (fun a : VA => starM RH.own a.hs) Q, cellsC g5 27 (atV hs k), rowC A16 c16 37 4 hs.length (recs RH.cells hs)]) (fun k => hs.length - k) [3, 5, 6, 7] (Nat.zero_le _) ?_; (conv => whnf); refine LoopQ.mk (by ((repeat (first | exact trivial | refine And.intro rfl ?_)); fail_if_success (focus skip))) (⟨_, pksA⟩) ?_; rintro k hk; ((obtain hke | hkl : k = hs.length ∨ k < hs.length := (by omega)); (rotate_left; obtain ⟨n, j, hn14, hj7, hnode, hix⟩ := node_ix (show (nth hs k).node ∈ nodeL from (hok.row k hkl).2.1); have hrw := row_at (n := n) (os := (nth Q j).hs) hkl hnode (by rw [hix]; exact hq3 j (by omega)); have hst := atV_step n hkl hnode hn14; obtain ⟨hv1, hv2, hv3, hv4⟩ := vr_eq hrw.2; have hrw1 := hrw.1; have hcl := cn_le hs k n; have hsub := Sub.row_two (Q := Q) (i := j) (j := cn hs k n) (by omega) hrw1; have hall := Sub.row_all hkl; have hat := atV_get hs k hn14; have hpart := partV_get (Q := Q) hq1 hj7 hix; rotate_left)); all_goals (refine WC.auto ?_; (conv => whnf)))
          | (refine ⟨k + 1, ?_, by ((repeat (first | exact trivial | refine And.intro rfl ?_)); fail_if_success (focus skip)), (by (with_reducible refine chLeI ?_); exact ⟨_, pksA⟩), by omega⟩)
          | (refine ⟨1, Q ++ [a36], _, ?_, by ((repeat (first | exact trivial | refine And.intro rfl ?_)); fail_if_success (focus skip)), (by (with_reducible refine chLeI ?_); exact ⟨_, pksA⟩), by omega⟩)
          | (refine ⟨2, Q ++ [a36], _, ?_, by ((repeat (first | exact trivial | refine And.intro rfl ?_)); fail_if_success (focus skip)), (by (with_reducible refine chLeI ?_); exact ⟨_, pksA⟩), by omega⟩)
          | (refine ⟨3, Q ++ [a36], _, ?_, by ((repeat (first | exact trivial | refine And.intro rfl ?_)); fail_if_success (focus skip)), (by (with_reducible refine chLeI ?_); exact ⟨_, pksA⟩), by omega⟩)
          | (refine ⟨4, Q ++ [a36], _, ?_, by ((repeat (first | exact trivial | refine And.intro rfl ?_)); fail_if_success (focus skip)), (by (with_reducible refine chLeI ?_); exact ⟨_, pksA⟩), by omega⟩)
          | (refine ⟨5, Q ++ [a36], _, ?_, by ((repeat (first | exact trivial | refine And.intro rfl ?_)); fail_if_success (focus skip)), (by (with_reducible refine chLeI ?_); exact ⟨_, pksA⟩), by omega⟩)
          | (refine ⟨6, Q ++ [a36], _, ?_, by ((repeat (first | exact trivial | refine And.intro rfl ?_)); fail_if_success (focus skip)), (by (with_reducible refine chLeI ?_); exact ⟨_, pksA⟩), by omega⟩)
          | (refine ⟨7, Q ++ [a36], _, ?_, by ((repeat (first | exact trivial | refine And.intro rfl ?_)); fail_if_success (focus skip)), (by (with_reducible refine chLeI ?_); exact ⟨_, pksA⟩), by omega⟩)
          | refine Exists.intro _ (And.intro (resv_rfl rfl) ?_))
  all_goals first
    | omega
    | (exfalso; exact hc hv4)
    | exact ⟨by rw [List.length_append, hq1]; rfl, by omega, hq3.snoc (by rw [hq1]; exact ha36), by rw [sumL_snoc]; omega, by rw [sumL_snoc]; omega⟩
    | (exfalso; apply hc; rw [hq5, sum_parts hq3 hq1 (fun r hr => (hok.all r hr).2), hr60])
    | first | exact ⟨_, ⟨rfl, rfl⟩, _, pksA⟩ | skip
    | skip
theorem ViewNodes_law (A : Option Addr) (c : Nat) (ss : List SH) (hsc : ∀ s ∈ ss, s.bs.length ≤ s.c) :
    Spec Try.prog 3 [.slice A ss.length c] [] [sliceC A c 4 ss.length (recs SH.cells ss), allC (ss.map SH.rd)] (fun v l' => v = .bool true ∧ l' = []) := by
  refine ((ViewNodes_core A c ss hsc _ rfl (rows_made ss _ (Nat.min_le_right _ _))).frame (l := []) (l1 := []) .nil ?_).mono fun v l' ⟨l2, ⟨h1, h2⟩, h3⟩ => ⟨h1, by rw [h3, h2]; rfl⟩
  exact .cons (.here (Sub.refl _)) (.cons (.there (.here (Sub.refl _))) (.cons (.there (.here (made_sub ss _ (Nat.min_le_left _ _)))) .nil))
end Go.SX
