/- Views: their bytes. -/
import Derived.Test.YtkiofjedeecijaaVw6
namespace Go.SX
open Go Go.RowKit Go.Proofs
set_option linter.unusedVariables false
set_option linter.unusedSimpArgs false
set_option maxHeartbeats 4000000
/-- The writer behind one more row. -/
def vwStep (s : NW) (l : Int) (r : VR) : NW := nwText (nwNum (nwNum (nwCount s (r.step - l)) 1 r.node) 1 r.kind) r.bs
def vwL (hs : List RH) : Nat → Int
  | 0 => 0
  | k + 1 => (nth hs k).step
def vwS (hs : List RH) : Nat → NW
  | 0 => nwCount ⟨[], 0⟩ hs.length
  | k + 1 => vwStep (vwS hs k) (vwL hs k) (nth hs k).vr
/-- The rows, written. -/
def vwF (s : NW) : Int → List VR → NW
  | _, [] => s
  | l, r :: rs => vwF (vwStep s l r) r.step rs
def vwB (rs : List VR) : List UInt8 := nwOut (vwF (nwCount ⟨[], 0⟩ rs.length) 0 rs)
theorem nwNum_len (s : NW) (n : Int) : (nwNum s 1 n).b.length ≤ s.b.length + 1 := by
  have := nwPut_len s (numErr 1 n) (beB (Int.toNat 1) n)
  rw [beB_len] at this
  exact this
theorem nwText_len (s : NW) (x : List UInt8) (h : x.length ≤ 9223372036854775807) : (nwText s x).b.length ≤ s.b.length + 9 + x.length := by
  have h1 := nwCount_len s x.length (by omega)
  have h2 := nwPut_len (nwCount s x.length) 0 x
  unfold nwText
  omega
def i63 (n : Int) : Prop := 0 ≤ n ∧ n ≤ 9007199254740991
theorem vwStep_len (s : NW) (l : Int) (r : VR) (hl : i63 l) (hr : i63 r.step) (hb : r.bs.length ≤ 3000) : (vwStep s l r).b.length ≤ s.b.length + 3100 := by
  have h1 := nwCount_len s (r.step - l) (by unfold i63 at *; omega)
  have h2 := nwNum_len (nwCount s (r.step - l)) r.node
  have h3 := nwNum_len (nwNum (nwCount s (r.step - l)) 1 r.node) r.kind
  have h4 := nwText_len (nwNum (nwNum (nwCount s (r.step - l)) 1 r.node) 1 r.kind) r.bs (by omega)
  unfold vwStep
  omega
theorem vwL_ok {hs : List RH} (h : ∀ h ∈ hs, i63 h.step ∧ h.bs.length ≤ 3000 ∧ h.node ≤ 100 ∧ h.kind ≤ 100) : ∀ k, k ≤ hs.length → i63 (vwL hs k)
  | 0, _ => (⟨by decide, by decide⟩ : i63 0)
  | k + 1, hk => (h _ (nth_mem hk)).1
theorem vwS_len {hs : List RH} (hl : hs.length ≤ 1000) (h : ∀ h ∈ hs, i63 h.step ∧ h.bs.length ≤ 3000 ∧ h.node ≤ 100 ∧ h.kind ≤ 100) : ∀ k, k ≤ hs.length → (vwS hs k).b.length ≤ 9 + k * 3100
  | 0, _ => by have := nwCount_len ⟨[], 0⟩ hs.length (by omega); exact this
  | k + 1, hk => by
    have h1 := vwS_len hl h k (by omega)
    have h2 := vwStep_len (vwS hs k) (vwL hs k) (nth hs k).vr (vwL_ok h k (by omega)) (h _ (nth_mem hk)).1 (h _ (nth_mem hk)).2.1
    show (vwStep _ _ _).b.length ≤ _
    omega
theorem vwF_eq (hs : List RH) : ∀ n k, n + k = hs.length → vwF (vwS hs k) (vwL hs k) ((hs.map RH.vr).drop k) = vwS hs hs.length
  | 0, k, h => by
    have e : (hs.map RH.vr).drop k = [] := List.drop_eq_nil_of_le (by rw [List.length_map]; omega)
    have : k = hs.length := by omega
    rw [e, this]; rfl
  | n + 1, k, h => by
    rw [drop_vr (by omega)]
    exact vwF_eq hs n (k + 1) (by omega)
theorem vwS_end (hs : List RH) : nwOut (vwS hs hs.length) = vwB (hs.map RH.vr) := by
  have := vwF_eq hs hs.length 0 (by omega)
  rw [← this, vwB, List.length_map]; rfl





theorem VBytes_spec (g : Nat) (a : VA) (hl : a.hs.length ≤ 1000) (hb : ∀ h ∈ a.hs, i63 h.step ∧ h.bs.length ≤ 3000 ∧ h.node ≤ 100 ∧ h.kind ≤ 100) : Spec Try.prog 20 [.pointer (some ⟨g, 0, none⟩)] [] [viewC g a]
    (fun v l' => ∃ A' c' k, k = (vwB (a.hs.map RH.vr)).length ∧ v = .slice A' k c' ∧ l' = [bO A' c' 5 k (vwB (a.hs.map RH.vr))]) := by
  obtain ⟨A, c, hs⟩ := a
  refine Spec.openRS ?_
  dsimp only [viewL, List.cons_append, List.nil_append] at *
  refine Spec.intro Try.func20 rfl rfl Try.ntmps20 rfl fun w0 => ?_
  /- loops of (*sealchain/view.View).Bytes: 6 live [3, 23, 24] vary [4, 25] -/
  (all_goals (refine WC.auto ?_; (conv => whnf))); repeat' (first
          | ((with_reducible refine WB.auto ?_); (conv => whnf))
          | ((with_reducible refine WCB.auto ?_); (conv => whnf))
          | ((with_reducible refine WDB.auto ?_); (conv => whnf))
          | ((with_reducible refine Ob.at ?_); first | (refine Ob.mk (by first | omega | exact u8_bound _ | (have := u8_bound; omega) | (simp only [List.length_drop, List.length_take, List.length_append, List.length_replicate, List.length_set, List.length_cons, List.length_nil, Nat.min_def]; omega)) ?_; (conv => whnf)) | (refine Ob.mk' ?_ ?_; (conv => whnf)))
          | (refine spl_mk (fun hc => ?_) (fun hc => ?_) <;> (try simp only [Bool.not_eq_false', and_self, and_true, true_and, not_true, Bool.not_eq_true', Bool.not_false, Bool.not_true, decide_eq_true_eq, decide_eq_false_iff_not, Bool.false_eq_true, reduceCtorEq, Bool.true_eq_false, ne_eq, Decidable.not_not, Int.not_lt, Int.not_le, beq_self_eq_true, eq_self, not_true_eq_false, not_false_eq_true, Bool.not_eq_eq_eq_not, Bool.not_eq_true, Bool.not_eq_false, beq_iff_eq, beq_eq_false_iff_ne] at hc) <;> (try (exfalso; omega)) <;> (conv => whnf))
          | ((with_reducible refine NatK.at ?_); first | ((with_reducible refine NatK.cast ?_); (conv => whnf)) | (refine NatK.sym (by first | omega | exact u8_bound _ | (have := u8_bound; omega) | (simp only [List.length_drop, List.length_take, List.length_append, List.length_replicate, List.length_set, List.length_cons, List.length_nil, Nat.min_def]; omega)) (fun m hm => ?_); (conv => whnf)))
          | (intro q hq; (conv => whnf))
          | ((with_reducible refine WC.atR 3 ?_); refine WC.draw (id := 3) (ls := []) (.fl 1 (.fl 2 (.fl 3 (.fl 4 (.fl 5 (.fl 6 (.one 0 (.one 7 (.fl 8 .nil))))))))) (by kernel_rfl) (by kernel_rfl) picksA ?_; refine WD.auto ?_; (conv => whnf))
          | ((with_reducible refine WC.atR 8 ?_); have hh := hb _ (nth_mem (show k < hs.length by omega)); have hv := vwL_ok hb k (by omega); unfold i63 at hh hv; have h1 := nwCount_len (vwS hs k) ((nth hs k).step - vwL hs k) (by omega); have h2 := nwNum_len (nwCount (vwS hs k) ((nth hs k).step - vwL hs k)) (nth hs k).node; have h3 := nwNum_len (nwNum (nwCount (vwS hs k) ((nth hs k).step - vwL hs k)) 1 (nth hs k).node) (nth hs k).kind; refine WC.draw (id := 8) (ls := [cellsC g6 37 (RH.cells (nth hs k))]) (.fl 0 (.fl 1 (.fl 2 (.fl 3 (.fl 4 (.fl 6 (.fl 7 (.fl 9 (.fl 10 (.fl 12 (.fl 13 (.one 5 (.one 8 (.one 11 (.one 14 .nil))))))))))))))) (by kernel_rfl) (by kernel_rfl) picksA ?_; refine WD.auto ?_; (conv => whnf))
          | ((with_reducible refine W.at 10 ?_); first | ((refine W.stp (Stp.cal rfl rfl (vnone_spec _ _) pksA rdsA) rfl rfl rfl ?_; rintro _ _ ⟨_, ⟨rfl, rfl⟩, rfl⟩); all_goals ((refine W.auto ?_); (conv => whnf))))
          | ((with_reducible refine WO.at 0 ?_); first | ((refine WO.stp rfl (Stp.cal rfl rfl (Write0_spec) pksA rdsA) rfl rfl rfl ?_; rintro _ _ ⟨_, ⟨g11, a11, rfl, rfl⟩, rfl⟩); all_goals (refine WD.auto ?_; (conv => whnf))) | (refine WO.auto rfl rfl ?_; (conv => whnf); (fail_if_success (show False))) | (refine WO.off rfl rfl rfl rfl ?_; refine WD.auto ?_; (conv => whnf)))
          | ((with_reducible refine WO.at 1 ?_); first | (refine WO.auto rfl rfl ?_; (conv => whnf); (fail_if_success (show False))) | (refine WO.auto rfl rfl ?_; (conv => whnf); (fail_if_success (show False))) | (refine WO.off rfl rfl rfl rfl ?_; refine WD.auto ?_; (conv => whnf)))
          | ((with_reducible refine WO.at 2 ?_); first | (refine WO.auto rfl rfl ?_; (conv => whnf); (fail_if_success (show False))) | (refine WO.ev rfl (Ev.load rfl rfl rdA rfl) rfl rfl rfl ?_; all_goals (refine WD.auto ?_; (conv => whnf))) | (refine WO.ev rfl (Ev.loadI rfl rdA (by first | omega | (simp only [List.length_drop, List.length_take, List.length_append, List.length_replicate, List.length_set, List.length_cons, List.length_nil, Nat.min_def]; omega) | (simp; omega))) rfl rfl rfl ?_; all_goals (refine WD.auto ?_; (conv => whnf))) | (refine WO.off rfl rfl rfl rfl ?_; refine WD.auto ?_; (conv => whnf)))
          | ((with_reducible refine WO.at 3 ?_); first | (refine WO.auto rfl rfl ?_; (conv => whnf); (fail_if_success (show False))) | (refine WO.auto rfl rfl ?_; (conv => whnf); (fail_if_success (show False))) | (refine WO.off rfl rfl rfl rfl ?_; refine WD.auto ?_; (conv => whnf)))
          | ((with_reducible refine WO.at 4 ?_); first | (refine WO.auto rfl rfl ?_; (conv => whnf); (fail_if_success (show False))) | (refine WO.auto rfl rfl ?_; (conv => whnf); (fail_if_success (show False))) | (refine WO.off rfl rfl rfl rfl ?_; refine WD.auto ?_; (conv => whnf)))
          | ((with_reducible refine WD.at 5 ?_); first | (refine WD.ev rfl (Ev.load rfl rfl rdA rfl) rfl rfl rfl ?_; all_goals (refine WD.auto ?_; (conv => whnf))))
          | ((with_reducible refine WO.at 5 ?_); first | (refine WO.ev rfl (Ev.load rfl rfl rdA rfl) rfl rfl rfl ?_; all_goals (refine WD.auto ?_; (conv => whnf))) | ((refine WO.stp rfl (Stp.cal rfl rfl (Spec.ask fun (hq : _ ∧ _) => Count_spec _ _ _ _ hq.1 hq.2) pksA rdsA) rfl rfl rfl ?_; rintro _ _ ⟨_, ⟨a34, rfl, rfl⟩, rfl⟩); all_goals (refine WD.auto ?_; (conv => whnf))) | (refine WO.off rfl rfl rfl rfl ?_; refine WD.auto ?_; (conv => whnf)))
          | ((with_reducible refine WO.at 6 ?_); first | (refine WO.auto rfl rfl ?_; (conv => whnf); (fail_if_success (show False))) | (refine WO.auto rfl rfl ?_; (conv => whnf); (fail_if_success (show False))) | (refine WO.off rfl rfl rfl rfl ?_; refine WD.auto ?_; (conv => whnf)))
          | ((with_reducible refine WO.at 7 ?_); first | ((refine WO.stp rfl (Stp.cal rfl rfl (Spec.ask fun (hq : _ ∧ _) => Count_spec _ _ _ _ hq.1 hq.2) pksA rdsA) rfl rfl rfl ?_; rintro _ _ ⟨_, ⟨a18, rfl, rfl⟩, rfl⟩); all_goals (refine WD.auto ?_; (conv => whnf))) | (refine WO.ev rfl (Ev.load rfl rfl rdA rfl) rfl rfl rfl ?_; all_goals (refine WD.auto ?_; (conv => whnf))) | (refine WO.ev rfl (Ev.loadI rfl rdA (by first | omega | (simp only [List.length_drop, List.length_take, List.length_append, List.length_replicate, List.length_set, List.length_cons, List.length_nil, Nat.min_def]; omega) | (simp; omega))) rfl rfl rfl ?_; all_goals (refine WD.auto ?_; (conv => whnf))) | (refine WO.off rfl rfl rfl rfl ?_; refine WD.auto ?_; (conv => whnf)))
          | ((with_reducible refine WO.at 8 ?_); first | (refine WO.auto rfl rfl ?_; (conv => whnf); (fail_if_success (show False))) | ((refine WO.stp rfl (Stp.cal rfl rfl (Spec.ask fun (hq : _ ∧ _) => Num_spec _ _ _ _ _ hq.1 hq.2) pksA rdsA) rfl rfl rfl ?_; rintro _ _ ⟨_, ⟨a37, rfl, rfl⟩, rfl⟩); all_goals (refine WD.auto ?_; (conv => whnf))) | (refine WO.off rfl rfl rfl rfl ?_; refine WD.auto ?_; (conv => whnf)))
          | ((with_reducible refine W.at 23 ?_); first | (refine W.ev (Ev.load rfl rfl rdA rfl) rfl rfl rfl ?_; all_goals ((refine W.auto ?_); (conv => whnf))))
          | ((with_reducible refine W.at 27 ?_); first | (refine W.ev (Ev.indexRec rfl rfl rdA (by omega) (by rfl)) rfl rfl rfl ?_; all_goals ((refine W.auto ?_); (conv => whnf))))
          | ((with_reducible refine W.at 28 ?_); first | (refine W.ev (Ev.loadRec rfl rfl rdA (by exact fun _ => rfl) (by omega) (by rfl)) rfl rfl rfl ?_; all_goals ((refine W.auto ?_); (conv => whnf))))
          | ((with_reducible refine W.at 6 ?_); first | ((refine W.stp (Stp.allocA rfl) rfl rfl rfl ?_; rintro _ _ ⟨g6, rfl, rfl⟩); all_goals ((refine W.auto ?_); (conv => whnf))))
          | ((with_reducible refine W.atS 6 ?_); first | (refine stWP rfl rfl (by intro v hv; (repeat' (first | rfl | (cases hv; done) | (rcases List.mem_cons.1 hv with rfl | hv)))) (by rfl) pkA ?_; (conv => whnf)))
          | ((with_reducible refine WD.at 2 ?_); first | (refine WD.ev rfl (Ev.load rfl rfl rdA rfl) rfl rfl rfl ?_; all_goals (refine WD.auto ?_; (conv => whnf))) | (refine WD.ev rfl (Ev.loadI rfl rdA (by first | omega | (simp only [List.length_drop, List.length_take, List.length_append, List.length_replicate, List.length_set, List.length_cons, List.length_nil, Nat.min_def]; omega) | (simp; omega))) rfl rfl rfl ?_; all_goals (refine WD.auto ?_; (conv => whnf))))
          | ((with_reducible refine WD.at 7 ?_); first | (refine WD.ev rfl (Ev.load rfl rfl rdA rfl) rfl rfl rfl ?_; all_goals (refine WD.auto ?_; (conv => whnf))) | (refine WD.ev rfl (Ev.loadI rfl rdA (by first | omega | (simp only [List.length_drop, List.length_take, List.length_append, List.length_replicate, List.length_set, List.length_cons, List.length_nil, Nat.min_def]; omega) | (simp; omega))) rfl rfl rfl ?_; all_goals (refine WD.auto ?_; (conv => whnf))))
          | ((with_reducible refine WO.at 9 ?_); first | (refine WO.auto rfl rfl ?_; (conv => whnf); (fail_if_success (show False))) | (refine WO.off rfl rfl rfl rfl ?_; refine WD.auto ?_; (conv => whnf)))
          | ((with_reducible refine WD.at 10 ?_); first | (refine WD.ev rfl (Ev.load rfl rfl rdA rfl) rfl rfl rfl ?_; all_goals (refine WD.auto ?_; (conv => whnf))) | (refine WD.ev rfl (Ev.loadI rfl rdA (by first | omega | (simp only [List.length_drop, List.length_take, List.length_append, List.length_replicate, List.length_set, List.length_cons, List.length_nil, Nat.min_def]; omega) | (simp; omega))) rfl rfl rfl ?_; all_goals (refine WD.auto ?_; (conv => whnf))))
          | ((with_reducible refine WO.at 10 ?_); first | (refine WO.ev rfl (Ev.load rfl rfl rdA rfl) rfl rfl rfl ?_; all_goals (refine WD.auto ?_; (conv => whnf))) | (refine WO.ev rfl (Ev.loadI rfl rdA (by first | omega | (simp only [List.length_drop, List.length_take, List.length_append, List.length_replicate, List.length_set, List.length_cons, List.length_nil, Nat.min_def]; omega) | (simp; omega))) rfl rfl rfl ?_; all_goals (refine WD.auto ?_; (conv => whnf))) | (refine WO.off rfl rfl rfl rfl ?_; refine WD.auto ?_; (conv => whnf)))
          | ((with_reducible refine WO.at 11 ?_); first | ((refine WO.stp rfl (Stp.cal rfl rfl (Spec.ask fun (hq : _ ∧ _) => Num_spec _ _ _ _ _ hq.1 hq.2) pksA rdsA) rfl rfl rfl ?_; rintro _ _ ⟨_, ⟨a40, rfl, rfl⟩, rfl⟩); all_goals (refine WD.auto ?_; (conv => whnf))) | (refine WO.off rfl rfl rfl rfl ?_; refine WD.auto ?_; (conv => whnf)))
          | ((with_reducible refine WO.at 12 ?_); first | (refine WO.auto rfl rfl ?_; (conv => whnf); (fail_if_success (show False))) | (refine WO.off rfl rfl rfl rfl ?_; refine WD.auto ?_; (conv => whnf)))
          | ((with_reducible refine WD.at 13 ?_); first | (refine WD.ev rfl (Ev.load rfl rfl rdA rfl) rfl rfl rfl ?_; all_goals (refine WD.auto ?_; (conv => whnf))))
          | ((with_reducible refine WO.at 13 ?_); first | (refine WO.ev rfl (Ev.load rfl rfl rdA rfl) rfl rfl rfl ?_; all_goals (refine WD.auto ?_; (conv => whnf))) | (refine WO.off rfl rfl rfl rfl ?_; refine WD.auto ?_; (conv => whnf)))
          | ((with_reducible refine WO.at 14 ?_); first | ((refine WO.stp rfl (Stp.cal rfl rfl (Spec.ask fun (hq : _) => Text_spec _ _ _ _ _ _ _ rfl hq) pksA rdsA) rfl rfl rfl ?_; rintro _ _ ⟨_, ⟨a43, rfl, rfl⟩, rfl⟩); all_goals (refine WD.auto ?_; (conv => whnf))) | (refine WO.off rfl rfl rfl rfl ?_; refine WD.auto ?_; (conv => whnf)))
          | ((with_reducible refine W.at 45 ?_); first | (refine W.ev (Ev.load rfl rfl rdA rfl) rfl rfl rfl ?_; all_goals ((refine W.auto ?_); (conv => whnf))) | (refine W.ev (Ev.loadI rfl rdA (by first | omega | (simp only [List.length_drop, List.length_take, List.length_append, List.length_replicate, List.length_set, List.length_cons, List.length_nil, Nat.min_def]; omega) | (simp; omega))) rfl rfl rfl ?_; all_goals ((refine W.auto ?_); (conv => whnf))))
          | ((with_reducible refine W.at 49 ?_); first | ((refine W.stp (Stp.cal rfl rfl (Spec.ask fun (hq : _) => Bytes_spec _ _ _ hq) pksA rdsA) rfl rfl rfl ?_; rintro _ _ ⟨_, ⟨A49, c49, k49, hk49, rfl, rfl⟩, rfl⟩); all_goals ((refine W.auto ?_); (conv => whnf))))
          | (with_reducible refine WD.one ?_)
          | (with_reducible refine WD.two ?_ ?_)
          | (with_reducible refine WD.three ?_ ?_ ?_)
          | ((with_reducible refine WC.atC (c := .loop (.seq (.region 6 _ _) _)) ?_); refine WC.loopL2 (X := Nat) (Y := NWA) (0) (a18) (fun k a => k ≤ hs.length ∧ (vwS hs k).b.length ≤ 9 + k * 3100) (fun k a => [(25, .int .i64 (k : Int)), (4, .int .i64 (vwL hs k))]) (fun k a => [nwC g11 a (vwS hs k)]) (fun k a => hs.length - k) [3, 23, 24] (⟨by omega, vwS_len hl hb 0 (by omega)⟩) ?_; (conv => whnf); refine LoopQ2.mk (by ((repeat (first | exact trivial | refine And.intro rfl ?_)); fail_if_success (focus skip))) (⟨_, pksA⟩) ?_; rintro k a hj; refine WC.auto ?_; (conv => whnf))
          | (refine ⟨k + 1, a43, ?_, by ((repeat (first | exact trivial | refine And.intro rfl ?_)); fail_if_success (focus skip)), (by (with_reducible refine chLeI ?_); exact ⟨_, pksA⟩), by omega⟩)
          | refine Exists.intro _ (And.intro (resv_rfl rfl) ?_))
  all_goals first
    | (have e : k = hs.length := (by omega)
       subst e
       rw [vwS_end] at hk49 ⊢
       exact ⟨_, ⟨_, _, _, hk49, rfl, rfl⟩, _, pksA⟩)
    | (have h4 := vwS_len hl hb (k + 1) (by omega); exact ⟨by omega, h4⟩)
    | skip

end Go.SX
