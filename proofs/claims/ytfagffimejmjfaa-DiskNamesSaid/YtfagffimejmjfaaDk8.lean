/- The disk: DiskTraces. -/
import Derived.Test.YtfagffimejmjfaaDk7
namespace Go.SX
open Go Go.RowKit Go.Proofs
set_option linter.unusedVariables false
set_option linter.unusedSimpArgs false
set_option maxHeartbeats 8000000
/-- A call, as the laws are told it. -/
structure DkDo where
  kind : Int
  n : Int
  raw : Bool
  A : Option Addr
  c : Nat
  bs : List UInt8
  deriving Inhabited
def DkDo.cells (d : DkDo) : List Value := [.int .i64 d.kind, .int .i64 d.n, .bool d.raw, .slice d.A d.bs.length d.c]
def DkDo.inner (d : DkDo) : Chunk := bR d.A d.c d.bs.length d.bs
/-- A slice of slices of bytes that is one's own. -/
structure WS where
  A : Option Addr
  c : Nat
  n : Nat
  hs : List BH
theorem dkWrite_tr0 {s : DK} {x : List UInt8} (h : (dkWrite s x).1 = 0) : (dkWrite s x).2.tr = s.tr ++ [x] := by
  revert h; unfold dkWrite; (repeat' split) <;> simp
theorem dkWrite_tr1 {s : DK} {x : List UInt8} (h : ¬ (dkWrite s x).1 = 0) : (dkWrite s x).2.tr = s.tr := by
  revert h; unfold dkWrite; (repeat' split) <;> simp
theorem dkSwap_tr0 {s : DK} {x : List UInt8} (h : (dkSwap s x).1 = 0) : (dkSwap s x).2.tr = s.tr ++ [x] := by
  revert h; unfold dkSwap; (repeat' split) <;> simp
theorem dkSwap_tr1 {s : DK} {x : List UInt8} (h : ¬ (dkSwap s x).1 = 0) : (dkSwap s x).2.tr = s.tr := by
  revert h; unfold dkSwap; (repeat' split) <;> simp [dkTear]
theorem dkSync_tr {s : DK} : (dkSync s).2.tr = s.tr := by unfold dkSync; (repeat' split) <;> simp [dkTear]
theorem dkArm_tr {s : DK} {c : Int} : (dkArm s c).2.tr = s.tr := by unfold dkArm; (repeat' split) <;> simp
theorem dkCrash_tr {s : DK} {c : Int} : (dkCrash s c).2.tr = s.tr := by unfold dkCrash; (repeat' split) <;> simp [dkTear]
theorem dkRevive_tr {s : DK} : (dkRevive s).2.tr = s.tr := rfl
structure TrInv (k : Nat) (s : DK) (w : WS) : Prop where
  lt : k ≤ 60
  inv : DkInv s k
  tr : w.hs.map BH.bs = s.tr
  n : w.n = w.hs.length
theorem dkDo_cap {ds : List DkDo} {w : World} (h : (allC (ds.map DkDo.inner)).holds w) (k : Nat) (hk : k < ds.length) : (nth ds k).bs.length ≤ (nth ds k).c ∧ (nth ds k).c ≤ 9223372036854775807 :=
  (bR_len w (h _ (List.mem_map_of_mem (nth_mem hk)) : (bR (nth ds k).A (nth ds k).c (nth ds k).bs.length (nth ds k).bs).holds w)).2
theorem DiskTraces_law (A : Option Addr) (c : Nat) (ds : List DkDo) :
    Spec Try.prog 6 [.slice A ds.length c] [] [sliceC A c 4 ds.length (recs DkDo.cells ds), allC (ds.map DkDo.inner)] (fun v l' => v = .bool true ∧ l' = []) := by
  refine Spec.fact (d := sliceC A c 4 ds.length (recs DkDo.cells ds)) (Rd.here (Sub.refl _)) (fun w h => (sliceC_len w h).2) fun hx => ?_
  refine Spec.fact (d := allC (ds.map DkDo.inner)) (Rd.there (Rd.here (Sub.refl _))) (fun w h => dkDo_cap h) fun hcap => ?_
  obtain ⟨hx2, hx3⟩ := hx
  refine Spec.intro Try.func6 rfl rfl Try.ntmps6 rfl fun w0 => ?_
  /- loops of sealchain/sealchainlaw13.DiskTraces: 4 live [0, 3] vary [4, 5]; 28 live [0, 3, 4, 5, 9] vary [10] -/
  (all_goals (refine WC.auto ?_; (conv => whnf))); repeat' (first
          | ((with_reducible refine WB.auto ?_); (conv => whnf))
          | ((with_reducible refine WCB.auto ?_); (conv => whnf))
          | ((with_reducible refine WDB.auto ?_); (conv => whnf))
          | ((with_reducible refine Ob.at ?_); first | (refine Ob.mk (by first | omega | exact u8_bound _ | (have := u8_bound; omega) | (simp only [List.length_drop, List.length_take, List.length_append, List.length_replicate, List.length_set, List.length_cons, List.length_nil, Nat.min_def]; omega)) ?_; (conv => whnf)) | (refine Ob.mk' ?_ ?_; (conv => whnf)))
          | (refine spl_mk (fun hc => ?_) (fun hc => ?_) <;> (try simp only [Bool.not_eq_false', and_self, and_true, true_and, not_true, Bool.not_eq_true', Bool.not_false, Bool.not_true, decide_eq_true_eq, decide_eq_false_iff_not, Bool.false_eq_true, reduceCtorEq, Bool.true_eq_false, ne_eq, Decidable.not_not, Int.not_lt, Int.not_le, beq_self_eq_true, eq_self, not_true_eq_false, not_false_eq_true, Bool.not_eq_eq_eq_not, Bool.not_eq_true, Bool.not_eq_false, beq_iff_eq, beq_eq_false_iff_ne] at hc) <;> (try (exfalso; omega)) <;> (conv => whnf))
          | ((with_reducible refine NatK.at ?_); first | ((with_reducible refine NatK.cast ?_); (conv => whnf)) | (refine NatK.sym (by first | omega | exact u8_bound _ | (have := u8_bound; omega) | (simp only [List.length_drop, List.length_take, List.length_append, List.length_replicate, List.length_set, List.length_cons, List.length_nil, Nat.min_def]; omega)) (fun m hm => ?_); (conv => whnf)))
          | (intro q hq; (conv => whnf))
          | ((with_reducible refine WC.atR 30 ?_); refine WC.draw (id := 30) (ls := _) (.fl 0 (.fl 1 (.fl 2 (.fl 3 (.fl 4 (.fl 5 (.fl 6 (.fl 7 (.one 8 (.fl 9 .nil)))))))))) (by kernel_rfl) (by kernel_rfl) (Picks.refl _) ?_; refine WD.auto ?_; (conv => whnf))
          | ((with_reducible refine W.at 11 ?_); first | ((refine W.stp (Stp.cal rfl rfl (dNew_spec) pksA rdsA) rfl rfl rfl ?_; rintro _ _ ⟨_, ⟨gd, a11, rfl, rfl⟩, rfl⟩); all_goals ((refine W.auto ?_); (conv => whnf))))
          | ((with_reducible refine W.at 24 ?_); first | (refine W.ev (Ev.indexRec rfl rfl rdA (by omega) (by rfl)) rfl rfl rfl ?_; all_goals ((refine W.auto ?_); (conv => whnf))))
          | ((with_reducible refine W.at 25 ?_); first | (refine W.ev (Ev.loadRec rfl rfl rdA (by exact fun _ => rfl) (by omega) (by rfl)) rfl rfl rfl ?_; all_goals ((refine W.auto ?_); (conv => whnf))))
          | ((with_reducible refine W.at 6 ?_); first | ((refine W.stp (Stp.allocA rfl) rfl rfl rfl ?_; rintro _ _ ⟨g6, rfl, rfl⟩); all_goals ((refine W.auto ?_); (conv => whnf))))
          | ((with_reducible refine W.atS 6 ?_); first | (refine stWP rfl rfl (by intro v hv; (repeat' (first | rfl | (cases hv; done) | (rcases List.mem_cons.1 hv with rfl | hv)))) (by rfl) pkA ?_; (conv => whnf)))
          | ((with_reducible refine W.at 27 ?_); first | (refine W.ev (Ev.load rfl rfl rdA rfl) rfl rfl rfl ?_; all_goals ((refine W.auto ?_); (conv => whnf))))
          | ((with_reducible refine W.at 29 ?_); first | (refine W.ev (Ev.load rfl rfl rdA rfl) rfl rfl rfl ?_; all_goals ((refine W.auto ?_); (conv => whnf))))
          | ((with_reducible refine W.at 34 ?_); first | (refine W.ev (Ev.load rfl rfl rdA rfl) rfl rfl rfl ?_; all_goals ((refine W.auto ?_); (conv => whnf))) | (refine W.ev (Ev.loadI rfl rdA (by first | omega | (simp only [List.length_drop, List.length_take, List.length_append, List.length_replicate, List.length_set, List.length_cons, List.length_nil, Nat.min_def]; omega) | (simp; omega))) rfl rfl rfl ?_; all_goals ((refine W.auto ?_); (conv => whnf))))
          | ((with_reducible refine W.at 35 ?_); first | ((refine W.stp (Stp.cal rfl rfl (Bring_spec _ _ ⟨by omega, by omega⟩) pksA rdsA) rfl rfl rfl ?_; rintro _ _ ⟨_, ⟨⟨m35, rfl, hm35, hl35, hu35⟩, rfl⟩, rfl⟩); all_goals ((refine W.auto ?_); (conv => whnf))))
          | ((with_reducible refine W.at 43 ?_); first | ((first | (first | (first | (refine W.stp (Stp.cal rfl rfl (Sync_inv _ _ s k hj.inv) pksA rdsA) rfl rfl rfl ?_; rintro _ _ ⟨_, ⟨a43, rfl, rfl, hi43⟩, rfl⟩) | (refine W.stp (Stp.cal rfl rfl (Spec.ask fun (hq : _) => Sync_ok _ _ _ _ _ hq) pksA rdsA) rfl rfl rfl ?_; rintro _ _ ⟨_, ⟨a43, rfl, rfl⟩, rfl⟩)) | (refine W.stp (Stp.cal rfl rfl (Spec.ask fun (hq : _ ∧ _) => Sync_armed _ _ _ _ _ _ hq.1 hq.2) pksA rdsA) rfl rfl rfl ?_; rintro _ _ ⟨_, ⟨a43, rfl, rfl⟩, rfl⟩)) | (refine W.stp (Stp.cal rfl rfl (Spec.ask fun (hq : _ ∧ _) => Sync_dead _ _ _ _ _ _ hq.1 hq.2) pksA rdsA) rfl rfl rfl ?_; rintro _ _ ⟨_, ⟨a43, rfl, rfl⟩, rfl⟩)); all_goals ((refine W.auto ?_); (conv => whnf))))
          | ((with_reducible refine W.at 48 ?_); first | ((first | (first | (first | (refine W.stp (Stp.cal rfl rfl (Swap_inv _ _ s k _ _ _ _ hj.inv (by omega) (by omega)) pksA rdsA) rfl rfl rfl ?_; rintro _ _ ⟨_, ⟨a48, rfl, rfl, hi48⟩, rfl⟩) | (refine W.stp (Stp.cal rfl rfl (Spec.ask fun (hq : _) => Swap_ok _ _ _ _ _ _ _ _ _ hq) pksA rdsA) rfl rfl rfl ?_; rintro _ _ ⟨_, ⟨a48, rfl, rfl⟩, rfl⟩)) | (refine W.stp (Stp.cal rfl rfl (Spec.ask fun (hq : _ ∧ _) => Swap_armed _ _ _ _ _ _ _ _ _ _ hq.1 hq.2) pksA rdsA) rfl rfl rfl ?_; rintro _ _ ⟨_, ⟨a48, rfl, rfl⟩, rfl⟩)) | (refine W.stp (Stp.cal rfl rfl (Spec.ask fun (hq : _ ∧ _) => Swap_dead _ _ _ _ _ _ _ _ _ _ hq.1 hq.2) pksA rdsA) rfl rfl rfl ?_; rintro _ _ ⟨_, ⟨a48, rfl, rfl⟩, rfl⟩)); all_goals ((refine W.auto ?_); (conv => whnf))))
          | ((with_reducible refine W.at 53 ?_); first | (refine W.ev (Ev.load rfl rfl rdA rfl) rfl rfl rfl ?_; all_goals ((refine W.auto ?_); (conv => whnf))) | (refine W.ev (Ev.loadI rfl rdA (by first | omega | (simp only [List.length_drop, List.length_take, List.length_append, List.length_replicate, List.length_set, List.length_cons, List.length_nil, Nat.min_def]; omega) | (simp; omega))) rfl rfl rfl ?_; all_goals ((refine W.auto ?_); (conv => whnf))))
          | ((with_reducible refine W.at 54 ?_); first | ((refine W.stp (Stp.cal rfl rfl (Bring_spec _ _ ⟨by omega, by omega⟩) pksA rdsA) rfl rfl rfl ?_; rintro _ _ ⟨_, ⟨⟨m54, rfl, hm54, hl54, hu54⟩, rfl⟩, rfl⟩); all_goals ((refine W.auto ?_); (conv => whnf))))
          | ((with_reducible refine W.at 55 ?_); first | ((first | (first | (refine W.stp (Stp.cal rfl rfl (Arm_inv _ _ s k _ hj.inv (by omega)) pksA rdsA) rfl rfl rfl ?_; rintro _ _ ⟨_, ⟨a55, rfl, rfl, hi55⟩, rfl⟩) | (refine W.stp (Stp.cal rfl rfl (Spec.ask fun (hq : _ ∧ _ ∧ _) => Arm_ok _ _ _ _ _ _ _ hq.1 hq.2.1 hq.2.2) pksA rdsA) rfl rfl rfl ?_; rintro _ _ ⟨_, ⟨a55, rfl, rfl⟩, rfl⟩)) | (refine W.stp (Stp.cal rfl rfl (Spec.ask fun (hq : _ ∧ _ ∧ _) => Arm_dead _ _ _ _ _ _ _ hq.1 hq.2.1 hq.2.2) pksA rdsA) rfl rfl rfl ?_; rintro _ _ ⟨_, ⟨a55, rfl, rfl⟩, rfl⟩)); all_goals ((refine W.auto ?_); (conv => whnf))))
          | ((with_reducible refine W.at 60 ?_); first | (refine W.ev (Ev.load rfl rfl rdA rfl) rfl rfl rfl ?_; all_goals ((refine W.auto ?_); (conv => whnf))) | (refine W.ev (Ev.loadI rfl rdA (by first | omega | (simp only [List.length_drop, List.length_take, List.length_append, List.length_replicate, List.length_set, List.length_cons, List.length_nil, Nat.min_def]; omega) | (simp; omega))) rfl rfl rfl ?_; all_goals ((refine W.auto ?_); (conv => whnf))))
          | ((with_reducible refine W.at 61 ?_); first | ((refine W.stp (Stp.cal rfl rfl (Bring_spec _ _ ⟨by omega, by omega⟩) pksA rdsA) rfl rfl rfl ?_; rintro _ _ ⟨_, ⟨⟨m61, rfl, hm61, hl61, hu61⟩, rfl⟩, rfl⟩); all_goals ((refine W.auto ?_); (conv => whnf))))
          | ((with_reducible refine W.at 62 ?_); first | ((first | (refine W.stp (Stp.cal rfl rfl (Crash_inv _ _ s k _ hj.inv (by omega)) pksA rdsA) rfl rfl rfl ?_; rintro _ _ ⟨_, ⟨a62, rfl, rfl, hi62⟩, rfl⟩) | (refine W.stp (Stp.cal rfl rfl (Spec.ask fun (hq : _ ∧ _ ∧ _) => Crash_live _ _ _ _ _ _ _ hq.1 hq.2.1 hq.2.2) pksA rdsA) rfl rfl rfl ?_; rintro _ _ ⟨_, ⟨a62, rfl, rfl⟩, rfl⟩)); all_goals ((refine W.auto ?_); (conv => whnf))))
          | ((with_reducible refine W.at 66 ?_); first | ((first | (refine W.stp (Stp.cal rfl rfl (Revive_inv _ _ s k hj.inv) pksA rdsA) rfl rfl rfl ?_; rintro _ _ ⟨_, ⟨a66, rfl, rfl, hi66⟩, rfl⟩) | (refine W.stp (Stp.cal rfl rfl (Revive_ok _ _ _ _ _ _ _) pksA rdsA) rfl rfl rfl ?_; rintro _ _ ⟨_, ⟨a66, rfl, rfl⟩, rfl⟩)); all_goals ((refine W.auto ?_); (conv => whnf))))
          | ((with_reducible refine W.at 38 ?_); first | ((first | (first | (refine W.stp (Stp.cal rfl rfl (Spec.ask fun (hq : _) => Write_inv _ _ s k _ _ _ _ hj.inv (by omega) hq) pksA rdsA) rfl rfl rfl ?_; rintro _ _ ⟨_, ⟨a38, rfl, rfl, hi38⟩, rfl⟩) | (refine W.stp (Stp.cal rfl rfl (Spec.ask fun (hq : _ ∧ _) => Write_ok _ _ _ _ _ _ _ _ _ _ hq.1 hq.2) pksA rdsA) rfl rfl rfl ?_; rintro _ _ ⟨_, ⟨a38, rfl, rfl⟩, rfl⟩)) | (refine W.stp (Stp.cal rfl rfl (Spec.ask fun (hq : _ ∧ _) => Write_dead _ _ _ _ _ _ _ _ _ _ hq.1 hq.2) pksA rdsA) rfl rfl rfl ?_; rintro _ _ ⟨_, ⟨a38, rfl, rfl⟩, rfl⟩)); all_goals ((refine W.auto ?_); (conv => whnf))))
          | ((with_reducible refine W.at 71 ?_); first | ((refine W.stp (Stp.cal rfl rfl (CopyBytes_spec _ _ _ _ (by omega)) pksA rdsA) rfl rfl rfl ?_; rintro _ _ ⟨_, ⟨A71, c71, rfl, rfl⟩, rfl⟩); all_goals ((refine W.auto ?_); (conv => whnf))))
          | ((with_reducible refine W.at 72 ?_); first | ((refine W.stp (Stp.buildSlice rfl rfl rfl rfl (by intro v hv; (repeat' (first | rfl | (cases hv; done) | (rcases List.mem_cons.1 hv with rfl | hv)))) rfl) rfl rfl rfl ?_; rintro _ _ ⟨g72, rfl, rfl⟩); all_goals ((refine W.auto ?_); (conv => whnf))))
          | ((with_reducible refine W.at 73 ?_); first | ((refine W.stp (Stp.append rfl rfl pkA rdA (by exact (by intro v hv; (repeat' (first | rfl | (cases hv; done) | (rcases List.mem_cons.1 hv with rfl | hv))))) (by rfl) (by omega) (by omega) (by omega)) rfl rfl rfl ?_; rintro _ _ ⟨A2_73, c2_73, rfl, rfl⟩); (try (refine W.lstT (cs := [rowC _ _ _ 1 _ (recs BH.cell (w.hs ++ [⟨_, _, _, _⟩])), starM (BH.own _) (w.hs ++ [⟨_, _, _, _⟩])]) pksA ?_)); all_goals ((refine W.auto ?_); (conv => whnf))) | ((refine W.stp (Stp.nil (Stp.append rfl rfl (by exact Pick.here) rdA (by exact (by intro v hv; (repeat' (first | rfl | (cases hv; done) | (rcases List.mem_cons.1 hv with rfl | hv))))) (by rfl) (by omega) (by omega) (by omega))) rfl rfl rfl ?_; rintro _ _ ⟨A2_73, c2_73, rfl, rfl⟩); (try (refine W.lstT (cs := [rowC _ _ _ 1 _ (recs BH.cell (w.hs ++ [⟨_, _, _, _⟩])), starM (BH.own _) (w.hs ++ [⟨_, _, _, _⟩])]) pksA ?_)); all_goals ((refine W.auto ?_); (conv => whnf))))
          | ((with_reducible refine W.at 75 ?_); first | ((refine W.stp (Stp.cal rfl rfl (Trace_inv _ _ _ (k + 1) (by assumption) (by omega)) pksA rdsA) rfl rfl rfl ?_; rintro _ _ ⟨_, ⟨At, ct, nt, ht, htr, htn, rfl, rfl⟩, rfl⟩; ((first | (have hT : (w.hs ++ [(⟨A71, c71, m, List.take m (nth ds k).bs⟩ : BH)]).map BH.bs = ht.map BH.bs := (by rw [htr, List.map_append, hj.tr]; first | exact (dkSwap_tr0 hc).symm | exact (dkWrite_tr0 hc).symm)) | (have hT : w.hs.map BH.bs = ht.map BH.bs := (by rw [htr, hj.tr]; first | exact (dkSwap_tr1 hc).symm | exact (dkWrite_tr1 hc).symm | exact dkSync_tr.symm | exact dkArm_tr.symm | exact dkCrash_tr.symm | rfl))); have hN := congrArg List.length hT; simp only [List.length_map, List.length_append, List.length_singleton, List.length_cons, List.length_nil] at hN; have hLx := congrArg List.length hT; rw [List.length_map, List.length_map] at hLx; have hn := hj.n; have hI : DkInv _ (k + 1) := (by assumption); have hB := hI.tj; have hB3 := congrArg List.length htr; simp only [List.length_map] at hB3)); all_goals ((refine W.auto ?_); (conv => whnf))))
          | ((with_reducible refine WO.at 0 ?_); first | (refine WO.auto rfl rfl ?_; (conv => whnf); (fail_if_success (show False))) | (refine WO.off rfl rfl rfl rfl ?_; refine WD.auto ?_; (conv => whnf)))
          | ((with_reducible refine WO.at 1 ?_); first | (refine WO.auto rfl rfl ?_; (conv => whnf); (fail_if_success (show False))) | (refine WO.off rfl rfl rfl rfl ?_; refine WD.auto ?_; (conv => whnf)))
          | ((with_reducible refine WD.at 2 ?_); first | (refine WD.ev rfl (Ev.indexAddrN rfl rfl rdA (by omega)) rfl rfl rfl ?_; all_goals (refine WD.auto ?_; (conv => whnf))) | (refine WD.ev rfl (Ev.indexAddr1 rfl rfl rdA (by omega)) rfl rfl rfl ?_; all_goals (refine WD.auto ?_; (conv => whnf))))
          | ((with_reducible refine WO.at 2 ?_); first | (refine WO.ev rfl (Ev.indexAddrN rfl rfl rdA (by omega)) rfl rfl rfl ?_; all_goals (refine WD.auto ?_; (conv => whnf))) | (refine WO.ev rfl (Ev.indexAddr1 rfl rfl rdA (by omega)) rfl rfl rfl ?_; all_goals (refine WD.auto ?_; (conv => whnf))) | (refine WO.off rfl rfl rfl rfl ?_; refine WD.auto ?_; (conv => whnf)))
          | ((with_reducible refine WD.at 3 ?_); first | (refine WD.ev rfl (Ev.loadRec0 rfl rfl rdA (by exact fun _ => rfl) (by omega) (by rfl)) rfl rfl rfl ?_; all_goals (refine WD.auto ?_; (conv => whnf))))
          | ((with_reducible refine WO.at 3 ?_); first | (refine WO.ev rfl (Ev.loadRec0 rfl rfl rdA (by exact fun _ => rfl) (by omega) (by rfl)) rfl rfl rfl ?_; all_goals (refine WD.auto ?_; (conv => whnf))) | (refine WO.off rfl rfl rfl rfl ?_; refine WD.auto ?_; (conv => whnf)))
          | ((with_reducible refine WO.at 4 ?_); first | (refine WO.auto rfl rfl ?_; (conv => whnf); (fail_if_success (show False))) | (refine WO.off rfl rfl rfl rfl ?_; refine WD.auto ?_; (conv => whnf)))
          | ((with_reducible refine WO.at 5 ?_); first | (refine WO.auto rfl rfl ?_; (conv => whnf); (fail_if_success (show False))) | (refine WO.off rfl rfl rfl rfl ?_; refine WD.auto ?_; (conv => whnf)))
          | ((with_reducible refine WD.at 6 ?_); first | (refine WD.ev rfl (Ev.indexAddrN rfl rfl rdA (by omega)) rfl rfl rfl ?_; all_goals (refine WD.auto ?_; (conv => whnf))) | (refine WD.ev rfl (Ev.indexAddr1 rfl rfl rdA (by omega)) rfl rfl rfl ?_; all_goals (refine WD.auto ?_; (conv => whnf))))
          | ((with_reducible refine WO.at 6 ?_); first | (refine WO.ev rfl (Ev.indexAddrN rfl rfl rdA (by omega)) rfl rfl rfl ?_; all_goals (refine WD.auto ?_; (conv => whnf))) | (refine WO.ev rfl (Ev.indexAddr1 rfl rfl rdA (by omega)) rfl rfl rfl ?_; all_goals (refine WD.auto ?_; (conv => whnf))) | (refine WO.off rfl rfl rfl rfl ?_; refine WD.auto ?_; (conv => whnf)))
          | ((with_reducible refine WD.at 7 ?_); first | (refine WD.ev rfl (Ev.loadRec0 rfl rfl rdA (by exact fun _ => rfl) (by omega) (by rfl)) rfl rfl rfl ?_; all_goals (refine WD.auto ?_; (conv => whnf))))
          | ((with_reducible refine WO.at 7 ?_); first | (refine WO.ev rfl (Ev.loadRec0 rfl rfl rdA (by exact fun _ => rfl) (by omega) (by rfl)) rfl rfl rfl ?_; all_goals (refine WD.auto ?_; (conv => whnf))) | (refine WO.off rfl rfl rfl rfl ?_; refine WD.auto ?_; (conv => whnf)))
          | ((with_reducible refine WO.at 8 ?_); first | ((refine WO.stp rfl (Stp.cal rfl rfl (EqBytes_spec _ _ _ _ _ _ _ _) pksA rdsA) rfl rfl rfl ?_; rintro _ _ ⟨_, ⟨rfl, rfl⟩, rfl⟩); all_goals (refine WD.auto ?_; (conv => whnf))) | (refine WO.off rfl rfl rfl rfl ?_; refine WD.auto ?_; (conv => whnf)))
          | ((with_reducible refine WO.at 9 ?_); first | (refine WO.auto rfl rfl ?_; (conv => whnf); (fail_if_success (show False))) | (refine WO.off rfl rfl rfl rfl ?_; refine WD.auto ?_; (conv => whnf)))
          | ((with_reducible refine W.at 97 ?_); first | ((refine W.stp (Stp.cal rfl rfl (works_spec) pksA rdsA) rfl rfl rfl ?_; rintro _ _ ⟨_, ⟨rfl, rfl⟩, rfl⟩); all_goals ((refine W.auto ?_); (conv => whnf))))
          | (with_reducible refine WD.one ?_)
          | (with_reducible refine WD.two ?_ ?_)
          | (with_reducible refine WD.three ?_ ?_ ?_)
          | ((with_reducible refine WC.atC (c := .loop (.seq (.seq (.region 4 _ _) _) _)) ?_); refine WC.loopL4 (X := Nat) (Y := DK) (Z := DkA) (U := WS) (0) (dk0) (a11) (⟨none, 0, 0, []⟩) (fun k s a w => TrInv k s w ∧ w.n ≤ k) (fun k s a w => [(5, .int .i64 (k : Int)), (4, .slice w.A w.n w.c)]) (fun k s a w => [diskC gd a s, rowC w.A w.c 22 1 w.n (recs BH.cell w.hs), starM (BH.own 5) w.hs]) (fun k _ _ _ => 60 - k) [0, 3] (⟨⟨by omega, dk0_inv, rfl, rfl⟩, by show 0 ≤ 0; omega⟩) ?_; (conv => whnf); refine LoopQ4.mk (by ((repeat (first | exact trivial | refine And.intro rfl ?_)); fail_if_success (focus skip))) (⟨_, pksA⟩) ?_; rintro k s a w ⟨hj, hw⟩; refine WC.auto ?_; (conv => whnf))
          | ((with_reducible refine WC.atC (c := .loop (.seq (.seq (.region 28 _ _) _) _)) ?_); refine WC.loopS (X := Nat) (0) (fun k2 => k2 ≤ ht.length) (fun k2 => [(10, .int .i64 (k2 : Int))]) (fun k2 => ht.length - k2) [0, 3, 4, 5, 9] (by omega) ?_; (conv => whnf); refine LoopQ.mk (by ((repeat (first | exact trivial | refine And.intro rfl ?_)); fail_if_success (focus skip))) (ChLe.refl _) ?_; rintro k2 hj2; refine WC.auto ?_; (conv => whnf))
          | (refine ⟨k2 + 1, ?_, by ((repeat (first | exact trivial | refine And.intro rfl ?_)); fail_if_success (focus skip)), (by (with_reducible refine chLeI ?_); exact ⟨_, pksA⟩), by omega⟩)
          | (refine ⟨k + 1, _, _, ⟨_, _, _, _⟩, ?_, by ((repeat (first | exact trivial | refine And.intro rfl ?_)); fail_if_success (focus skip)), (by (with_reducible refine chLeI ?_); exact ⟨_, pksA⟩), by omega⟩)
          | refine Exists.intro _ (And.intro (resv_rfl rfl) ?_))
  all_goals first
    | omega
    | (have := hcap k (by omega); omega)
    | (exfalso; apply hc; exact bs_eq hT (by omega))
    | (refine ⟨⟨by omega, by assumption, ?_, ?_⟩, ?_⟩ <;> first | exact hT.trans htr | exact hj.n | (dsimp only; omega) | (dsimp only; simp only [List.length_append, List.length_singleton]; omega))
    | first | exact ⟨_, ⟨rfl, rfl⟩, _, pksA⟩ | skip
end Go.SX
