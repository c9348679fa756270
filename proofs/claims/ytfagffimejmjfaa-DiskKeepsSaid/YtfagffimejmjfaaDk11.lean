/- The disk: the walk of DiskKeeps. -/
import Derived.Test.YtfagffimejmjfaaDk10
import Derived.Test.YtfagffimejmjfaaJn
namespace Go.SX
open Go Go.RowKit Go.Proofs
set_option linter.unusedVariables false
set_option linter.unusedSimpArgs false
set_option maxHeartbeats 32000000
/-- The list of all that is there, as it lies. -/
structure KA where
  A : Option Addr
  c : Nat
  n : Nat
/-- Ahead of the last tests. -/
structure KMid (s : DK) (al : List UInt8) (su : Int) (k : Nat) (w : KA) : Prop where
  inv : DkInv s (k + 1)
  out : KOut s al su k
  n : w.n = al.length
  le : w.n ≤ 300 * (k + 1)
theorem W.factW {P : Program} {nn : Nat} {S : List Nat} {w0 : World} {r l : List Chunk} {ops : Array Oper} {K : QS} {rest : List Oper} {e : Env} {al : List UInt8} {w : KA} (hw : w.n = al.length) (hr : Rd (bR w.A w.c w.n al) (l ++ r))
    (h : al.length = w.n ∧ w.n ≤ w.c ∧ w.c ≤ 9223372036854775807 → W P nn S w0 r ops K rest e l) : W P nn S w0 r ops K rest e l := W.fact hr (fun w h => bR_len w h) h
theorem DiskKeeps_law (A : Option Addr) (c : Nat) (ds : List DkDo) :
    Spec Try.prog 4 [.slice A ds.length c] [] [sliceC A c 4 ds.length (recs DkDo.cells ds), allC (ds.map DkDo.inner)] (fun v l' => v = .bool true ∧ l' = []) := by
  refine Spec.fact (d := sliceC A c 4 ds.length (recs DkDo.cells ds)) (Rd.here (Sub.refl _)) (fun w h => (sliceC_len w h).2) fun hx => ?_
  refine Spec.fact (d := allC (ds.map DkDo.inner)) (Rd.there (Rd.here (Sub.refl _))) (fun w h => dkDo_cap h) fun hcap => ?_
  obtain ⟨hx2, hx3⟩ := hx
  refine Spec.intro Try.func4 rfl rfl Try.ntmps4 rfl fun w0 => ?_
  /- loops of sealchain/sealchainlaw13.DiskKeeps: 7 live [0, 3] vary [4, 5, 6] -/
  /- cut 38 of sealchain/sealchainlaw13.DiskKeeps: live [0, 3, 6] vary [4, 5] way RLBRRRRT -/
  (all_goals (refine WC.auto ?_; (conv => whnf))); repeat' (first
          | ((with_reducible refine WB.auto ?_); (conv => whnf))
          | ((with_reducible refine WCB.auto ?_); (conv => whnf))
          | ((with_reducible refine Ob.at ?_); first | (refine Ob.mk (by first | omega | exact u8_bound _ | (have := u8_bound; omega) | (simp only [List.length_drop, List.length_take, List.length_append, List.length_replicate, List.length_set, List.length_cons, List.length_nil, Nat.min_def]; omega) | ((have h0 := (KOut.cut0 hj (by omega) hc).1; omega))) ?_; (conv => whnf)) | (refine Ob.mk' ?_ ?_; (conv => whnf)))
          | (refine spl_mk (fun hc => ?_) (fun hc => ?_) <;> (try simp only [Bool.not_eq_false', and_self, and_true, true_and, not_true, Bool.not_eq_true', Bool.not_false, Bool.not_true, decide_eq_true_eq, decide_eq_false_iff_not, Bool.false_eq_true, reduceCtorEq, Bool.true_eq_false, ne_eq, Decidable.not_not, Int.not_lt, Int.not_le, beq_self_eq_true, eq_self, not_true_eq_false, not_false_eq_true, Bool.not_eq_eq_eq_not, Bool.not_eq_true, Bool.not_eq_false, beq_iff_eq, beq_eq_false_iff_ne] at hc) <;> (try (exfalso; omega)) <;> (conv => whnf))
          | ((with_reducible refine NatK.at ?_); first | ((with_reducible refine NatK.cast ?_); (conv => whnf)) | (refine NatK.sym (by first | omega | exact u8_bound _ | (have := u8_bound; omega) | (simp only [List.length_drop, List.length_take, List.length_append, List.length_replicate, List.length_set, List.length_cons, List.length_nil, Nat.min_def]; omega) | ((have h0 := (KOut.cut0 hj (by omega) hc).1; omega))) (fun m hm => ?_); (conv => whnf)))
          | (intro q hq; (conv => whnf))
          | ((with_reducible refine W.at 12 ?_); first | ((refine W.stp (Stp.cal rfl rfl (works_spec) pksA rdsA) rfl rfl rfl ?_; rintro _ _ ⟨_, ⟨rfl, rfl⟩, rfl⟩); all_goals ((refine W.auto ?_); (conv => whnf))))
          | ((with_reducible refine W.at 14 ?_); first | ((refine W.stp (Stp.cal rfl rfl (dNew_spec) pksA rdsA) rfl rfl rfl ?_; rintro _ _ ⟨_, ⟨gd, a14, rfl, rfl⟩, rfl⟩); all_goals ((refine W.auto ?_); (conv => whnf))))
          | ((with_reducible refine W.at 27 ?_); first | (refine W.ev (Ev.indexRec rfl rfl rdA (by omega) (by rfl)) rfl rfl rfl ?_; all_goals ((refine W.auto ?_); (conv => whnf))))
          | ((with_reducible refine W.at 28 ?_); first | (refine W.ev (Ev.loadRec rfl rfl rdA (by exact fun _ => rfl) (by omega) (by rfl)) rfl rfl rfl ?_; all_goals ((refine W.auto ?_); (conv => whnf))))
          | ((with_reducible refine W.at 7 ?_); first | ((refine W.stp (Stp.allocA rfl) rfl rfl rfl ?_; rintro _ _ ⟨g7, rfl, rfl⟩); all_goals ((refine W.auto ?_); (conv => whnf))))
          | ((with_reducible refine W.atS 7 ?_); first | (refine stWP rfl rfl (by intro v hv; (repeat' (first | rfl | (cases hv; done) | (rcases List.mem_cons.1 hv with rfl | hv)))) (by rfl) pkA ?_; (conv => whnf)))
          | ((with_reducible refine W.at 30 ?_); first | (refine W.ev (Ev.load rfl rfl rdA rfl) rfl rfl rfl ?_; all_goals ((refine W.auto ?_); (conv => whnf))))
          | ((with_reducible refine W.at 32 ?_); first | (refine W.ev (Ev.load rfl rfl rdA rfl) rfl rfl rfl ?_; all_goals ((refine W.auto ?_); (conv => whnf))))
          | ((with_reducible refine W.at 37 ?_); first | (refine W.ev (Ev.load rfl rfl rdA rfl) rfl rfl rfl ?_; all_goals ((refine W.auto ?_); (conv => whnf))) | (refine W.ev (Ev.loadI rfl rdA (by first | omega | (simp only [List.length_drop, List.length_take, List.length_append, List.length_replicate, List.length_set, List.length_cons, List.length_nil, Nat.min_def]; omega) | (simp; omega))) rfl rfl rfl ?_; all_goals ((refine W.auto ?_); (conv => whnf))))
          | ((with_reducible refine W.at 41 ?_); first | ((refine W.stp (Stp.cal rfl rfl (Bring_spec _ _ ⟨by omega, by omega⟩) pksA rdsA) rfl rfl rfl ?_; rintro _ _ ⟨_, ⟨⟨m41, rfl, hm41, hl41, hu41⟩, rfl⟩, rfl⟩); all_goals ((refine W.auto ?_); (conv => whnf))))
          | ((with_reducible refine W.at 43 ?_); first | ((refine W.stp (Stp.cal rfl rfl (Dead_spec _ _ _) pksA rdsA) rfl rfl rfl ?_; rintro _ _ ⟨_, ⟨rfl, rfl⟩, rfl⟩); all_goals ((refine W.auto ?_); (conv => whnf))))
          | ((with_reducible refine W.at 45 ?_); first | (refine W.ev (Ev.load rfl rfl rdA rfl) rfl rfl rfl ?_; all_goals ((refine W.auto ?_); (conv => whnf))) | (refine W.ev (Ev.loadI rfl rdA (by first | omega | (simp only [List.length_drop, List.length_take, List.length_append, List.length_replicate, List.length_set, List.length_cons, List.length_nil, Nat.min_def]; omega) | (simp; omega))) rfl rfl rfl ?_; all_goals ((refine W.auto ?_); (conv => whnf))))
          | ((with_reducible refine W.at 46 ?_); first | ((refine W.stp (Stp.cal rfl rfl (Bring_spec _ _ ⟨by omega, by omega⟩) pksA rdsA) rfl rfl rfl ?_; rintro _ _ ⟨_, ⟨⟨m46, rfl, hm46, hl46, hu46⟩, rfl⟩, rfl⟩); all_goals ((refine W.auto ?_); (conv => whnf))))
          | ((with_reducible refine W.at 63 ?_); first | ((first | (first | (first | (refine W.stp (Stp.cal rfl rfl (Sync_inv _ _ s k hj.inv) pksA rdsA) rfl rfl rfl ?_; rintro _ _ ⟨_, ⟨a63, rfl, rfl, hi63⟩, rfl⟩) | (refine W.stp (Stp.cal rfl rfl (Spec.ask fun (hq : _) => Sync_ok _ _ _ _ _ hq) pksA rdsA) rfl rfl rfl ?_; rintro _ _ ⟨_, ⟨a63, rfl, rfl⟩, rfl⟩)) | (refine W.stp (Stp.cal rfl rfl (Spec.ask fun (hq : _ ∧ _) => Sync_armed _ _ _ _ _ _ hq.1 hq.2) pksA rdsA) rfl rfl rfl ?_; rintro _ _ ⟨_, ⟨a63, rfl, rfl⟩, rfl⟩)) | (refine W.stp (Stp.cal rfl rfl (Spec.ask fun (hq : _ ∧ _) => Sync_dead _ _ _ _ _ _ hq.1 hq.2) pksA rdsA) rfl rfl rfl ?_; rintro _ _ ⟨_, ⟨a63, rfl, rfl⟩, rfl⟩)); all_goals ((refine W.auto ?_); (conv => whnf))))
          | ((with_reducible refine W.at 71 ?_); first | ((first | (first | (first | (refine W.stp (Stp.cal rfl rfl (Swap_inv _ _ s k _ _ _ _ hj.inv (by omega) (by omega)) pksA rdsA) rfl rfl rfl ?_; rintro _ _ ⟨_, ⟨a71, rfl, rfl, hi71⟩, rfl⟩) | (refine W.stp (Stp.cal rfl rfl (Spec.ask fun (hq : _) => Swap_ok _ _ _ _ _ _ _ _ _ hq) pksA rdsA) rfl rfl rfl ?_; rintro _ _ ⟨_, ⟨a71, rfl, rfl⟩, rfl⟩)) | (refine W.stp (Stp.cal rfl rfl (Spec.ask fun (hq : _ ∧ _) => Swap_armed _ _ _ _ _ _ _ _ _ _ hq.1 hq.2) pksA rdsA) rfl rfl rfl ?_; rintro _ _ ⟨_, ⟨a71, rfl, rfl⟩, rfl⟩)) | (refine W.stp (Stp.cal rfl rfl (Spec.ask fun (hq : _ ∧ _) => Swap_dead _ _ _ _ _ _ _ _ _ _ hq.1 hq.2) pksA rdsA) rfl rfl rfl ?_; rintro _ _ ⟨_, ⟨a71, rfl, rfl⟩, rfl⟩)); all_goals ((refine W.auto ?_); (conv => whnf))))
          | ((with_reducible refine W.at 74 ?_); first | ((refine W.stp (Stp.cal rfl rfl (CopyBytes_spec _ _ _ _ (by omega)) pksA rdsA) rfl rfl rfl ?_; rintro _ _ ⟨_, ⟨A74, c74, rfl, rfl⟩, rfl⟩); all_goals ((refine W.auto ?_); (conv => whnf))))
          | ((with_reducible refine W.at 81 ?_); first | ((first | (refine W.stp (Stp.cal rfl rfl (Cut_inv _ _ s k _ hj.inv) pksA rdsA) rfl rfl rfl ?_; rintro _ _ ⟨_, ⟨a81, rfl, rfl, hi81⟩, rfl⟩; (refine W.factW hw rdA (fun hcp => ?_))) | (refine W.stp (Stp.cal rfl rfl (Spec.ask fun (hq : _ ∧ _) => Cut_dead _ _ _ _ _ _ _ hq.1 hq.2) pksA rdsA) rfl rfl rfl ?_; rintro _ _ ⟨_, ⟨a81, rfl, rfl⟩, rfl⟩)); all_goals ((refine W.auto ?_); (conv => whnf))))
          | ((with_reducible refine W.at 91 ?_); first | ((first | (first | (refine W.stp (Stp.cal rfl rfl (Arm_inv _ _ s k _ hj.inv (by omega)) pksA rdsA) rfl rfl rfl ?_; rintro _ _ ⟨_, ⟨a91, rfl, rfl, hi91⟩, rfl⟩) | (refine W.stp (Stp.cal rfl rfl (Spec.ask fun (hq : _ ∧ _ ∧ _) => Arm_ok _ _ _ _ _ _ _ hq.1 hq.2.1 hq.2.2) pksA rdsA) rfl rfl rfl ?_; rintro _ _ ⟨_, ⟨a91, rfl, rfl⟩, rfl⟩)) | (refine W.stp (Stp.cal rfl rfl (Spec.ask fun (hq : _ ∧ _ ∧ _) => Arm_dead _ _ _ _ _ _ _ hq.1 hq.2.1 hq.2.2) pksA rdsA) rfl rfl rfl ?_; rintro _ _ ⟨_, ⟨a91, rfl, rfl⟩, rfl⟩)); all_goals ((refine W.auto ?_); (conv => whnf))))
          | ((with_reducible refine W.at 96 ?_); first | ((first | (refine W.stp (Stp.cal rfl rfl (Crash_inv _ _ s k _ hj.inv (by omega)) pksA rdsA) rfl rfl rfl ?_; rintro _ _ ⟨_, ⟨a96, rfl, rfl, hi96⟩, rfl⟩) | (refine W.stp (Stp.cal rfl rfl (Spec.ask fun (hq : _ ∧ _ ∧ _) => Crash_live _ _ _ _ _ _ _ hq.1 hq.2.1 hq.2.2) pksA rdsA) rfl rfl rfl ?_; rintro _ _ ⟨_, ⟨a96, rfl, rfl⟩, rfl⟩)); all_goals ((refine W.auto ?_); (conv => whnf))))
          | ((with_reducible refine W.at 100 ?_); first | ((refine W.stp (Stp.cal rfl rfl (Dead_spec _ _ _) pksA rdsA) rfl rfl rfl ?_; rintro _ _ ⟨_, ⟨rfl, rfl⟩, rfl⟩); all_goals ((refine W.auto ?_); (conv => whnf))))
          | ((with_reducible refine W.at 106 ?_); first | ((first | (refine W.stp (Stp.cal rfl rfl (Revive_inv _ _ s k hj.inv) pksA rdsA) rfl rfl rfl ?_; rintro _ _ ⟨_, ⟨a106, rfl, rfl, hi106⟩, rfl⟩) | (refine W.stp (Stp.cal rfl rfl (Revive_ok _ _ _ _ _ _ _) pksA rdsA) rfl rfl rfl ?_; rintro _ _ ⟨_, ⟨a106, rfl, rfl⟩, rfl⟩)); all_goals ((refine W.auto ?_); (conv => whnf))))
          | ((with_reducible refine W.at 110 ?_); first | ((refine W.stp (Stp.cal rfl rfl (Dead_spec _ _ _) pksA rdsA) rfl rfl rfl ?_; rintro _ _ ⟨_, ⟨rfl, rfl⟩, rfl⟩); all_goals ((refine W.auto ?_); (conv => whnf))))
          | ((with_reducible refine W.at 49 ?_); first | ((first | (first | (refine W.stp (Stp.cal rfl rfl (Spec.ask fun (hq : _) => Write_inv _ _ s k _ _ _ _ hj.inv (by omega) hq) pksA rdsA) rfl rfl rfl ?_; rintro _ _ ⟨_, ⟨a49, rfl, rfl, hi49⟩, rfl⟩) | (refine W.stp (Stp.cal rfl rfl (Spec.ask fun (hq : _ ∧ _) => Write_ok _ _ _ _ _ _ _ _ _ _ hq.1 hq.2) pksA rdsA) rfl rfl rfl ?_; rintro _ _ ⟨_, ⟨a49, rfl, rfl⟩, rfl⟩)) | (refine W.stp (Stp.cal rfl rfl (Spec.ask fun (hq : _ ∧ _) => Write_dead _ _ _ _ _ _ _ _ _ _ hq.1 hq.2) pksA rdsA) rfl rfl rfl ?_; rintro _ _ ⟨_, ⟨a49, rfl, rfl⟩, rfl⟩)); all_goals ((refine W.auto ?_); (conv => whnf))))
          | ((with_reducible refine W.at 56 ?_); first | ((refine W.stp (Stp.cal rfl rfl (CopyBytes_spec _ _ _ _ (by omega)) pksA rdsA) rfl rfl rfl ?_; rintro _ _ ⟨_, ⟨A56, c56, rfl, rfl⟩, rfl⟩); all_goals ((refine W.auto ?_); (conv => whnf))))
          | ((with_reducible refine W.at 58 ?_); first | ((refine W.stp (Stp.copyB rfl rfl rdA rfl (by omega) (by omega)) rfl rfl rfl ?_; rintro _ _ ⟨A2, c2, rfl, rfl⟩); all_goals ((refine W.auto ?_); (conv => whnf))) | ((refine W.stp (Stp.appendB rfl rfl pkA rdA rfl (by omega) (by omega)) rfl rfl rfl ?_; rintro _ _ ⟨A2, c2, rfl, rfl⟩); all_goals ((refine W.auto ?_); (conv => whnf))))
          | ((with_reducible refine W.at 113 ?_); first | ((first | (refine W.stp (Stp.cal rfl rfl (Read_inv _ _ _ (k + 1) hm.inv) pksA rdsA) rfl rfl rfl ?_; rintro _ _ ⟨_, ⟨Ar, cr, kr, hkr, rfl, rfl⟩, rfl⟩; (have hF := hm.out; have hF1 := hF.su; have hF2 := hF.len; refine W.factAl hF rdA (fun hcp => ?_))) | (refine W.stp (Stp.cal rfl rfl (Spec.ask fun (hq : _ ∧ _) => Read_ok _ _ _ _ _ _ _ hq.1 hq.2) pksA rdsA) rfl rfl rfl ?_; rintro _ _ ⟨_, ⟨A113, c113, k113, hk113, rfl, rfl⟩, rfl⟩)); all_goals ((refine W.auto ?_); (conv => whnf))))
          | ((with_reducible refine W.at 131 ?_); first | ((refine W.stp (Stp.cal rfl rfl (EqBytes_spec _ _ _ _ _ _ _ _) pksA rdsA) rfl rfl rfl ?_; rintro _ _ ⟨_, ⟨rfl, rfl⟩, rfl⟩); all_goals ((refine W.auto ?_); (conv => whnf))))
          | ((with_reducible refine W.at 136 ?_); first | ((refine W.stp (Stp.cal rfl rfl (Synced_spec _ _ _) pksA rdsA) rfl rfl rfl ?_; rintro _ _ ⟨_, ⟨rfl, rfl⟩, rfl⟩); all_goals ((refine W.auto ?_); (conv => whnf))))
          | ((with_reducible refine W.at 142 ?_); first | ((refine W.stp (Stp.cal rfl rfl (Synced_spec _ _ _) pksA rdsA) rfl rfl rfl ?_; rintro _ _ ⟨_, ⟨rfl, rfl⟩, rfl⟩); all_goals ((refine W.auto ?_); (conv => whnf))))
          | ((with_reducible refine W.at 149 ?_); first | ((refine W.stp (Stp.cal rfl rfl (Dead_spec _ _ _) pksA rdsA) rfl rfl rfl ?_; rintro _ _ ⟨_, ⟨rfl, rfl⟩, rfl⟩); all_goals ((refine W.auto ?_); (conv => whnf))))
          | ((with_reducible refine W.at 160 ?_); first | ((refine W.stp (Stp.cal rfl rfl (Dead_spec _ _ _) pksA rdsA) rfl rfl rfl ?_; rintro _ _ ⟨_, ⟨rfl, rfl⟩, rfl⟩); all_goals ((refine W.auto ?_); (conv => whnf))))
          | ((with_reducible refine W.at 162 ?_); first | ((refine W.stp (Stp.cal rfl rfl (CopyBytes_spec _ _ _ _ (by omega)) pksA rdsA) rfl rfl rfl ?_; rintro _ _ ⟨_, ⟨A162, c162, rfl, rfl⟩, rfl⟩); all_goals ((refine W.auto ?_); (conv => whnf))))
          | ((with_reducible refine WC.atC (c := .seq (.block _ (.seq (.region 9 _ _) _)) _) ?_); refine WC.seq ?_; refine WC.block ?_; refine WC.seq ?_; refine WC.auto ?_; (conv => whnf))
          | ((with_reducible refine WC.atC (c := .seq (.region 10 _ _) _) ?_); refine WC.seq ?_; refine WC.auto ?_; (conv => whnf))
          | ((with_reducible refine WC.atC (c := .seq (.region 11 _ _) _) ?_); refine WC.seq ?_; refine WC.auto ?_; (conv => whnf))
          | ((with_reducible refine WC.atC (c := .seq (.region 12 _ _) _) ?_); refine WC.seq ?_; refine WC.auto ?_; (conv => whnf))
          | ((with_reducible refine WC.atC (c := .seq (.seq (.region 13 _ _) _) _) ?_); refine WC.cutL5 (X := DK) (Y := DkA) (Z := KA) (U := List UInt8) (V := Int) (fun s a w al su => KMid s al su k w) (fun s a w al su => [(5, .int .i64 su), (4, .slice w.A w.n w.c)]) (fun s a w al su => [diskC gd a s, bO w.A w.c 5 w.n al]) [0, 3, 6] ?_; (conv => whnf); refine CutQ5.mk ?_ ?_; rotate_left; (rintro s2 a2 w2 al2 su2 hm; refine WC.auto ?_; (conv => whnf)); rotate_left; (refine WC.auto ?_; (conv => whnf)))
          | ((with_reducible refine WC.atC (c := .region 8 _ _) ?_); refine WC.auto ?_; (conv => whnf))
          | (refine ⟨_, _, ⟨_, _, _⟩, _, _, ?_, by ((repeat (first | exact trivial | refine And.intro rfl ?_)); fail_if_success (focus skip)), (by (with_reducible refine chLeI ?_); exact ⟨_, pksA⟩)⟩)
          | ((with_reducible refine WC.atC (c := .loop (.seq (.seq (.region 7 _ _) _) _)) ?_); refine WC.loopL6 (X := Nat) (Y := DK) (Z := DkA) (U := KA) (V := List UInt8) (T := Int) (0) (dk0) (a14) (⟨none, 0, 0⟩) ([]) (0) (fun k s a w al su => KIn k s al su ∧ w.n = al.length ∧ w.n ≤ 300 * k ∧ k ≤ 80) (fun k s a w al su => [(6, .int .i64 (k : Int)), (5, .int .i64 su), (4, .slice w.A w.n w.c)]) (fun k s a w al su => [diskC gd a s, bO w.A w.c 5 w.n al]) (fun k _ _ _ _ _ => 80 - k) [0, 3] (⟨⟨by omega, dk0_inv, rfl, ⟨by omega, Int.le_refl _⟩, (fun h => by cases h), by show 0 ≤ _; omega⟩, rfl, by show 0 ≤ _; omega, by omega⟩) ?_; (conv => whnf); refine LoopQ6.mk (by ((repeat (first | exact trivial | refine And.intro rfl ?_)); fail_if_success (focus skip))) (⟨_, pksA⟩) ?_; rintro k s a w al su ⟨hj, hw, hw2, hk80⟩; refine WC.seq ?_; refine WC.auto ?_; (conv => whnf))
          | (refine ⟨k + 1, _, _, ⟨_, _, _⟩, _, _, ?_, by ((repeat (first | exact trivial | refine And.intro rfl ?_)); fail_if_success (focus skip)), (by (with_reducible refine chLeI ?_); exact ⟨_, pksA⟩), by omega⟩)
          | refine Exists.intro _ (And.intro (resv_rfl rfl) ?_))
  all_goals first
    | omega
    | (have := hcap k (by omega); omega)
    | (refine KMid.mk (by assumption) ?_ ?_ ?_
       · first
         | exact KOut.sync1 hj hc
         | (have h1 := KOut.sync0 hj hc; rw [← hw] at h1; exact h1)
         | exact KOut.swap1 hj hc
         | (have h1 := KOut.swap0 hj (x := List.take m (nth ds k).bs) (by rw [List.length_take]; omega) hc; rw [show (((List.take m (nth ds k).bs).length : Nat) : Int) = (m : Int) by rw [List.length_take]; omega] at h1; exact h1)
         | exact KOut.cut1 hj hc
         | exact (KOut.cut0 hj (by omega) hc).2
         | exact KOut.arm hj
         | exact KOut.crash hj
         | exact KOut.revive hj
         | exact (KOut.write0 hj (x := List.take m (nth ds k).bs) (by rw [List.length_take]; omega) (by assumption)).2
         | exact (KOut.write1 hj (x := List.take m (nth ds k).bs) (by assumption)).2
       · dsimp only; first | exact hw | (simp only [List.length_take, List.length_append]; omega)
       · dsimp only; omega)
    | (exfalso; apply hc; rw [hkr]; exact hF.eq)
    | (exfalso; apply hc; have h1 := hF.lv (by assumption); omega)
    | (subst hkr; exact ⟨KIn.dead hF hm.inv (by omega) (by assumption), rfl, hF.len, by omega⟩)
    | (have hl := KIn.live hF hm.inv (by omega) hc; exact ⟨hl, hm.n, hm.le, by omega⟩)
    | (exfalso; exact absurd (hc.symm.trans (by assumption : _ = true)) (by decide))
    | (exfalso; exact absurd (hc.symm.trans (by assumption : _ = false)) (by decide))
    | (exfalso; exact hc (dkCrash_res (by omega)).1)
    | (exfalso; exact absurd ((dkCrash_res (s := s) (n := m41) (by omega)).2.symm.trans hc) (by decide))
    | (exfalso; cases hd : s.dead
       · have h1 := (KOut.write0 hj (x := List.take m (nth ds k).bs) (by rw [List.length_take]; omega) hd).1
         rw [hd, h1] at hc; simp at hc
       · have h1 := (KOut.write1 hj (x := List.take m (nth ds k).bs) hd).1
         rw [hd, h1] at hc; simp at hc)
    | first | exact ⟨_, ⟨rfl, rfl⟩, _, pksA⟩ | skip
    | skip
  have h0 := (KOut.cut0 hj (by omega) hc).1
  have h1 := (KOut.cut0 hj (by omega) hc).2
  have hm3 : m41.toNat = m := by omega
  rw [hm3] at h1
  refine ⟨_, _, ⟨w.A, w.c, m⟩, List.take m al, m41, KMid.mk (by assumption) h1 ?_ ?_, by ((repeat (first | exact trivial | refine And.intro rfl ?_)); fail_if_success (focus skip)), ⟨_, PicksT.cons Pick.here (PicksT.sub (Pick.there Pick.here) (Sub.hiOwnB (m := m) (n := w.n) (by omega)) PicksT.nil)⟩⟩
  · dsimp only; simp only [List.length_take]; omega
  · dsimp only; omega
end Go.SX
