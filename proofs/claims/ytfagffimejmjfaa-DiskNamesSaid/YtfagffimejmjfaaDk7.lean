/- The disk: Trace; what is known of disks in a law; DiskTraces. -/
import Derived.Test.YtfagffimejmjfaaDk5
namespace Go.SX
open Go Go.RowKit Go.Proofs
set_option linter.unusedVariables false
set_option linter.unusedSimpArgs false
set_option maxHeartbeats 4000000
theorem nth_bound {hs : List BH} {tr : List (List UInt8)} (h1 : hs.map BH.bs = tr) (h2 : ∀ x ∈ hs, x.n = x.bs.length) (h3 : ∀ t ∈ tr, t.length ≤ 1048576) (k : Nat) (hk : k < hs.length) : (nth hs k).n ≤ 1048576 := by
  have hm := nth_mem hk
  rw [h2 _ hm]
  exact h3 _ (by rw [← h1]; exact List.mem_map_of_mem hm)
theorem Trace_spec (g : Nat) (a : DkA) (s : DK) (h : s.tr.length ≤ 1000) (hl : ∀ t ∈ s.tr, t.length ≤ 1048576) : Spec Try.prog 24 [.pointer (some ⟨g, 0, none⟩)] [] [diskC g a s]
    (fun v l' => ∃ A c n, ∃ hs : List BH, hs.map BH.bs = s.tr ∧ n = hs.length ∧ v = .slice A n c ∧ l' = [rowC A c 22 1 n (recs BH.cell hs), starM (BH.own 5) hs]) := by
  refine Spec.diskR fun hd => ?_
  refine Spec.fact (d := starM (BH.own 5) a.hs) (Rd.there (Rd.there (Rd.there (Rd.here (Sub.refl _))))) (fun w h => BH.own_len h) fun hn => ?_
  obtain ⟨hd1, hd2, hd3, hd4, hd5⟩ := hd
  obtain ⟨b, sn, dead, arm, tr⟩ := s
  obtain ⟨aA, ac, ak, aAt, act, akt, ahs, agc⟩ := a
  dsimp only at *
  subst hd1 hd2 hd3
  have hb := nth_bound rfl hn hl
  have hlen : ahs.length ≤ 1000 := by simpa using h
  cases arm
  all_goals dsimp only [diskL, armL, armV, List.cons_append, List.nil_append]
  all_goals refine Spec.intro Try.func24 rfl rfl Try.ntmps24 rfl fun w0 => ?_
  /- loops of (*sealchain/disk.Disk).Trace: 4 live [10, 11] vary [2, 12] -/
  (all_goals (refine WC.auto ?_; (conv => whnf))); repeat' (first
          | ((with_reducible refine WB.auto ?_); (conv => whnf))
          | ((with_reducible refine WCB.auto ?_); (conv => whnf))
          | ((with_reducible refine Ob.at ?_); first | (refine Ob.mk (by first | omega | exact u8_bound _ | (have := u8_bound; omega) | (simp only [List.length_drop, List.length_take, List.length_append, List.length_replicate, List.length_set, List.length_cons, List.length_nil, Nat.min_def]; omega)) ?_; (conv => whnf)) | (refine Ob.mk' ?_ ?_; (conv => whnf)))
          | (refine spl_mk (fun hc => ?_) (fun hc => ?_) <;> (try simp only [Bool.not_eq_false', and_self, and_true, true_and, not_true, Bool.not_eq_true', Bool.not_false, Bool.not_true, decide_eq_true_eq, decide_eq_false_iff_not, Bool.false_eq_true, reduceCtorEq, Bool.true_eq_false, ne_eq, Decidable.not_not, Int.not_lt, Int.not_le, beq_self_eq_true, eq_self, not_true_eq_false, not_false_eq_true, Bool.not_eq_eq_eq_not, Bool.not_eq_true, Bool.not_eq_false, beq_iff_eq, beq_eq_false_iff_ne] at hc) <;> (try (exfalso; omega)) <;> (conv => whnf))
          | ((with_reducible refine NatK.at ?_); first | ((with_reducible refine NatK.cast ?_); (conv => whnf)) | (refine NatK.sym (by first | omega | exact u8_bound _ | (have := u8_bound; omega) | (simp only [List.length_drop, List.length_take, List.length_append, List.length_replicate, List.length_set, List.length_cons, List.length_nil, Nat.min_def]; omega)) (fun m hm => ?_); (conv => whnf)))
          | (intro q hq; (conv => whnf))
          | ((with_reducible refine W.at 6 ?_); first | ((refine W.stp (Stp.cal rfl rfl (none_spec _ _ _ _ _ _ _ _ _ _ _ _) pksA rdsA) rfl rfl rfl ?_; rintro _ _ ⟨_, ⟨rfl, rfl⟩, rfl⟩); all_goals ((refine W.auto ?_); (conv => whnf))))
          | ((with_reducible refine W.at 10 ?_); first | (refine W.ev (Ev.load rfl rfl rdA rfl) rfl rfl rfl ?_; all_goals ((refine W.auto ?_); (conv => whnf))))
          | ((with_reducible refine W.at 14 ?_); first | (refine W.ev (Ev.indexAddrN rfl rfl rdA (by omega)) rfl rfl rfl ?_; all_goals ((refine W.auto ?_); (conv => whnf))) | (refine W.ev (Ev.indexAddr1 rfl rfl rdA (by omega)) rfl rfl rfl ?_; all_goals ((refine W.auto ?_); (conv => whnf))))
          | ((with_reducible refine W.at 15 ?_); first | (refine W.ev (Ev.loadRec0 rfl rfl rdA (by exact fun _ => rfl) (by omega) (by rfl)) rfl rfl rfl ?_; all_goals ((refine W.auto ?_); (conv => whnf))))
          | ((with_reducible refine W.at 18 ?_); first | ((first | (refine W.stp (Stp.cal rfl rfl (Clone_spec _ _ _ _ (by have := hb k (by omega); omega)) pksA rdsA) rfl rfl rfl ?_; rintro _ _ ⟨_, ⟨A18, c18, rfl, rfl⟩, rfl⟩) | (refine W.stp (Stp.cal rfl rfl (Clone_spec _ _ _ _ (by omega)) pksA rdsA) rfl rfl rfl ?_; rintro _ _ ⟨_, ⟨A18, c18, rfl, rfl⟩, rfl⟩)); all_goals ((refine W.auto ?_); (conv => whnf))))
          | ((with_reducible refine W.at 19 ?_); first | ((refine W.stp (Stp.buildSlice rfl rfl rfl rfl (by intro v hv; (repeat' (first | rfl | (cases hv; done) | (rcases List.mem_cons.1 hv with rfl | hv)))) rfl) rfl rfl rfl ?_; rintro _ _ ⟨g19, rfl, rfl⟩); all_goals ((refine W.auto ?_); (conv => whnf))))
          | ((with_reducible refine W.at 20 ?_); first | ((refine W.stp (Stp.append rfl rfl pkA rdA (by exact (by intro v hv; (repeat' (first | rfl | (cases hv; done) | (rcases List.mem_cons.1 hv with rfl | hv))))) (by rfl) (by omega) (by omega) (by omega)) rfl rfl rfl ?_; rintro _ _ ⟨A2_20, c2_20, rfl, rfl⟩); all_goals ((refine W.auto ?_); (conv => whnf))) | ((refine W.stp (Stp.nil (Stp.append rfl rfl (by exact Pick.here) rdA (by exact (by intro v hv; (repeat' (first | rfl | (cases hv; done) | (rcases List.mem_cons.1 hv with rfl | hv))))) (by rfl) (by omega) (by omega) (by omega))) rfl rfl rfl ?_; rintro _ _ ⟨A2_20, c2_20, rfl, rfl⟩); all_goals ((refine W.auto ?_); (conv => whnf))))
          | ((with_reducible refine WC.atC (c := .loop (.seq (.region 4 _ _) _)) ?_); refine WC.loopL4 (X := Nat) (Y := List BH) (Z := Option Addr) (U := Nat) (0) ([]) (none) (0) (fun k hs Ao co => k ≤ ahs.length ∧ hs.map BH.bs = (ahs.map BH.bs).take k) (fun k hs Ao co => [(12, .int .i64 (k : Int)), (2, .slice Ao k co)]) (fun k hs Ao co => [rowC Ao co 22 1 k (recs BH.cell hs), starM (BH.own 5) hs]) (fun k _ _ _ => ahs.length - k) [10, 11] (⟨by omega, rfl⟩) ?_; (conv => whnf); refine LoopQ4.mk (by ((repeat (first | exact trivial | refine And.intro rfl ?_)); fail_if_success (focus skip))) (⟨_, pksA⟩) ?_; rintro k hs Ao co hj; refine WC.auto ?_; (conv => whnf))
          | (refine ⟨k + 1, _, _, _, ?_, by ((repeat (first | exact trivial | refine And.intro rfl ?_)); fail_if_success (focus skip)), (by (with_reducible refine chLeI ?_); exact ⟨_, pksA⟩), by omega⟩)
          | refine Exists.intro _ (And.intro (resv_rfl rfl) ?_))
  all_goals first
    | (refine ⟨by omega, ?_⟩; rw [List.map_append, hj.2, List.take_add_one]; congr 1; rw [List.getElem?_map, List.getElem?_eq_getElem (by omega), nth_get (by omega)]; rfl)
    | (have hke : k = ahs.length := by omega); subst hke; first | exact ⟨_, ⟨_, _, _, _, by rw [hj.2, ← List.length_map BH.bs, List.take_length], by have := congrArg List.length hj.2; simpa using this.symm, rfl, rfl⟩, _, pksA⟩ | skip
/-- What is known of a disk behind so many calls. -/
structure DkInv (s : DK) (j : Nat) : Prop where
  ok : DkOK s
  tl : ∀ t ∈ s.tr, t.length ≤ 1048576
  tj : s.tr.length ≤ j
theorem dkTear_ok {s : DK} {c : Int} (h : DkOK s) (hc : 0 ≤ c) : DkOK (dkTear s c) := by
  obtain ⟨⟨h1, h2⟩, h3, h4, h5⟩ := h
  obtain ⟨b, n, dead, arm, tr⟩ := s
  dsimp only at *
  refine ⟨⟨?_, ?_⟩, ?_, h4, h5⟩ <;> simp only [dkTear, List.length_take] <;> omega
theorem dkWrite_inv {s : DK} {j : Nat} {x : List UInt8} (h : DkInv s j) (hj : j < 1000) (hx : x.length ≤ 1048576) : DkInv (dkWrite s x).2 (j + 1) := by
  obtain ⟨⟨⟨h1, h2⟩, h3, h4, h5⟩, h6, h7⟩ := h
  obtain ⟨b, n, dead, arm, tr⟩ := s
  unfold dkWrite
  dsimp only at *
  split
  · exact ⟨⟨⟨h1, h2⟩, h3, h4, h5⟩, h6, by dsimp only; omega⟩
  split
  · exact ⟨⟨⟨h1, h2⟩, h3, h4, h5⟩, h6, by dsimp only; omega⟩
  · refine ⟨⟨⟨h1, ?_⟩, ?_, ?_, h5⟩, ?_, ?_⟩
    · dsimp only; rw [List.length_append]; omega
    · dsimp only; rw [List.length_append]; omega
    · dsimp only; rw [List.length_append, List.length_singleton]; omega
    · intro t ht
      rcases List.mem_append.1 ht with ht | ht
      · exact h6 t ht
      · obtain rfl := List.mem_singleton.1 ht; exact hx
    · dsimp only; rw [List.length_append, List.length_singleton]; omega
theorem dkSync_inv {s : DK} {j : Nat} (h : DkInv s j) : DkInv (dkSync s).2 (j + 1) := by
  obtain ⟨h0, h6, h7⟩ := h
  have h0' := h0
  obtain ⟨⟨h1, h2⟩, h3, h4, h5⟩ := h0
  unfold dkSync
  split
  · exact ⟨h0', h6, by show s.tr.length ≤ j + 1; omega⟩
  split
  · exact ⟨⟨⟨by dsimp only; omega, by dsimp only; omega⟩, h3, h4, h5⟩, h6, by dsimp only; omega⟩
  · rename_i c hc
    exact ⟨dkTear_ok h0' (h5 c hc).1, h6, by show s.tr.length ≤ j + 1; omega⟩
theorem dkSwap_inv {s : DK} {j : Nat} {x : List UInt8} (h : DkInv s j) (hj : j < 1000) : DkInv (dkSwap s x).2 (j + 1) := by
  obtain ⟨h0, h6, h7⟩ := h
  have h0' := h0
  obtain ⟨⟨h1, h2⟩, h3, h4, h5⟩ := h0
  unfold dkSwap
  split
  · exact ⟨h0', h6, by show s.tr.length ≤ j + 1; omega⟩
  split
  · exact ⟨h0', h6, by show s.tr.length ≤ j + 1; omega⟩
  split
  · refine ⟨⟨⟨by dsimp only; omega, by dsimp only; omega⟩, by dsimp only; omega, ?_, h5⟩, ?_, ?_⟩
    · dsimp only; rw [List.length_append, List.length_singleton]; omega
    · intro t ht
      rcases List.mem_append.1 ht with ht | ht
      · exact h6 t ht
      · obtain rfl := List.mem_singleton.1 ht; omega
    · dsimp only; rw [List.length_append, List.length_singleton]; omega
  · rename_i c hc
    exact ⟨dkTear_ok h0' (h5 c hc).1, h6, by show s.tr.length ≤ j + 1; omega⟩
theorem dkCut_inv {s : DK} {j : Nat} {k : Int} (h : DkInv s j) : DkInv (dkCut s k).2 (j + 1) := by
  obtain ⟨h0, h6, h7⟩ := h
  have h0' := h0
  obtain ⟨⟨h1, h2⟩, h3, h4, h5⟩ := h0
  unfold dkCut
  split
  · exact ⟨h0', h6, by show s.tr.length ≤ j + 1; omega⟩
  split
  · exact ⟨h0', h6, by show s.tr.length ≤ j + 1; omega⟩
  · exact ⟨⟨⟨by dsimp only; omega, by dsimp only; rw [List.length_take]; omega⟩, by dsimp only; rw [List.length_take]; omega, h4, h5⟩, h6, by dsimp only; omega⟩
theorem dkArm_inv {s : DK} {j : Nat} {c : Int} (h : DkInv s j) (hc : c ≤ 9223372036854775807) : DkInv (dkArm s c).2 (j + 1) := by
  obtain ⟨h0, h6, h7⟩ := h
  have h0' := h0
  obtain ⟨⟨h1, h2⟩, h3, h4, h5⟩ := h0
  unfold dkArm
  split
  · exact ⟨h0', h6, by show s.tr.length ≤ j + 1; omega⟩
  split
  · exact ⟨h0', h6, by show s.tr.length ≤ j + 1; omega⟩
  · exact ⟨⟨⟨h1, h2⟩, h3, h4, fun c' hc' => by obtain rfl := Option.some.inj hc'; omega⟩, h6, by dsimp only; omega⟩
theorem dkCrash_inv {s : DK} {j : Nat} {c : Int} (h : DkInv s j) : DkInv (dkCrash s c).2 (j + 1) := by
  obtain ⟨h0, h6, h7⟩ := h
  unfold dkCrash
  split
  · exact ⟨h0, h6, by show s.tr.length ≤ j + 1; omega⟩
  split
  · exact ⟨h0, h6, by show s.tr.length ≤ j + 1; omega⟩
  · exact ⟨dkTear_ok h0 (by omega), h6, by show s.tr.length ≤ j + 1; omega⟩
theorem dkRevive_inv {s : DK} {j : Nat} (h : DkInv s j) : DkInv (dkRevive s).2 (j + 1) := by
  obtain ⟨⟨h1, h3, h4, h5⟩, h6, h7⟩ := h
  exact ⟨⟨h1, h3, h4, fun c hc => (by cases hc)⟩, h6, by show s.tr.length ≤ j + 1; omega⟩
theorem dk0_inv : DkInv dk0 0 := ⟨⟨⟨Int.le_refl _, Int.le_refl _⟩, by decide, by decide, fun c hc => (by cases hc)⟩, fun t ht => (by cases ht), Nat.le_refl _⟩
section
variable (g : Nat) (a : DkA) (s : DK) (j : Nat) (A : Option Addr) (c k : Nat) (x : List UInt8) (cut : Int)
abbrev DkTo (g : Nat) (m : Int × DK) (j : Nat) (v : Value) (l' : List Chunk) : Prop := ∃ a', v = .int .i64 m.1 ∧ l' = [diskC g a' m.2] ∧ DkInv m.2 (j + 1)
theorem DkPost.to {g : Nat} {m : Int × DK} {j : Nat} (h : DkInv m.2 (j + 1)) : ∀ v l', DkPost g m v l' → DkTo g m j v l' := by
  rintro v l' ⟨a', rfl, rfl⟩
  exact ⟨a', rfl, rfl, h⟩
theorem Write_inv (h : DkInv s j) (hj : j < 1000) (hx : x.length ≤ 1048576 ∧ k ≤ 1048577) : Spec Try.prog 10 [.pointer (some ⟨g, 0, none⟩), .slice A k c] [diskC g a s] [bR A c k x] (DkTo g (dkWrite s x) j) :=
  (Write_spec g a s A c k x h.ok (by have := h.tj; omega) hx.2).mono (DkPost.to (dkWrite_inv h hj hx.1))
theorem Sync_inv (h : DkInv s j) : Spec Try.prog 11 [.pointer (some ⟨g, 0, none⟩)] [diskC g a s] [] (DkTo g (dkSync s) j) := (Sync_spec g a s h.ok).mono (DkPost.to (dkSync_inv h))
theorem Swap_inv (h : DkInv s j) (hj : j < 1000) (hx : k ≤ 1048577) : Spec Try.prog 14 [.pointer (some ⟨g, 0, none⟩), .slice A k c] [diskC g a s] [bR A c k x] (DkTo g (dkSwap s x) j) :=
  (Swap_spec g a s A c k x h.ok (by have := h.tj; omega) hx).mono (DkPost.to (dkSwap_inv h hj))
theorem Cut_inv (h : DkInv s j) : Spec Try.prog 22 [.pointer (some ⟨g, 0, none⟩), .int .i64 cut] [diskC g a s] [] (DkTo g (dkCut s cut) j) := (Cut_spec g a s cut h.ok).mono (DkPost.to (dkCut_inv h))
theorem Arm_inv (h : DkInv s j) (hc : cut ≤ 9223372036854775807) : Spec Try.prog 13 [.pointer (some ⟨g, 0, none⟩), .int .i64 cut] [diskC g a s] [] (DkTo g (dkArm s cut) j) := (Arm_spec g a s cut h.ok hc).mono (DkPost.to (dkArm_inv h hc))
theorem Crash_inv (h : DkInv s j) (hc : cut ≤ 9223372036854775807) : Spec Try.prog 20 [.pointer (some ⟨g, 0, none⟩), .int .i64 cut] [diskC g a s] [] (DkTo g (dkCrash s cut) j) := (Crash_spec g a s cut h.ok hc).mono (DkPost.to (dkCrash_inv h))
theorem Revive_inv (h : DkInv s j) : Spec Try.prog 23 [.pointer (some ⟨g, 0, none⟩)] [diskC g a s] [] (DkTo g (dkRevive s) j) := (Revive_spec g a s).mono (DkPost.to (dkRevive_inv h))
theorem Trace_inv (h : DkInv s j) (hj : j ≤ 1000) : Spec Try.prog 24 [.pointer (some ⟨g, 0, none⟩)] [] [diskC g a s]
    (fun v l' => ∃ A c n, ∃ hs : List BH, hs.map BH.bs = s.tr ∧ n = hs.length ∧ v = .slice A n c ∧ l' = [rowC A c 22 1 n (recs BH.cell hs), starM (BH.own 5) hs]) := Trace_spec g a s (by have := h.tj; omega) h.tl
theorem Read_inv (h : DkInv s j) : Spec Try.prog 16 [.pointer (some ⟨g, 0, none⟩)] [] [diskC g a s] (fun v l' => ∃ A c k, k = s.b.length ∧ v = .slice A k c ∧ l' = [bO A c 5 k s.b]) := Read_spec g a s h.ok
end
end Go.SX
