/- Numbers: NumWrites. -/
import Derived.Test.YtaopfkmlmpimdaaNm11
import Derived.Test.YtaopfkmlmpimdaaJn
namespace Go.SX
open Go Go.RowKit Go.Proofs
set_option linter.unusedVariables false
set_option linter.unusedSimpArgs false
set_option maxHeartbeats 8000000
/-- A thing that is written, or read, as the laws are told it. -/
structure NPut where
  kind : Int
  width : Int
  n : Int
  A : Option Addr
  c : Nat
  bs : List UInt8
  deriving Inhabited
def NPut.cells (d : NPut) : List Value := [.int .i64 d.kind, .int .i64 d.width, .int .i64 d.n, .slice d.A d.bs.length d.c]
def NPut.inner (d : NPut) : Chunk := bR d.A d.c d.bs.length d.bs
def NPut.ok (d : NPut) : Prop := d.n ≤ 9223372036854775807 ∧ d.width ≤ 9223372036854775807
theorem nPut_cap {ds : List NPut} {w : World} (h : (allC (ds.map NPut.inner)).holds w) (k : Nat) (hk : k < ds.length) : (nth ds k).bs.length ≤ (nth ds k).c ∧ (nth ds k).c ≤ 9223372036854775807 :=
  (bR_len w (h _ (List.mem_map_of_mem (nth_mem hk)) : (bR (nth ds k).A (nth ds k).c (nth ds k).bs.length (nth ds k).bs).holds w)).2
theorem nwNum_len (s : NW) (w n : Int) : (nwNum s w n).b.length ≤ s.b.length + 8 := by
  unfold nwNum
  by_cases hw : w = 1 ∨ w = 2 ∨ w = 4 ∨ w = 8
  · have := nwPut_len s (numErr w n) (beB w.toNat n)
    rw [beB_len] at this
    omega
  · rw [show numErr w n = 2 by unfold numErr; rw [if_pos hw], nwPut_bad s 2 (by decide) _ []]
    have := nwPut_len s 2 []
    simp only [List.length_nil] at this
    omega
theorem nwOut_len (s : NW) : (nwOut s).length ≤ s.b.length := by unfold nwOut; split <;> simp
theorem nwText_len (s : NW) (x : List UInt8) (h : x.length ≤ 1000) : (nwText s x).b.length ≤ s.b.length + 9 + x.length := by
  unfold nwText
  have h1 := nwPut_len (nwCount s x.length) 0 x
  have h2 := nwCount_len s x.length (by omega)
  omega
theorem NumWrites_law (A : Option Addr) (c : Nat) (ds : List NPut) (hok : ∀ d ∈ ds, d.ok) :
    Spec Try.prog 3 [.slice A ds.length c] [] [sliceC A c 4 ds.length (recs NPut.cells ds), allC (ds.map NPut.inner)] (fun v l' => v = .bool true ∧ l' = []) := by
  refine Spec.fact (d := sliceC A c 4 ds.length (recs NPut.cells ds)) (Rd.here (Sub.refl _)) (fun w h => (sliceC_len w h).2) fun hx => ?_
  refine Spec.fact (d := allC (ds.map NPut.inner)) (Rd.there (Rd.here (Sub.refl _))) (fun w h => nPut_cap h) fun hcap => ?_
  obtain ⟨hx2, hx3⟩ := hx
  refine Spec.intro Try.func3 rfl rfl Try.ntmps3 rfl fun w0 => ?_
  have hk2 : ∀ k, k < ds.length → (nth ds k).n ≤ 9223372036854775807 ∧ (nth ds k).width ≤ 9223372036854775807 := fun k hk => hok _ (nth_mem hk)
  /- loops of sealchain/sealchainlaw01.NumWrites: 3 live [0, 4] vary [3, 5]; 21 live [0, 3, 4, 5, 7] vary [8]; 29 live [0, 3, 4, 5, 9] vary [13] -/
  /- cut 20 of sealchain/sealchainlaw01.NumWrites: live [0, 4, 5, 7] vary [3] way RLBRRRT -/
  (all_goals (refine WC.auto ?_; (conv => whnf))); repeat' (first
          | ((with_reducible refine WB.auto ?_); (conv => whnf))
          | ((with_reducible refine WCB.auto ?_); (conv => whnf))
          | ((with_reducible refine Ob.at ?_); first | (refine Ob.mk (by first | omega | exact u8_bound _ | (have := u8_bound; omega) | (simp only [List.length_drop, List.length_take, List.length_append, List.length_replicate, List.length_set, List.length_cons, List.length_nil, Nat.min_def]; omega)) ?_; (conv => whnf)) | (refine Ob.mk' ?_ ?_; (conv => whnf)))
          | (refine spl_mk (fun hc => ?_) (fun hc => ?_) <;> (try simp only [Bool.not_eq_false', and_self, and_true, true_and, not_true, Bool.not_eq_true', Bool.not_false, Bool.not_true, decide_eq_true_eq, decide_eq_false_iff_not, Bool.false_eq_true, reduceCtorEq, Bool.true_eq_false, ne_eq, Decidable.not_not, Int.not_lt, Int.not_le, beq_self_eq_true, eq_self, not_true_eq_false, not_false_eq_true, Bool.not_eq_eq_eq_not, Bool.not_eq_true, Bool.not_eq_false, beq_iff_eq, beq_eq_false_iff_ne] at hc) <;> (try (exfalso; omega)) <;> (conv => whnf))
          | ((with_reducible refine NatK.at ?_); first | ((with_reducible refine NatK.cast ?_); (conv => whnf)) | (refine NatK.sym (by first | omega | exact u8_bound _ | (have := u8_bound; omega) | (simp only [List.length_drop, List.length_take, List.length_append, List.length_replicate, List.length_set, List.length_cons, List.length_nil, Nat.min_def]; omega)) (fun m hm => ?_); (conv => whnf)))
          | (intro q hq; (conv => whnf))
          | ((with_reducible refine W.at 14 ?_); first | ((refine W.stp (Stp.cal rfl rfl (Write0_spec) pksA rdsA) rfl rfl rfl ?_; rintro _ _ ⟨_, ⟨g14, a14, rfl, rfl⟩, rfl⟩); all_goals ((refine W.auto ?_); (conv => whnf))))
          | ((with_reducible refine W.at 15 ?_); first | ((refine W.stp (Stp.cal rfl rfl (rWrite0_spec) pksA rdsA) rfl rfl rfl ?_; rintro _ _ ⟨_, ⟨g15, a15, rfl, rfl⟩, rfl⟩); all_goals ((refine W.auto ?_); (conv => whnf))))
          | ((with_reducible refine W.at 28 ?_); first | (refine W.ev (Ev.indexRec rfl rfl rdA (by omega) (by rfl)) rfl rfl rfl ?_; all_goals ((refine W.auto ?_); (conv => whnf))))
          | ((with_reducible refine W.at 29 ?_); first | (refine W.ev (Ev.loadRec rfl rfl rdA (by exact fun _ => rfl) (by omega) (by rfl)) rfl rfl rfl ?_; all_goals ((refine W.auto ?_); (conv => whnf))))
          | ((with_reducible refine W.at 6 ?_); first | ((refine W.stp (Stp.allocA rfl) rfl rfl rfl ?_; rintro _ _ ⟨g6, rfl, rfl⟩); all_goals ((refine W.auto ?_); (conv => whnf))))
          | ((with_reducible refine W.atS 6 ?_); first | (refine stWP rfl rfl (by intro v hv; (repeat' (first | rfl | (cases hv; done) | (rcases List.mem_cons.1 hv with rfl | hv)))) (by rfl) pkA ?_; (conv => whnf)))
          | ((with_reducible refine W.at 31 ?_); first | (refine W.ev (Ev.load rfl rfl rdA rfl) rfl rfl rfl ?_; all_goals ((refine W.auto ?_); (conv => whnf))))
          | ((with_reducible refine W.at 33 ?_); first | (refine W.ev (Ev.load rfl rfl rdA rfl) rfl rfl rfl ?_; all_goals ((refine W.auto ?_); (conv => whnf))))
          | ((with_reducible refine W.atS 37 ?_); first | (refine stW1 rfl rfl rfl pkA ?_; (conv => whnf)))
          | ((with_reducible refine W.at 39 ?_); first | (refine W.ev (Ev.load rfl rfl rdA rfl) rfl rfl rfl ?_; all_goals ((refine W.auto ?_); (conv => whnf))))
          | ((with_reducible refine W.at 40 ?_); first | ((refine W.stp (Stp.cal rfl rfl (CopyBytes_spec _ _ _ _ (by omega)) pksA rdsA) rfl rfl rfl ?_; rintro _ _ ⟨_, ⟨A40, c40, rfl, rfl⟩, rfl⟩); all_goals ((refine W.auto ?_); (conv => whnf))))
          | ((with_reducible refine W.at 42 ?_); first | (refine W.ev (Ev.load rfl rfl rdA rfl) rfl rfl rfl ?_; all_goals ((refine W.auto ?_); (conv => whnf))) | (refine W.ev (Ev.loadI rfl rdA (by first | omega | (simp only [List.length_drop, List.length_take, List.length_append, List.length_replicate, List.length_set, List.length_cons, List.length_nil, Nat.min_def]; omega) | (simp; omega))) rfl rfl rfl ?_; all_goals ((refine W.auto ?_); (conv => whnf))))
          | ((with_reducible refine W.at 43 ?_); first | ((refine W.stp (Stp.cal rfl rfl (Bring_spec _ _ ⟨by omega, by omega⟩) pksA rdsA) rfl rfl rfl ?_; rintro _ _ ⟨_, ⟨⟨m43, rfl, hm43, hl43, hu43⟩, rfl⟩, rfl⟩); all_goals ((refine W.auto ?_); (conv => whnf))))
          | ((with_reducible refine W.at 55 ?_); first | (refine W.ev (Ev.load rfl rfl rdA rfl) rfl rfl rfl ?_; all_goals ((refine W.auto ?_); (conv => whnf))) | (refine W.ev (Ev.loadI rfl rdA (by first | omega | (simp only [List.length_drop, List.length_take, List.length_append, List.length_replicate, List.length_set, List.length_cons, List.length_nil, Nat.min_def]; omega) | (simp; omega))) rfl rfl rfl ?_; all_goals ((refine W.auto ?_); (conv => whnf))))
          | ((with_reducible refine W.at 57 ?_); first | (refine W.ev (Ev.load rfl rfl rdA rfl) rfl rfl rfl ?_; all_goals ((refine W.auto ?_); (conv => whnf))) | (refine W.ev (Ev.loadI rfl rdA (by first | omega | (simp only [List.length_drop, List.length_take, List.length_append, List.length_replicate, List.length_set, List.length_cons, List.length_nil, Nat.min_def]; omega) | (simp; omega))) rfl rfl rfl ?_; all_goals ((refine W.auto ?_); (conv => whnf))))
          | ((with_reducible refine W.at 58 ?_); first | ((first | (refine W.stp (Stp.cal rfl rfl (Num_spec _ _ s _ _ (hk2 k (by omega)).1 (by omega)) pksA rdsA) rfl rfl rfl ?_; rintro _ _ ⟨_, ⟨a58, rfl, rfl⟩, rfl⟩) | (refine W.stp (Stp.cal rfl rfl (Spec.ask fun (hq : _ ∧ _) => Num_spec _ _ _ _ _ hq.1 hq.2) pksA rdsA) rfl rfl rfl ?_; rintro _ _ ⟨_, ⟨a58, rfl, rfl⟩, rfl⟩)); all_goals ((refine W.auto ?_); (conv => whnf))))
          | ((with_reducible refine W.at 61 ?_); first | (refine W.ev (Ev.load rfl rfl rdA rfl) rfl rfl rfl ?_; all_goals ((refine W.auto ?_); (conv => whnf))) | (refine W.ev (Ev.loadI rfl rdA (by first | omega | (simp only [List.length_drop, List.length_take, List.length_append, List.length_replicate, List.length_set, List.length_cons, List.length_nil, Nat.min_def]; omega) | (simp; omega))) rfl rfl rfl ?_; all_goals ((refine W.auto ?_); (conv => whnf))))
          | ((with_reducible refine W.at 63 ?_); first | (refine W.ev (Ev.load rfl rfl rdA rfl) rfl rfl rfl ?_; all_goals ((refine W.auto ?_); (conv => whnf))) | (refine W.ev (Ev.loadI rfl rdA (by first | omega | (simp only [List.length_drop, List.length_take, List.length_append, List.length_replicate, List.length_set, List.length_cons, List.length_nil, Nat.min_def]; omega) | (simp; omega))) rfl rfl rfl ?_; all_goals ((refine W.auto ?_); (conv => whnf))))
          | ((with_reducible refine W.at 64 ?_); first | ((refine W.stp (Stp.cal rfl rfl (rNum_spec _ _ s _ _ (hk2 k (by omega)).1 (by omega)) pksA rdsA) rfl rfl rfl ?_; rintro _ _ ⟨_, ⟨a64, rfl, rfl⟩, rfl⟩); all_goals ((refine W.auto ?_); (conv => whnf))))
          | ((with_reducible refine W.at 69 ?_); first | (refine W.ev (Ev.load rfl rfl rdA rfl) rfl rfl rfl ?_; all_goals ((refine W.auto ?_); (conv => whnf))) | (refine W.ev (Ev.loadI rfl rdA (by first | omega | (simp only [List.length_drop, List.length_take, List.length_append, List.length_replicate, List.length_set, List.length_cons, List.length_nil, Nat.min_def]; omega) | (simp; omega))) rfl rfl rfl ?_; all_goals ((refine W.auto ?_); (conv => whnf))))
          | ((with_reducible refine W.at 70 ?_); first | ((first | (refine W.stp (Stp.cal rfl rfl (Count_spec _ _ s _ (hk2 k (by omega)).1 (by omega)) pksA rdsA) rfl rfl rfl ?_; rintro _ _ ⟨_, ⟨a70, rfl, rfl⟩, rfl⟩) | (refine W.stp (Stp.cal rfl rfl (Spec.ask fun (hq : _ ∧ _) => Count_spec _ _ _ _ hq.1 hq.2) pksA rdsA) rfl rfl rfl ?_; rintro _ _ ⟨_, ⟨a70, rfl, rfl⟩, rfl⟩)); all_goals ((refine W.auto ?_); (conv => whnf))))
          | ((with_reducible refine W.at 73 ?_); first | (refine W.ev (Ev.load rfl rfl rdA rfl) rfl rfl rfl ?_; all_goals ((refine W.auto ?_); (conv => whnf))) | (refine W.ev (Ev.loadI rfl rdA (by first | omega | (simp only [List.length_drop, List.length_take, List.length_append, List.length_replicate, List.length_set, List.length_cons, List.length_nil, Nat.min_def]; omega) | (simp; omega))) rfl rfl rfl ?_; all_goals ((refine W.auto ?_); (conv => whnf))))
          | ((with_reducible refine W.at 74 ?_); first | ((refine W.stp (Stp.cal rfl rfl (rCount_spec _ _ s _ (by omega)) pksA rdsA) rfl rfl rfl ?_; rintro _ _ ⟨_, ⟨a74, rfl, rfl⟩, rfl⟩); all_goals ((refine W.auto ?_); (conv => whnf))))
          | ((with_reducible refine W.at 79 ?_); first | ((refine W.stp (Stp.cal rfl rfl (Spec.ask fun (hq : _) => Text_spec _ _ s _ _ _ _ hq (by omega)) pksA rdsA) rfl rfl rfl ?_; rintro _ _ ⟨_, ⟨a79, rfl, rfl⟩, rfl⟩); all_goals ((refine W.auto ?_); (conv => whnf))))
          | ((with_reducible refine W.at 82 ?_); first | (refine W.ev (Ev.load rfl rfl rdA rfl) rfl rfl rfl ?_; all_goals ((refine W.auto ?_); (conv => whnf))))
          | ((with_reducible refine W.at 83 ?_); first | ((refine W.stp (Stp.cal rfl rfl (Spec.ask fun (hq : _) => rText_spec _ _ s _ _ _ _ hq (by omega)) pksA rdsA) rfl rfl rfl ?_; rintro _ _ ⟨_, ⟨a83, rfl, rfl⟩, rfl⟩); all_goals ((refine W.auto ?_); (conv => whnf))))
          | ((with_reducible refine W.at 46 ?_); first | ((refine W.stp (Stp.cal rfl rfl (Spec.ask fun (hq : _) => Raw_spec _ _ s _ _ _ _ hq) pksA rdsA) rfl rfl rfl ?_; rintro _ _ ⟨_, ⟨a46, rfl, rfl⟩, rfl⟩); all_goals ((refine W.auto ?_); (conv => whnf))))
          | ((with_reducible refine W.at 49 ?_); first | (refine W.ev (Ev.load rfl rfl rdA rfl) rfl rfl rfl ?_; all_goals ((refine W.auto ?_); (conv => whnf))))
          | ((with_reducible refine W.at 50 ?_); first | ((refine W.stp (Stp.cal rfl rfl (Spec.ask fun (hq : _) => rRaw_spec _ _ s _ _ _ _ hq) pksA rdsA) rfl rfl rfl ?_; rintro _ _ ⟨_, ⟨a50, rfl, rfl⟩, rfl⟩); all_goals ((refine W.auto ?_); (conv => whnf))))
          | ((with_reducible refine W.at 94 ?_); first | (refine W.ev (Ev.indexAddrN rfl rfl rdA (by omega)) rfl rfl rfl ?_; all_goals ((refine W.auto ?_); (conv => whnf))) | (refine W.ev (Ev.indexAddr1 rfl rfl rdA (by omega)) rfl rfl rfl ?_; all_goals ((refine W.auto ?_); (conv => whnf))))
          | ((with_reducible refine W.at 95 ?_); first | (refine W.evB (Ev.loadB rfl rdA (by first | omega | (simp only [List.length_drop, List.length_take, List.length_append, List.length_replicate, List.length_set, List.length_cons, List.length_nil, Nat.min_def]; omega) | (simp; omega))) rfl rfl rfl (fun hbyte => ?_); all_goals ((refine W.auto ?_); (conv => whnf))) | (refine W.ev (Ev.loadRec0 rfl rfl rdA (by exact fun _ => rfl) (by omega) (by rfl)) rfl rfl rfl ?_; all_goals ((refine W.auto ?_); (conv => whnf))))
          | ((with_reducible refine W.at 96 ?_); first | (refine W.ev (Ev.xor8 rfl rfl) rfl rfl rfl ?_; all_goals ((refine W.auto ?_); (conv => whnf))) | (refine W.ev (Ev.xor8k rfl rfl (by omega)) rfl rfl rfl ?_; all_goals ((refine W.auto ?_); (conv => whnf))))
          | ((with_reducible refine W.at 97 ?_); first | (refine W.ev (Ev.indexAddrN rfl rfl rdA (by omega)) rfl rfl rfl ?_; all_goals ((refine W.auto ?_); (conv => whnf))) | (refine W.ev (Ev.indexAddr1 rfl rfl rdA (by omega)) rfl rfl rfl ?_; all_goals ((refine W.auto ?_); (conv => whnf))))
          | ((with_reducible refine W.atS 97 ?_); first | (refine stW1 rfl rfl rfl pkA ?_; (conv => whnf)) | ((refine W.stp0 (Stp.storeB rfl rfl pkA (by first | omega | (simp only [List.length_drop, List.length_take, List.length_append, List.length_replicate, List.length_set, List.length_cons, List.length_nil, Nat.min_def]; omega) | (simp; omega))) rfl rfl ?_; rintro _ _ rfl); all_goals ((refine W.auto ?_); (conv => whnf))) | ((refine W.stp0 (Stp.storeBk rfl rfl pkA (by omega) (by first | omega | (simp only [List.length_drop, List.length_take, List.length_append, List.length_replicate, List.length_set, List.length_cons, List.length_nil, Nat.min_def]; omega) | (simp; omega))) rfl rfl ?_; rintro _ _ rfl); all_goals ((refine W.auto ?_); (conv => whnf))))
          | ((with_reducible refine W.at 100 ?_); first | ((first | (refine W.stp (Stp.cal rfl rfl (Bytes_spec _ _ s' (by omega)) pksA rdsA) rfl rfl rfl ?_; rintro _ _ ⟨_, ⟨A100, c100, k100, hk100, rfl, rfl⟩, rfl⟩) | (refine W.stp (Stp.cal rfl rfl (Spec.ask fun (hq : _) => Bytes_spec _ _ _ hq) pksA rdsA) rfl rfl rfl ?_; rintro _ _ ⟨_, ⟨A100, c100, k100, hk100, rfl, rfl⟩, rfl⟩)); all_goals ((refine W.auto ?_); (conv => whnf))))
          | ((with_reducible refine W.at 105 ?_); first | ((refine W.stp (Stp.cal rfl rfl (rBytes_spec _ _ s' (by omega)) pksA rdsA) rfl rfl rfl ?_; rintro _ _ ⟨_, ⟨A105, c105, k105, hk105, rfl, rfl⟩, rfl⟩); all_goals ((refine W.auto ?_); (conv => whnf))))
          | ((with_reducible refine W.at 110 ?_); first | ((refine W.stp (Stp.cal rfl rfl (EqBytes_spec _ _ _ _ _ _ _ _) pksA rdsA) rfl rfl rfl ?_; rintro _ _ ⟨_, ⟨rfl, rfl⟩, rfl⟩); all_goals ((refine W.auto ?_); (conv => whnf))))
          | ((with_reducible refine W.at 127 ?_); first | (refine W.ev (Ev.indexAddrN rfl rfl rdA (by omega)) rfl rfl rfl ?_; all_goals ((refine W.auto ?_); (conv => whnf))) | (refine W.ev (Ev.indexAddr1 rfl rfl rdA (by omega)) rfl rfl rfl ?_; all_goals ((refine W.auto ?_); (conv => whnf))))
          | ((with_reducible refine W.at 128 ?_); first | (refine W.evB (Ev.loadB rfl rdA (by first | omega | (simp only [List.length_drop, List.length_take, List.length_append, List.length_replicate, List.length_set, List.length_cons, List.length_nil, Nat.min_def]; omega) | (simp; omega))) rfl rfl rfl (fun hbyte => ?_); all_goals ((refine W.auto ?_); (conv => whnf))) | (refine W.ev (Ev.loadRec0 rfl rfl rdA (by exact fun _ => rfl) (by omega) (by rfl)) rfl rfl rfl ?_; all_goals ((refine W.auto ?_); (conv => whnf))))
          | ((with_reducible refine W.at 129 ?_); first | (refine W.ev (Ev.xor8 rfl rfl) rfl rfl rfl ?_; all_goals ((refine W.auto ?_); (conv => whnf))) | (refine W.ev (Ev.xor8k rfl rfl (by omega)) rfl rfl rfl ?_; all_goals ((refine W.auto ?_); (conv => whnf))))
          | ((with_reducible refine W.at 130 ?_); first | (refine W.ev (Ev.indexAddrN rfl rfl rdA (by omega)) rfl rfl rfl ?_; all_goals ((refine W.auto ?_); (conv => whnf))) | (refine W.ev (Ev.indexAddr1 rfl rfl rdA (by omega)) rfl rfl rfl ?_; all_goals ((refine W.auto ?_); (conv => whnf))))
          | ((with_reducible refine W.atS 130 ?_); first | (refine stW1 rfl rfl rfl pkA ?_; (conv => whnf)) | ((refine W.stp0 (Stp.storeB rfl rfl pkA (by first | omega | (simp only [List.length_drop, List.length_take, List.length_append, List.length_replicate, List.length_set, List.length_cons, List.length_nil, Nat.min_def]; omega) | (simp; omega))) rfl rfl ?_; rintro _ _ rfl); all_goals ((refine W.auto ?_); (conv => whnf))) | ((refine W.stp0 (Stp.storeBk rfl rfl pkA (by omega) (by first | omega | (simp only [List.length_drop, List.length_take, List.length_append, List.length_replicate, List.length_set, List.length_cons, List.length_nil, Nat.min_def]; omega) | (simp; omega))) rfl rfl ?_; rintro _ _ rfl); all_goals ((refine W.auto ?_); (conv => whnf))))
          | ((with_reducible refine W.at 131 ?_); first | ((refine W.stp (Stp.cal rfl rfl (works_spec) pksA rdsA) rfl rfl rfl ?_; rintro _ _ ⟨_, ⟨rfl, rfl⟩, rfl⟩); all_goals ((refine W.auto ?_); (conv => whnf))))
          | ((with_reducible refine WC.atC (c := .seq (.block _ (.seq (.region 5 _ _) _)) _) ?_); refine WC.seq ?_; refine WC.block ?_; refine WC.seq ?_; refine WC.auto ?_; (conv => whnf))
          | ((with_reducible refine WC.atC (c := .seq (.region 6 _ _) _) ?_); refine WC.seq ?_; refine WC.auto ?_; (conv => whnf))
          | ((with_reducible refine WC.atC (c := .seq (.region 7 _ _) _) ?_); refine WC.seq ?_; refine WC.auto ?_; (conv => whnf))
          | ((with_reducible refine WC.atC (c := .seq (.seq (.region 8 _ _) _) _) ?_); refine WC.cutL3 (X := NW) (Y := NWA) (Z := NWA) (fun s' aw ar => s'.b.length ≤ 300 * (k + 1)) (fun s' aw ar => [(3, .pointer (some ⟨g14, 0, none⟩))]) (fun s' aw ar => [nwC g14 aw s', rwC g15 ar s', bO A40 c40 5 m (List.take m (nth ds k).bs)]) [0, 4, 5, 7] ?_; (conv => whnf); refine CutQ3.mk ?_ ?_; rotate_left; (rintro s' aw2 ar2 hs'; refine WC.auto ?_; (conv => whnf)); rotate_left; (refine WC.auto ?_; (conv => whnf)))
          | ((with_reducible refine WC.atC (c := .region 4 _ _) ?_); refine WC.auto ?_; (conv => whnf))
          | (refine ⟨_, _, _, ?_, by ((repeat (first | exact trivial | refine And.intro rfl ?_)); fail_if_success (focus skip)), (by (with_reducible refine chLeI ?_); exact ⟨_, pksA⟩)⟩)
          | ((with_reducible refine WC.atC (c := .loop (.seq (.seq (.region 3 _ _) _) _)) ?_); refine WC.loopL4 (X := Nat) (Y := NW) (Z := NWA) (U := NWA) (0) (⟨[], 0⟩) (a14) (a15) (fun k s aw ar => k ≤ 40 ∧ s.b.length ≤ 300 * k) (fun k s aw ar => [(5, .int .i64 (k : Int)), (3, .pointer (some ⟨g14, 0, none⟩))]) (fun k s aw ar => [nwC g14 aw s, rwC g15 ar s]) (fun k _ _ _ => 40 - k) [0, 4] (⟨by omega, by show 0 ≤ _; omega⟩) ?_; (conv => whnf); refine LoopQ4.mk (by ((repeat (first | exact trivial | refine And.intro rfl ?_)); fail_if_success (focus skip))) (⟨_, pksA⟩) ?_; rintro k s aw ar ⟨hk40, hsl⟩; refine WC.seq ?_; refine WC.auto ?_; (conv => whnf))
          | ((with_reducible refine WC.atC (c := .loop (.seq (.seq (.region 21 _ _) _) _)) ?_); refine WC.loopL2 (X := Nat) (Y := List UInt8) (0) (List.take m (nth ds k).bs) (fun j zs => j ≤ m ∧ zs.length = m) (fun j zs => [(8, .int .i64 (j : Int))]) (fun j zs => [nwC g14 aw2 s', rwC g15 ar2 s', bO A40 c40 5 m zs]) (fun j _ => m - j) [0, 3, 4, 5, 7] (⟨by omega, by rw [List.length_take]; omega⟩) ?_; (conv => whnf); refine LoopQ2.mk (by ((repeat (first | exact trivial | refine And.intro rfl ?_)); fail_if_success (focus skip))) (⟨_, pksA⟩) ?_; rintro j zs ⟨hj, hzs⟩; refine WC.auto ?_; (conv => whnf))
          | ((with_reducible refine WC.atC (c := .loop (.seq (.seq (.region 29 _ _) _) _)) ?_); refine WC.loopL2 (X := Nat) (Y := List UInt8) (0) (nwOut s') (fun j zs => j ≤ k100 ∧ zs.length = k100) (fun j zs => [(13, .int .i64 (j : Int))]) (fun j zs => [nwC g14 aw2 s', rwC g15 ar2 s', bO A100 c100 5 k100 zs]) (fun j _ => k100 - j) [0, 3, 4, 5, 9] (⟨by omega, by omega⟩) ?_; (conv => whnf); refine LoopQ2.mk (by ((repeat (first | exact trivial | refine And.intro rfl ?_)); fail_if_success (focus skip))) (⟨_, pksA⟩) ?_; rintro j zs ⟨hj, hzs⟩; refine WC.auto ?_; (conv => whnf))
          | (refine ⟨j + 1, _, ?_, by ((repeat (first | exact trivial | refine And.intro rfl ?_)); fail_if_success (focus skip)), (by (with_reducible refine chLeI ?_); exact ⟨_, pksA⟩), by omega⟩)
          | (refine ⟨k + 1, _, _, _, ?_, by ((repeat (first | exact trivial | refine And.intro rfl ?_)); fail_if_success (focus skip)), (by (with_reducible refine chLeI ?_); exact ⟨_, pksA⟩), by omega⟩)
          | refine Exists.intro _ (And.intro (resv_rfl rfl) ?_))
  all_goals first
    | omega
    | (have := nwNum_len s (nth ds k).width (nth ds k).n; omega)
    | (have := nwCount_len s (nth ds k).n (hk2 k (by omega)).1; omega)
    | (have := nwText_len s (List.take m (nth ds k).bs) (by rw [List.length_take]; omega); rw [List.length_take] at this; omega)
    | (have := nwPut_len s 0 (List.take m (nth ds k).bs); rw [List.length_take] at this; omega)
    | (have := hcap k (by omega); omega)
    | (rw [List.length_set]; omega)
    | (have := nwOut_len s'; omega)
    | first | exact ⟨_, ⟨rfl, rfl⟩, _, pksA⟩ | skip
    | skip
end Go.SX
