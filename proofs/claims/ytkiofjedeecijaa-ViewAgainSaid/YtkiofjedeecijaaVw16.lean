/- Views: what is read of bytes. -/
import Derived.Test.YtkiofjedeecijaaVw15
namespace Go.SX
open Go Go.RowKit Go.Proofs
set_option linter.unusedVariables false
set_option linter.unusedSimpArgs false
set_option maxHeartbeats 4000000
def oc (r : NR) : Int × NR := nrCount r 9007199254740991
def onn (r : NR) : Int × NR := nrNum (oc r).2 1
def okk (r : NR) : Int × NR := nrNum (onn r).2 1
def ot (r : NR) : List UInt8 × NR := nrText (okk r).2 65536
def opRow (r : NR) (l : Int) : VR := ⟨l + (oc r).1, (onn r).1, (okk r).1, (ot r).1⟩
/-- The rows that are read, one by one. -/
def opGo : Nat → NR → List VR → Bool → NR × List VR × Bool
  | 0, r, rs, f => (r, rs, f)
  | n + 1, r, rs, f => if (ot r).2.e ≠ 0 then ((ot r).2, rs, f) else opGo n (ot r).2 (addR rs (opRow r (lastS rs))) (decide (addE rs (opRow r (lastS rs)) = 0) && f)
def opAll (b : List UInt8) : NR × List VR × Bool := opGo (nrCount ⟨b, 0⟩ 20000).1.toNat (nrCount ⟨b, 0⟩ 20000).2 [] true
def opE (b : List UInt8) : Int := if (opAll b).1.e ≠ 0 then (opAll b).1.e else if nrEnd (opAll b).1 ≠ 0 ∨ (opAll b).2.2 = false then 4 else 0
abbrev OpenPost (b : List UInt8) (v : Value) (l' : List Chunk) : Prop := (opE b ≠ 0 ∧ v = .tuple #[.pointer none, .int .i64 (opE b)] ∧ l' = []) ∨
  (opE b = 0 ∧ ∃ g, ∃ a' : VA, v = .tuple #[.pointer (some ⟨g, 0, none⟩), .int .i64 0] ∧ a'.hs.map RH.vr = (opAll b).2.1 ∧ l' = [viewC g a'])
theorem OpenPost.bad {b : List UInt8} {e : Int} {l : List Chunk} (h : opE b = e) (h0 : e ≠ 0) : ∃ l', OpenPost b (tup [.pointer none, .int .i64 e]) l' ∧ ChLe l l' := by
  subst h; exact ⟨_, .inl ⟨h0, rfl, rfl⟩, _, .nil⟩
theorem OpenPost.good {b : List UInt8} {g : Nat} {a : VA} {l l1 : List Chunk} (h : opE b = 0) (ha : a.hs.map RH.vr = (opAll b).2.1) (hc : PicksT [viewC g a] l l1) : ∃ l', OpenPost b (tup [.pointer (some ⟨g, 0, none⟩), .int .i64 0]) l' ∧ ChLe l l' :=
  ⟨_, .inr ⟨h, g, a, rfl, ha, rfl⟩, _, hc⟩
theorem ot_le (r : NR) : (oc r).2.b.length ≤ r.b.length ∧ (onn r).2.b.length ≤ r.b.length ∧ (okk r).2.b.length ≤ r.b.length ∧ (ot r).2.b.length ≤ r.b.length ∧ 0 ≤ (oc r).1 ∧ (oc r).1 ≤ 9007199254740991 := by
  have h1 := nrCount_facts r 9007199254740991
  have h2 := nrNum_le (oc r).2 1
  have h3 := nrNum_le (onn r).2 1
  have h4 := nrText_le (okk r).2 65536
  unfold ot okk onn oc at *
  omega
theorem op_step {m k : Nat} {r : NR} {rs : List VR} {f : Bool} (hk : k < m) (h : (ot r).2.e = 0) : opGo (m - k) r rs f = opGo (m - (k + 1)) (ot r).2 (addR rs (opRow r (lastS rs))) (decide (addE rs (opRow r (lastS rs)) = 0) && f) := by
  rw [show m - k = m - (k + 1) + 1 by omega, opGo, if_neg (by simp [h])]
theorem op_stop {m k : Nat} {r : NR} {rs : List VR} {f : Bool} (hk : k < m) (h : (ot r).2.e ≠ 0) : opGo (m - k) r rs f = ((ot r).2, rs, f) := by
  rw [show m - k = m - (k + 1) + 1 by omega, opGo, if_pos h]
theorem cntK_most (most : Int) (hm : 0 ≤ most) : ∀ (k n : Nat) (b : List UInt8), (nrCntK most k n b).1 ≤ most := by
  intro k
  induction k with
  | zero => intro n b; exact hm
  | succ k ih =>
    intro n b
    cases b with
    | nil => exact hm
    | cons c b =>
      rw [nrCntK]
      split
      · exact hm
      split
      · exact ih _ b
      split
      · exact hm
      split
      · exact hm
      · dsimp only; omega
theorem nrCount_most (s : NR) (most : Int) (hm : 0 ≤ most) : (nrCount s most).1 ≤ most := by
  unfold nrCount
  split
  · exact hm
  · exact cntK_most most hm 8 0 s.b
theorem lastS_add {rs : List VR} {r : VR} (h : i63 (lastS rs)) : i63 (lastS (addR rs r)) := by
  unfold addR
  split
  · next h0 =>
    have hm : mayP r := by
      apply Classical.byContradiction
      intro hn
      unfold addE at h0
      rw [if_pos (Or.inl hn)] at h0
      exact absurd h0 (by decide)
    unfold lastS
    rw [List.getLast?_concat]
    exact ⟨hm.2.1, hm.2.2.1⟩
  · exact h
theorem addR_len (rs : List VR) (r : VR) : (addR rs r).length ≤ rs.length + 1 := by
  unfold addR
  split <;> simp
theorem lastV_spec (g : Nat) (a : VA) (hl : a.hs.length ≤ 1000000) : Spec Try.prog 34 [.pointer (some ⟨g, 0, none⟩)] [] [viewC g a] (fun v l' => v = .int .i64 (lastS (a.hs.map RH.vr)) ∧ l' = []) := by
  obtain ⟨A, c, hs⟩ := a
  refine Spec.openRS ?_
  dsimp only [viewL, List.cons_append, List.nil_append] at *
  refine ((last_spec g A c hs hl).frame (l := []) (l1 := []) .nil (.cons (.here (Sub.refl _)) (.cons (.there (.here (Sub.refl _))) .nil))).mono fun v l' ⟨l2, ⟨h1, h2⟩, h3⟩ => ⟨h1, by rw [h3, h2]; rfl⟩
theorem RCount_n (g : Nat) (a : NWA) (b : List UInt8) (m : Nat) (r0 : NR) (hm : nrCount ⟨b, 0⟩ 20000 = ((m : Int), r0)) (hn : b.length ≤ 1000000000) : Spec Try.prog 36 [.pointer (some ⟨g, 0, none⟩), .int .i64 20000] [nrC g a ⟨b, 0⟩] [] (NumPost nrC g ((m : Int), r0)) := by
  rw [← hm]; exact RCount_spec g a _ 20000 hn
theorem Add_v (g : Nat) (a : VA) (r : NR) (l : Int) (rA : Option Addr) (rc n : Nat) (hn : n = (ot r).1.length) (hl : a.hs.length ≤ 20000) : Spec Try.prog 18 [.pointer (some ⟨g, 0, none⟩), .agg #[.int .i64 (l + (oc r).1), .int .i64 (onn r).1, .int .i64 (okk r).1, .slice rA n rc]] [viewC g a] [bR rA rc n (ot r).1]
    (AddPost g (a.hs.map RH.vr) (opRow r l)) := Add_spec g a _ _ _ rA rc n _ hn hl
theorem Open_spec (A : Option Addr) (c n : Nat) (bs : List UInt8) (hb : bs.length ≤ 1000000000) (hnn : n ≤ 1000000000) : Spec Try.prog 19 [.slice A n c] [] [bR A c n bs] (OpenPost bs) := by
  obtain ⟨m, r0, hm, hm2⟩ : ∃ (m : Nat) (r0 : NR), nrCount ⟨bs, 0⟩ 20000 = ((m : Int), r0) ∧ m ≤ 20000 := by
    have h1 := nrCount_facts ⟨bs, 0⟩ 20000
    have h2 := nrCount_most ⟨bs, 0⟩ 20000 (by decide)
    exact ⟨(nrCount ⟨bs, 0⟩ 20000).1.toNat, _, Prod.ext (by omega) rfl, by omega⟩
  have hall : opAll bs = opGo m r0 [] true := by unfold opAll; rw [hm]; rfl
  have hr0 : r0.b.length ≤ bs.length := by have := (nrCount_facts ⟨bs, 0⟩ 20000).1; rw [hm] at this; exact this
  refine Spec.intro Try.func19 rfl rfl Try.ntmps19 rfl fun w0 => ?_
  /- loops of sealchain/view.Open: 4 live [4, 5, 12] vary [6, 13] -/
  (all_goals (refine WC.auto ?_; (conv => whnf))); repeat' (first
          | ((with_reducible refine WB.auto ?_); (conv => whnf))
          | ((with_reducible refine WCB.auto ?_); (conv => whnf))
          | ((with_reducible refine Ob.at ?_); first | (refine Ob.mk (by first | omega | exact u8_bound _ | (have := u8_bound; omega) | (simp only [List.length_drop, List.length_take, List.length_append, List.length_replicate, List.length_set, List.length_cons, List.length_nil, Nat.min_def]; omega)) ?_; (conv => whnf)) | (refine Ob.mk' ?_ ?_; (conv => whnf)))
          | (refine spl_mk (fun hc => ?_) (fun hc => ?_) <;> (try simp only [Bool.not_eq_false', and_self, and_true, true_and, not_true, Bool.not_eq_true', Bool.not_false, Bool.not_true, decide_eq_true_eq, decide_eq_false_iff_not, Bool.false_eq_true, reduceCtorEq, Bool.true_eq_false, ne_eq, Decidable.not_not, Int.not_lt, Int.not_le, beq_self_eq_true, eq_self, not_true_eq_false, not_false_eq_true, Bool.not_eq_eq_eq_not, Bool.not_eq_true, Bool.not_eq_false, beq_iff_eq, beq_eq_false_iff_ne] at hc) <;> (try (exfalso; omega)) <;> (conv => whnf))
          | ((with_reducible refine NatK.at ?_); first | ((with_reducible refine NatK.cast ?_); (conv => whnf)) | (refine NatK.sym (by first | omega | exact u8_bound _ | (have := u8_bound; omega) | (simp only [List.length_drop, List.length_take, List.length_append, List.length_replicate, List.length_set, List.length_cons, List.length_nil, Nat.min_def]; omega)) (fun m hm => ?_); (conv => whnf)))
          | (intro q hq; (conv => whnf))
          | ((with_reducible refine W.at 9 ?_); first | ((refine W.stp (Stp.cal rfl rfl (Read0_spec _ _ _ _ (by omega)) pksA rdsA) rfl rfl rfl ?_; rintro _ _ ⟨_, ⟨g9, a9, rfl, rfl⟩, rfl⟩); all_goals ((refine W.auto ?_); (conv => whnf))))
          | ((with_reducible refine W.at 10 ?_); first | ((refine W.stp (Stp.cal rfl rfl (vNewV_spec) pksA rdsA) rfl rfl rfl ?_; rintro _ _ ⟨_, ⟨g10, rfl, rfl⟩, rfl⟩); all_goals ((refine W.auto ?_); (conv => whnf))))
          | ((with_reducible refine W.at 12 ?_); first | ((first | (refine W.stp (Stp.cal rfl rfl (RCount_n _ _ _ m r0 hm hb) pksA rdsA) rfl rfl rfl ?_; rintro _ _ ⟨_, ⟨a12, rfl, rfl⟩, rfl⟩; dsimp only) | (refine W.stp (Stp.cal rfl rfl (RCount_spec g9 _ r 9007199254740991 (by omega)) pksA rdsA) rfl rfl rfl ?_; rintro _ _ ⟨_, ⟨a12, rfl, rfl⟩, rfl⟩)); all_goals ((refine W.auto ?_); (conv => whnf))))
          | ((with_reducible refine W.at 16 ?_); first | ((refine W.stp (Stp.cal rfl rfl (lastV_spec g10 a (by omega)) pksA rdsA) rfl rfl rfl ?_; rintro _ _ ⟨_, ⟨rfl, rfl⟩, rfl⟩); all_goals ((refine W.auto ?_); (conv => whnf))))
          | ((with_reducible refine W.at 18 ?_); first | ((first | (refine W.stp (Stp.cal rfl rfl (RCount_n _ _ _ m r0 hm hb) pksA rdsA) rfl rfl rfl ?_; rintro _ _ ⟨_, ⟨a18, rfl, rfl⟩, rfl⟩; dsimp only) | (refine W.stp (Stp.cal rfl rfl (RCount_spec g9 _ r 9007199254740991 (by omega)) pksA rdsA) rfl rfl rfl ?_; rintro _ _ ⟨_, ⟨a18, rfl, rfl⟩, rfl⟩)); all_goals ((refine W.auto ?_); (conv => whnf))))
          | ((with_reducible refine W.at 21 ?_); first | ((first | (refine W.stp (Stp.cal rfl rfl (RNum_spec g9 _ (oc r).2 1 ⟨by omega, by omega⟩) pksA rdsA) rfl rfl rfl ?_; rintro _ _ ⟨_, ⟨a21, rfl, rfl⟩, rfl⟩) | (refine W.stp (Stp.cal rfl rfl (RNum_spec g9 _ (onn r).2 1 ⟨by omega, by omega⟩) pksA rdsA) rfl rfl rfl ?_; rintro _ _ ⟨_, ⟨a21, rfl, rfl⟩, rfl⟩)); all_goals ((refine W.auto ?_); (conv => whnf))))
          | ((with_reducible refine W.at 23 ?_); first | ((first | (refine W.stp (Stp.cal rfl rfl (RNum_spec g9 _ (oc r).2 1 ⟨by omega, by omega⟩) pksA rdsA) rfl rfl rfl ?_; rintro _ _ ⟨_, ⟨a23, rfl, rfl⟩, rfl⟩) | (refine W.stp (Stp.cal rfl rfl (RNum_spec g9 _ (onn r).2 1 ⟨by omega, by omega⟩) pksA rdsA) rfl rfl rfl ?_; rintro _ _ ⟨_, ⟨a23, rfl, rfl⟩, rfl⟩)); all_goals ((refine W.auto ?_); (conv => whnf))))
          | ((with_reducible refine W.at 7 ?_); first | ((refine W.stp (Stp.allocA rfl) rfl rfl rfl ?_; rintro _ _ ⟨g7, rfl, rfl⟩); all_goals ((refine W.auto ?_); (conv => whnf))))
          | ((with_reducible refine W.atS 7 ?_); first | (refine stWP rfl rfl (by intro v hv; (repeat' (first | rfl | (cases hv; done) | (rcases List.mem_cons.1 hv with rfl | hv)))) (by rfl) pkA ?_; (conv => whnf)))
          | ((with_reducible refine W.at 26 ?_); first | ((refine W.stp (Stp.cal rfl rfl (RText_spec g9 _ (okk r).2 65536 (by omega)) pksA rdsA) rfl rfl rfl ?_; rintro _ _ ⟨_, ⟨A26, c26, k26, a26, hk26, rfl, rfl⟩, rfl⟩); all_goals ((refine W.auto ?_); (conv => whnf))))
          | ((with_reducible refine W.atS 27 ?_); first | (refine stW1 rfl rfl rfl pkA ?_; (conv => whnf)))
          | ((with_reducible refine W.at 29 ?_); first | ((first | (refine W.stp (Stp.cal rfl rfl (Err_spec _ _ _) pksA rdsA) rfl rfl rfl ?_; rintro _ _ ⟨_, ⟨rfl, rfl⟩, rfl⟩) | (refine W.stp (Stp.cal rfl rfl (Err_spec _ _ _) pksA rdsA) rfl rfl rfl ?_; rintro _ _ ⟨_, ⟨rfl, rfl⟩, rfl⟩)); all_goals ((refine W.auto ?_); (conv => whnf))))
          | ((with_reducible refine W.at 32 ?_); first | (refine W.ev (Ev.loadAll rfl rfl rdA (by first | rfl | (simp; done) | (simp only [u8s_length]; omega) | (simp only [u8s_length]; assumption))) rfl rfl rfl ?_; all_goals ((refine W.auto ?_); (conv => whnf))) | (refine W.ev (Ev.loadAgg rfl rfl rdA (by exact Nat.le_of_ble_eq_true rfl)) rfl rfl rfl ?_; all_goals ((refine W.auto ?_); (conv => whnf))))
          | ((with_reducible refine W.at 33 ?_); first | ((refine W.stp (Stp.cal rfl rfl (Add_v g10 a r (lastS (a.hs.map RH.vr)) _ _ _ hk26 (by omega)) pksA rdsA) rfl rfl rfl ?_; rintro _ _ ⟨_, ⟨a33, rfl, ha33, rfl⟩, rfl⟩); all_goals ((refine W.auto ?_); (conv => whnf))))
          | ((with_reducible refine W.at 41 ?_); first | ((first | (refine W.stp (Stp.cal rfl rfl (Err_spec _ _ _) pksA rdsA) rfl rfl rfl ?_; rintro _ _ ⟨_, ⟨rfl, rfl⟩, rfl⟩) | (refine W.stp (Stp.cal rfl rfl (Err_spec _ _ _) pksA rdsA) rfl rfl rfl ?_; rintro _ _ ⟨_, ⟨rfl, rfl⟩, rfl⟩)); all_goals ((refine W.auto ?_); (conv => whnf))))
          | ((with_reducible refine W.at 44 ?_); first | ((first | (refine W.stp (Stp.cal rfl rfl (Err_spec _ _ _) pksA rdsA) rfl rfl rfl ?_; rintro _ _ ⟨_, ⟨rfl, rfl⟩, rfl⟩) | (refine W.stp (Stp.cal rfl rfl (Err_spec _ _ _) pksA rdsA) rfl rfl rfl ?_; rintro _ _ ⟨_, ⟨rfl, rfl⟩, rfl⟩)); all_goals ((refine W.auto ?_); (conv => whnf))))
          | ((with_reducible refine W.at 47 ?_); first | ((first | (refine W.stp (Stp.cal rfl rfl (End_spec _ _ _) pksA rdsA) rfl rfl rfl ?_; rintro _ _ ⟨_, ⟨rfl, rfl⟩, rfl⟩) | (refine W.stp (Stp.cal rfl rfl (End_spec _ _ _) pksA rdsA) rfl rfl rfl ?_; rintro _ _ ⟨_, ⟨rfl, rfl⟩, rfl⟩)); all_goals ((refine W.auto ?_); (conv => whnf))))
          | ((with_reducible refine WC.atC (c := .loop (.seq (.region 4 _ _) _)) ?_); refine WC.loopL5 (X := Nat) (Y := NR) (Z := NWA) (U := VA) (V := Bool) (0) (r0) (a12) (⟨none, 0, []⟩) (true) (fun k r ra a f => k ≤ m ∧ opGo (m - k) r (a.hs.map RH.vr) f = opAll bs ∧ r.b.length ≤ bs.length ∧ a.hs.length ≤ k ∧ i63 (lastS (a.hs.map RH.vr))) (fun k r ra a f => [(13, .int .i64 (k : Int)), (6, .bool f)]) (fun k r ra a f => [nrC g9 ra r, viewC g10 a]) (fun k r ra a f => m - k) [4, 5, 12] (⟨Nat.zero_le _, hall.symm, hr0, Nat.zero_le _, (⟨by decide, by decide⟩ : i63 0)⟩) ?_; (conv => whnf); refine LoopQ5.mk (by ((repeat (first | exact trivial | refine And.intro rfl ?_)); fail_if_success (focus skip))) (⟨_, pksA⟩) ?_; rintro k r ra a f ⟨hj1, hj2, hj3, hj4, hj5⟩; ((have hot := ot_le r; have hof := nrCount_facts r 9007199254740991; unfold i63 at hj5)); all_goals (refine WC.auto ?_; (conv => whnf)))
          | (refine ⟨k + 1, _, _, _, _, ?_, by ((repeat (first | exact trivial | refine And.intro rfl ?_)); fail_if_success (focus skip)), (by (with_reducible refine chLeI ?_); exact ⟨_, pksA⟩), by omega⟩)
          | refine Exists.intro _ (And.intro (resv_rfl rfl) ?_))
  all_goals first
    | (have he : (ot r).2.e ≠ 0 := hc
       rw [op_stop (by omega) he] at hj2
       exact OpenPost.bad (by unfold opE; rw [← hj2]; exact if_pos he) he)
    | (have hl33 : a33.hs.length ≤ k + 1 := (by have h1 := congrArg List.length ha33; have h2 := addR_len (a.hs.map RH.vr) (opRow r (lastS (a.hs.map RH.vr))); rw [List.length_map] at h1 h2; omega)
       have hs33 : i63 (lastS (a33.hs.map RH.vr)) := (by rw [ha33]; exact lastS_add hj5)
       refine ⟨by omega, ?_, Nat.le_trans hot.2.2.2.1 hj3, hl33, hs33⟩
       have he : (ot r).2.e = 0 := ‹(nrText (okk r).2 65536).2.e = 0›
       rw [← hj2, op_step (by omega) he, ha33]
       first
         | (rw [decide_eq_true (by assumption), Bool.true_and]; rfl)
         | (rw [decide_eq_false (by assumption), Bool.false_and]; rfl))
    | (have hkm : m - k = 0 := (by omega)
       rw [hkm] at hj2
       have hA : opAll bs = (r, a.hs.map RH.vr, f) := hj2.symm
       first
         | exact OpenPost.bad (by unfold opE; rw [hA]; exact if_pos hc) hc
         | exact OpenPost.bad (by unfold opE; rw [hA]; dsimp only; rw [if_neg (by simp_all), if_pos (by simp_all)]) (by decide)
         | exact OpenPost.good (a := a) (by unfold opE; rw [hA]; dsimp only; rw [if_neg (by simp_all), if_neg (by simp_all)]) (by rw [hA]) pksA)
    | skip
end Go.SX
