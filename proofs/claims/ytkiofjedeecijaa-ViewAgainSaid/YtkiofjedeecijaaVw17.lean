/- Views: what was written is read as it was, and what can be read has just these bytes. -/
import Derived.Test.YtkiofjedeecijaaVw16
namespace Go.SX
open Go Go.RowKit Go.Proofs
set_option linter.unusedVariables false
set_option linter.unusedSimpArgs false
set_option maxHeartbeats 4000000
def encR (l : Int) (r : VR) : List UInt8 := cntB (r.step - l) ++ (beB 1 r.node ++ (beB 1 r.kind ++ (cntB (r.bs.length : Int) ++ r.bs)))
def encF : Int → List VR → List UInt8
  | _, [] => []
  | l, r :: rs => encR l r ++ encF r.step rs
def okF : Int → List VR → Prop
  | _, [] => True
  | l, r :: rs => mayP r ∧ l ≤ r.step ∧ okF r.step rs
theorem numErr1 {n : Int} (h : 0 ≤ n ∧ n < 256) : numErr ((1 : Nat) : Int) n = 0 := by
  unfold numErr
  rw [if_neg (by omega), if_neg]
  rintro (h1 | h1 | ⟨h1, h2⟩)
  · omega
  · omega
  · have : (2 : Int) ^ (8 * ((1 : Nat) : Int).toNat) = 256 := by decide
    omega
theorem vwStep_enc (b : List UInt8) (l : Int) (r : VR) (hm : mayP r) (hl : 0 ≤ l ∧ l ≤ r.step) : vwStep ⟨b, 0⟩ l r = ⟨b ++ encR l r, 0⟩ := by
  obtain ⟨h1, h2, h3, h4, h5, h6⟩ := hm
  unfold vwStep
  rw [wCount_ok b _ ⟨by omega, by omega⟩]
  have e1 := wNum_ok (b ++ cntB (r.step - l)) 1 r.node (numErr1 (by omega))
  have e2 := wNum_ok (b ++ cntB (r.step - l) ++ beB 1 r.node) 1 r.kind (numErr1 (by omega))
  rw [show ((1 : Nat) : Int) = 1 from rfl] at e1 e2
  rw [e1, e2]
  unfold nwText
  rw [wCount_ok _ _ ⟨by omega, by omega⟩]
  unfold nwPut encR
  simp
theorem vwF_enc : ∀ (rs : List VR) (b : List UInt8) (l : Int), 0 ≤ l → okF l rs → vwF ⟨b, 0⟩ l rs = ⟨b ++ encF l rs, 0⟩
  | [], b, l, _, _ => by simp [vwF, encF]
  | r :: rs, b, l, hl, h => by
    obtain ⟨h1, h2, h3⟩ := h
    rw [vwF, vwStep_enc b l r h1 ⟨hl, h2⟩, vwF_enc rs _ r.step (by omega) h3, encF, List.append_assoc]
theorem vwB_enc (rs : List VR) (h : okF 0 rs) (hl : rs.length ≤ 9007199254740991) : vwB rs = cntB (rs.length : Int) ++ encF 0 rs := by
  unfold vwB
  rw [wCount_ok [] _ ⟨by omega, by omega⟩, vwF_enc rs _ 0 (by omega) h]
  unfold nwOut
  simp
theorem okF_all : ∀ (rs : List VR) (l : Int), okF l rs → ∀ r ∈ rs, mayP r
  | [], _, _, r, hr => by cases hr
  | x :: rs, l, h, r, hr => by
    rcases List.mem_cons.1 hr with rfl | hr
    · exact h.1
    · exact okF_all rs _ h.2.2 r hr
theorem cntB_pos (n : Int) : 0 < (cntB n).length := by unfold cntB; simp
theorem encF_len : ∀ (rs : List VR) (l : Int), 4 * rs.length ≤ (encF l rs).length ∧ ∀ r ∈ rs, r.bs.length ≤ (encF l rs).length
  | [], l => ⟨Nat.le_refl _, fun r hr => by cases hr⟩
  | x :: rs, l => by
    have ih := encF_len rs x.step
    have h1 := cntB_pos (x.step - l)
    have h2 := cntB_pos x.bs.length
    have h3 := beB_len 1 x.node
    have h4 := beB_len 1 x.kind
    have e : (encF l (x :: rs)).length = (cntB (x.step - l)).length + ((beB 1 x.node).length + ((beB 1 x.kind).length + ((cntB (x.bs.length : Int)).length + x.bs.length))) + (encF x.step rs).length := by
      rw [encF, encR]; simp only [List.length_append]
    refine ⟨by rw [e, List.length_cons]; omega, fun r hr => ?_⟩
    rcases List.mem_cons.1 hr with rfl | hr
    · omega
    · have := ih.2 r hr; omega
/-! ### The other way round -/
theorem cnt_again (most : Int) (s : NR) (he : (nrCount s most).2.e = 0) : s.e = 0 ∧ s.b = cntB (nrCount s most).1 ++ (nrCount s most).2.b := by
  have h0 : s.e = 0 := by
    apply Classical.byContradiction; intro hn
    unfold nrCount at he; rw [if_pos hn] at he; exact hn he
  obtain ⟨b, e⟩ := s
  dsimp only at h0
  subst h0
  refine ⟨rfl, ?_⟩
  rw [nrCount_e rfl] at he ⊢
  obtain ⟨pre, h1, h2⟩ := (cntK_again most 8 0 b (fun _ => rfl)).2 he
  rw [hiG_zero, List.nil_append] at h2
  rw [h2]; exact h1
theorem beB_one (x : UInt8) : beB 1 ((beN [x] : Nat) : Int) = [x] := by
  have h : beN [x] = x.toNat := by simp [beN]
  rw [h]
  unfold beB
  have h2 := x.toNat_lt
  have : byteOf ((x.toNat : Int)) = x := by apply UInt8.toNat_inj.1; rw [byteOf_nat (by omega)]
  simp [this]
theorem num_again (s : NR) (he : (nrNum s 1).2.e = 0) : s.e = 0 ∧ s.b = beB 1 (nrNum s 1).1 ++ (nrNum s 1).2.b := by
  have h0 : s.e = 0 := by
    apply Classical.byContradiction; intro hn
    unfold nrNum at he; rw [if_pos hn] at he; exact hn he
  refine ⟨h0, ?_⟩
  obtain ⟨b, e⟩ := s
  dsimp only at h0
  subst h0
  cases b with
  | nil => exfalso; revert he; decide
  | cons x b =>
    have hr : nrRaw ⟨x :: b, 0⟩ 1 = ([x], ⟨b, 0⟩) := by
      unfold nrRaw
      rw [if_neg (by simp), if_neg (by omega), if_neg (by simp only [List.length_cons]; omega)]
      rfl
    have hn : nrNum ⟨x :: b, 0⟩ 1 = (((beN [x] : Nat) : Int), ⟨b, 0⟩) := by
      have hx := beN_lt7 (x := [x]) (by simp)
      have hx' : beN [x] = x.toNat := by simp [beN]
      have := x.toNat_lt
      unfold nrNum
      rw [if_neg (by simp), if_neg (by omega), hr, if_neg (by dsimp only; omega)]
    rw [hn]
    dsimp only
    rw [beB_one]; rfl
theorem text_again (most : Int) (s : NR) (he : (nrText s most).2.e = 0) : s.e = 0 ∧ s.b = cntB ((nrText s most).1.length : Int) ++ ((nrText s most).1 ++ (nrText s most).2.b) := by
  unfold nrText at he ⊢
  by_cases hc : (nrCount s most).2.e = 0
  · rw [if_pos hc] at he ⊢
    obtain ⟨h1, h2⟩ := cnt_again most s hc
    refine ⟨h1, ?_⟩
    have h3 := (nrCount_facts s most).2.2
    generalize (nrCount s most).1 = m at *
    generalize (nrCount s most).2 = t at *
    rw [h2]
    unfold nrRaw at he ⊢
    rw [if_neg (by simp [hc]), if_neg (by omega)] at he ⊢
    by_cases hl : (t.b.length : Int) < m
    · rw [if_pos hl] at he; exact absurd he (by decide)
    · rw [if_neg hl]
      dsimp only
      rw [List.take_append_drop, List.length_take, show ((min m.toNat t.b.length : Nat) : Int) = m by omega]
  · rw [if_neg hc] at he; exact absurd he hc
theorem ot_again (r : NR) (l : Int) (he : (ot r).2.e = 0) : r.e = 0 ∧ r.b = encR l (opRow r l) ++ (ot r).2.b ∧ l ≤ (opRow r l).step := by
  obtain ⟨h1, h2⟩ := text_again 65536 (okk r).2 he
  obtain ⟨h3, h4⟩ := num_again (onn r).2 h1
  obtain ⟨h5, h6⟩ := num_again (oc r).2 h3
  obtain ⟨h7, h8⟩ := cnt_again 9007199254740991 r h5
  have h9 := (nrCount_facts r 9007199254740991).2.2
  refine ⟨h7, ?_, by show l ≤ l + (oc r).1; unfold oc; omega⟩
  unfold encR opRow
  dsimp only
  rw [show l + (oc r).1 - l = (oc r).1 by omega]
  have e1 : (oc r).2.b = beB 1 (onn r).1 ++ (onn r).2.b := h6
  have e2 : (onn r).2.b = beB 1 (okk r).1 ++ (okk r).2.b := h4
  have e3 : r.b = cntB (oc r).1 ++ (oc r).2.b := h8
  have e4 : (okk r).2.b = cntB ((ot r).1.length : Int) ++ ((ot r).1 ++ (ot r).2.b) := h2
  rw [e3, e1, e2, e4]
  simp only [List.append_assoc]
theorem addE_zero {rs : List VR} {r : VR} (h : addE rs r = 0) : mayP r ∧ lastS rs ≤ r.step ∧ rs.length ≠ 20000 := by
  unfold addE at h
  split at h
  · exact absurd h (by decide)
  · next h1 =>
    split at h
    · exact absurd h (by decide)
    · next h2 =>
      refine ⟨Classical.byContradiction fun hn => h1 (Or.inl hn), ?_, h2⟩
      have : ¬ r.step < lastS rs := fun hn => h1 (Or.inr hn)
      omega
theorem lastS_snoc (rs : List VR) (r : VR) : lastS (rs ++ [r]) = r.step := by unfold lastS; rw [List.getLast?_concat]
theorem opGo_again : ∀ (n : Nat) (r : NR) (rs : List VR) (f : Bool), (opGo n r rs f).1.e = 0 → (opGo n r rs f).2.2 = true →
    f = true ∧ ∃ nw : List VR, (opGo n r rs f).2.1 = rs ++ nw ∧ nw.length = n ∧ okF (lastS rs) nw ∧ r.b = encF (lastS rs) nw ++ (opGo n r rs f).1.b
  | 0, r, rs, f, h1, h2 => ⟨h2, [], by simp [opGo], rfl, trivial, by simp [opGo, encF]⟩
  | n + 1, r, rs, f, h1, h2 => by
    by_cases he : (ot r).2.e = 0
    · rw [opGo, if_neg (by simp [he])] at h1 h2 ⊢
      obtain ⟨h3, nw, h4, h5, h6, h7⟩ := opGo_again n _ _ _ h1 h2
      have hb : addE rs (opRow r (lastS rs)) = 0 ∧ f = true := by
        cases f
        · simp at h3
        · simpa using h3
      obtain ⟨h8, h9, h10⟩ := addE_zero hb.1
      obtain ⟨h11, h12, h13⟩ := ot_again r (lastS rs) he
      have ha : addR rs (opRow r (lastS rs)) = rs ++ [opRow r (lastS rs)] := by unfold addR; rw [if_pos hb.1]
      rw [ha, lastS_snoc] at h6 h7
      refine ⟨hb.2, opRow r (lastS rs) :: nw, by rw [h4, ha]; simp, by simp [h5], ⟨h8, h9, h6⟩, ?_⟩
      rw [encF, List.append_assoc, h12, h7, ha]
    · rw [opGo, if_pos he] at h1
      exact absurd h1 he
theorem open_again (b : List UInt8) (h : opE b = 0) : okF 0 (opAll b).2.1 ∧ vwB (opAll b).2.1 = b ∧ 4 * (opAll b).2.1.length ≤ b.length ∧ ∀ r ∈ (opAll b).2.1, r.bs.length ≤ b.length := by
  unfold opE at h
  split at h
  · next hn => exact absurd h hn
  next h0 =>
  split at h
  · exact absurd h (by decide)
  next h1 =>
  have h0 : (opAll b).1.e = 0 := Classical.byContradiction h0
  have h2 : (opAll b).2.2 = true := by
    cases hf : (opAll b).2.2
    · exact absurd (Or.inr hf) h1
    · rfl
  have h3 : (opAll b).1.b = [] := by
    apply Classical.byContradiction
    intro hn
    apply h1; left
    unfold nrEnd
    rw [if_pos ⟨h0, by cases hb : (opAll b).1.b; exact absurd hb hn; simp⟩]
    decide
  unfold opAll at *
  obtain ⟨_, nw, h4, h5, h6, h7⟩ := opGo_again _ _ _ _ h0 h2
  rw [h3, List.append_nil] at h7
  rw [h4, List.nil_append]
  have hc0 : (nrCount ⟨b, 0⟩ 20000).2.e = 0 := by
    by_cases hn : (nrCount ⟨b, 0⟩ 20000).1.toNat = 0
    · rw [hn, opGo] at h0; exact h0
    · obtain ⟨k, hk⟩ : ∃ k, (nrCount ⟨b, 0⟩ 20000).1.toNat = k + 1 := ⟨_, (Nat.succ_pred hn).symm⟩
      rw [hk, opGo] at h0
      split at h0
      · next hq => exact absurd h0 hq
      · next hq => exact (ot_again _ 0 (Classical.byContradiction hq)).1
  obtain ⟨_, h8⟩ := cnt_again 20000 ⟨b, 0⟩ hc0
  have h9 := nrCount_facts ⟨b, 0⟩ 20000
  have h10 := encF_len nw 0
  have hl : lastS ([] : List VR) = 0 := rfl
  rw [hl] at h6 h7
  have hlen : ((nw.length : Nat) : Int) = (nrCount ⟨b, 0⟩ 20000).1 := by omega
  have hbl := congrArg List.length h7
  have hbl2 : (nrCount ⟨b, 0⟩ 20000).2.b.length ≤ b.length := h9.1
  refine ⟨h6, ?_, by omega, fun r hr => by have := h10.2 r hr; omega⟩
  rw [vwB_enc nw h6 (by omega), hlen, ← h7]
  exact h8.symm
/-! ### There and back -/
theorem num_back1 (n : Int) (h : 0 ≤ n ∧ n < 256) (t : List UInt8) : nrNum ⟨beB 1 n ++ t, 0⟩ 1 = (n, ⟨t, 0⟩) := by
  have := num_back 1 (Or.inl rfl) n ⟨h.1, by have : (2 : Int) ^ (8 * 1) = 256 := by decide
                                             omega, by omega⟩ t
  exact this
theorem text_back1 (x : List UInt8) (h : x.length ≤ 65536) (t : List UInt8) : nrText ⟨cntB (x.length : Int) ++ (x ++ t), 0⟩ 65536 = (x, ⟨t, 0⟩) := by
  unfold nrText
  rw [cnt_back x.length (by omega) 65536 (by omega), if_pos rfl]
  exact nrRaw_app x t _ rfl
theorem ot_back (l : Int) (r : VR) (t : List UInt8) (hm : mayP r) (hl : 0 ≤ l ∧ l ≤ r.step) : opRow ⟨encR l r ++ t, 0⟩ l = r ∧ (ot ⟨encR l r ++ t, 0⟩).2 = ⟨t, 0⟩ := by
  obtain ⟨h1, h2, h3, h4, h5, h6⟩ := hm
  have e1 : oc ⟨encR l r ++ t, 0⟩ = (r.step - l, ⟨beB 1 r.node ++ (beB 1 r.kind ++ (cntB (r.bs.length : Int) ++ (r.bs ++ t))), 0⟩) := by
    unfold oc encR
    simp only [List.append_assoc]
    exact cnt_backI _ ⟨by omega, by omega⟩ _ (by omega) _
  have e2 : onn ⟨encR l r ++ t, 0⟩ = (r.node, ⟨beB 1 r.kind ++ (cntB (r.bs.length : Int) ++ (r.bs ++ t)), 0⟩) := by
    unfold onn; rw [e1]; exact num_back1 _ (by omega) _
  have e3 : okk ⟨encR l r ++ t, 0⟩ = (r.kind, ⟨cntB (r.bs.length : Int) ++ (r.bs ++ t), 0⟩) := by
    unfold okk; rw [e2]; exact num_back1 _ (by omega) _
  have e4 : ot ⟨encR l r ++ t, 0⟩ = (r.bs, ⟨t, 0⟩) := by
    unfold ot; rw [e3]; exact text_back1 _ (by omega) _
  refine ⟨?_, by rw [e4]⟩
  unfold opRow
  rw [e1, e2, e3, e4]
  show VR.mk (l + (r.step - l)) r.node r.kind r.bs = r
  rw [show l + (r.step - l) = r.step by omega]
theorem opGo_back : ∀ (rest done : List VR) (t : List UInt8), 0 ≤ lastS done → done.length + rest.length ≤ 20000 → okF (lastS done) rest →
    opGo rest.length ⟨encF (lastS done) rest ++ t, 0⟩ done true = (⟨t, 0⟩, done ++ rest, true)
  | [], done, t, _, _, _ => by simp [opGo, encF]
  | r :: rest, done, t, h0, hl, h => by
    obtain ⟨h1, h2, h3⟩ := h
    rw [List.length_cons] at hl
    have hb := ot_back (lastS done) r (encF r.step rest ++ t) h1 ⟨h0, h2⟩
    rw [encF, List.append_assoc, List.length_cons, opGo, hb.1, hb.2, if_neg (by simp)]
    have ha : addE done r = 0 := by
      unfold addE
      rw [if_neg (by simp only [not_or, Decidable.not_not]; exact ⟨h1, by omega⟩), if_neg (by omega)]
    have hr : addR done r = done ++ [r] := by unfold addR; rw [if_pos ha]
    have ih := opGo_back rest (done ++ [r]) t (by rw [lastS_snoc]; omega) (by rw [List.length_append, List.length_singleton]; omega) (by rw [lastS_snoc]; exact h3)
    rw [lastS_snoc] at ih
    rw [ha, hr, decide_eq_true rfl, Bool.true_and, ih, List.append_assoc]
    rfl
theorem open_back (rs : List VR) (h : okF 0 rs) (hl : rs.length ≤ 20000) : opE (vwB rs) = 0 ∧ (opAll (vwB rs)).2.1 = rs := by
  have hb := vwB_enc rs h (by omega)
  have hc : nrCount ⟨vwB rs, 0⟩ 20000 = ((rs.length : Int), ⟨encF 0 rs, 0⟩) := by
    rw [hb]; exact cnt_back rs.length (by omega) 20000 (by omega) _
  have hA : opAll (vwB rs) = (⟨[], 0⟩, rs, true) := by
    unfold opAll
    rw [hc]
    have := opGo_back rs [] [] (Int.le_refl 0) (by simpa using hl) h
    rw [List.append_nil] at this
    exact this
  refine ⟨?_, by rw [hA]⟩
  unfold opE
  rw [hA]
  rfl
theorem okR_F : ∀ (rest done : List VR), (∀ k (h : k < rest.length), addE (done ++ rest.take k) rest[k] = 0) → okF (lastS done) rest
  | [], _, _ => trivial
  | r :: rest, done, h => by
    have h0 := h 0 (by simp)
    simp only [List.take_zero, List.append_nil, List.getElem_cons_zero] at h0
    obtain ⟨h1, h2, h3⟩ := addE_zero h0
    refine ⟨h1, h2, ?_⟩
    have := okR_F rest (done ++ [r]) (fun k hk => by
      have := h (k + 1) (by simpa using hk)
      simpa using this)
    rwa [lastS_snoc] at this
theorem okR_okF {rs : List VR} (h : okR rs) : okF 0 rs := okR_F rs [] (fun k hk => by simpa using h.2 k hk)
end Go.SX
