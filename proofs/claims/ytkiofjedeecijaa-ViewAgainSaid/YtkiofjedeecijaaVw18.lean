/- ViewAgain. -/
import Derived.Test.YtkiofjedeecijaaVw17
import Derived.Test.YtkiofjedeecijaaVw11
namespace Go.SX
open Go Go.RowKit Go.Proofs
set_option linter.unusedVariables false
set_option linter.unusedSimpArgs false
set_option maxHeartbeats 4000000
theorem made_to40 (A : Option Addr) (c : Nat) (ss : List SH) (hs : List RH) (hsc : ∀ s ∈ ss, s.bs.length ≤ s.c) (h : hs = madeL ss (min ss.length 40)) :
    Spec Try.prog 6 [.slice A ss.length c, .int .i64 40] [] [sliceC A c 4 ss.length (recs SH.cells ss), allC (ss.map SH.rd)]
      (fun v l' => ∃ A' c', v = .slice A' hs.length c' ∧ l' = [rowC A' c' 37 4 hs.length (recs RH.cells hs)]) := by
  subst h
  have := made_spec A c 40 ss (by decide) hsc
  rw [madeL_len]
  exact this
theorem vwB_len {hs : List RH} (hl : hs.length ≤ 1000) (hb : ∀ h ∈ hs, i63 h.step ∧ h.bs.length ≤ 3000 ∧ h.node ≤ 100 ∧ h.kind ≤ 100) : (vwB (hs.map RH.vr)).length ≤ 4000000 := by
  rw [← vwS_end]
  have h1 := vwS_len hl hb hs.length (Nat.le_refl _)
  have h2 : (nwOut (vwS hs hs.length)).length ≤ (vwS hs hs.length).b.length := by unfold nwOut; split <;> simp
  omega
theorem Open_ok (A : Option Addr) (c n : Nat) (rs : List VR) (hok : okF 0 rs) (hl : rs.length ≤ 20000) (hb : (vwB rs).length ≤ 1000000000) (hn : n ≤ 1000000000) : Spec Try.prog 19 [.slice A n c] [] [bR A c n (vwB rs)]
    (fun v l' => ∃ g, ∃ a' : VA, v = .tuple #[.pointer (some ⟨g, 0, none⟩), .int .i64 0] ∧ a'.hs.map RH.vr = rs ∧ l' = [viewC g a']) := by
  obtain ⟨h1, h2⟩ := open_back rs hok hl
  refine (Open_spec A c n (vwB rs) hb hn).mono ?_
  rintro v l' (⟨h0, _, _⟩ | ⟨_, g, a', e1, e2, e3⟩)
  · exact absurd h1 h0
  · exact ⟨g, a', e1, by rw [e2, h2], e3⟩
theorem again_rows {b : List UInt8} (h : opE b = 0) (hb : b.length ≤ 3000) : (∀ r ∈ (opAll b).2.1, i63 r.step ∧ r.bs.length ≤ 3000 ∧ r.node ≤ 100 ∧ r.kind ≤ 100) ∧ (opAll b).2.1.length ≤ 1000 := by
  obtain ⟨h1, h2, h3, h4⟩ := open_again b h
  refine ⟨fun r hr => ?_, by omega⟩
  have h5 := okF_all _ 0 h1 r hr
  have h6 := h4 r hr
  unfold mayP at h5
  exact ⟨⟨h5.2.1, h5.2.2.1⟩, by omega, by omega, by omega⟩
theorem ViewAgain_core (B : Option Addr) (d n : Nat) (bs : List UInt8) (A : Option Addr) (c : Nat) (ss : List SH) (hsc : ∀ s ∈ ss, s.bs.length ≤ s.c) (hs : List RH) (hhs : hs = madeL ss (min ss.length 40)) (hok : RowsOK hs) (hl40 : hs.length ≤ 40) :
    Spec Try.prog 5 [.slice B n d, .slice A ss.length c] [] [bR B d n bs, sliceC A c 4 ss.length (recs SH.cells ss), allC (ss.map SH.rd), allC (hs.map RH.rd)] (fun v l' => v = .bool true ∧ l' = []) := by
  refine Spec.fact (d := bR B d n bs) (Rd.here (Sub.refl _)) bR_len fun hb => ?_
  obtain ⟨hb1, hb2, hb3⟩ := hb
  subst hb1
  have hrow : ∀ h ∈ hs, i63 h.step ∧ h.bs.length ≤ 3000 ∧ h.node ≤ 100 ∧ h.kind ≤ 100 := by
    intro h hh
    obtain ⟨k, hk, rfl⟩ := List.mem_iff_getElem.1 hh
    have := hok.row k hk
    rw [nth_get hk] at this
    obtain ⟨h1, h2, h3⟩ := this
    unfold mayP RH.vr at h1
    dsimp only at h1
    exact ⟨⟨h1.2.1, h1.2.2.1⟩, by omega, by omega, by omega⟩
  have hrow' : ∀ r ∈ hs.map RH.vr, i63 r.step ∧ r.bs.length ≤ 3000 ∧ r.node ≤ 100 ∧ r.kind ≤ 100 := by
    intro r hr
    obtain ⟨h, hh, rfl⟩ := List.mem_map.1 hr
    exact hrow h hh
  have hlen := vwB_len (by omega) hrow
  have hml : (hs.map RH.vr).length = hs.length := List.length_map ..
  have hokF := okR_okF hok.ok
  refine Spec.intro Try.func5 rfl rfl Try.ntmps5 rfl fun w0 => ?_
  (all_goals (refine WC.auto ?_; (conv => whnf))); repeat' (first
          | ((with_reducible refine WB.auto ?_); (conv => whnf))
          | ((with_reducible refine WCB.auto ?_); (conv => whnf))
          | ((with_reducible refine Ob.at ?_); first | (refine Ob.mk (by first | omega | exact u8_bound _ | (have := u8_bound; omega) | (simp only [List.length_drop, List.length_take, List.length_append, List.length_replicate, List.length_set, List.length_cons, List.length_nil, Nat.min_def]; omega)) ?_; (conv => whnf)) | (refine Ob.mk' ?_ ?_; (conv => whnf)))
          | (refine spl_mk (fun hc => ?_) (fun hc => ?_) <;> (try simp only [Bool.not_eq_false', and_self, and_true, true_and, not_true, Bool.not_eq_true', Bool.not_false, Bool.not_true, decide_eq_true_eq, decide_eq_false_iff_not, Bool.false_eq_true, reduceCtorEq, Bool.true_eq_false, ne_eq, Decidable.not_not, Int.not_lt, Int.not_le, beq_self_eq_true, eq_self, not_true_eq_false, not_false_eq_true, Bool.not_eq_eq_eq_not, Bool.not_eq_true, Bool.not_eq_false, beq_iff_eq, beq_eq_false_iff_ne] at hc) <;> (try (exfalso; omega)) <;> (conv => whnf))
          | ((with_reducible refine NatK.at ?_); first | ((with_reducible refine NatK.cast ?_); (conv => whnf)) | (refine NatK.sym (by first | omega | exact u8_bound _ | (have := u8_bound; omega) | (simp only [List.length_drop, List.length_take, List.length_append, List.length_replicate, List.length_set, List.length_cons, List.length_nil, Nat.min_def]; omega)) (fun m hm => ?_); (conv => whnf)))
          | (intro q hq; (conv => whnf))
          | ((with_reducible refine W.at 17 ?_); first | ((first | (refine W.stp (Stp.cal rfl rfl (Open_spec _ _ m (List.take m bs) (by rw [List.length_take]; omega) (by omega)) pksA rdsA) rfl rfl rfl ?_; rintro _ _ ⟨_, (⟨h017, rfl, rfl⟩ | ⟨h017, g17, a17, rfl, ha17, rfl⟩), rfl⟩; all_goals (try (obtain ⟨hrw17, hln17⟩ := again_rows h017 (by rw [List.length_take]; omega); have hvb17 := (open_again _ h017).2.1))) | (refine W.stp (Stp.cal rfl rfl (Open_ok _ _ _ (hs.map RH.vr) hokF (by omega) (by omega) (by omega)) pksA rdsA) rfl rfl rfl ?_; rintro _ _ ⟨_, ⟨g17, a17, rfl, ha17, rfl⟩, rfl⟩)); all_goals ((refine W.auto ?_); (conv => whnf))))
          | ((with_reducible refine W.at 27 ?_); first | ((first | (first | (refine W.stp (Stp.cal rfl rfl (VBytes_to g17 a17 _ (List.take m bs) ha17 hrw17 hln17 hvb17) pksA rdsA) rfl rfl rfl ?_; rintro _ _ ⟨_, ⟨A27, c27, rfl, rfl⟩, rfl⟩) | (refine W.stp (Stp.cal rfl rfl (VBytes_to g43 a43 (hs.map RH.vr) _ ha43 hrow' (by omega) rfl) pksA rdsA) rfl rfl rfl ?_; rintro _ _ ⟨_, ⟨A27, c27, rfl, rfl⟩, rfl⟩)) | (refine W.stp (Stp.cal rfl rfl (Spec.ask fun (hq : _ ∧ _) => VBytes_spec _ _ hq.1 hq.2) pksA rdsA) rfl rfl rfl ?_; rintro _ _ ⟨_, ⟨A27, c27, k27, hk27, rfl, rfl⟩, rfl⟩)); all_goals ((refine W.auto ?_); (conv => whnf))))
          | ((with_reducible refine W.at 29 ?_); first | ((refine W.stp (Stp.cal rfl rfl (EqBytes_spec _ _ _ _ _ _ _ _) pksA rdsA) rfl rfl rfl ?_; rintro _ _ ⟨_, ⟨rfl, rfl⟩, rfl⟩); all_goals ((refine W.auto ?_); (conv => whnf))))
          | ((with_reducible refine W.at 42 ?_); first | ((refine W.stp (Stp.cal rfl rfl (made_to40 _ _ ss hs hsc hhs) pksA rdsA) rfl rfl rfl ?_; rintro _ _ ⟨_, ⟨A42, c42, rfl, rfl⟩, rfl⟩); all_goals ((refine W.auto ?_); (conv => whnf))))
          | ((with_reducible refine W.at 43 ?_); first | ((refine W.stp (Stp.cal rfl rfl (of_spec _ _ hs hok.ok) pksA rdsA) rfl rfl rfl ?_; rintro _ _ ⟨_, ⟨g43, a43, rfl, ha43, rfl⟩, rfl⟩); all_goals ((refine W.auto ?_); (conv => whnf))))
          | ((with_reducible refine W.at 48 ?_); first | ((first | (first | (refine W.stp (Stp.cal rfl rfl (VBytes_to g17 a17 _ (List.take m bs) ha17 hrw17 hln17 hvb17) pksA rdsA) rfl rfl rfl ?_; rintro _ _ ⟨_, ⟨A48, c48, rfl, rfl⟩, rfl⟩) | (refine W.stp (Stp.cal rfl rfl (VBytes_to g43 a43 (hs.map RH.vr) _ ha43 hrow' (by omega) rfl) pksA rdsA) rfl rfl rfl ?_; rintro _ _ ⟨_, ⟨A48, c48, rfl, rfl⟩, rfl⟩)) | (refine W.stp (Stp.cal rfl rfl (Spec.ask fun (hq : _ ∧ _) => VBytes_spec _ _ hq.1 hq.2) pksA rdsA) rfl rfl rfl ?_; rintro _ _ ⟨_, ⟨A48, c48, k48, hk48, rfl, rfl⟩, rfl⟩)); all_goals ((refine W.auto ?_); (conv => whnf))))
          | ((with_reducible refine W.at 49 ?_); first | ((first | (refine W.stp (Stp.cal rfl rfl (Open_spec _ _ m (List.take m bs) (by rw [List.length_take]; omega) (by omega)) pksA rdsA) rfl rfl rfl ?_; rintro _ _ ⟨_, (⟨h049, rfl, rfl⟩ | ⟨h049, g49, a49, rfl, ha49, rfl⟩), rfl⟩; all_goals (try (obtain ⟨hrw17, hln17⟩ := again_rows h017 (by rw [List.length_take]; omega); have hvb17 := (open_again _ h017).2.1))) | (refine W.stp (Stp.cal rfl rfl (Open_ok _ _ _ (hs.map RH.vr) hokF (by omega) (by omega) (by omega)) pksA rdsA) rfl rfl rfl ?_; rintro _ _ ⟨_, ⟨g49, a49, rfl, ha49, rfl⟩, rfl⟩)); all_goals ((refine W.auto ?_); (conv => whnf))))
          | ((with_reducible refine W.at 61 ?_); first | ((first | (refine W.stp (Stp.cal rfl rfl (First_to g43 a43 g49 a49 _ _ (-1) ha43 ha49 (by omega) (by omega) (firstU_refl _ 0)) pksA rdsA) rfl rfl rfl ?_; rintro _ _ ⟨_, ⟨rfl, rfl⟩, rfl⟩) | (refine W.stp (Stp.cal rfl rfl (First_spec _ _ _ _ (by assumption) (by assumption)) pksA rdsA) rfl rfl rfl ?_; rintro _ _ ⟨_, ⟨rfl, rfl⟩, rfl⟩)); all_goals ((refine W.auto ?_); (conv => whnf))))
          | ((with_reducible refine W.at 66 ?_); first | ((first | (refine W.stp (Stp.cal rfl rfl (Len_to g49 a49 _ ha49) pksA rdsA) rfl rfl rfl ?_; rintro _ _ ⟨_, ⟨rfl, rfl⟩, rfl⟩) | (refine W.stp (Stp.cal rfl rfl (Len_to g43 a43 _ ha43) pksA rdsA) rfl rfl rfl ?_; rintro _ _ ⟨_, ⟨rfl, rfl⟩, rfl⟩)); all_goals ((refine W.auto ?_); (conv => whnf))))
          | ((with_reducible refine W.at 68 ?_); first | ((first | (refine W.stp (Stp.cal rfl rfl (Len_to g49 a49 _ ha49) pksA rdsA) rfl rfl rfl ?_; rintro _ _ ⟨_, ⟨rfl, rfl⟩, rfl⟩) | (refine W.stp (Stp.cal rfl rfl (Len_to g43 a43 _ ha43) pksA rdsA) rfl rfl rfl ?_; rintro _ _ ⟨_, ⟨rfl, rfl⟩, rfl⟩)); all_goals ((refine W.auto ?_); (conv => whnf))))
          | ((with_reducible refine W.at 72 ?_); first | ((refine W.stp (Stp.cal rfl rfl (vworks_spec) pksA rdsA) rfl rfl rfl ?_; rintro _ _ ⟨_, ⟨rfl, rfl⟩, rfl⟩); all_goals ((refine W.auto ?_); (conv => whnf))))
          | refine Exists.intro _ (And.intro (resv_rfl rfl) ?_))
  all_goals first
    | first | exact ⟨_, ⟨rfl, rfl⟩, _, pksA⟩ | skip
    | skip
theorem ViewAgain_law (B : Option Addr) (d n : Nat) (bs : List UInt8) (A : Option Addr) (c : Nat) (ss : List SH) (hsc : ∀ s ∈ ss, s.bs.length ≤ s.c) :
    Spec Try.prog 5 [.slice B n d, .slice A ss.length c] [] [bR B d n bs, sliceC A c 4 ss.length (recs SH.cells ss), allC (ss.map SH.rd)] (fun v l' => v = .bool true ∧ l' = []) := by
  refine ((ViewAgain_core B d n bs A c ss hsc _ rfl (rows_made ss _ (by omega)) (by rw [madeL_len]; omega)).frame (l := []) (l1 := []) .nil ?_).mono fun v l' ⟨l2, ⟨h1, h2⟩, h3⟩ => ⟨h1, by rw [h3, h2]; rfl⟩
  exact .cons (.here (Sub.refl _)) (.cons (.there (.here (Sub.refl _))) (.cons (.there (.there (.here (Sub.refl _)))) (.cons (.there (.there (.here (made_sub ss _ (Nat.min_le_left _ _))))) .nil)))
end Go.SX
