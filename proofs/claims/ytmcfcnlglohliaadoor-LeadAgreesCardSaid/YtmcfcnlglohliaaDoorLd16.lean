/- LeadAgrees: the plain protocol, on: two promises; a proposal; a vote. -/
import Derived.Test.YtmcfcnlglohliaaDoorLd15
namespace Go.SX
open Go Go.RowKit Go.Proofs
set_option linter.unusedVariables false
set_option linter.unusedSimpArgs false
set_option maxHeartbeats 4000000
theorem Safe.none {acc : Acc} {val : Val} {pm : Nat → Int} {k0 k1 : Nat} {b : Int} (h0 : k0 < 3) (h1 : k1 < 3) (hne : k0 ≠ k1) (p0 : b ≤ pm k0) (p1 : b ≤ pm k1) (n0 : ∀ c, ¬ acc k0 c) (n1 : ∀ c, ¬ acc k1 c) (v : Int) : Safe acc val pm v b :=
  fun d _ hd => ⟨k0, k1, h0, h1, hne, .inr ⟨n0 d, by omega⟩, .inr ⟨n1 d, by omega⟩⟩
theorem Safe.max {acc : Acc} {val : Val} {pm : Nat → Int} {k0 k1 : Nat} {b m u : Int} (h0 : k0 < 3) (h1 : k1 < 3) (hne : k0 ≠ k1) (p0 : b ≤ pm k0) (p1 : b ≤ pm k1) (n0 : ∀ c, acc k0 c → c ≤ m) (n1 : ∀ c, acc k1 c → c ≤ m) (hv : val m = some u) (hs : Safe acc val pm u m) : Safe acc val pm u b := by
  intro d hd0 hd
  by_cases h : d < m
  · exact hs d hd0 h
  · have key : ∀ k, b ≤ pm k → (∀ c, acc k c → c ≤ m) → Okd acc val pm u d k := fun k hp hn => by
      by_cases ha : acc k d
      · have : d = m := by have := hn d ha; omega
        subst this
        exact .inl ⟨ha, hv⟩
      · exact .inr ⟨ha, by omega⟩
    exact ⟨k0, k1, h0, h1, hne, key k0 p0 n0, key k1 p1 n1⟩
def s1L (who : Nat) (b : Int) (pr : Nat) (bs : List VM) : LM := ⟨who, b, 1, 1, pr, bs, none, 0⟩
def s2L (who : Nat) (b : Int) (pr : Nat) (bs : List VM) : LM := ⟨who, b, 1, 2, pr, bs, none, 0⟩
theorem Inv.bsF {acc : Acc} {val : Val} {N : Int} {st : CS} (h : Inv acc val N st) {m u : Int} (hv : val m = some u) : ∃ n v, ([⟨m, ⟨1, 1, [u]⟩⟩] : List VM) = [⟨n, ⟨1, 1, [v]⟩⟩] ∧ 10 ≤ v ∧ v ≤ 12 :=
  ⟨m, u, rfl, (h.w m u hv).2.1, (h.w m u hv).2.2.1⟩
/-- The first promise. -/
theorem Inv.one {acc : Acc} {val : Val} {N : Int} {st : CS} (h : Inv acc val N st) {who k : Nat} (hw : who < 3) (hk : k < 3) {b : Int} {pr : Nat} (hpr : pr < 8) (hb : (st.v k).pm < b) (hb0 : 0 ≤ b ∧ b ≤ N) (hsb : (st.s who).b = b) :
    Inv acc val N (prS st who k b (s1L who b pr ((tellW (st.v k)).foldl (bindV 1 b) []))) := by
  refine h.promise hw hk hb hb0.2 hsb.symm ⟨rfl, hb0, ⟨hpr, by show 0 < 8; decide⟩, ?_, .inl rfl, fun hp => absurd hp (by show ¬ (1 : Int) = 2; decide), fun hp => absurd hp (by show ¬ (1 : Int) = 2; decide), fun hp => absurd hp (by show ¬ (1 : Int) = 2; decide)⟩
  show (tellW (st.v k)).foldl (bindV 1 b) [] = [] ∨ ∃ n v, (tellW (st.v k)).foldl (bindV 1 b) [] = [⟨n, ⟨1, 1, [v]⟩⟩] ∧ 10 ≤ v ∧ v ≤ 12
  rcases tell_fold (h.v k hk) (b := b) (fun c hc => by have := (h.a k c hc).2.2.1; omega) [] (.inl rfl) with ⟨e, _⟩ | ⟨m, u, e, _, _, hv, _⟩
  · exact .inl e
  · rw [e]; exact .inr (h.bsF hv)
/-- Both of them. -/
theorem Inv.both {acc : Acc} {val : Val} {N : Int} {st : CS} (h : Inv acc val N st) {who k0 k1 : Nat} (hw : who < 3) (hk0 : k0 < 3) (hk1 : k1 < 3) (hne : k0 ≠ k1) {b : Int} {pr pr' : Nat} (hpr : pr < 8) (hpr' : pr' < 8)
    (hb0 : (st.v k0).pm < b) (hb1 : (st.v k1).pm < b) (hb : 0 < b ∧ b ≤ N ∧ b % 3 = who) (hsb : (st.s who).b = b) (hvb : val b = none) :
    ∃ bs, (tellW (st.v k1)).foldl (bindV 1 b) ((tellW (st.v k0)).foldl (bindV 1 b) []) = bs ∧
      Inv acc val N (prS (prS st who k0 b (s1L who b pr ((tellW (st.v k0)).foldl (bindV 1 b) []))) who k1 b (s2L who b pr' bs)) ∧ (st.ch ≠ 0 → ∃ n, bs = [⟨n, ⟨1, 1, [st.ch]⟩⟩]) := by
  have hi := h.one hw hk0 (pr := pr) hpr hb0 ⟨by omega, hb.2.1⟩ hsb
  have q0 : ∀ c, acc k0 c → c < b := fun c hc => by have := (h.a k0 c hc).2.2.1; omega
  have q1 : ∀ c, acc k1 c → c < b := fun c hc => by have := (h.a k1 c hc).2.2.1; omega
  have t0 := tell_fold (h.v k0 hk0) q0 [] (.inl rfl)
  generalize hbs1 : (tellW (st.v k0)).foldl (bindV 1 b) [] = bs1 at *
  have t1 := tell_fold (h.v k1 hk1) q1 bs1 (by
    rcases t0 with ⟨e, _⟩ | ⟨m, u, e, hm, _⟩
    · exact .inl e
    · exact .inr ⟨m, u, e, hm⟩)
  generalize hbs2 : (tellW (st.v k1)).foldl (bindV 1 b) bs1 = bs2 at *
  refine ⟨bs2, rfl, ?_⟩
  have hv1 : ((prS st who k0 b (s1L who b pr bs1)).v k1).pm < b := by
    show (upd st.v k0 _ k1).pm < b
    rw [upd_other _ _ (fun h => hne h.symm)]; exact hb1
  -- what is safe
  have key : ∀ pm' : Nat → Int, Ext acc val (fun k => (st.v k).pm) acc val pm' → b ≤ pm' k0 → b ≤ pm' k1 → (bs2 = [] → ∀ v, Safe acc val pm' v b) ∧ (∀ n v, bs2 = [⟨n, ⟨1, 1, [v]⟩⟩] → Safe acc val pm' v b) ∧ (bs2 = [] ∨ ∃ n v, bs2 = [⟨n, ⟨1, 1, [v]⟩⟩] ∧ 10 ≤ v ∧ v ≤ 12) := by
    intro pm' e p0 p1
    have mx : ∀ m u, val m = some u → (∀ c, acc k0 c → c ≤ m) → (∀ c, acc k1 c → c ≤ m) → bs2 = [⟨m, ⟨1, 1, [u]⟩⟩] → (bs2 = [] → ∀ v, Safe acc val pm' v b) ∧ (∀ n v, bs2 = [⟨n, ⟨1, 1, [v]⟩⟩] → Safe acc val pm' v b) ∧ (bs2 = [] ∨ ∃ n v, bs2 = [⟨n, ⟨1, 1, [v]⟩⟩] ∧ 10 ≤ v ∧ v ≤ 12) := by
      intro m u hv n0 n1 e2
      have hs := Safe.max hk0 hk1 hne p0 p1 n0 n1 hv ((h.w m u hv).1.ext e)
      refine ⟨fun hh => (by rw [hh] at e2; cases e2), fun n v hh => ?_, .inr (by rw [e2]; exact h.bsF hv)⟩
      rw [hh] at e2
      simp only [List.cons.injEq, VM.mk.injEq, CF.mk.injEq, and_true, true_and] at e2
      rw [e2.2]; exact hs
    rcases t0 with ⟨e0, f0⟩ | ⟨m, u, e0, hm, ha, hv, hmax, _⟩
    · have n0 : ∀ c, ¬ acc k0 c := by
        rcases f0 with f0 | ⟨n, v, hh, _⟩
        · exact f0
        · cases hh
      rcases t1 with ⟨e1, f1⟩ | ⟨m', u', e1, hm', ha', hv', hmax', _⟩
      · have n1 : ∀ c, ¬ acc k1 c := by
          rcases f1 with f1 | ⟨n, v, hh, _⟩
          · exact f1
          · rw [e0] at hh; cases hh
        rw [e0] at e1
        refine ⟨fun _ v => Safe.none hk0 hk1 hne p0 p1 n0 n1 v, fun n v hh => Safe.none hk0 hk1 hne p0 p1 n0 n1 v, .inl e1⟩
      · exact mx m' u' hv' (fun c hc => absurd hc (n0 c)) hmax' e1
    · rcases t1 with ⟨e1, f1⟩ | ⟨m', u', e1, hm', ha', hv', hmax', hlt⟩
      · refine mx m u hv hmax ?_ (by rw [e1, e0])
        rcases f1 with f1 | ⟨n, v, hh, f1⟩
        · exact fun c hc => absurd hc (f1 c)
        · rw [e0] at hh
          simp only [List.cons.injEq, VM.mk.injEq, and_true] at hh
          rw [hh.1]; exact f1
      · have := hlt m u e0
        exact mx m' u' hv' (fun c hc => by have := hmax c hc; omega) hmax' e1
  have e1 := prS_ext (acc := acc) (val := val) (st := st) (who := who) (b := b) (s' := s1L who b pr bs1) hb0
  have e2 := prS_ext (acc := acc) (val := val) (st := prS st who k0 b (s1L who b pr bs1)) (who := who) (b := b) (s' := s2L who b pr' bs2) hv1
  have e12 : Ext acc val (fun k => (st.v k).pm) acc val (fun k => ((prS (prS st who k0 b (s1L who b pr bs1)) who k1 b (s2L who b pr' bs2)).v k).pm) :=
    ⟨fun _ _ h => h, fun _ _ h => .inl h, fun _ _ h => h, fun k => Int.le_trans (e1.p k) (e2.p k)⟩
  have hp0 : b ≤ ((prS (prS st who k0 b (s1L who b pr bs1)) who k1 b (s2L who b pr' bs2)).v k0).pm := by
    show b ≤ (upd (upd st.v k0 _) k1 _ k0).pm
    rw [upd_other _ _ hne, upd_same]; exact Int.le_refl _
  have hp1 : b ≤ ((prS (prS st who k0 b (s1L who b pr bs1)) who k1 b (s2L who b pr' bs2)).v k1).pm := by
    show b ≤ (upd (upd st.v k0 _) k1 _ k1).pm
    rw [upd_same]; exact Int.le_refl _
  obtain ⟨k1', k2', k3'⟩ := key _ e12 hp0 hp1
  have hsb' : ((prS st who k0 b (s1L who b pr bs1)).s who).b = b := by show (upd st.s who _ who).b = b; rw [upd_same]; rfl
  refine ⟨hi.promise hw hk1 hv1 hb.2.1 hsb'.symm ⟨rfl, ⟨by show 0 ≤ b; omega, hb.2.1⟩, ⟨hpr', by show 0 < 8; decide⟩, k3', .inl rfl, fun _ _ _ => ⟨hvb, hb.1, hb.2.2⟩, fun _ _ => ⟨k1', k2'⟩, fun _ => .inl rfl⟩, fun hch => ?_⟩
  rcases h.ch with h0 | ⟨c0, hc0, x, y, hx, hy, hxy, ax, ay⟩
  · exact absurd h0 hch
  have hlt : 0 < c0 ∧ c0 < b := by
    have w0 := (h.a x c0 ax).2.1
    rcases meet hx hy hxy hk0 hk1 hne with rfl | rfl | rfl | rfl
    · exact ⟨w0, q0 _ ax⟩
    · exact ⟨w0, q1 _ ax⟩
    · exact ⟨w0, q0 _ ay⟩
    · exact ⟨w0, q1 _ ay⟩
  rcases k3' with e | ⟨n, v, e, _⟩
  · have := (k1' e (st.ch + 1)).two hlt.1 hlt.2 ⟨x, y, hx, hy, hxy, ax, ay⟩ hc0
    omega
  · have := (k2' n v e).two hlt.1 hlt.2 ⟨x, y, hx, hy, hxy, ax, ay⟩ hc0
    exact ⟨n, by rw [e, this]⟩
/-! ### A proposal -/
def valW (val : Val) (b v : Int) : Val := fun c => if c = b then some v else val c
def ppS (st : CS) (who : Nat) (v : Int) : CS := { st with s := upd st.s who { st.s who with pend := some ⟨1, 1, [v]⟩, said := 0 } }
theorem propose_no {acc : Acc} {val : Val} {N : Int} {st : CS} (h : Inv acc val N st) {who : Nat} (hw : who < 3) (hp : (st.s who).pend = none) (hn : ¬ ((st.s who).p = 2 ∧ (st.s who).f = 1)) (c : CF) (hc : c.num = 1) :
    ∃ e, e ≠ 0 ∧ ldPropose (st.s who) c = (cf0, e, st.s who) := by
  unfold ldPropose
  by_cases h2 : (st.s who).p = 2
  · have := (h.l who hw).f h2
    refine ⟨2, by decide, ?_⟩
    rw [if_neg (by simp [h2, hp]), if_pos (by omega)]
  · exact ⟨170, by decide, by rw [if_pos (.inl h2)]⟩
theorem Inv.propose {acc : Acc} {val : Val} {N : Int} {st : CS} (h : Inv acc val N st) {who : Nat} (hw : who < 3) (hp : (st.s who).pend = none) (h2 : (st.s who).p = 2) (hf : (st.s who).f = 1) :
    ∃ v, ldPropose (st.s who) ⟨1, 1, [10 + (who : Int)]⟩ = (⟨1, 1, [v]⟩, 0, { st.s who with pend := some ⟨1, 1, [v]⟩, said := 0 }) ∧ Inv acc (valW val (st.s who).b v) N (ppS st who v) := by
  have k := h.l who hw
  obtain ⟨l1, l2, l3⟩ := k.lead h2 hf hp
  obtain ⟨s1, s2⟩ := k.safe h2 hf
  have fin : ∀ v, 10 ≤ v → v ≤ 12 → Safe acc val (fun k => (st.v k).pm) v (st.s who).b → (ldBound (st.s who) 1).getD ⟨1, 1, [10 + (who : Int)]⟩ = ⟨1, 1, [v]⟩ →
      ∃ v, ldPropose (st.s who) ⟨1, 1, [10 + (who : Int)]⟩ = (⟨1, 1, [v]⟩, 0, { st.s who with pend := some ⟨1, 1, [v]⟩, said := 0 }) ∧ Inv acc (valW val (st.s who).b v) N (ppS st who v) := by
    intro v v1 v2 hs hb
    refine ⟨v, ?_, ?_⟩
    · unfold ldPropose
      rw [if_neg (by simp [h2, hp]), if_neg (by show ¬ (1 : Int) < (st.s who).f; omega)]
      dsimp only
      rw [hb]
    have e : Ext acc val (fun k => (st.v k).pm) acc (valW val (st.s who).b v) (fun k => (st.v k).pm) := ⟨fun _ _ h => h, fun _ _ h => .inl h, fun d x hx => by
      unfold valW
      by_cases hd : d = (st.s who).b
      · rw [hd, l1] at hx; cases hx
      · rw [if_neg hd]; exact hx, fun _ => Int.le_refl _⟩
    refine ⟨fun i hi => ?_, fun i hi => (h.v i hi).ext (fun _ => Iff.rfl) e.v (Int.le_refl _), fun j c hc => ?_, fun c u hc => ?_, ?_⟩
    · by_cases e' : i = who
      · subst e'
        show LI acc _ _ _ i (upd st.s i _ i)
        rw [upd_same]
        exact ⟨k.id, k.b0, ⟨k.pr.1, by show 0 < 8; decide⟩, k.bs, .inr ⟨v, rfl, h2, hf, if_pos rfl, fun j _ hj => by simp at hj⟩, fun _ _ hpn => (by cases hpn), fun _ _ => ⟨fun hb v => (s1 hb v).ext e, fun n v hb => (s2 n v hb).ext e⟩, k.f⟩
      · show LI acc _ _ _ i (upd st.s who _ i)
        rw [upd_other _ _ e']
        refine (h.l i hi).ext e (Int.le_refl _) fun h0 hm => ?_
        unfold valW
        rw [if_neg (fun hc => by rw [hc] at hm; omega)]
        exact h0
    · obtain ⟨q1, q2, q3, u, q4⟩ := h.a j c hc
      exact ⟨q1, q2, q3, u, e.v _ _ q4⟩
    · unfold valW at hc
      by_cases hd : c = (st.s who).b
      · rw [if_pos hd] at hc
        obtain rfl := Option.some.inj hc
        subst hd
        refine ⟨hs.ext e, v1, v2, l2, fun i hi hm => ?_⟩
        obtain rfl : i = who := by omega
        show _ ≤ (upd st.s i _ i).b
        rw [upd_same]; exact Int.le_refl _
      · rw [if_neg hd] at hc
        obtain ⟨q1, q2, q3, q4, q5⟩ := h.w c u hc
        refine ⟨q1.ext e, q2, q3, q4, fun i hi hm => ?_⟩
        show c ≤ (upd st.s who _ i).b
        have := q5 i hi hm
        by_cases e' : i = who
        · subst e'; rw [upd_same]; exact this
        · rw [upd_other _ _ e']; exact this
    · rcases h.ch with h0 | ⟨c0, hc0, ht⟩
      · exact .inl h0
      · exact .inr ⟨c0, e.v _ _ hc0, ht⟩
  rcases k.bs with hb | ⟨n, v, hb, v1, v2⟩
  · exact fin (10 + (who : Int)) (by omega) (by omega) (s1 hb _) (by unfold ldBound bfind; rw [hb]; rfl)
  · exact fin v v1 v2 (s2 n v hb) (by unfold ldBound bfind; rw [hb]; rfl)
/-! ### A vote -/
def accW (acc : Acc) (whom : Nat) (b : Int) : Acc := fun k c => acc k c ∨ (k = whom ∧ c = b)
def vtS (st : CS) (who whom : Nat) (v : Int) : CS :=
  { s := upd st.s who (ldYes (st.s who) (whom : Int) (st.s who).b 1).2.2, v := upd st.v whom ⟨(st.s who).b, ⟨(st.s who).b, ⟨1, 1, [v]⟩⟩⟩, ch := if (ldYes (st.s who) (whom : Int) (st.s who).b 1).1 = true then v else st.ch }
theorem setW_bits {s x k : Nat} : (setW s x).testBit k = (s.testBit k || decide (x = k)) := by
  unfold setW
  rw [Nat.testBit_or, Nat.testBit_two_pow]
theorem two_bits {s : Nat} (hs : s < 8) (h : 2 ≤ setN s) : ∃ x y, x < 3 ∧ y < 3 ∧ x ≠ y ∧ s.testBit x = true ∧ s.testBit y = true := by
  have : ∀ s < 8, 2 ≤ setN s → (s.testBit 0 && s.testBit 1 || s.testBit 0 && s.testBit 2 || s.testBit 1 && s.testBit 2) = true := by decide
  have := this s hs h
  simp only [Bool.or_eq_true, Bool.and_eq_true] at this
  rcases this with (⟨a, b⟩ | ⟨a, b⟩) | ⟨a, b⟩
  · exact ⟨0, 1, by decide, by decide, by decide, a, b⟩
  · exact ⟨0, 2, by decide, by decide, by decide, a, b⟩
  · exact ⟨1, 2, by decide, by decide, by decide, a, b⟩
theorem yes_eq {s : LM} {v : Int} {whom : Nat} (hw : whom < 3) (hp : s.pend = some ⟨1, 1, [v]⟩) (h2 : s.p = 2) :
    (setN (setW s.said whom) < 2 ∧ ldYes s (whom : Int) s.b 1 = (false, 0, { s with said := setW s.said whom })) ∨ (2 ≤ setN (setW s.said whom) ∧ ldYes s (whom : Int) s.b 1 = (true, 0, { s with said := setW s.said whom, pend := none, f := 2 })) := by
  unfold ldYes
  rw [if_neg (by omega), hp]
  dsimp only
  rw [if_neg (by simp [h2]), Int.toNat_natCast]
  by_cases h : setN (setW s.said whom) < 2
  · exact .inl ⟨h, by rw [if_pos h]⟩
  · exact .inr ⟨by omega, by rw [if_neg h]; rfl⟩
theorem Inv.vote {acc : Acc} {val : Val} {N : Int} {st : CS} (h : Inv acc val N st) {who whom : Nat} (hw : who < 3) (hm : whom < 3) {v : Int} (hp : (st.s who).pend = some ⟨1, 1, [v]⟩) (hb : (st.v whom).pm ≤ (st.s who).b) :
    Inv (accW acc whom (st.s who).b) val N (vtS st who whom v) ∧ (ldYes (st.s who) (whom : Int) (st.s who).b 1).2.1 = 0 ∧ ((ldYes (st.s who) (whom : Int) (st.s who).b 1).1 = true → st.ch = 0 ∨ st.ch = v) := by
  have k := h.l who hw
  obtain ⟨h2, hf, hvb, hsaid⟩ : (st.s who).p = 2 ∧ (st.s who).f = 1 ∧ val (st.s who).b = some v ∧ (∀ k, k < 3 → (st.s who).said.testBit k = true → acc k (st.s who).b) := by
    rcases k.pend with e | ⟨v', e, h1, h2, h3, h4⟩
    · rw [e] at hp; cases hp
    · rw [e] at hp
      have : v' = v := by simpa using hp
      subst this
      exact ⟨h1, h2, h3, h4⟩
  obtain ⟨w1, w2, w3, w4, w5⟩ := h.w _ v hvb
  have e : Ext acc val (fun k => (st.v k).pm) (accW acc whom (st.s who).b) val (fun k => ((vtS st who whom v).v k).pm) := by
    refine ⟨fun _ _ h => .inl h, fun j d hd => ?_, fun _ _ h => h, fun j => ?_⟩
    · rcases hd with hd | ⟨rfl, rfl⟩
      · exact .inl hd
      · exact .inr hb
    · show (st.v j).pm ≤ (upd st.v whom _ j).pm
      by_cases e' : j = whom
      · subst e'; rw [upd_same]; exact hb
      · rw [upd_other _ _ e']; exact Int.le_refl _
  have hs8 : setW (st.s who).said whom < 8 := setW_lt k.pr.2 hm
  have hbits : ∀ j, j < 3 → (setW (st.s who).said whom).testBit j = true → accW acc whom (st.s who).b j (st.s who).b := by
    intro j hj ht
    rw [setW_bits, Bool.or_eq_true] at ht
    rcases ht with ht | ht
    · exact .inl (hsaid j hj ht)
    · exact .inr ⟨(of_decide_eq_true ht).symm, rfl⟩
  have hy := yes_eq (whom := whom) hm hp h2
  have hyb : (ldYes (st.s who) (whom : Int) (st.s who).b 1).2.2.b = (st.s who).b := by
    rcases hy with ⟨_, e⟩ | ⟨_, e⟩ <;> rw [e]
  have hwon : (ldYes (st.s who) (whom : Int) (st.s who).b 1).1 = true → Two (accW acc whom (st.s who).b) (st.s who).b := by
    intro ht
    rcases hy with ⟨_, e⟩ | ⟨h3, e⟩
    · rw [e] at ht; cases ht
    · obtain ⟨x, y, hx, hy, hxy, bx, bY⟩ := two_bits hs8 h3
      exact ⟨x, y, hx, hy, hxy, hbits x hx bx, hbits y hy bY⟩
  refine ⟨⟨fun i hi => ?_, fun i hi => ?_, fun j c hc => ?_, fun c u hc => ?_, ?_⟩, ?_, fun ht => ?_⟩
  · by_cases e' : i = who
    · subst e'
      show LI _ val _ _ i (upd st.s i _ i)
      rw [upd_same]
      rcases hy with ⟨h3, hy⟩ | ⟨h3, hy⟩
      · rw [hy]
        exact ⟨k.id, k.b0, ⟨k.pr.1, hs8⟩, k.bs, .inr ⟨v, hp, h2, hf, hvb, hbits⟩, fun _ _ hpn => (by have hpn' : (st.s i).pend = none := hpn; rw [hp] at hpn'; cases hpn'), fun _ _ => (by obtain ⟨s1, s2⟩ := k.safe h2 hf; exact ⟨fun hb v => (s1 hb v).ext e, fun n v hb => (s2 n v hb).ext e⟩), k.f⟩
      · rw [hy]
        exact ⟨k.id, k.b0, ⟨k.pr.1, hs8⟩, k.bs, .inl rfl, fun _ hf' => absurd hf' (by show ¬ (2 : Int) = 1; decide), fun _ hf' => absurd hf' (by show ¬ (2 : Int) = 1; decide), fun _ => .inr rfl⟩
    · show LI _ val _ _ i (upd st.s who _ i)
      rw [upd_other _ _ e']
      exact (h.l i hi).ext e (Int.le_refl _) fun h _ => h
  · show VI _ val N i (upd st.v whom _ i)
    by_cases e' : i = whom
    · subst e'
      rw [upd_same]
      refine ⟨k.b0, .inr ⟨w4, .inr ⟨rfl, rfl⟩, ⟨v, rfl, hvb⟩, fun c hc => ?_⟩⟩
      rcases hc with hc | ⟨_, rfl⟩
      · have := (h.a i c hc).2.2.1
        show c ≤ (st.s who).b
        omega
      · exact Int.le_refl _
    · rw [upd_other _ _ e']
      refine (h.v i hi).ext (fun d => ⟨fun hd => ?_, .inl⟩) (fun _ _ h => h) (Int.le_refl _)
      rcases hd with hd | ⟨rfl, _⟩
      · exact hd
      · exact absurd rfl e'
  · rcases hc with hc | ⟨rfl, rfl⟩
    · obtain ⟨q1, q2, q3, q4⟩ := h.a j c hc
      have := e.p j
      exact ⟨q1, q2, Int.le_trans q3 this, q4⟩
    · refine ⟨hm, w4, ?_, v, hvb⟩
      show _ ≤ (upd st.v j _ j).pm
      rw [upd_same]; exact Int.le_refl _
  · obtain ⟨q1, q2, q3, q4, q5⟩ := h.w c u hc
    refine ⟨q1.ext e, q2, q3, q4, fun i hi hmi => ?_⟩
    show c ≤ (upd st.s who _ i).b
    have := q5 i hi hmi
    by_cases e' : i = who
    · subst e'; rw [upd_same, hyb]; exact this
    · rw [upd_other _ _ e']; exact this
  · show (if _ then v else st.ch) = 0 ∨ _
    by_cases ht : (ldYes (st.s who) (whom : Int) (st.s who).b 1).1 = true
    · right
      refine ⟨(st.s who).b, ?_, hwon ht⟩
      show val _ = some (if _ then v else st.ch)
      rw [if_pos ht]; exact hvb
    · rw [if_neg ht]
      rcases h.ch with h0 | ⟨c0, hc0, x, y, hx, hy, hxy, ax, ay⟩
      · exact .inl h0
      · right
        refine ⟨c0, ?_, x, y, hx, hy, hxy, .inl ax, .inl ay⟩
        show val _ = some (if _ then v else st.ch)
        rw [if_neg ht]; exact hc0
  · rcases hy with ⟨_, e⟩ | ⟨_, e⟩ <;> rw [e]
  · rcases h.ch with h0 | ⟨c0, hc0, x, y, hx, hy', hxy, ax, ay⟩
    · exact .inl h0
    right
    have hc := h.w c0 _ hc0
    by_cases h1 : c0 < (st.s who).b
    · exact (w1.ext e).two hc.2.2.2.1 h1 ⟨x, y, hx, hy', hxy, .inl ax, .inl ay⟩ hc0
    · by_cases h3 : (st.s who).b < c0
      · exact ((hc.1.ext e).two w4 h3 (hwon ht) hvb).symm
      · have : c0 = (st.s who).b := by omega
        rw [this, hvb] at hc0
        exact (Option.some.inj hc0).symm
/-! ### The beginning -/
def cs0 : CS := ⟨fun i => lm0 i, fun _ => ⟨0, ⟨0, ⟨0, 0, []⟩⟩⟩, 0⟩
theorem Inv.zero : Inv (fun _ _ => False) (fun _ => none) 0 cs0 where
  l i _ := ⟨rfl, ⟨Int.le_refl _, Int.le_refl _⟩, ⟨by show 0 < 8; decide, by show 0 < 8; decide⟩, .inl rfl, .inl rfl, fun h => absurd h (by show ¬ (0 : Int) = 2; decide), fun h => absurd h (by show ¬ (0 : Int) = 2; decide), fun h => absurd h (by show ¬ (0 : Int) = 2; decide)⟩
  v k _ := ⟨⟨Int.le_refl _, Int.le_refl _⟩, .inl ⟨rfl, fun _ h => h⟩⟩
  a k c h := h.elim
  w c u h := by cases h
  ch := .inl rfl
end Go.SX
