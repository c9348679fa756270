/- LeadAgrees: the plain protocol: what is chosen is one thing. -/
import Derived.Test.YtmcfcnlglohliaaDoorLd13
namespace Go.SX
open Go Go.RowKit Go.Proofs
set_option linter.unusedVariables false
set_option linter.unusedSimpArgs false
set_option maxHeartbeats 4000000
/-- A voter. -/
structure VT where
  pm : Int
  v : VM
def upd {α : Type} (f : Nat → α) (k : Nat) (x : α) : Nat → α := fun j => if j = k then x else f j
theorem upd_same {α : Type} (f : Nat → α) (k : Nat) (x : α) : upd f k x k = x := if_pos rfl
theorem upd_other {α : Type} (f : Nat → α) {k j : Nat} (x : α) (h : j ≠ k) : upd f k x j = f j := if_neg h
/-- A council: three leaders, three voters, what was chosen. -/
structure CS where
  s : Nat → LM
  v : Nat → VT
  ch : Int
abbrev Acc := Nat → Int → Prop
abbrev Val := Int → Option Int
def Okd (acc : Acc) (val : Val) (pm : Nat → Int) (v : Int) (d : Int) (a : Nat) : Prop := (acc a d ∧ val d = some v) ∨ (¬ acc a d ∧ d < pm a)
/-- A thing is safe at a ballot: nothing else was or will be chosen at a lower one. -/
def Safe (acc : Acc) (val : Val) (pm : Nat → Int) (v : Int) (c : Int) : Prop := ∀ d, 0 < d → d < c → ∃ x y, x < 3 ∧ y < 3 ∧ x ≠ y ∧ Okd acc val pm v d x ∧ Okd acc val pm v d y
structure Ext (acc : Acc) (val : Val) (pm : Nat → Int) (acc' : Acc) (val' : Val) (pm' : Nat → Int) : Prop where
  a1 : ∀ k d, acc k d → acc' k d
  a2 : ∀ k d, acc' k d → acc k d ∨ pm k ≤ d
  v : ∀ d x, val d = some x → val' d = some x
  p : ∀ k, pm k ≤ pm' k
theorem Safe.ext {acc acc' : Acc} {val val' : Val} {pm pm' : Nat → Int} {v c : Int} (e : Ext acc val pm acc' val' pm') (h : Safe acc val pm v c) : Safe acc' val' pm' v c := by
  have key : ∀ d a, Okd acc val pm v d a → Okd acc' val' pm' v d a := by
    rintro d a (⟨h1, h2⟩ | ⟨h1, h2⟩)
    · exact .inl ⟨e.a1 a d h1, e.v d v h2⟩
    · refine .inr ⟨fun h => ?_, by have := e.p a; omega⟩
      rcases e.a2 a d h with h | h
      · exact h1 h
      · omega
  intro d h0 hd
  obtain ⟨x, y, hx, hy, hxy, ox, oy⟩ := h d h0 hd
  exact ⟨x, y, hx, hy, hxy, key d x ox, key d y oy⟩
theorem meet {x y x' y' : Nat} (hx : x < 3) (hy : y < 3) (h : x ≠ y) (hx' : x' < 3) (hy' : y' < 3) (h' : x' ≠ y') : x = x' ∨ x = y' ∨ y = x' ∨ y = y' := by omega
/-- Two of them have taken a ballot. -/
def Two (acc : Acc) (c : Int) : Prop := ∃ x y, x < 3 ∧ y < 3 ∧ x ≠ y ∧ acc x c ∧ acc y c
theorem Safe.two {acc : Acc} {val : Val} {pm : Nat → Int} {v c d u : Int} (h : Safe acc val pm v c) (h0 : 0 < d) (hd : d < c) (h2 : Two acc d) (hu : val d = some u) : u = v := by
  obtain ⟨x, y, hx, hy, hxy, ox, oy⟩ := h d h0 hd
  obtain ⟨x', y', hx', hy', hxy', ax, ay⟩ := h2
  have key : ∀ a, acc a d → Okd acc val pm v d a → u = v := by
    rintro a ha (⟨_, hv⟩ | ⟨hn, _⟩)
    · rw [hu] at hv; exact Option.some.inj hv
    · exact absurd ha hn
  rcases meet hx hy hxy hx' hy' hxy' with rfl | rfl | rfl | rfl
  · exact key _ ax ox
  · exact key _ ay ox
  · exact key _ ax oy
  · exact key _ ay oy
/-- A leader. -/
structure LI (acc : Acc) (val : Val) (pm : Nat → Int) (N : Int) (i : Nat) (s : LM) : Prop where
  id : s.id = i
  b0 : 0 ≤ s.b ∧ s.b ≤ N
  pr : s.pr < 8 ∧ s.said < 8
  bs : s.bs = [] ∨ ∃ n v, s.bs = [⟨n, ⟨1, 1, [v]⟩⟩] ∧ 10 ≤ v ∧ v ≤ 12
  pend : s.pend = none ∨ ∃ v, s.pend = some ⟨1, 1, [v]⟩ ∧ s.p = 2 ∧ s.f = 1 ∧ val s.b = some v ∧ (∀ k, k < 3 → s.said.testBit k = true → acc k s.b)
  lead : s.p = 2 → s.f = 1 → s.pend = none → val s.b = none ∧ 0 < s.b ∧ s.b % 3 = i
  safe : s.p = 2 → s.f = 1 → (s.bs = [] → ∀ v, Safe acc val pm v s.b) ∧ ∀ n v, s.bs = [⟨n, ⟨1, 1, [v]⟩⟩] → Safe acc val pm v s.b
  f : s.p = 2 → s.f = 1 ∨ s.f = 2
/-- A voter's memory. -/
structure VI (acc : Acc) (val : Val) (N : Int) (k : Nat) (t : VT) : Prop where
  pm : 0 ≤ t.pm ∧ t.pm ≤ N
  vote : (t.v = ⟨0, ⟨0, 0, []⟩⟩ ∧ ∀ c, ¬ acc k c) ∨ (0 < t.v.b ∧ acc k t.v.b ∧ (∃ v, t.v.c = ⟨1, 1, [v]⟩ ∧ val t.v.b = some v) ∧ ∀ c, acc k c → c ≤ t.v.b)
structure Inv (acc : Acc) (val : Val) (N : Int) (st : CS) : Prop where
  l : ∀ i, i < 3 → LI acc val (fun k => (st.v k).pm) N i (st.s i)
  v : ∀ k, k < 3 → VI acc val N k (st.v k)
  a : ∀ k c, acc k c → k < 3 ∧ 0 < c ∧ c ≤ (st.v k).pm ∧ ∃ u, val c = some u
  w : ∀ c u, val c = some u → Safe acc val (fun k => (st.v k).pm) u c ∧ 10 ≤ u ∧ u ≤ 12 ∧ 0 < c ∧ ∀ i : Nat, i < 3 → c % 3 = (i : Int) → c ≤ (st.s i).b
  ch : st.ch = 0 ∨ ∃ c, val c = some st.ch ∧ Two acc c
/-- A leader that may be another one: the others stay. -/
theorem LI.ext {acc acc' : Acc} {val val' : Val} {pm pm' : Nat → Int} {N N' : Int} {i : Nat} {s : LM} (e : Ext acc val pm acc' val' pm') (hN : N ≤ N') (hv : val s.b = none → s.b % 3 = i → val' s.b = none) (h : LI acc val pm N i s) : LI acc' val' pm' N' i s where
  id := h.id
  b0 := ⟨h.b0.1, by have := h.b0.2; omega⟩
  pr := h.pr
  bs := h.bs
  pend := h.pend.imp (fun h => h) fun ⟨v, h1, h2, h3, h4, h5⟩ => ⟨v, h1, h2, h3, e.v _ _ h4, fun k hk ht => e.a1 _ _ (h5 k hk ht)⟩
  lead h1 h2 h3 := by obtain ⟨h4, h5, h6⟩ := h.lead h1 h2 h3; exact ⟨hv h4 h6, h5, h6⟩
  safe h1 h2 := by obtain ⟨h4, h5⟩ := h.safe h1 h2; exact ⟨fun hb v => (h4 hb v).ext e, fun n v hb => (h5 n v hb).ext e⟩
  f := h.f
theorem VI.ext {acc acc' : Acc} {val val' : Val} {N N' : Int} {k : Nat} {t : VT} (ha : ∀ d, acc' k d ↔ acc k d) (hv : ∀ d x, val d = some x → val' d = some x) (hN : N ≤ N') (h : VI acc val N k t) : VI acc' val' N' k t where
  pm := ⟨h.pm.1, by have := h.pm.2; omega⟩
  vote := by
    rcases h.vote with ⟨h1, h2⟩ | ⟨h1, h2, ⟨v, h3, h4⟩, h5⟩
    · exact .inl ⟨h1, fun c hc => h2 c ((ha c).1 hc)⟩
    · exact .inr ⟨h1, (ha _).2 h2, ⟨v, h3, hv _ _ h4⟩, fun c hc => h5 c ((ha c).1 hc)⟩
theorem Ext.refl (acc : Acc) (val : Val) (pm : Nat → Int) : Ext acc val pm acc val pm := ⟨fun _ _ h => h, fun _ _ h => .inl h, fun _ _ h => h, fun _ => Int.le_refl _⟩
/-- What is known of a leader that walks need. -/
theorem Inv.ok {acc : Acc} {val : Val} {N : Int} {st : CS} (h : Inv acc val N st) (hN : N ≤ 1000000) {i : Nat} (hi : i < 3) : LdOK (st.s i) := by
  have k := h.l i hi
  refine ⟨by rw [k.id]; omega, by have := k.b0; omega, k.pr.1, k.pr.2, fun v hv => ?_, fun c hc => ?_⟩
  · rcases k.bs with e | ⟨n, u, e, _⟩
    · rw [e] at hv; cases hv
    · rw [e] at hv; obtain rfl := List.mem_singleton.1 hv; show 1 ≤ 1000000; decide
  · rcases k.pend with e | ⟨u, e, _⟩
    · rw [e] at hc; cases hc
    · rw [e] at hc; obtain rfl := Option.some.inj hc; show 1 ≤ 1000000; decide
/-! ### Start -/
def stS (st : CS) (who : Nat) (b : Int) : CS := { st with s := upd st.s who ⟨who, b, 1, 1, 0, [], none, 0⟩ }
theorem Inv.start {acc : Acc} {val : Val} {N : Int} {st : CS} (h : Inv acc val N st) (hN : N ≤ 1000000) {who : Nat} (hw : who < 3) :
    ∃ b, ldStart (st.s who) (st.v who).pm 1 = (b, 0, ⟨who, b, 1, 1, 0, [], none, 0⟩) ∧ (st.s who).b < b ∧ b ≤ N + 3 ∧ 0 < b ∧ b % 3 = who ∧ val b = none ∧ Inv acc val (N + 3) (stS st who b) := by
  have k := h.l who hw
  have kv := h.v who hw
  have h1 := k.b0
  have h2 := kv.pm
  have hid := k.id
  refine ⟨nextB who (max (st.s who).b (st.v who).pm + 1), ?_, ?_, ?_, ?_, ?_, ?_, ?_⟩
  · unfold ldStart
    rw [if_neg (by omega), hid]
  · unfold nextB; omega
  · unfold nextB; omega
  · unfold nextB; omega
  · unfold nextB; omega
  · cases hv : val (nextB who (max (st.s who).b (st.v who).pm + 1)) with
    | none => rfl
    | some u =>
      have := (h.w _ u hv).2.2.2.2 who hw (by unfold nextB; omega)
      unfold nextB at this; omega
  · have hb : (st.s who).b < nextB who (max (st.s who).b (st.v who).pm + 1) ∧ nextB who (max (st.s who).b (st.v who).pm + 1) ≤ N + 3 := by unfold nextB; omega
    generalize nextB who (max (st.s who).b (st.v who).pm + 1) = b at hb
    refine ⟨fun i hi => ?_, fun i hi => (h.v i hi).ext (fun _ => Iff.rfl) (fun _ _ h => h) (by omega), h.a, fun c u hc => ?_, h.ch⟩
    · by_cases e : i = who
      · subst e
        show LI acc val _ _ i (upd st.s i _ i)
        rw [upd_same]
        exact ⟨rfl, by dsimp only; omega, ⟨by show 0 < 8; decide, by show 0 < 8; decide⟩, .inl rfl, .inl rfl, fun hp => absurd hp (by show ¬ (1 : Int) = 2; decide), fun hp => absurd hp (by show ¬ (1 : Int) = 2; decide), fun hp => absurd hp (by show ¬ (1 : Int) = 2; decide)⟩
      · show LI acc val _ _ i (upd st.s who _ i)
        rw [upd_other _ _ e]
        exact (h.l i hi).ext (Ext.refl _ _ _) (by omega) fun h _ => h
    · obtain ⟨q1, q2, q3, q4, q5⟩ := h.w c u hc
      refine ⟨q1, q2, q3, q4, fun i hi hm => ?_⟩
      show c ≤ (upd st.s who _ i).b
      have := q5 i hi hm
      by_cases e : i = who
      · subst e; rw [upd_same]; dsimp only; omega
      · rw [upd_other _ _ e]; exact this
/-! ### A no -/
def noS (st : CS) (who : Nat) (x : Int) : CS := { st with s := upd st.s who (ldNo (st.s who) x).2 }
theorem ldNo_b (s : LM) (x : Int) : (ldNo s x).2.b = s.b := by unfold ldNo; split <;> rfl
theorem Inv.no {acc : Acc} {val : Val} {N : Int} {st : CS} (h : Inv acc val N st) {who : Nat} (hw : who < 3) (x : Int) : Inv acc val N (noS st who x) := by
  refine ⟨fun i hi => ?_, h.v, h.a, fun c u hc => ?_, h.ch⟩
  · by_cases e : i = who
    · subst e
      show LI acc val _ _ i (upd st.s i _ i)
      rw [upd_same]
      have k := h.l i hi
      unfold ldNo
      split
      · exact k
      · exact ⟨k.id, k.b0, k.pr, k.bs, .inl rfl, fun hp => absurd hp (by show ¬ (0 : Int) = 2; decide), fun hp => absurd hp (by show ¬ (0 : Int) = 2; decide), fun hp => absurd hp (by show ¬ (0 : Int) = 2; decide)⟩
    · show LI acc val _ _ i (upd st.s who _ i)
      rw [upd_other _ _ e]; exact h.l i hi
  · obtain ⟨q1, q2, q3, q4, q5⟩ := h.w c u hc
    refine ⟨q1, q2, q3, q4, fun i hi hm => ?_⟩
    show c ≤ (upd st.s who _ i).b
    have := q5 i hi hm
    by_cases e : i = who
    · subst e; rw [upd_same, ldNo_b]; exact this
    · rw [upd_other _ _ e]; exact this
/-! ### A promise -/
def tellW (t : VT) : List VM := if 0 < t.v.b then [t.v] else []
def prS (st : CS) (who k : Nat) (b : Int) (s' : LM) : CS := { st with s := upd st.s who s', v := upd st.v k ⟨b, (st.v k).v⟩ }
theorem prS_ext {acc : Acc} {val : Val} {st : CS} {who k : Nat} {b : Int} {s' : LM} (hk : (st.v k).pm < b) : Ext acc val (fun j => (st.v j).pm) acc val (fun j => ((prS st who k b s').v j).pm) := by
  refine ⟨fun _ _ h => h, fun _ _ h => .inl h, fun _ _ h => h, fun j => ?_⟩
  show (st.v j).pm ≤ (upd st.v k _ j).pm
  by_cases e : j = k
  · subst e; rw [upd_same]; dsimp only; omega
  · rw [upd_other _ _ e]; exact Int.le_refl _
theorem Inv.promise {acc : Acc} {val : Val} {N : Int} {st : CS} (h : Inv acc val N st) {who k : Nat} (hw : who < 3) (hk : k < 3) {b : Int} {s' : LM} (hb : (st.v k).pm < b) (hbN : b ≤ N) (hsb : s'.b = (st.s who).b)
    (hl : LI acc val (fun j => ((prS st who k b s').v j).pm) N who s') : Inv acc val N (prS st who k b s') := by
  have e := prS_ext (acc := acc) (val := val) (st := st) (who := who) (s' := s') hb
  refine ⟨fun i hi => ?_, fun j hj => ?_, fun j c hc => ?_, fun c u hc => ?_, h.ch⟩
  · by_cases e' : i = who
    · subst e'
      show LI acc val _ _ i (upd st.s i _ i)
      rw [upd_same]; exact hl
    · show LI acc val _ _ i (upd st.s who _ i)
      rw [upd_other _ _ e']
      exact (h.l i hi).ext e (Int.le_refl _) fun h _ => h
  · have kv := h.v j hj
    show VI acc val N j (upd st.v k _ j)
    by_cases e' : j = k
    · subst e'; rw [upd_same]; exact ⟨⟨by have := kv.pm; dsimp only; omega, hbN⟩, kv.vote⟩
    · rw [upd_other _ _ e']; exact kv
  · obtain ⟨q1, q2, q3, q4⟩ := h.a j c hc
    have := e.p j
    exact ⟨q1, q2, Int.le_trans q3 this, q4⟩
  · obtain ⟨q1, q2, q3, q4, q5⟩ := h.w c u hc
    refine ⟨q1.ext e, q2, q3, q4, fun i hi hm => ?_⟩
    show c ≤ (upd st.s who _ i).b
    have := q5 i hi hm
    by_cases e' : i = who
    · subst e'; rw [upd_same, hsb]; exact this
    · rw [upd_other _ _ e']; exact this
/-- What two voters tell: the greatest of their votes. -/
theorem tell_fold {acc : Acc} {val : Val} {N : Int} {k : Nat} {t : VT} (h : VI acc val N k t) {b : Int} (hp : ∀ c, acc k c → c < b) (bs : List VM) (hb : bs = [] ∨ ∃ n v, bs = [⟨n, ⟨1, 1, [v]⟩⟩] ∧ 0 < n) :
    ((tellW t).foldl (bindV 1 b) bs = bs ∧ ((∀ c, ¬ acc k c) ∨ ∃ n v, bs = [⟨n, ⟨1, 1, [v]⟩⟩] ∧ ∀ c, acc k c → c ≤ n)) ∨
    (∃ m u, (tellW t).foldl (bindV 1 b) bs = [⟨m, ⟨1, 1, [u]⟩⟩] ∧ 0 < m ∧ acc k m ∧ val m = some u ∧ (∀ c, acc k c → c ≤ m) ∧ ∀ n v, bs = [⟨n, ⟨1, 1, [v]⟩⟩] → n < m) := by
  rcases h.vote with ⟨h1, h2⟩ | ⟨h1, h2, ⟨u, h3, h4⟩, h5⟩
  · left
    refine ⟨?_, .inl h2⟩
    unfold tellW
    rw [h1, if_neg (by decide)]
    rfl
  · have hlt := hp _ h2
    have e : t.v = ⟨t.v.b, ⟨1, 1, [u]⟩⟩ := by rw [← h3]
    unfold tellW
    rw [if_pos h1]
    simp only [List.foldl_cons, List.foldl_nil]
    rw [e]
    generalize t.v.b = m at *
    rcases hb with rfl | ⟨n, v, rfl, hn⟩
    · right
      refine ⟨m, u, ?_, h1, h2, h4, h5, fun n v hh => by cases hh⟩
      unfold bindV bfind
      rw [if_pos ⟨by show (1 : Int) ≤ 1; decide, hlt, by simpa using h1⟩]
      rfl
    · by_cases hc : n < m
      · right
        refine ⟨m, u, ?_, h1, h2, h4, h5, fun n' v' hh => ?_⟩
        · unfold bindV bfind
          rw [if_pos ⟨by show (1 : Int) ≤ 1; decide, hlt, by simpa using hc⟩]
          rfl
        · simp only [List.cons.injEq, VM.mk.injEq, and_true] at hh
          omega
      · left
        refine ⟨?_, .inr ⟨n, v, rfl, fun c hcc => by have := h5 c hcc; omega⟩⟩
        unfold bindV bfind
        rw [if_neg (by simp; omega)]
end Go.SX
