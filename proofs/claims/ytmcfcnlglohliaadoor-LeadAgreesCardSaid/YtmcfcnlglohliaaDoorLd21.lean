/- LeadAgrees: what a proposal and a vote come to. -/
import Derived.Test.YtmcfcnlglohliaaDoorLd17
namespace Go.SX
open Go Go.RowKit Go.Proofs
set_option linter.unusedVariables false
set_option linter.unusedSimpArgs false
set_option maxHeartbeats 4000000
theorem upd_self {α : Type} (f : Nat → α) (k : Nat) : upd f k (f k) = f := by
  funext j
  unfold upd
  split
  · next h => rw [h]
  · rfl
theorem Inv.selfS {acc : Acc} {val : Val} {N : Int} {st : CS} (h : Inv acc val N st) (who : Nat) : Inv acc val N ⟨upd st.s who (st.s who), st.v, st.ch⟩ := by rw [upd_self]; exact h
theorem Inv.proposeS {acc : Acc} {val : Val} {N : Int} {st : CS} (h : Inv acc val N st) {who : Nat} (hw : who < 3) (hp : (st.s who).pend = none) :
    (∃ e, e ≠ 0 ∧ ldPropose (st.s who) ⟨1, 1, [10 + (who : Int)]⟩ = (cf0, e, st.s who)) ∨
    ∃ v s1 val', ldPropose (st.s who) ⟨1, 1, [10 + (who : Int)]⟩ = (⟨1, 1, [v]⟩, 0, s1) ∧ s1.pend = some ⟨1, 1, [v]⟩ ∧ Inv acc val' N ⟨upd st.s who s1, st.v, st.ch⟩ := by
  by_cases hc : (st.s who).p = 2 ∧ (st.s who).f = 1
  · obtain ⟨v, h1, h2⟩ := h.propose hw hp hc.1 hc.2
    exact .inr ⟨v, _, _, h1, rfl, h2⟩
  · exact .inl (propose_no h hw hp hc _ rfl)
theorem Inv.voteS {acc : Acc} {val : Val} {N : Int} {st : CS} {who whom : Nat} {s1 : LM} {v : Int} (h : Inv acc val N ⟨upd st.s who s1, st.v, st.ch⟩) (hw : who < 3) (hm : whom < 3) (hp : s1.pend = some ⟨1, 1, [v]⟩) (hb : (st.v whom).pm ≤ s1.b) :
    (∃ s' acc', ldYes s1 (whom : Int) s1.b 1 = (false, 0, s') ∧ Inv acc' val N ⟨upd (upd st.s who s1) who s', upd st.v whom ⟨s1.b, ⟨s1.b, ⟨1, 1, [v]⟩⟩⟩, st.ch⟩) ∨
    (∃ s' acc', ldYes s1 (whom : Int) s1.b 1 = (true, 0, s') ∧ (st.ch = 0 ∨ st.ch = v) ∧ Inv acc' val N ⟨upd (upd st.s who s1) who s', upd st.v whom ⟨s1.b, ⟨s1.b, ⟨1, 1, [v]⟩⟩⟩, v⟩) := by
  have e : (upd st.s who s1) who = s1 := upd_same _ _ _
  have hp' : ((⟨upd st.s who s1, st.v, st.ch⟩ : CS).s who).pend = some ⟨1, 1, [v]⟩ := by show ((upd st.s who s1) who).pend = _; rw [e]; exact hp
  have hb' : ((⟨upd st.s who s1, st.v, st.ch⟩ : CS).v whom).pm ≤ ((⟨upd st.s who s1, st.v, st.ch⟩ : CS).s who).b := by show (st.v whom).pm ≤ ((upd st.s who s1) who).b; rw [e]; exact hb
  obtain ⟨h1, h2, h3⟩ := h.vote hw hm hp' hb'
  unfold vtS at h1
  simp only [upd_same] at h1 h2 h3
  rcases hy : ldYes s1 (whom : Int) s1.b 1 with ⟨w, er, s'⟩
  simp only [hy] at h1 h2 h3
  subst h2
  cases w
  · exact .inl ⟨s', _, rfl, h1⟩
  · exact .inr ⟨s', _, rfl, h3 rfl, h1⟩
section
variable (g : Nat) (a : LA) (s : LM)
theorem Pend_some (v : Int) (hp : s.pend = some ⟨1, 1, [v]⟩) (h : LdOK s) : Spec Tryd.prog 21 [.pointer (some ⟨g, 0, none⟩)] [] [leadC g a s]
    (fun r l' => ∃ A k, r = .tuple #[.agg #[.int .i64 1, .int .i64 1, .slice A 1 k], .bool true] ∧ l' = [iO A k 3 1 [v]]) := by
  have := Pending_spec g a s h
  rw [hp] at this
  exact this
theorem Pend_none (hp : s.pend = none) (h : LdOK s) : Spec Tryd.prog 21 [.pointer (some ⟨g, 0, none⟩)] [] [leadC g a s]
    (fun r l' => ∃ A k, r = .tuple #[.agg #[.int .i64 0, .int .i64 0, .slice A 0 k], .bool false] ∧ l' = [iO A k 3 0 []]) := by
  have := Pending_spec g a s h
  rw [hp] at this
  exact this
theorem Propose_no (c : CF) (e : Int) (cA : Option Addr) (cc : Nat) (hm : ldPropose s c = (cf0, e, s)) (h : LdOK s) (hx : c.xs.length ≤ 1000000) : Spec Tryd.prog 19 [.pointer (some ⟨g, 0, none⟩), .agg #[.int .i64 c.num, .int .i64 c.full, .slice cA c.xs.length cc]] [leadC g a s] [iR cA cc c.xs.length c.xs]
    (fun r l' => ∃ A k a', r = .tuple #[.agg #[.int .i64 0, .int .i64 0, .slice A 0 k], .int .i64 e] ∧ l' = [leadC g a' s, iO A k 3 0 []]) :=
  Propose_to g a s c.num c.full cA cc c.xs.length c.xs _ hm h rfl hx
theorem Propose_yes (c : CF) (v : Int) (s1 : LM) (cA : Option Addr) (cc : Nat) (hm : ldPropose s c = (⟨1, 1, [v]⟩, 0, s1)) (h : LdOK s) (hx : c.xs.length ≤ 1000000) : Spec Tryd.prog 19 [.pointer (some ⟨g, 0, none⟩), .agg #[.int .i64 c.num, .int .i64 c.full, .slice cA c.xs.length cc]] [leadC g a s] [iR cA cc c.xs.length c.xs]
    (fun r l' => ∃ A k a', r = .tuple #[.agg #[.int .i64 1, .int .i64 1, .slice A 1 k], .int .i64 0] ∧ l' = [leadC g a' s1, iO A k 3 1 [v]]) :=
  Propose_to g a s c.num c.full cA cc c.xs.length c.xs _ hm h rfl hx
end
abbrev PropPost (g : Nat) (N : Int) (v : Value) (l' : List Chunk) : Prop := ∃ (ca : CA) (st' : CS) (acc : Acc) (val : Val), v = .bool true ∧ l' = councilL g ca st' ∧ Inv acc val N st'
theorem PropPost.leaf {g : Nat} {N : Int} {l l1 : List Chunk} (ca : CA) (st' : CS) {acc : Acc} {val : Val} (h1 : Inv acc val N st') (hc : PicksT (councilL g ca st') l l1) :
    ∃ l', PropPost g N (tup [.bool true]) l' ∧ ChLe l l' := ⟨_, ⟨ca, st', acc, val, rfl, rfl, h1⟩, _, hc⟩
end Go.SX
