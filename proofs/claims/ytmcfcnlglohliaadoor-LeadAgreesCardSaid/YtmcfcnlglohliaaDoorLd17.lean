/- LeadAgrees: the council in memory; what a voter tells. -/
import Derived.Test.YtmcfcnlglohliaaDoorLd16
namespace Go.SX
open Go Go.RowKit Go.Proofs
set_option linter.unusedVariables false
set_option linter.unusedSimpArgs false
set_option maxHeartbeats 4000000
structure CA where
  g0 : Nat
  g1 : Nat
  g2 : Nat
  a0 : LA
  a1 : LA
  a2 : LA
  A0 : Option Addr
  c0 : Nat
  A1 : Option Addr
  c1 : Nat
  A2 : Option Addr
  c2 : Nat
abbrev vtC (t : VT) (A : Option Addr) (c : Nat) : Chunk := iO A c 3 t.v.c.xs.length t.v.c.xs
def councilL (g : Nat) (a : CA) (st : CS) : List Chunk :=
  [cellsC g 72 [.pointer (some ⟨a.g0, 0, none⟩), .pointer (some ⟨a.g1, 0, none⟩), .pointer (some ⟨a.g2, 0, none⟩),
    .int .i64 (st.v 0).pm, .int .i64 (st.v 0).v.b, .int .i64 (st.v 0).v.c.num, .int .i64 (st.v 0).v.c.full, .slice a.A0 (st.v 0).v.c.xs.length a.c0,
    .int .i64 (st.v 1).pm, .int .i64 (st.v 1).v.b, .int .i64 (st.v 1).v.c.num, .int .i64 (st.v 1).v.c.full, .slice a.A1 (st.v 1).v.c.xs.length a.c1,
    .int .i64 (st.v 2).pm, .int .i64 (st.v 2).v.b, .int .i64 (st.v 2).v.c.num, .int .i64 (st.v 2).v.c.full, .slice a.A2 (st.v 2).v.c.xs.length a.c2,
    .int .i64 st.ch],
   leadC a.g0 a.a0 (st.s 0), leadC a.g1 a.a1 (st.s 1), leadC a.g2 a.a2 (st.s 2), vtC (st.v 0) a.A0 a.c0, vtC (st.v 1) a.A1 a.c1, vtC (st.v 2) a.A2 a.c2]
theorem Sub.starOne {c : Chunk} : Sub (starC [c]) c :=
  ⟨fun k hk => by simpa [starC, fps] using hk, fun w hw => ⟨fun d hd => by obtain rfl := List.mem_singleton.1 hd; exact hw, List.pairwise_singleton _ _⟩⟩
section
variable (g : Nat) (a : LA) (s : LM)
theorem Prom_nil (t : VT) (who b : Int) (tb : List UInt8) (m : Bool × Int × LM) (hm : ldPromise s who b (tellW t) = m) (h : LdOK s) (htb : tb.length = 64) (ht : ¬ 0 < t.v.b) :
    Spec Tryd.prog 13 [.pointer (some ⟨g, 0, none⟩), .int .i64 who, .int .i64 b, .slice none 0 0] [leadC g a s] [tzC tb]
      (LdPost g (.tuple #[.bool m.1, .int .i64 m.2.1]) m.2.2) :=
  Promise_nil g a s who b tb m (by unfold tellW at hm; rwa [if_neg ht] at hm) h htb
theorem Prom_one (t : VT) (who b : Int) (vA : Option Addr) (vc : Nat) (A : Option Addr) (c : Nat) (tb : List UInt8) (m : Bool × Int × LM) (hm : ldPromise s who b (tellW t) = m) (h : LdOK s) (htb : tb.length = 64) (ht : 0 < t.v.b) (hx : t.v.c.xs.length ≤ 1000000) :
    Spec Tryd.prog 13 [.pointer (some ⟨g, 0, none⟩), .int .i64 who, .int .i64 b, .slice vA 1 vc] [leadC g a s] [sliceC vA vc 4 1 [.int .i64 t.v.b, .int .i64 t.v.c.num, .int .i64 t.v.c.full, .slice A t.v.c.xs.length c], vtC t A c, tzC tb]
      (LdPost g (.tuple #[.bool m.1, .int .i64 m.2.1]) m.2.2) := by
  refine ((Promise_to g a s who b vA vc 1 [⟨t.v.b, ⟨t.v.c.num, t.v.c.full, A, c, t.v.c.xs⟩⟩] tb m ?_ h rfl (by simp) (fun v hv => by obtain rfl := List.mem_singleton.1 hv; exact hx) htb).frame (l := [leadC g a s]) (l1 := []) (.cons .here .nil)
    (.cons (.here (Sub.refl _)) (.cons (.there (.here Sub.starOne)) (.cons (.there (.there (.here (Sub.refl _)))) .nil)))).mono fun v l' ⟨l2, ⟨a', h1, h2⟩, h3⟩ => ⟨a', h1, by rw [h3, h2]; rfl⟩
  unfold tellW at hm
  rw [if_pos ht] at hm
  exact hm
end
theorem setN_one {k : Nat} (h : k < 3) : setN (setW 0 k) = 1 := by
  have : ∀ k < 3, setN (setW 0 k) = 1 := by decide
  exact this k h
theorem setN_two {k k' : Nat} (h : k < 3) (h' : k' < 3) (hne : k ≠ k') : setN (setW (setW 0 k) k') = 2 := by
  have : ∀ k < 3, ∀ k' < 3, k ≠ k' → setN (setW (setW 0 k) k') = 2 := by decide
  exact this k h k' h' hne
theorem prom_one (who k : Nat) (hk : k < 3) (b : Int) (ws : List VM) : ldPromise ⟨who, b, 1, 1, 0, [], none, 0⟩ (k : Int) b ws = (false, 0, s1L who b (setW 0 k) (ws.foldl (bindV 1 b) [])) := by
  unfold ldPromise
  rw [if_neg (by omega), if_neg (by simp)]
  simp only [Int.toNat_natCast, setN_one hk]
  rfl
theorem prom_two (who k k' : Nat) (hk : k < 3) (hk' : k' < 3) (hne : k ≠ k') (b : Int) (bs ws : List VM) : ldPromise (s1L who b (setW 0 k) bs) (k' : Int) b ws = (true, 0, s2L who b (setW (setW 0 k) k') (ws.foldl (bindV 1 b) bs)) := by
  unfold ldPromise s1L
  rw [if_neg (by omega), if_neg (by simp)]
  simp only [Int.toNat_natCast, setN_two hk hk' hne]
  rfl
theorem no_p (s : LM) (h : s.p = 1) (x : Int) : (ldNo s x).2.p ≠ 2 := by
  unfold ldNo
  split
  · rw [h]; decide
  · show ¬ (0 : Int) = 2; decide
abbrev AskPost (g : Nat) (val : Val) (N : Int) (who : Nat) (st : CS) (v : Value) (l' : List Chunk) : Prop := ∃ (ca : CA) (st' : CS) (acc : Acc), v = .bool true ∧ l' = councilL g ca st' ∧ Inv acc val (N + 3) st' ∧ st'.ch = st.ch ∧ ((st'.s who).p = 2 → st.ch ≠ 0 → ∃ n, (st'.s who).bs = [⟨n, ⟨1, 1, [st.ch]⟩⟩])
theorem AskPost.leaf {g : Nat} {val : Val} {N : Int} {who : Nat} {st : CS} {l l1 : List Chunk} (ca : CA) (st' : CS) (acc : Acc) (h1 : Inv acc val (N + 3) st') (h2 : st'.ch = st.ch) (h3 : (st'.s who).p = 2 → st.ch ≠ 0 → ∃ n, (st'.s who).bs = [⟨n, ⟨1, 1, [st.ch]⟩⟩]) (hc : PicksT (councilL g ca st') l l1) :
    ∃ l', AskPost g val N who st (tup [.bool true]) l' ∧ ChLe l l' := ⟨_, ⟨ca, st', acc, rfl, rfl, h1, h2, h3⟩, _, hc⟩
theorem Inv.chain {acc : Acc} {val : Val} {N : Int} {st : CS} (h : Inv acc val N st) {k : Nat} (hk : k < 3) : (st.v k).v.c.xs.length ≤ 1000000 := by
  rcases (h.v k hk).vote with ⟨e, _⟩ | ⟨_, _, ⟨v, e, _⟩, _⟩
  · rw [e]; decide
  · rw [e]; show 1 ≤ 1000000; decide
end Go.SX
