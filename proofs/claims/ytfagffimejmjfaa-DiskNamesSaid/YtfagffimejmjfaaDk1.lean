/- The disk: its model, and the program's small functions. -/
import Derived.Test.YtfagffimejmjfaaRf2
namespace Go.SX
open Go Go.RowKit Go.Proofs
set_option linter.unusedVariables false
set_option linter.unusedSimpArgs false
set_option maxHeartbeats 4000000
/-- A disk: its bytes, how many are synced, whether it is dead, whether it is armed, what was ever written. -/
structure DK where
  b : List UInt8
  n : Int
  dead : Bool
  arm : Option Int
  tr : List (List UInt8)
def dkTear (s : DK) (cut : Int) : DK := { s with n := s.n + min ((s.b.length : Int) - s.n) cut, b := s.b.take (s.n + min ((s.b.length : Int) - s.n) cut).toNat, dead := true }
def dkWrite (s : DK) (x : List UInt8) : Int × DK := if s.dead = true then (130, s) else if 1048576 < s.b.length + x.length then (5, s) else (0, { s with b := s.b ++ x, tr := s.tr ++ [x] })
def dkSync (s : DK) : Int × DK := if s.dead = true then (130, s) else match s.arm with
  | none => (0, { s with n := s.b.length })
  | some c => (130, dkTear s c)
def dkSwap (s : DK) (x : List UInt8) : Int × DK := if s.dead = true then (130, s) else if 1048576 < x.length then (5, s) else match s.arm with
  | none => (0, { s with b := x, n := x.length, tr := s.tr ++ [x] })
  | some c => (130, dkTear s c)
def dkCut (s : DK) (k : Int) : Int × DK := if s.dead = true then (130, s) else if k < 0 ∨ (s.b.length : Int) < k then (9, s) else (0, { s with b := s.b.take k.toNat, n := k })
def dkArm (s : DK) (c : Int) : Int × DK := if s.dead = true then (130, s) else if c < 0 then (2, s) else (0, { s with arm := some c })
def dkCrash (s : DK) (c : Int) : Int × DK := if c < 0 then (2, s) else if s.dead = true then (0, s) else (0, dkTear s c)
def dkRevive (s : DK) : Int × DK := (0, { s with dead := false, arm := none })
def dk0 : DK := ⟨[], 0, false, none, []⟩
structure DkOK (s : DK) : Prop where
  n : 0 ≤ s.n ∧ s.n ≤ s.b.length
  b : s.b.length ≤ 1048576
  tr : s.tr.length ≤ 1000
  arm : ∀ c, s.arm = some c → 0 ≤ c ∧ c ≤ 9223372036854775807
/-- Where its parts lie. -/
structure DkA where
  A : Option Addr
  c : Nat
  k : Nat
  At : Option Addr
  ct : Nat
  kt : Nat
  hs : List BH
  gc : Nat
def armV : Option Int → Nat → Value
  | none, _ => .func (.func 28) #[] #[]
  | some _, g => .func (.func 31) #[] #[.pointer (some ⟨g, 0, none⟩)]
def armL : Option Int → Nat → List Chunk
  | none, _ => []
  | some c, g => [cellsC g 3 [.int .i64 c]]
def diskL (g : Nat) (a : DkA) (s : DK) : List Chunk :=
  cellsC g 49 [.slice a.A a.k a.c, .int .i64 s.n, .bool s.dead, armV s.arm a.gc, .slice a.At a.kt a.ct] :: bO a.A a.c 5 a.k s.b ::
    rowC a.At a.ct 22 1 a.kt (recs BH.cell a.hs) :: starM (BH.own 5) a.hs :: pureC (s.tr = a.hs.map BH.bs ∧ a.k = s.b.length ∧ a.kt = a.hs.length) :: armL s.arm a.gc
def diskC (g : Nat) (a : DkA) (s : DK) : Chunk := starC (diskL g a s)
abbrev DkPost (g : Nat) (m : Int × DK) (v : Value) (l' : List Chunk) : Prop := ∃ a', v = .int .i64 m.1 ∧ l' = [diskC g a' m.2]
theorem DkPost.leaf {g : Nat} {a' : DkA} {s' : DK} {m : Int × DK} {e : Int} {l l1 : List Chunk} (hc : PicksT [diskC g a' s'] l l1) (h : m = (e, s')) : ∃ l', DkPost g m (tup [.int .i64 e]) l' ∧ ChLe l l' := ⟨_, ⟨a', by rw [h]; rfl, by rw [h]⟩, _, hc⟩
theorem DkPost.leaf2 {g : Nat} {a' : DkA} {s' : DK} {m : Int × DK} {e : Int} {l l1 : List Chunk} (h : m = (e, s')) (hc : PicksT [diskC g a' s'] l l1) : ∃ l', DkPost g m (tup [.int .i64 e]) l' ∧ ChLe l l' := DkPost.leaf hc h
/-- What is known of a disk that lies there. -/
theorem Spec.disk {P : Program} {f : FuncId} {args : List Value} {g : Nat} {a : DkA} {s : DK} {l r : List Chunk} {post : Value → List Chunk → Prop}
    (h : s.tr = a.hs.map BH.bs ∧ a.k = s.b.length ∧ a.kt = a.hs.length ∧ a.k ≤ a.c ∧ a.c ≤ 9223372036854775807 → Spec P f args (diskL g a s ++ l) r post) : Spec P f args (diskC g a s :: l) r post := by
  refine Spec.open ?_
  refine Spec.fact (d := pureC (s.tr = a.hs.map BH.bs ∧ a.k = s.b.length ∧ a.kt = a.hs.length)) (φ := s.tr = a.hs.map BH.bs ∧ a.k = s.b.length ∧ a.kt = a.hs.length) ?_ (fun w h => h) fun h1 => ?_
  · exact Rd.there (Rd.there (Rd.there (Rd.there (Rd.here (Sub.refl _)))))
  refine Spec.fact (d := bR a.A a.c a.k s.b) (φ := s.b.length = a.k ∧ a.k ≤ a.c ∧ a.c ≤ 9223372036854775807) (Rd.there (Rd.here Sub.row)) (fun w h => bR_len w h) fun h2 => ?_
  exact h ⟨h1.1, h1.2.1, h1.2.2, h2.2⟩
theorem Spec.diskR {P : Program} {f : FuncId} {args : List Value} {g : Nat} {a : DkA} {s : DK} {r : List Chunk} {post : Value → List Chunk → Prop}
    (h : s.tr = a.hs.map BH.bs ∧ a.k = s.b.length ∧ a.kt = a.hs.length ∧ a.k ≤ a.c ∧ a.c ≤ 9223372036854775807 → Spec P f args [] (diskL g a s ++ r) post) : Spec P f args [] (diskC g a s :: r) post := by
  refine Spec.openRS ?_
  refine Spec.fact (d := pureC (s.tr = a.hs.map BH.bs ∧ a.k = s.b.length ∧ a.kt = a.hs.length)) (φ := s.tr = a.hs.map BH.bs ∧ a.k = s.b.length ∧ a.kt = a.hs.length) ?_ (fun w h => h) fun h1 => ?_
  · exact Rd.there (Rd.there (Rd.there (Rd.there (Rd.here (Sub.refl _)))))
  refine Spec.fact (d := bR a.A a.c a.k s.b) (φ := s.b.length = a.k ∧ a.k ≤ a.c ∧ a.c ≤ 9223372036854775807) (Rd.there (Rd.here Sub.row)) (fun w h => bR_len w h) fun h2 => ?_
  exact h ⟨h1.1, h1.2.1, h1.2.2, h2.2⟩
section
variable (g : Nat) (A : Option Addr) (n c : Nat) (sy : Int) (dd : Bool) (fn : Fn) (us vs : Array Value) (At : Option Addr) (nt ct : Nat)
theorem always_spec (v0 : Value) : Spec Try.prog 28 [v0] [] [] (fun v l' => v = .bool true ∧ l' = []) := by
  refine Spec.intro Try.func28 rfl rfl Try.ntmps28 rfl fun w0 => ?_
  (all_goals (refine WC.auto ?_; (conv => whnf))); repeat' (first
          | ((with_reducible refine WB.auto ?_); (conv => whnf))
          | ((with_reducible refine WCB.auto ?_); (conv => whnf))
          | ((with_reducible refine Ob.at ?_); first | (refine Ob.mk (by first | omega | exact u8_bound _ | (have := u8_bound; omega) | (simp only [List.length_drop, List.length_take, List.length_append, List.length_replicate, List.length_set, List.length_cons, List.length_nil, Nat.min_def]; omega)) ?_; (conv => whnf)) | (refine Ob.mk' ?_ ?_; (conv => whnf)))
          | (refine spl_mk (fun hc => ?_) (fun hc => ?_) <;> (try simp only [Bool.not_eq_false', and_self, and_true, true_and, not_true, Bool.not_eq_true', Bool.not_false, Bool.not_true, decide_eq_true_eq, decide_eq_false_iff_not, Bool.false_eq_true, reduceCtorEq, Bool.true_eq_false, ne_eq, Decidable.not_not, Int.not_lt, Int.not_le, beq_self_eq_true, eq_self, not_true_eq_false, not_false_eq_true, Bool.not_eq_eq_eq_not, Bool.not_eq_true, Bool.not_eq_false, beq_iff_eq, beq_eq_false_iff_ne] at hc) <;> (try (exfalso; omega)) <;> (conv => whnf))
          | ((with_reducible refine NatK.at ?_); first | ((with_reducible refine NatK.cast ?_); (conv => whnf)) | (refine NatK.sym (by first | omega | exact u8_bound _ | (have := u8_bound; omega) | (simp only [List.length_drop, List.length_take, List.length_append, List.length_replicate, List.length_set, List.length_cons, List.length_nil, Nat.min_def]; omega)) (fun m hm => ?_); (conv => whnf)))
          | (intro q hq; (conv => whnf))
          | refine Exists.intro _ (And.intro (resv_rfl rfl) ?_))
  all_goals first | exact ⟨_, ⟨rfl, rfl⟩, _, pksA⟩ | skip
theorem none_spec : Spec Try.prog 33 [.pointer (some ⟨g, 0, none⟩)] [] [cellsC g 49 [.slice A n c, .int .i64 sy, .bool dd, .func fn us vs, .slice At nt ct]] (fun v l' => v = .bool false ∧ l' = []) := by
  refine Spec.intro Try.func33 rfl rfl Try.ntmps33 rfl fun w0 => ?_
  (all_goals (refine WC.auto ?_; (conv => whnf))); repeat' (first
          | ((with_reducible refine WB.auto ?_); (conv => whnf))
          | ((with_reducible refine WCB.auto ?_); (conv => whnf))
          | ((with_reducible refine Ob.at ?_); first | (refine Ob.mk (by first | omega | exact u8_bound _ | (have := u8_bound; omega) | (simp only [List.length_drop, List.length_take, List.length_append, List.length_replicate, List.length_set, List.length_cons, List.length_nil, Nat.min_def]; omega)) ?_; (conv => whnf)) | (refine Ob.mk' ?_ ?_; (conv => whnf)))
          | (refine spl_mk (fun hc => ?_) (fun hc => ?_) <;> (try simp only [Bool.not_eq_false', and_self, and_true, true_and, not_true, Bool.not_eq_true', Bool.not_false, Bool.not_true, decide_eq_true_eq, decide_eq_false_iff_not, Bool.false_eq_true, reduceCtorEq, Bool.true_eq_false, ne_eq, Decidable.not_not, Int.not_lt, Int.not_le, beq_self_eq_true, eq_self, not_true_eq_false, not_false_eq_true, Bool.not_eq_eq_eq_not, Bool.not_eq_true, Bool.not_eq_false, beq_iff_eq, beq_eq_false_iff_ne] at hc) <;> (try (exfalso; omega)) <;> (conv => whnf))
          | ((with_reducible refine NatK.at ?_); first | ((with_reducible refine NatK.cast ?_); (conv => whnf)) | (refine NatK.sym (by first | omega | exact u8_bound _ | (have := u8_bound; omega) | (simp only [List.length_drop, List.length_take, List.length_append, List.length_replicate, List.length_set, List.length_cons, List.length_nil, Nat.min_def]; omega)) (fun m hm => ?_); (conv => whnf)))
          | (intro q hq; (conv => whnf))
          | ((with_reducible refine W.at 9 ?_); first | (refine W.ev (Ev.load rfl rfl rdA rfl) rfl rfl rfl ?_; all_goals ((refine W.auto ?_); (conv => whnf))))
          | refine Exists.intro _ (And.intro (resv_rfl rfl) ?_))
  all_goals first | exact ⟨_, ⟨rfl, rfl⟩, _, pksA⟩ | skip

theorem live_spec : Spec Try.prog 29 [.pointer (some ⟨g, 0, none⟩)] [] [cellsC g 49 [.slice A n c, .int .i64 sy, .bool dd, .func fn us vs, .slice At nt ct]] (fun v l' => v = .int .i64 (if dd = true then 130 else 0) ∧ l' = []) := by
  cases dd
  all_goals refine Spec.intro Try.func29 rfl rfl Try.ntmps29 rfl fun w0 => ?_
  (all_goals (refine WC.auto ?_; (conv => whnf))); repeat' (first
          | ((with_reducible refine WB.auto ?_); (conv => whnf))
          | ((with_reducible refine WCB.auto ?_); (conv => whnf))
          | ((with_reducible refine Ob.at ?_); first | (refine Ob.mk (by first | omega | exact u8_bound _ | (have := u8_bound; omega) | (simp only [List.length_drop, List.length_take, List.length_append, List.length_replicate, List.length_set, List.length_cons, List.length_nil, Nat.min_def]; omega)) ?_; (conv => whnf)) | (refine Ob.mk' ?_ ?_; (conv => whnf)))
          | (refine spl_mk (fun hc => ?_) (fun hc => ?_) <;> (try simp only [Bool.not_eq_false', and_self, and_true, true_and, not_true, Bool.not_eq_true', Bool.not_false, Bool.not_true, decide_eq_true_eq, decide_eq_false_iff_not, Bool.false_eq_true, reduceCtorEq, Bool.true_eq_false, ne_eq, Decidable.not_not, Int.not_lt, Int.not_le, beq_self_eq_true, eq_self, not_true_eq_false, not_false_eq_true, Bool.not_eq_eq_eq_not, Bool.not_eq_true, Bool.not_eq_false, beq_iff_eq, beq_eq_false_iff_ne] at hc) <;> (try (exfalso; omega)) <;> (conv => whnf))
          | ((with_reducible refine NatK.at ?_); first | ((with_reducible refine NatK.cast ?_); (conv => whnf)) | (refine NatK.sym (by first | omega | exact u8_bound _ | (have := u8_bound; omega) | (simp only [List.length_drop, List.length_take, List.length_append, List.length_replicate, List.length_set, List.length_cons, List.length_nil, Nat.min_def]; omega)) (fun m hm => ?_); (conv => whnf)))
          | (intro q hq; (conv => whnf))
          | ((with_reducible refine W.at 5 ?_); first | ((refine W.stp (Stp.cal rfl rfl (none_spec _ _ _ _ _ _ _ _ _ _ _ _) pksA rdsA) rfl rfl rfl ?_; rintro _ _ ⟨_, ⟨rfl, rfl⟩, rfl⟩); all_goals ((refine W.auto ?_); (conv => whnf))))
          | ((with_reducible refine W.at 10 ?_); first | (refine W.ev (Ev.load rfl rfl rdA rfl) rfl rfl rfl ?_; all_goals ((refine W.auto ?_); (conv => whnf))))
          | refine Exists.intro _ (And.intro (resv_rfl rfl) ?_))
  all_goals first | exact ⟨_, ⟨rfl, rfl⟩, _, pksA⟩ | skip

theorem tear_spec (cut : Int) (h : 0 ≤ sy ∧ sy ≤ n ∧ n ≤ 1048576 ∧ n ≤ c) (hc0 : 0 ≤ cut ∧ cut ≤ 9223372036854775807) : Spec Try.prog 32 [.pointer (some ⟨g, 0, none⟩), .int .i64 cut] [cellsC g 49 [.slice A n c, .int .i64 sy, .bool dd, .func fn us vs, .slice At nt ct]] []
    (fun v l' => ∃ k : Nat, (k : Int) = sy + min ((n : Int) - sy) cut ∧ v = .tuple #[] ∧ l' = [cellsC g 49 [.slice A k c, .int .i64 (sy + min ((n : Int) - sy) cut), .bool true, .func fn us vs, .slice At nt ct]]) := by
  refine Spec.intro Try.func32 rfl rfl Try.ntmps32 rfl fun w0 => ?_
  (all_goals (refine WC.auto ?_; (conv => whnf))); repeat' (first
          | ((with_reducible refine WB.auto ?_); (conv => whnf))
          | ((with_reducible refine WCB.auto ?_); (conv => whnf))
          | ((with_reducible refine WDB.auto ?_); (conv => whnf))
          | ((with_reducible refine Ob.at ?_); first | (refine Ob.mk (by first | omega | exact u8_bound _ | (have := u8_bound; omega) | (simp only [List.length_drop, List.length_take, List.length_append, List.length_replicate, List.length_set, List.length_cons, List.length_nil, Nat.min_def]; omega)) ?_; (conv => whnf)) | (refine Ob.mk' ?_ ?_; (conv => whnf)))
          | (refine spl_mk (fun hc => ?_) (fun hc => ?_) <;> (try simp only [Bool.not_eq_false', and_self, and_true, true_and, not_true, Bool.not_eq_true', Bool.not_false, Bool.not_true, decide_eq_true_eq, decide_eq_false_iff_not, Bool.false_eq_true, reduceCtorEq, Bool.true_eq_false, ne_eq, Decidable.not_not, Int.not_lt, Int.not_le, beq_self_eq_true, eq_self, not_true_eq_false, not_false_eq_true, Bool.not_eq_eq_eq_not, Bool.not_eq_true, Bool.not_eq_false, beq_iff_eq, beq_eq_false_iff_ne] at hc) <;> (try (exfalso; omega)) <;> (conv => whnf))
          | ((with_reducible refine NatK.at ?_); first | ((with_reducible refine NatK.cast ?_); (conv => whnf)) | (refine NatK.sym (by first | omega | exact u8_bound _ | (have := u8_bound; omega) | (simp only [List.length_drop, List.length_take, List.length_append, List.length_replicate, List.length_set, List.length_cons, List.length_nil, Nat.min_def]; omega)) (fun m hm => ?_); (conv => whnf)))
          | (intro q hq; (conv => whnf))
          | ((with_reducible refine WC.atR 0 ?_); refine WC.draw (id := 0) (ls := []) (.fl 0 (.fl 1 (.fl 2 (.fl 4 (.fl 5 (.fl 6 (.fl 7 (.fl 10 (.fl 11 (.fl 12 (.three 3 (.two 8 (.fl 9 (.one 13 (.fl 14 (.fl 15 (.fl 16 (.fl 17 (.fl 18 (.one 19 .nil)))))))) 13 (.one 8 (.fl 9 (.fl 14 (.fl 15 (.fl 16 (.fl 17 (.fl 18 (.one 19 .nil))))))))) 8 (.fl 9 (.two 3 (.one 13 (.fl 14 (.fl 15 (.fl 16 (.fl 17 (.fl 18 (.one 19 .nil))))))) 13 (.fl 14 (.fl 15 (.one 3 (.fl 16 (.fl 17 (.fl 18 (.one 19 .nil))))))))) 13 (.two 3 (.one 8 (.fl 9 (.fl 14 (.fl 15 (.fl 16 (.fl 17 (.fl 18 (.one 19 .nil)))))))) 8 (.fl 9 (.fl 14 (.fl 15 (.one 3 (.fl 16 (.fl 17 (.fl 18 (.one 19 .nil)))))))))))))))))))) (by kernel_rfl) (by kernel_rfl) picksA ?_; refine WD.auto ?_; (conv => whnf))
          | ((with_reducible refine WC.atR 1 ?_); refine WC.draw (id := 1) (ls := []) (.fl 0 (.fl 1 (.fl 2 (.fl 3 (.fl 4 (.fl 6 (.fl 7 (.fl 8 (.two 5 (.one 9 (.fl 10 (.fl 11 (.fl 12 (.one 13 (.fl 14 (.fl 15 (.one 16 .nil)))))))) 9 (.one 5 (.fl 10 (.fl 11 (.fl 12 (.one 13 (.fl 14 (.fl 15 (.one 16 .nil))))))))))))))))) (by kernel_rfl) (by kernel_rfl) picksA ?_; refine WD.auto ?_; (conv => whnf))
          | ((with_reducible refine WO.at 0 ?_); first | (refine WO.auto rfl rfl ?_; (conv => whnf); (fail_if_success (show False))) | (refine WO.auto rfl rfl ?_; (conv => whnf); (fail_if_success (show False))) | (refine WO.off rfl rfl rfl rfl ?_; refine WD.auto ?_; (conv => whnf)))
          | ((with_reducible refine WO.at 1 ?_); first | (refine WO.auto rfl rfl ?_; (conv => whnf); (fail_if_success (show False))) | (refine WO.auto rfl rfl ?_; (conv => whnf); (fail_if_success (show False))) | (refine WO.off rfl rfl rfl rfl ?_; refine WD.auto ?_; (conv => whnf)))
          | ((with_reducible refine WO.at 2 ?_); first | (refine WO.auto rfl rfl ?_; (conv => whnf); (fail_if_success (show False))) | (refine WO.auto rfl rfl ?_; (conv => whnf); (fail_if_success (show False))) | (refine WO.off rfl rfl rfl rfl ?_; refine WD.auto ?_; (conv => whnf)))
          | ((with_reducible refine WD.at 3 ?_); first | (refine WD.ev rfl (Ev.load rfl rfl rdA rfl) rfl rfl rfl ?_; all_goals (refine WD.auto ?_; (conv => whnf))) | (refine WD.ev rfl (Ev.loadI rfl rdA (by first | omega | (simp only [List.length_drop, List.length_take, List.length_append, List.length_replicate, List.length_set, List.length_cons, List.length_nil, Nat.min_def]; omega) | (simp; omega))) rfl rfl rfl ?_; all_goals (refine WD.auto ?_; (conv => whnf))))
          | ((with_reducible refine WO.at 3 ?_); first | (refine WO.ev rfl (Ev.load rfl rfl rdA rfl) rfl rfl rfl ?_; all_goals (refine WD.auto ?_; (conv => whnf))) | (refine WO.ev rfl (Ev.loadI rfl rdA (by first | omega | (simp only [List.length_drop, List.length_take, List.length_append, List.length_replicate, List.length_set, List.length_cons, List.length_nil, Nat.min_def]; omega) | (simp; omega))) rfl rfl rfl ?_; all_goals (refine WD.auto ?_; (conv => whnf))) | (refine WO.auto rfl rfl ?_; (conv => whnf); (fail_if_success (show False))) | (refine WO.off rfl rfl rfl rfl ?_; refine WD.auto ?_; (conv => whnf)))
          | ((with_reducible refine WO.at 4 ?_); first | (refine WO.auto rfl rfl ?_; (conv => whnf); (fail_if_success (show False))) | (refine WO.auto rfl rfl ?_; (conv => whnf); (fail_if_success (show False))) | (refine WO.off rfl rfl rfl rfl ?_; refine WD.auto ?_; (conv => whnf)))
          | ((with_reducible refine WO.at 5 ?_); first | (refine WO.auto rfl rfl ?_; (conv => whnf); (fail_if_success (show False))) | (refine WO.ev rfl (Ev.load rfl rfl rdA rfl) rfl rfl rfl ?_; all_goals (refine WD.auto ?_; (conv => whnf))) | (refine WO.off rfl rfl rfl rfl ?_; refine WD.auto ?_; (conv => whnf)))
          | ((with_reducible refine WO.at 6 ?_); first | (refine WO.auto rfl rfl ?_; (conv => whnf); (fail_if_success (show False))) | (refine WO.auto rfl rfl ?_; (conv => whnf); (fail_if_success (show False))) | (refine WO.off rfl rfl rfl rfl ?_; refine WD.auto ?_; (conv => whnf)))
          | ((with_reducible refine WO.at 7 ?_); first | (refine WO.auto rfl rfl ?_; (conv => whnf); (fail_if_success (show False))) | (refine WO.auto rfl rfl ?_; (conv => whnf); (fail_if_success (show False))) | (refine WO.off rfl rfl rfl rfl ?_; refine WD.auto ?_; (conv => whnf)))
          | ((with_reducible refine WD.at 8 ?_); first | (refine WD.ev rfl (Ev.load rfl rfl rdA rfl) rfl rfl rfl ?_; all_goals (refine WD.auto ?_; (conv => whnf))))
          | ((with_reducible refine WO.at 8 ?_); first | (refine WO.ev rfl (Ev.load rfl rfl rdA rfl) rfl rfl rfl ?_; all_goals (refine WD.auto ?_; (conv => whnf))) | (refine WO.auto rfl rfl ?_; (conv => whnf); (fail_if_success (show False))) | (refine WO.off rfl rfl rfl rfl ?_; refine WD.auto ?_; (conv => whnf)))
          | ((with_reducible refine WO.at 9 ?_); first | (refine WO.auto rfl rfl ?_; (conv => whnf); (fail_if_success (show False))) | (refine WO.ev rfl (Ev.load rfl rfl rdA rfl) rfl rfl rfl ?_; all_goals (refine WD.auto ?_; (conv => whnf))) | (refine WO.ev rfl (Ev.loadI rfl rdA (by first | omega | (simp only [List.length_drop, List.length_take, List.length_append, List.length_replicate, List.length_set, List.length_cons, List.length_nil, Nat.min_def]; omega) | (simp; omega))) rfl rfl rfl ?_; all_goals (refine WD.auto ?_; (conv => whnf))) | (refine WO.off rfl rfl rfl rfl ?_; refine WD.auto ?_; (conv => whnf)))
          | ((with_reducible refine WO.at 10 ?_); first | (refine WO.auto rfl rfl ?_; (conv => whnf); (fail_if_success (show False))) | (refine WO.auto rfl rfl ?_; (conv => whnf); (fail_if_success (show False))) | (refine WO.off rfl rfl rfl rfl ?_; refine WD.auto ?_; (conv => whnf)))
          | ((with_reducible refine WO.at 11 ?_); first | (refine WO.auto rfl rfl ?_; (conv => whnf); (fail_if_success (show False))) | (refine WO.auto rfl rfl ?_; (conv => whnf); (fail_if_success (show False))) | (refine WO.off rfl rfl rfl rfl ?_; refine WD.auto ?_; (conv => whnf)))
          | ((with_reducible refine WO.at 12 ?_); first | (refine WO.auto rfl rfl ?_; (conv => whnf); (fail_if_success (show False))) | (refine WO.auto rfl rfl ?_; (conv => whnf); (fail_if_success (show False))) | (refine WO.off rfl rfl rfl rfl ?_; refine WD.auto ?_; (conv => whnf)))
          | ((with_reducible refine WD.at 13 ?_); first | (refine WD.ev rfl (Ev.load rfl rfl rdA rfl) rfl rfl rfl ?_; all_goals (refine WD.auto ?_; (conv => whnf))) | (refine WD.ev rfl (Ev.loadI rfl rdA (by first | omega | (simp only [List.length_drop, List.length_take, List.length_append, List.length_replicate, List.length_set, List.length_cons, List.length_nil, Nat.min_def]; omega) | (simp; omega))) rfl rfl rfl ?_; all_goals (refine WD.auto ?_; (conv => whnf))))
          | ((with_reducible refine WO.at 13 ?_); first | (refine WO.ev rfl (Ev.load rfl rfl rdA rfl) rfl rfl rfl ?_; all_goals (refine WD.auto ?_; (conv => whnf))) | (refine WO.ev rfl (Ev.loadI rfl rdA (by first | omega | (simp only [List.length_drop, List.length_take, List.length_append, List.length_replicate, List.length_set, List.length_cons, List.length_nil, Nat.min_def]; omega) | (simp; omega))) rfl rfl rfl ?_; all_goals (refine WD.auto ?_; (conv => whnf))) | (refine stO1 (i := 13) rfl rfl rfl rfl pkA ?_; (conv => whnf)) | (refine WO.off rfl rfl rfl rfl ?_; refine WD.auto ?_; (conv => whnf)))
          | ((with_reducible refine WO.at 14 ?_); first | (refine WO.auto rfl rfl ?_; (conv => whnf); (fail_if_success (show False))) | (refine WO.auto rfl rfl ?_; (conv => whnf); (fail_if_success (show False))) | (refine WO.off rfl rfl rfl rfl ?_; refine WD.auto ?_; (conv => whnf)))
          | ((with_reducible refine WO.at 15 ?_); first | (refine WO.auto rfl rfl ?_; (conv => whnf); (fail_if_success (show False))) | (refine WO.auto rfl rfl ?_; (conv => whnf); (fail_if_success (show False))) | (refine WO.off rfl rfl rfl rfl ?_; refine WD.auto ?_; (conv => whnf)))
          | ((with_reducible refine WO.at 16 ?_); first | (refine WO.auto rfl rfl ?_; (conv => whnf); (fail_if_success (show False))) | (refine stO1 (i := 16) rfl rfl rfl rfl pkA ?_; (conv => whnf)) | (refine WO.off rfl rfl rfl rfl ?_; refine WD.auto ?_; (conv => whnf)))
          | ((with_reducible refine WO.at 17 ?_); first | (refine WO.auto rfl rfl ?_; (conv => whnf); (fail_if_success (show False))) | (refine WO.off rfl rfl rfl rfl ?_; refine WD.auto ?_; (conv => whnf)))
          | ((with_reducible refine WO.at 18 ?_); first | (refine WO.auto rfl rfl ?_; (conv => whnf); (fail_if_success (show False))) | (refine WO.off rfl rfl rfl rfl ?_; refine WD.auto ?_; (conv => whnf)))
          | ((with_reducible refine WO.at 19 ?_); first | (refine stO1 (i := 19) rfl rfl rfl rfl pkA ?_; (conv => whnf)) | (refine WO.off rfl rfl rfl rfl ?_; refine WD.auto ?_; (conv => whnf)))
          | ((with_reducible refine WD.at 5 ?_); first | (refine WD.ev rfl (Ev.load rfl rfl rdA rfl) rfl rfl rfl ?_; all_goals (refine WD.auto ?_; (conv => whnf))))
          | ((with_reducible refine WD.at 9 ?_); first | (refine WD.ev rfl (Ev.load rfl rfl rdA rfl) rfl rfl rfl ?_; all_goals (refine WD.auto ?_; (conv => whnf))) | (refine WD.ev rfl (Ev.loadI rfl rdA (by first | omega | (simp only [List.length_drop, List.length_take, List.length_append, List.length_replicate, List.length_set, List.length_cons, List.length_nil, Nat.min_def]; omega) | (simp; omega))) rfl rfl rfl ?_; all_goals (refine WD.auto ?_; (conv => whnf))))
          | (with_reducible refine WD.one ?_)
          | (with_reducible refine WD.two ?_ ?_)
          | (with_reducible refine WD.three ?_ ?_ ?_)
          | refine Exists.intro _ (And.intro (resv_rfl rfl) ?_))
  all_goals first | exact ⟨_, ⟨_, by omega, rfl, rfl⟩, _, pksA⟩ | skip

theorem arm1_spec (cut : Int) (gc : Nat) (h : 0 ≤ sy ∧ sy ≤ n ∧ n ≤ 1048576 ∧ n ≤ c) (hc0 : 0 ≤ cut ∧ cut ≤ 9223372036854775807) : Spec Try.prog 31 [.pointer (some ⟨g, 0, none⟩), .pointer (some ⟨gc, 0, none⟩)] [cellsC g 49 [.slice A n c, .int .i64 sy, .bool dd, .func fn us vs, .slice At nt ct]] [cellsC gc 3 [.int .i64 cut]]
    (fun v l' => ∃ k : Nat, (k : Int) = sy + min ((n : Int) - sy) cut ∧ v = .bool false ∧ l' = [cellsC g 49 [.slice A k c, .int .i64 (sy + min ((n : Int) - sy) cut), .bool true, .func fn us vs, .slice At nt ct]]) := by
  refine Spec.intro Try.func31 rfl rfl Try.ntmps31 rfl fun w0 => ?_
  (all_goals (refine WC.auto ?_; (conv => whnf))); repeat' (first
          | ((with_reducible refine WB.auto ?_); (conv => whnf))
          | ((with_reducible refine WCB.auto ?_); (conv => whnf))
          | ((with_reducible refine Ob.at ?_); first | (refine Ob.mk (by first | omega | exact u8_bound _ | (have := u8_bound; omega) | (simp only [List.length_drop, List.length_take, List.length_append, List.length_replicate, List.length_set, List.length_cons, List.length_nil, Nat.min_def]; omega)) ?_; (conv => whnf)) | (refine Ob.mk' ?_ ?_; (conv => whnf)))
          | (refine spl_mk (fun hc => ?_) (fun hc => ?_) <;> (try simp only [Bool.not_eq_false', and_self, and_true, true_and, not_true, Bool.not_eq_true', Bool.not_false, Bool.not_true, decide_eq_true_eq, decide_eq_false_iff_not, Bool.false_eq_true, reduceCtorEq, Bool.true_eq_false, ne_eq, Decidable.not_not, Int.not_lt, Int.not_le, beq_self_eq_true, eq_self, not_true_eq_false, not_false_eq_true, Bool.not_eq_eq_eq_not, Bool.not_eq_true, Bool.not_eq_false, beq_iff_eq, beq_eq_false_iff_ne] at hc) <;> (try (exfalso; omega)) <;> (conv => whnf))
          | ((with_reducible refine NatK.at ?_); first | ((with_reducible refine NatK.cast ?_); (conv => whnf)) | (refine NatK.sym (by first | omega | exact u8_bound _ | (have := u8_bound; omega) | (simp only [List.length_drop, List.length_take, List.length_append, List.length_replicate, List.length_set, List.length_cons, List.length_nil, Nat.min_def]; omega)) (fun m hm => ?_); (conv => whnf)))
          | (intro q hq; (conv => whnf))
          | ((with_reducible refine W.at 5 ?_); first | (refine W.ev (Ev.load rfl rfl rdA rfl) rfl rfl rfl ?_; all_goals ((refine W.auto ?_); (conv => whnf))) | (refine W.ev (Ev.loadI rfl rdA (by first | omega | (simp only [List.length_drop, List.length_take, List.length_append, List.length_replicate, List.length_set, List.length_cons, List.length_nil, Nat.min_def]; omega) | (simp; omega))) rfl rfl rfl ?_; all_goals ((refine W.auto ?_); (conv => whnf))))
          | ((with_reducible refine W.at 6 ?_); first | ((refine W.stp (Stp.cal rfl rfl (Spec.ask fun (hq : _ ∧ _) => tear_spec _ _ _ _ _ _ _ _ _ _ _ _ _ hq.1 hq.2) pksA rdsA) rfl rfl rfl ?_; rintro _ _ ⟨_, ⟨k6, hk6, rfl, rfl⟩, rfl⟩); all_goals ((refine W.auto ?_); (conv => whnf))))
          | refine Exists.intro _ (And.intro (resv_rfl rfl) ?_))
  all_goals first | exact ⟨_, ⟨_, by omega, rfl, rfl⟩, _, pksA⟩ | skip
theorem arm1_call (cut : Int) (gc : Nat) (h : 0 ≤ sy ∧ sy ≤ n ∧ n ≤ 1048576 ∧ n ≤ c) (hc0 : 0 ≤ cut ∧ cut ≤ 9223372036854775807) : Spec Try.prog 31 ([.pointer (some ⟨g, 0, none⟩)] ++ [.pointer (some ⟨gc, 0, none⟩)]) [cellsC g 49 [.slice A n c, .int .i64 sy, .bool dd, .func fn us vs, .slice At nt ct]] [cellsC gc 3 [.int .i64 cut]]
    (fun v l' => ∃ k : Nat, (k : Int) = sy + min ((n : Int) - sy) cut ∧ v = .bool false ∧ l' = [cellsC g 49 [.slice A k c, .int .i64 (sy + min ((n : Int) - sy) cut), .bool true, .func fn us vs, .slice At nt ct]]) :=  arm1_spec _ _ _ _ _ _ _ _ _ _ _ _ _ _ h hc0
end
theorem copied_spec (A : Option Addr) (c n : Nat) (bs : List UInt8) (h : n ≤ 140737488351232) : Spec Try.prog 30 [.slice A n c] [] [bR A c n bs] (fun v l' => ∃ A' c', v = .slice A' n c' ∧ l' = [bO A' c' 5 n bs]) := by
  refine Spec.fact (Rd.here (Sub.refl _)) bR_len fun hl => ?_
  refine Spec.intro Try.func30 rfl rfl Try.ntmps30 rfl fun w0 => ?_
  (all_goals (refine WC.auto ?_; (conv => whnf))); repeat' (first
          | ((with_reducible refine WB.auto ?_); (conv => whnf))
          | ((with_reducible refine WCB.auto ?_); (conv => whnf))
          | ((with_reducible refine Ob.at ?_); first | (refine Ob.mk (by first | omega | exact u8_bound _ | (have := u8_bound; omega) | (simp only [List.length_drop, List.length_take, List.length_append, List.length_replicate, List.length_set, List.length_cons, List.length_nil, Nat.min_def]; omega)) ?_; (conv => whnf)) | (refine Ob.mk' ?_ ?_; (conv => whnf)))
          | (refine spl_mk (fun hc => ?_) (fun hc => ?_) <;> (try simp only [Bool.not_eq_false', and_self, and_true, true_and, not_true, Bool.not_eq_true', Bool.not_false, Bool.not_true, decide_eq_true_eq, decide_eq_false_iff_not, Bool.false_eq_true, reduceCtorEq, Bool.true_eq_false, ne_eq, Decidable.not_not, Int.not_lt, Int.not_le, beq_self_eq_true, eq_self, not_true_eq_false, not_false_eq_true, Bool.not_eq_eq_eq_not, Bool.not_eq_true, Bool.not_eq_false, beq_iff_eq, beq_eq_false_iff_ne] at hc) <;> (try (exfalso; omega)) <;> (conv => whnf))
          | ((with_reducible refine NatK.at ?_); first | ((with_reducible refine NatK.cast ?_); (conv => whnf)) | (refine NatK.sym (by first | omega | exact u8_bound _ | (have := u8_bound; omega) | (simp only [List.length_drop, List.length_take, List.length_append, List.length_replicate, List.length_set, List.length_cons, List.length_nil, Nat.min_def]; omega)) (fun m hm => ?_); (conv => whnf)))
          | (intro q hq; (conv => whnf))
          | ((with_reducible refine W.at 6 ?_); first | ((refine W.stp (Stp.makeBN rfl rfl (by omega)) rfl rfl rfl ?_; rintro _ _ ⟨g6, rfl, rfl⟩); all_goals ((refine W.auto ?_); (conv => whnf))) | ((refine W.stp (Stp.makeB rfl rfl ⟨by omega, by omega, by omega, by omega⟩) rfl rfl rfl ?_; rintro _ _ ⟨g6, rfl, rfl⟩); all_goals ((refine W.auto ?_); (conv => whnf))))
          | ((with_reducible refine W.at 9 ?_); first | ((refine W.stp (Stp.copyInBq rfl rfl pkA rdA (by omega) (by omega)) rfl rfl rfl ?_; rintro _ _ ⟨rfl, rfl⟩); all_goals ((refine W.auto ?_); (conv => whnf))) | ((refine W.stp (Stp.copyIn0 rfl rfl pkA rdA (by omega)) rfl rfl rfl ?_; rintro _ _ ⟨rfl, rfl⟩); all_goals ((refine W.auto ?_); (conv => whnf))))
          | refine Exists.intro _ (And.intro (resv_rfl rfl) ?_))
  all_goals (have he : bs ++ List.drop n (List.replicate n (0 : UInt8)) = bs := (by simp)); (try rw [he]); (first | exact ⟨_, ⟨_, _, rfl, rfl⟩, _, pksA⟩ | skip)

end Go.SX
