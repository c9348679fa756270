/- Leaders: what they are; copies; what needs no bounds. -/
import Derived.Test.YtmcfcnlglohliaaDoorLd2
namespace Go.SX
open Go Go.RowKit Go.Proofs
set_option linter.unusedVariables false
set_option linter.unusedSimpArgs false
set_option maxHeartbeats 4000000
/-- A config. -/
structure CF where
  num : Int
  full : Int
  xs : List Int
deriving DecidableEq
/-- A vote. -/
structure VM where
  b : Int
  c : CF
deriving DecidableEq
instance : Inhabited CF := ⟨⟨0, 0, []⟩⟩
instance : Inhabited VM := ⟨⟨0, default⟩⟩
/-- A leader. -/
structure LM where
  id : Int
  b : Int
  f : Int
  p : Int
  pr : Nat
  bs : List VM
  pend : Option CF
  said : Nat
/-- A config in memory. -/
structure CH where
  num : Int
  full : Int
  A : Option Addr
  c : Nat
  xs : List Int
instance : Inhabited CH := ⟨⟨0, 0, none, 0, []⟩⟩
def CH.cf (h : CH) : CF := ⟨h.num, h.full, h.xs⟩
def CH.cells (h : CH) : List Value := [.int .i64 h.num, .int .i64 h.full, .slice h.A h.xs.length h.c]
def CH.own (h : CH) : Chunk := iO h.A h.c 3 h.xs.length h.xs
/-- A vote in a map. -/
structure VH where
  b : Int
  c : CH
instance : Inhabited VH := ⟨⟨0, default⟩⟩
def VH.vm (h : VH) : VM := ⟨h.b, h.c.cf⟩
def VH.cells (h : VH) : List Value := [.int .i64 h.b, .int .i64 h.c.num, .int .i64 h.c.full, .slice h.c.A h.c.xs.length h.c.c]
def VH.kv (h : VH) : Int × Value := (h.c.num, .agg #[.int .i64 h.b, .int .i64 h.c.num, .int .i64 h.c.full, .slice h.c.A h.c.xs.length h.c.c])
def VH.own (h : VH) : Chunk := iO h.c.A h.c.c 3 h.c.xs.length h.c.xs
structure LA where
  gm : Option Nat
  po : Option (Nat × CH)
  vs : List VH
def bndC : Option Nat → List VH → Chunk
  | none, vs => pureC (vs = [])
  | some g, vs => starC [mapC g (vs.map VH.kv), starM VH.own vs]
def pndC : Option (Nat × CH) → Chunk
  | none => pureC True
  | some (g, h) => starC [cellsC g 34 [.int .i64 h.num, .int .i64 h.full, .slice h.A h.xs.length h.c], iO h.A h.c 3 h.xs.length h.xs]
def pndA : Option (Nat × CH) → Option Addr
  | none => none
  | some (g, _) => some ⟨g, 0, none⟩
def pndM : Option (Nat × CH) → Option CF
  | none => none
  | some (_, h) => some ⟨h.num, h.full, h.xs⟩
def leadL (g : Nat) (a : LA) (s : LM) : List Chunk :=
  [pndC a.po, bndC a.gm a.vs, cellsC g 81 [.int .i64 s.id, .int .i64 s.b, .int .i64 s.f, .int .i64 s.p, .int .u64 (s.pr : Int), .map a.gm, .pointer (pndA a.po), .int .u64 (s.said : Int), .bool true],
    pureC (s.bs = a.vs.map VH.vm ∧ s.pend = pndM a.po ∧ (s.p = 0 ∨ a.gm.isSome = true))]
def leadC (g : Nat) (a : LA) (s : LM) : Chunk := starC (leadL g a s)
theorem St.congrS {S S' : List Nat} {w0 w : World} {l r : List Chunk} (h : St S w0 w l r) (hS : ∀ k, k ∈ S ↔ k ∈ S') : St S' w0 w l r :=
  { h with
    frame := fun k hk hn => h.frame k hk (fun hc => hn ((hS k).1 hc))
    within := fun c hc k hk => (h.within c hc k hk).imp (hS k).1 id }
/-- The owned chunks in another order. -/
theorem Spec.perml {P : Program} {f : FuncId} {args : List Value} {l l' r : List Chunk} {post : Value → List Chunk → Prop} (hp : l.Perm l') (h : Spec P f args l' r post) : Spec P f args l r post := by
  have hS : ∀ k, k ∈ fps l ↔ k ∈ fps l' := fun k => by simp only [mem_fps]; exact ⟨fun ⟨c, hc, hk⟩ => ⟨c, hp.mem_iff.1 hc, hk⟩, fun ⟨c, hc, hk⟩ => ⟨c, hp.mem_iff.2 hc, hk⟩⟩
  exact ⟨fun w hs => (h.out w ((hs.perm hp).congrS hS)).mono fun e w' ⟨v, l2, h1, h2, h3⟩ => ⟨v, l2, h1, h2, h3.congrS fun k => (hS k).symm⟩⟩
theorem Spec.swap {P : Program} {f : FuncId} {args : List Value} {a b : Chunk} {l r : List Chunk} {post : Value → List Chunk → Prop} (h : Spec P f args (b :: a :: l) r post) : Spec P f args (a :: b :: l) r post := h.perml (List.Perm.swap b a l)
theorem Spec.swapR {P : Program} {f : FuncId} {args : List Value} {a b : Chunk} {l r : List Chunk} {post : Value → List Chunk → Prop} (h : Spec P f args l (b :: a :: r) post) : Spec P f args l (a :: b :: r) post := by
  have hm : ∀ c, c ∈ a :: b :: r ↔ c ∈ b :: a :: r := fun c => (List.Perm.swap b a r).mem_iff
  have key : ∀ {a b : Chunk} {S : List Nat} {w0 w : World} {l : List Chunk}, St S w0 w l (a :: b :: r) → St S w0 w l (b :: a :: r) := fun {a b} {S} {w0 w} {l} hs =>
    { hs with ro := fun c hc => hs.ro c ((List.Perm.swap b a r).mem_iff.2 hc), sepr := fun c hc d hd => hs.sepr c hc d ((List.Perm.swap b a r).mem_iff.2 hd) }
  exact ⟨fun w hs => (h.out w (key hs)).mono fun e w' ⟨v, l2, h1, h2, h3⟩ => ⟨v, l2, h1, h2, key h3⟩⟩
theorem Spec.lead {P : Program} {f : FuncId} {args : List Value} {g : Nat} {a : LA} {s : LM} {l r : List Chunk} {post : Value → List Chunk → Prop}
    (h : s.bs = a.vs.map VH.vm → s.pend = pndM a.po → (s.p = 0 ∨ a.gm.isSome = true) → Spec P f args (leadL g a s ++ l) r post) : Spec P f args (leadC g a s :: l) r post := by
  refine Spec.open ?_
  refine Spec.fact (d := pureC (s.bs = a.vs.map VH.vm ∧ s.pend = pndM a.po ∧ (s.p = 0 ∨ a.gm.isSome = true))) (φ := s.bs = a.vs.map VH.vm ∧ s.pend = pndM a.po ∧ (s.p = 0 ∨ a.gm.isSome = true)) ?_ (fun w h => h) fun h1 => ?_
  · exact Rd.there (Rd.there (Rd.there (Rd.here (Sub.refl _))))
  exact h h1.1 h1.2.1 h1.2.2
theorem Spec.leadR {P : Program} {f : FuncId} {args : List Value} {g : Nat} {a : LA} {s : LM} {l r : List Chunk} {post : Value → List Chunk → Prop}
    (h : s.bs = a.vs.map VH.vm → s.pend = pndM a.po → (s.p = 0 ∨ a.gm.isSome = true) → Spec P f args l (leadL g a s ++ r) post) : Spec P f args l (leadC g a s :: r) post := by
  refine Spec.openRS ?_
  refine Spec.fact (d := pureC (s.bs = a.vs.map VH.vm ∧ s.pend = pndM a.po ∧ (s.p = 0 ∨ a.gm.isSome = true))) (φ := s.bs = a.vs.map VH.vm ∧ s.pend = pndM a.po ∧ (s.p = 0 ∨ a.gm.isSome = true)) ?_ (fun w h => h) fun h1 => ?_
  · have hm : ∀ l : List Chunk, Rd (pureC (s.bs = a.vs.map VH.vm ∧ s.pend = pndM a.po ∧ (s.p = 0 ∨ a.gm.isSome = true))) (l ++ (leadL g a s ++ r)) := by
      intro l
      induction l with
      | nil => exact Rd.there (Rd.there (Rd.there (Rd.here (Sub.refl _))))
      | cons c l ih => exact Rd.there ih
    exact hm l
  exact h h1.1 h1.2.1 h1.2.2
theorem IClone_spec (A : Option Addr) (c : Nat) (xs : List Int) (h : xs.length ≤ 1000000) : Spec Tryd.prog 45 [.slice A xs.length c] [] [iR A c xs.length xs]
    (fun v l' => ∃ A' c', v = .slice A' xs.length c' ∧ l' = [iO A' c' 3 xs.length xs]) := by
  cases A with
  | none =>
    refine Spec.fact (d := iR none c xs.length xs) (φ := xs = []) (Rd.here (Sub.refl _)) (fun w hw => by have := sliceC_nil rfl w hw; simpa [i64s] using this) fun hx => ?_
    subst hx
    refine Spec.intro Tryd.func45 rfl rfl Tryd.ntmps45 rfl fun w0 => ?_
    (all_goals (refine WC.auto ?_; (conv => whnf))); repeat' (first
          | ((with_reducible refine WB.auto ?_); (conv => whnf))
          | ((with_reducible refine WCB.auto ?_); (conv => whnf))
          | ((with_reducible refine Ob.at ?_); first | (refine Ob.mk (by first | omega | exact u8_bound _ | (have := u8_bound; omega) | (simp only [List.length_drop, List.length_take, List.length_append, List.length_replicate, List.length_set, List.length_cons, List.length_nil, Nat.min_def]; omega)) ?_; (conv => whnf)) | (refine Ob.mk' ?_ ?_; (conv => whnf)))
          | (refine spl_mk (fun hc => ?_) (fun hc => ?_) <;> (try simp only [Bool.not_eq_false', and_self, and_true, true_and, not_true, Bool.not_eq_true', Bool.not_false, Bool.not_true, decide_eq_true_eq, decide_eq_false_iff_not, Bool.false_eq_true, reduceCtorEq, Bool.true_eq_false, ne_eq, Decidable.not_not, Int.not_lt, Int.not_le, beq_self_eq_true, eq_self, not_true_eq_false, not_false_eq_true, Bool.not_eq_eq_eq_not, Bool.not_eq_true, Bool.not_eq_false, beq_iff_eq, beq_eq_false_iff_ne] at hc) <;> (try (exfalso; omega)) <;> (conv => whnf))
          | ((with_reducible refine NatK.at ?_); first | ((with_reducible refine NatK.cast ?_); (conv => whnf)) | (refine NatK.sym (by first | omega | exact u8_bound _ | (have := u8_bound; omega) | (simp only [List.length_drop, List.length_take, List.length_append, List.length_replicate, List.length_set, List.length_cons, List.length_nil, Nat.min_def]; omega)) (fun m hm => ?_); (conv => whnf)))
          | (intro q hq; (conv => whnf))
          | ((with_reducible refine W.at 5 ?_); first | ((refine W.stp (Stp.buildI [] rfl rfl rfl rfl rfl) rfl rfl rfl ?_; rintro _ _ ⟨g5, rfl, rfl⟩); all_goals ((refine W.auto ?_); (conv => whnf))))
          | ((with_reducible refine W.at 7 ?_); first | ((refine W.stp (Stp.copyI rfl rfl rdA rfl (by omega) (by omega)) rfl rfl rfl ?_; rintro _ _ ⟨A2_7, c2_7, rfl, rfl⟩); all_goals ((refine W.auto ?_); (conv => whnf))) | ((refine W.stp (Stp.appendI rfl rfl pkA rdA rfl (by omega) (by omega)) rfl rfl rfl ?_; rintro _ _ ⟨A2_7, c2_7, rfl, rfl⟩); all_goals ((refine W.auto ?_); (conv => whnf))))
          | refine Exists.intro _ (And.intro (resv_rfl rfl) ?_))
    all_goals first | exact ⟨_, ⟨none, 0, rfl, rfl⟩, _, .triv Triv.nilRow .nil⟩ | first | exact ⟨_, ⟨_, _, rfl, rfl⟩, _, pksA⟩ | skip
  | some a =>
    refine Spec.intro Tryd.func45 rfl rfl Tryd.ntmps45 rfl fun w0 => ?_
    (all_goals (refine WC.auto ?_; (conv => whnf))); repeat' (first
          | ((with_reducible refine WB.auto ?_); (conv => whnf))
          | ((with_reducible refine WCB.auto ?_); (conv => whnf))
          | ((with_reducible refine Ob.at ?_); first | (refine Ob.mk (by first | omega | exact u8_bound _ | (have := u8_bound; omega) | (simp only [List.length_drop, List.length_take, List.length_append, List.length_replicate, List.length_set, List.length_cons, List.length_nil, Nat.min_def]; omega)) ?_; (conv => whnf)) | (refine Ob.mk' ?_ ?_; (conv => whnf)))
          | (refine spl_mk (fun hc => ?_) (fun hc => ?_) <;> (try simp only [Bool.not_eq_false', and_self, and_true, true_and, not_true, Bool.not_eq_true', Bool.not_false, Bool.not_true, decide_eq_true_eq, decide_eq_false_iff_not, Bool.false_eq_true, reduceCtorEq, Bool.true_eq_false, ne_eq, Decidable.not_not, Int.not_lt, Int.not_le, beq_self_eq_true, eq_self, not_true_eq_false, not_false_eq_true, Bool.not_eq_eq_eq_not, Bool.not_eq_true, Bool.not_eq_false, beq_iff_eq, beq_eq_false_iff_ne] at hc) <;> (try (exfalso; omega)) <;> (conv => whnf))
          | ((with_reducible refine NatK.at ?_); first | ((with_reducible refine NatK.cast ?_); (conv => whnf)) | (refine NatK.sym (by first | omega | exact u8_bound _ | (have := u8_bound; omega) | (simp only [List.length_drop, List.length_take, List.length_append, List.length_replicate, List.length_set, List.length_cons, List.length_nil, Nat.min_def]; omega)) (fun m hm => ?_); (conv => whnf)))
          | (intro q hq; (conv => whnf))
          | ((with_reducible refine W.at 5 ?_); first | ((refine W.stp (Stp.buildI [] rfl rfl rfl rfl rfl) rfl rfl rfl ?_; rintro _ _ ⟨g5, rfl, rfl⟩); all_goals ((refine W.auto ?_); (conv => whnf))))
          | ((with_reducible refine W.at 7 ?_); first | ((refine W.stp (Stp.copyI rfl rfl rdA rfl (by omega) (by omega)) rfl rfl rfl ?_; rintro _ _ ⟨A2_7, c2_7, rfl, rfl⟩); all_goals ((refine W.auto ?_); (conv => whnf))) | ((refine W.stp (Stp.appendI rfl rfl pkA rdA rfl (by omega) (by omega)) rfl rfl rfl ?_; rintro _ _ ⟨A2_7, c2_7, rfl, rfl⟩); all_goals ((refine W.auto ?_); (conv => whnf))))
          | refine Exists.intro _ (And.intro (resv_rfl rfl) ?_))
    all_goals simp only [Nat.zero_add, List.nil_append]
    all_goals first | exact ⟨_, ⟨_, _, rfl, rfl⟩, _, pksA⟩ | skip

theorem copied_spec (num full : Int) (A : Option Addr) (c : Nat) (xs : List Int) (h : xs.length ≤ 1000000) : Spec Tryd.prog 33 [.agg #[.int .i64 num, .int .i64 full, .slice A xs.length c]] [] [iR A c xs.length xs]
    (fun v l' => ∃ A' c', v = .agg #[.int .i64 num, .int .i64 full, .slice A' xs.length c'] ∧ l' = [iO A' c' 3 xs.length xs]) := by
  refine Spec.introM Tryd.func33 rfl rfl Tryd.ntmps33 rfl fun w0 => ?_
  (all_goals (refine WC.auto ?_; (conv => whnf))); repeat' (first
          | ((with_reducible refine WB.auto ?_); (conv => whnf))
          | ((with_reducible refine WCB.auto ?_); (conv => whnf))
          | ((with_reducible refine Ob.at ?_); first | (refine Ob.mk (by first | omega | exact u8_bound _ | (have := u8_bound; omega) | (simp only [List.length_drop, List.length_take, List.length_append, List.length_replicate, List.length_set, List.length_cons, List.length_nil, Nat.min_def]; omega)) ?_; (conv => whnf)) | (refine Ob.mk' ?_ ?_; (conv => whnf)))
          | (refine spl_mk (fun hc => ?_) (fun hc => ?_) <;> (try simp only [Bool.not_eq_false', and_self, and_true, true_and, not_true, Bool.not_eq_true', Bool.not_false, Bool.not_true, decide_eq_true_eq, decide_eq_false_iff_not, Bool.false_eq_true, reduceCtorEq, Bool.true_eq_false, ne_eq, Decidable.not_not, Int.not_lt, Int.not_le, beq_self_eq_true, eq_self, not_true_eq_false, not_false_eq_true, Bool.not_eq_eq_eq_not, Bool.not_eq_true, Bool.not_eq_false, beq_iff_eq, beq_eq_false_iff_ne] at hc) <;> (try (exfalso; omega)) <;> (conv => whnf))
          | ((with_reducible refine NatK.at ?_); first | ((with_reducible refine NatK.cast ?_); (conv => whnf)) | (refine NatK.sym (by first | omega | exact u8_bound _ | (have := u8_bound; omega) | (simp only [List.length_drop, List.length_take, List.length_append, List.length_replicate, List.length_set, List.length_cons, List.length_nil, Nat.min_def]; omega)) (fun m hm => ?_); (conv => whnf)))
          | (intro q hq; (conv => whnf))
          | ((with_reducible refine W.at 1 ?_); first | ((refine W.stp (Stp.boxA rfl) rfl rfl rfl ?_; rintro _ _ ⟨g1, rfl, rfl⟩); all_goals ((refine W.auto ?_); (conv => whnf))))
          | ((with_reducible refine W.at 2 ?_); first | ((refine W.stp (Stp.allocA rfl) rfl rfl rfl ?_; rintro _ _ ⟨g2, rfl, rfl⟩); all_goals ((refine W.auto ?_); (conv => whnf))))
          | ((with_reducible refine W.at 4 ?_); first | (refine W.ev (Ev.load rfl rfl rdA rfl) rfl rfl rfl ?_; all_goals ((refine W.auto ?_); (conv => whnf))))
          | ((with_reducible refine W.at 5 ?_); first | ((refine W.stp (Stp.cal rfl rfl (IClone_spec _ _ _ (by assumption)) pksA rdsA) rfl rfl rfl ?_; rintro _ _ ⟨_, ⟨A5, c5, rfl, rfl⟩, rfl⟩); all_goals ((refine W.auto ?_); (conv => whnf))))
          | ((with_reducible refine W.atS 6 ?_); first | (refine stW1 rfl rfl rfl pkA ?_; (conv => whnf)))
          | ((with_reducible refine W.at 7 ?_); first | (refine W.ev (Ev.loadAll rfl rfl rdA (by first | rfl | (simp; done) | (simp only [u8s_length]; omega) | (simp only [u8s_length]; assumption))) rfl rfl rfl ?_; all_goals ((refine W.auto ?_); (conv => whnf))) | (refine W.ev (Ev.loadAgg rfl rfl rdA (by exact Nat.le_of_ble_eq_true rfl)) rfl rfl rfl ?_; all_goals ((refine W.auto ?_); (conv => whnf))))
          | ((with_reducible refine W.atS 2 ?_); first | (refine stWP rfl rfl (by intro v hv; (repeat' (first | rfl | (cases hv; done) | (rcases List.mem_cons.1 hv with rfl | hv)))) (by rfl) pkA ?_; (conv => whnf)))
          | refine Exists.intro [_] (And.intro (resM_mk ⟨⟨_, _, _, rfl, by (repeat (first | exact Rds.nil | refine Rds.cons ?_ ?_ | exact Rd.here (Sub.refl _) | exact Rd.here Sub.row | refine Rd.there ?_)); fail_if_success (focus skip), CellVal.all rfl (by rfl)⟩, trivial⟩) ?_))
  all_goals first | exact ⟨_, ⟨_, _, rfl, rfl⟩, _, pksA⟩ | skip

theorem copied0_spec : Spec Tryd.prog 33 [.agg #[.int .i64 0, .int .i64 0, .slice none 0 0]] [] []
    (fun v l' => ∃ A' c', v = .agg #[.int .i64 0, .int .i64 0, .slice A' 0 c'] ∧ l' = [iO A' c' 3 0 []]) := by
  have h := (copied_spec 0 0 none 0 [] (by simp)).frame (l := []) (r := []) (PicksT.nil) (Rds.cons (Rd.triv Triv.nilI) Rds.nil)
  exact h.mono fun v l' ⟨l2, ⟨A, c, h1, h2⟩, h3⟩ => ⟨A, c, h1, by rw [h3, h2]; rfl⟩

end Go.SX
