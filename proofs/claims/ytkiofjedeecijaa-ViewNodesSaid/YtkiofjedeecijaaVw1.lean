/- Views: rows; what is not there; the last one. -/
import Derived.Test.YtkiofjedeecijaaNm10
namespace Go.SX
open Go Go.RowKit Go.Proofs
set_option linter.unusedVariables false
set_option linter.unusedSimpArgs false
set_option maxHeartbeats 4000000
/-- A row. -/
structure VR where
  step : Int
  node : Int
  kind : Int
  bs : List UInt8
deriving DecidableEq
instance : Inhabited VR := ⟨⟨0, 0, 0, []⟩⟩
/-- A row in memory. -/
structure RH where
  step : Int
  node : Int
  kind : Int
  A : Option Addr
  c : Nat
  bs : List UInt8
instance : Inhabited RH := ⟨⟨0, 0, 0, none, 0, []⟩⟩
def RH.vr (h : RH) : VR := ⟨h.step, h.node, h.kind, h.bs⟩
def RH.cells (h : RH) : List Value := [.int .i64 h.step, .int .i64 h.node, .int .i64 h.kind, .slice h.A h.bs.length h.c]
def RH.own (h : RH) : Chunk := bO h.A h.c 5 h.bs.length h.bs
abbrev rhV (h : RH) : Value := .agg #[.int .i64 h.step, .int .i64 h.node, .int .i64 h.kind, .slice h.A h.bs.length h.c]
abbrev ownF : Value := .func (.func 48) #[] #[]
/-- A view. -/
structure VA where
  A : Option Addr
  c : Nat
  hs : List RH
def viewL (g : Nat) (a : VA) : List Chunk := [cellsC g 64 [.slice a.A a.hs.length a.c, ownF], rowC a.A a.c 37 4 a.hs.length (recs RH.cells a.hs), starM RH.own a.hs]
def viewC (g : Nat) (a : VA) : Chunk := starC (viewL g a)
theorem Ev.indexRecE {P : Program} {e : Env} {cs : List Chunk} {T : TypeId} {pos : String} {af : Array Edge} {gu : Option (Nat × Bool)} {d : Option Tmp} {t el : TypeId} {z : Value} {sz by_ n c k s : Nat} {i : Int} {A : Option Addr} {kk : IntKind} {x y : Operand} {us : List Value} [hu : Und P t (.slice el)] [hi : Inf P el z sz by_]
    (hx : ev e x = some (.slice A n c)) (hy : ev e y = some (.int kk i)) (he : i = (k : Int)) (hr : Rd (sliceC A c s n us) cs) (hb : k < n) (hs : s = sz) (h0 : 0 < sz) :
    Ev P e cs ⟨d, .indexAddr t x y, T, pos, af, gu⟩ (ptrAt A (k * s)) := by
  subst hs he
  have := Ev.indexAddr (P := P) (t := t) (cs := cs) (d := d) (T := T) (pos := pos) (af := af) (gu := gu) hx hy hr ⟨by omega, by omega⟩ h0
  rwa [Int.toNat_natCast] at this
theorem vcopied_spec (st nd kd : Int) (A : Option Addr) (c n : Nat) (bs : List UInt8) (hn : n = bs.length) (h : bs.length ≤ 1000000) : Spec Try.prog 48 [.agg #[.int .i64 st, .int .i64 nd, .int .i64 kd, .slice A n c]] [] [bR A c n bs]
    (fun v l' => ∃ A' c', v = .agg #[.int .i64 st, .int .i64 nd, .int .i64 kd, .slice A' bs.length c'] ∧ l' = [bO A' c' 5 bs.length bs]) := by
  subst hn
  refine Spec.introM Try.func48 rfl rfl Try.ntmps48 rfl fun w0 => ?_
  (all_goals (refine WC.auto ?_; (conv => whnf))); repeat' (first
          | ((with_reducible refine WB.auto ?_); (conv => whnf))
          | ((with_reducible refine WCB.auto ?_); (conv => whnf))
          | ((with_reducible refine Ob.at ?_); first | (refine Ob.mk (by first | omega | exact u8_bound _ | (have := u8_bound; omega) | (simp only [List.length_drop, List.length_take, List.length_append, List.length_replicate, List.length_set, List.length_cons, List.length_nil, Nat.min_def]; omega)) ?_; (conv => whnf)) | (refine Ob.mk' ?_ ?_; (conv => whnf)))
          | (refine spl_mk (fun hc => ?_) (fun hc => ?_) <;> (try simp only [Bool.not_eq_false', and_self, and_true, true_and, not_true, Bool.not_eq_true', Bool.not_false, Bool.not_true, decide_eq_true_eq, decide_eq_false_iff_not, Bool.false_eq_true, reduceCtorEq, Bool.true_eq_false, ne_eq, Decidable.not_not, Int.not_lt, Int.not_le, beq_self_eq_true, eq_self, not_true_eq_false, not_false_eq_true, Bool.not_eq_eq_eq_not, Bool.not_eq_true, Bool.not_eq_false, beq_iff_eq, beq_eq_false_iff_ne] at hc) <;> (try (exfalso; omega)) <;> (conv => whnf))
          | ((with_reducible refine NatK.at ?_); first | ((with_reducible refine NatK.cast ?_); (conv => whnf)) | (refine NatK.sym (by first | omega | exact u8_bound _ | (have := u8_bound; omega) | (simp only [List.length_drop, List.length_take, List.length_append, List.length_replicate, List.length_set, List.length_cons, List.length_nil, Nat.min_def]; omega)) (fun m hm => ?_); (conv => whnf)))
          | (intro q hq; (conv => whnf))
          | ((with_reducible refine W.at 1 ?_); first | ((refine W.stp (Stp.boxA rfl) rfl rfl rfl ?_; rintro _ _ ⟨g1, rfl, rfl⟩); all_goals ((refine W.auto ?_); (conv => whnf))))
          | ((with_reducible refine W.at 2 ?_); first | ((refine W.stp (Stp.allocA rfl) rfl rfl rfl ?_; rintro _ _ ⟨g2, rfl, rfl⟩); all_goals ((refine W.auto ?_); (conv => whnf))))
          | ((with_reducible refine W.at 4 ?_); first | (refine W.ev (Ev.load rfl rfl rdA rfl) rfl rfl rfl ?_; all_goals ((refine W.auto ?_); (conv => whnf))))
          | ((with_reducible refine W.at 5 ?_); first | ((refine W.stp (Stp.cal rfl rfl (Clone_spec _ _ _ _ (by omega)) pksA rdsA) rfl rfl rfl ?_; rintro _ _ ⟨_, ⟨A5, c5, rfl, rfl⟩, rfl⟩); all_goals ((refine W.auto ?_); (conv => whnf))))
          | ((with_reducible refine W.atS 6 ?_); first | (refine stW1 rfl rfl rfl pkA ?_; (conv => whnf)))
          | ((with_reducible refine W.at 7 ?_); first | (refine W.ev (Ev.loadAll rfl rfl rdA (by first | rfl | (simp; done) | (simp only [u8s_length]; omega) | (simp only [u8s_length]; assumption))) rfl rfl rfl ?_; all_goals ((refine W.auto ?_); (conv => whnf))) | (refine W.ev (Ev.loadAgg rfl rfl rdA (by exact Nat.le_of_ble_eq_true rfl)) rfl rfl rfl ?_; all_goals ((refine W.auto ?_); (conv => whnf))))
          | ((with_reducible refine W.atS 2 ?_); first | (refine stWP rfl rfl (by intro v hv; (repeat' (first | rfl | (cases hv; done) | (rcases List.mem_cons.1 hv with rfl | hv)))) (by rfl) pkA ?_; (conv => whnf)))
          | refine Exists.intro [_] (And.intro (resM_mk ⟨⟨_, _, _, rfl, by (repeat (first | exact Rds.nil | refine Rds.cons ?_ ?_ | exact Rd.here (Sub.refl _) | exact Rd.here Sub.row | refine Rd.there ?_)); fail_if_success (focus skip), CellVal.all rfl (by rfl)⟩, trivial⟩) ?_))
  all_goals first | exact ⟨_, ⟨_, _, rfl, rfl⟩, _, pksA⟩ | skip

section
variable (g : Nat) (a : VA)
theorem vnone_spec (v0 : Value) : Spec Try.prog 24 [.pointer (some ⟨g, 0, none⟩)] [] [cellsC g 64 [v0, ownF]] (fun v l' => v = .bool false ∧ l' = []) := by
  refine Spec.intro Try.func24 rfl rfl Try.ntmps24 rfl fun w0 => ?_
  (all_goals (refine WC.auto ?_; (conv => whnf))); repeat' (first
          | ((with_reducible refine WB.auto ?_); (conv => whnf))
          | ((with_reducible refine WCB.auto ?_); (conv => whnf))
          | ((with_reducible refine Ob.at ?_); first | (refine Ob.mk (by first | omega | exact u8_bound _ | (have := u8_bound; omega) | (simp only [List.length_drop, List.length_take, List.length_append, List.length_replicate, List.length_set, List.length_cons, List.length_nil, Nat.min_def]; omega)) ?_; (conv => whnf)) | (refine Ob.mk' ?_ ?_; (conv => whnf)))
          | (refine spl_mk (fun hc => ?_) (fun hc => ?_) <;> (try simp only [Bool.not_eq_false', and_self, and_true, true_and, not_true, Bool.not_eq_true', Bool.not_false, Bool.not_true, decide_eq_true_eq, decide_eq_false_iff_not, Bool.false_eq_true, reduceCtorEq, Bool.true_eq_false, ne_eq, Decidable.not_not, Int.not_lt, Int.not_le, beq_self_eq_true, eq_self, not_true_eq_false, not_false_eq_true, Bool.not_eq_eq_eq_not, Bool.not_eq_true, Bool.not_eq_false, beq_iff_eq, beq_eq_false_iff_ne] at hc) <;> (try (exfalso; omega)) <;> (conv => whnf))
          | ((with_reducible refine NatK.at ?_); first | ((with_reducible refine NatK.cast ?_); (conv => whnf)) | (refine NatK.sym (by first | omega | exact u8_bound _ | (have := u8_bound; omega) | (simp only [List.length_drop, List.length_take, List.length_append, List.length_replicate, List.length_set, List.length_cons, List.length_nil, Nat.min_def]; omega)) (fun m hm => ?_); (conv => whnf)))
          | (intro q hq; (conv => whnf))
          | ((with_reducible refine W.at 10 ?_); first | (refine W.ev (Ev.load rfl rfl rdA rfl) rfl rfl rfl ?_; all_goals ((refine W.auto ?_); (conv => whnf))))
          | refine Exists.intro _ (And.intro (resv_rfl rfl) ?_))
  all_goals first | exact ⟨_, ⟨rfl, rfl⟩, _, pksA⟩ | skip

theorem vNew_spec : Spec Try.prog 30 [] [] [] (fun v l' => ∃ g, v = .pointer (some ⟨g, 0, none⟩) ∧ l' = [cellsC g 64 [.slice none 0 0, ownF]]) := by
  refine Spec.intro Try.func30 rfl rfl Try.ntmps30 rfl fun w0 => ?_
  (all_goals (refine WC.auto ?_; (conv => whnf))); repeat' (first
          | ((with_reducible refine WB.auto ?_); (conv => whnf))
          | ((with_reducible refine WCB.auto ?_); (conv => whnf))
          | ((with_reducible refine Ob.at ?_); first | (refine Ob.mk (by first | omega | exact u8_bound _ | (have := u8_bound; omega) | (simp only [List.length_drop, List.length_take, List.length_append, List.length_replicate, List.length_set, List.length_cons, List.length_nil, Nat.min_def]; omega)) ?_; (conv => whnf)) | (refine Ob.mk' ?_ ?_; (conv => whnf)))
          | (refine spl_mk (fun hc => ?_) (fun hc => ?_) <;> (try simp only [Bool.not_eq_false', and_self, and_true, true_and, not_true, Bool.not_eq_true', Bool.not_false, Bool.not_true, decide_eq_true_eq, decide_eq_false_iff_not, Bool.false_eq_true, reduceCtorEq, Bool.true_eq_false, ne_eq, Decidable.not_not, Int.not_lt, Int.not_le, beq_self_eq_true, eq_self, not_true_eq_false, not_false_eq_true, Bool.not_eq_eq_eq_not, Bool.not_eq_true, Bool.not_eq_false, beq_iff_eq, beq_eq_false_iff_ne] at hc) <;> (try (exfalso; omega)) <;> (conv => whnf))
          | ((with_reducible refine NatK.at ?_); first | ((with_reducible refine NatK.cast ?_); (conv => whnf)) | (refine NatK.sym (by first | omega | exact u8_bound _ | (have := u8_bound; omega) | (simp only [List.length_drop, List.length_take, List.length_append, List.length_replicate, List.length_set, List.length_cons, List.length_nil, Nat.min_def]; omega)) (fun m hm => ?_); (conv => whnf)))
          | (intro q hq; (conv => whnf))
          | ((with_reducible refine W.at 3 ?_); first | ((refine W.stp (Stp.boxA rfl) rfl rfl rfl ?_; rintro _ _ ⟨g3, rfl, rfl⟩); all_goals ((refine W.auto ?_); (conv => whnf))))
          | refine Exists.intro _ (And.intro (resv_rfl rfl) ?_))
  all_goals first | exact ⟨_, ⟨_, rfl, rfl⟩, _, pksA⟩ | skip
/-- A row may be. -/
def mayP (r : VR) : Prop := (0 ≤ r.node ∧ r.node < 3 ∨ 10 ≤ r.node ∧ r.node < 14) ∧ 0 ≤ r.step ∧ r.step ≤ 9007199254740991 ∧ 1 ≤ r.kind ∧ r.kind ≤ 3 ∧ r.bs.length ≤ 65536
instance (r : VR) : Decidable (mayP r) := by unfold mayP; infer_instance
theorem may_spec (st nd kd : Int) (A : Option Addr) (c n : Nat) (bs : List UInt8) (hn : n = bs.length) : Spec Try.prog 33 [.agg #[.int .i64 st, .int .i64 nd, .int .i64 kd, .slice A n c]] [] [] (fun v l' => v = .bool (decide (mayP ⟨st, nd, kd, bs⟩)) ∧ l' = []) := by
  subst hn
  refine Spec.intro Try.func33 rfl rfl Try.ntmps33 rfl fun w0 => ?_
  (all_goals (refine WC.auto ?_; (conv => whnf))); repeat' (first
          | ((with_reducible refine WB.auto ?_); (conv => whnf))
          | ((with_reducible refine WCB.auto ?_); (conv => whnf))
          | ((with_reducible refine Ob.at ?_); first | (refine Ob.mk (by first | omega | exact u8_bound _ | (have := u8_bound; omega) | (simp only [List.length_drop, List.length_take, List.length_append, List.length_replicate, List.length_set, List.length_cons, List.length_nil, Nat.min_def]; omega)) ?_; (conv => whnf)) | (refine Ob.mk' ?_ ?_; (conv => whnf)))
          | (refine spl_mk (fun hc => ?_) (fun hc => ?_) <;> (try simp only [Bool.not_eq_false', and_self, and_true, true_and, not_true, Bool.not_eq_true', Bool.not_false, Bool.not_true, decide_eq_true_eq, decide_eq_false_iff_not, Bool.false_eq_true, reduceCtorEq, Bool.true_eq_false, ne_eq, Decidable.not_not, Int.not_lt, Int.not_le, beq_self_eq_true, eq_self, not_true_eq_false, not_false_eq_true, Bool.not_eq_eq_eq_not, Bool.not_eq_true, Bool.not_eq_false, beq_iff_eq, beq_eq_false_iff_ne] at hc) <;> (try (exfalso; omega)) <;> (conv => whnf))
          | ((with_reducible refine NatK.at ?_); first | ((with_reducible refine NatK.cast ?_); (conv => whnf)) | (refine NatK.sym (by first | omega | exact u8_bound _ | (have := u8_bound; omega) | (simp only [List.length_drop, List.length_take, List.length_append, List.length_replicate, List.length_set, List.length_cons, List.length_nil, Nat.min_def]; omega)) (fun m hm => ?_); (conv => whnf)))
          | (intro q hq; (conv => whnf))
          | ((with_reducible refine W.at 1 ?_); first | ((refine W.stp (Stp.boxA rfl) rfl rfl rfl ?_; rintro _ _ ⟨g1, rfl, rfl⟩); all_goals ((refine W.auto ?_); (conv => whnf))))
          | ((with_reducible refine W.at 6 ?_); first | (refine W.ev (Ev.load rfl rfl rdA rfl) rfl rfl rfl ?_; all_goals ((refine W.auto ?_); (conv => whnf))) | (refine W.ev (Ev.loadI rfl rdA (by first | omega | (simp only [List.length_drop, List.length_take, List.length_append, List.length_replicate, List.length_set, List.length_cons, List.length_nil, Nat.min_def]; omega) | (simp; omega))) rfl rfl rfl ?_; all_goals ((refine W.auto ?_); (conv => whnf))))
          | ((with_reducible refine W.at 10 ?_); first | (refine W.ev (Ev.load rfl rfl rdA rfl) rfl rfl rfl ?_; all_goals ((refine W.auto ?_); (conv => whnf))) | (refine W.ev (Ev.loadI rfl rdA (by first | omega | (simp only [List.length_drop, List.length_take, List.length_append, List.length_replicate, List.length_set, List.length_cons, List.length_nil, Nat.min_def]; omega) | (simp; omega))) rfl rfl rfl ?_; all_goals ((refine W.auto ?_); (conv => whnf))))
          | ((with_reducible refine W.at 14 ?_); first | (refine W.ev (Ev.load rfl rfl rdA rfl) rfl rfl rfl ?_; all_goals ((refine W.auto ?_); (conv => whnf))) | (refine W.ev (Ev.loadI rfl rdA (by first | omega | (simp only [List.length_drop, List.length_take, List.length_append, List.length_replicate, List.length_set, List.length_cons, List.length_nil, Nat.min_def]; omega) | (simp; omega))) rfl rfl rfl ?_; all_goals ((refine W.auto ?_); (conv => whnf))))
          | ((with_reducible refine W.at 18 ?_); first | (refine W.ev (Ev.load rfl rfl rdA rfl) rfl rfl rfl ?_; all_goals ((refine W.auto ?_); (conv => whnf))) | (refine W.ev (Ev.loadI rfl rdA (by first | omega | (simp only [List.length_drop, List.length_take, List.length_append, List.length_replicate, List.length_set, List.length_cons, List.length_nil, Nat.min_def]; omega) | (simp; omega))) rfl rfl rfl ?_; all_goals ((refine W.auto ?_); (conv => whnf))))
          | ((with_reducible refine W.at 27 ?_); first | (refine W.ev (Ev.load rfl rfl rdA rfl) rfl rfl rfl ?_; all_goals ((refine W.auto ?_); (conv => whnf))) | (refine W.ev (Ev.loadI rfl rdA (by first | omega | (simp only [List.length_drop, List.length_take, List.length_append, List.length_replicate, List.length_set, List.length_cons, List.length_nil, Nat.min_def]; omega) | (simp; omega))) rfl rfl rfl ?_; all_goals ((refine W.auto ?_); (conv => whnf))))
          | ((with_reducible refine W.at 32 ?_); first | (refine W.ev (Ev.load rfl rfl rdA rfl) rfl rfl rfl ?_; all_goals ((refine W.auto ?_); (conv => whnf))) | (refine W.ev (Ev.loadI rfl rdA (by first | omega | (simp only [List.length_drop, List.length_take, List.length_append, List.length_replicate, List.length_set, List.length_cons, List.length_nil, Nat.min_def]; omega) | (simp; omega))) rfl rfl rfl ?_; all_goals ((refine W.auto ?_); (conv => whnf))))
          | ((with_reducible refine W.at 37 ?_); first | (refine W.ev (Ev.load rfl rfl rdA rfl) rfl rfl rfl ?_; all_goals ((refine W.auto ?_); (conv => whnf))) | (refine W.ev (Ev.loadI rfl rdA (by first | omega | (simp only [List.length_drop, List.length_take, List.length_append, List.length_replicate, List.length_set, List.length_cons, List.length_nil, Nat.min_def]; omega) | (simp; omega))) rfl rfl rfl ?_; all_goals ((refine W.auto ?_); (conv => whnf))))
          | ((with_reducible refine W.at 42 ?_); first | (refine W.ev (Ev.load rfl rfl rdA rfl) rfl rfl rfl ?_; all_goals ((refine W.auto ?_); (conv => whnf))) | (refine W.ev (Ev.loadI rfl rdA (by first | omega | (simp only [List.length_drop, List.length_take, List.length_append, List.length_replicate, List.length_set, List.length_cons, List.length_nil, Nat.min_def]; omega) | (simp; omega))) rfl rfl rfl ?_; all_goals ((refine W.auto ?_); (conv => whnf))))
          | ((with_reducible refine W.at 47 ?_); first | (refine W.ev (Ev.load rfl rfl rdA rfl) rfl rfl rfl ?_; all_goals ((refine W.auto ?_); (conv => whnf))))
          | refine Exists.intro _ (And.intro (resv_rfl rfl) ?_))
  all_goals first
    | exact ⟨_, ⟨congrArg Value.bool (by symm; apply decide_eq_false; unfold mayP; dsimp only; omega), rfl⟩, _, .nil⟩
    | exact ⟨_, ⟨congrArg Value.bool (by symm; apply decide_eq_true; unfold mayP; dsimp only; omega), rfl⟩, _, .nil⟩
    | exact ⟨_, ⟨congrArg Value.bool (by unfold mayP; dsimp only; exact decide_eq_decide.2 (by omega)), rfl⟩, _, .nil⟩
    | skip
/-- The last one's step. -/
def lastS (rs : List VR) : Int := match rs.getLast? with
  | none => 0
  | some r => r.step
theorem last_nth {hs : List RH} (h : 0 < hs.length) : lastS (hs.map RH.vr) = (nth hs (hs.length - 1)).step := by
  unfold lastS
  rw [List.getLast?_map, List.getLast?_eq_getElem?, List.getElem?_eq_getElem (by omega), nth_get (by omega)]
  rfl
theorem last0_spec : Spec Try.prog 34 [.pointer (some ⟨g, 0, none⟩)] [] [cellsC g 64 [.slice none 0 0, ownF]] (fun v l' => v = .int .i64 0 ∧ l' = []) := by
  refine Spec.intro Try.func34 rfl rfl Try.ntmps34 rfl fun w0 => ?_
  (all_goals (refine WC.auto ?_; (conv => whnf))); repeat' (first
          | ((with_reducible refine WB.auto ?_); (conv => whnf))
          | ((with_reducible refine WCB.auto ?_); (conv => whnf))
          | ((with_reducible refine WDB.auto ?_); (conv => whnf))
          | ((with_reducible refine Ob.at ?_); first | (refine Ob.mk (by first | omega | exact u8_bound _ | (have := u8_bound; omega) | (simp only [List.length_drop, List.length_take, List.length_append, List.length_replicate, List.length_set, List.length_cons, List.length_nil, Nat.min_def]; omega)) ?_; (conv => whnf)) | (refine Ob.mk' ?_ ?_; (conv => whnf)))
          | (refine spl_mk (fun hc => ?_) (fun hc => ?_) <;> (try simp only [Bool.not_eq_false', and_self, and_true, true_and, not_true, Bool.not_eq_true', Bool.not_false, Bool.not_true, decide_eq_true_eq, decide_eq_false_iff_not, Bool.false_eq_true, reduceCtorEq, Bool.true_eq_false, ne_eq, Decidable.not_not, Int.not_lt, Int.not_le, beq_self_eq_true, eq_self, not_true_eq_false, not_false_eq_true, Bool.not_eq_eq_eq_not, Bool.not_eq_true, Bool.not_eq_false, beq_iff_eq, beq_eq_false_iff_ne] at hc) <;> (try (exfalso; omega)) <;> (conv => whnf))
          | ((with_reducible refine NatK.at ?_); first | ((with_reducible refine NatK.cast ?_); (conv => whnf)) | (refine NatK.sym (by first | omega | exact u8_bound _ | (have := u8_bound; omega) | (simp only [List.length_drop, List.length_take, List.length_append, List.length_replicate, List.length_set, List.length_cons, List.length_nil, Nat.min_def]; omega)) (fun m hm => ?_); (conv => whnf)))
          | (intro q hq; (conv => whnf))
          | ((with_reducible refine WC.atR 3 ?_); refine WC.draw (id := 3) (ls := []) (.fl 0 (.fl 1 (.fl 2 (.fl 3 (.fl 4 (.fl 5 (.fl 6 (.fl 7 (.fl 8 (.fl 9 (.fl 10 (.fl 11 (.fl 12 (.fl 13 (.fl 14 (.fl 15 .nil)))))))))))))))) (by kernel_rfl) (by kernel_rfl) picksA ?_; refine WD.auto ?_; (conv => whnf))
          | ((with_reducible refine W.at 7 ?_); first | (refine W.ev (Ev.load rfl rfl rdA rfl) rfl rfl rfl ?_; all_goals ((refine W.auto ?_); (conv => whnf))))
          | ((with_reducible refine WO.at 0 ?_); first | (refine WO.auto rfl rfl ?_; (conv => whnf); (fail_if_success (show False))) | (refine WO.off rfl rfl rfl rfl ?_; refine WD.auto ?_; (conv => whnf)))
          | ((with_reducible refine WO.at 1 ?_); first | (refine WO.auto rfl rfl ?_; (conv => whnf); (fail_if_success (show False))) | (refine WO.off rfl rfl rfl rfl ?_; refine WD.auto ?_; (conv => whnf)))
          | ((with_reducible refine WO.at 2 ?_); first | (refine WO.auto rfl rfl ?_; (conv => whnf); (fail_if_success (show False))) | (refine WO.off rfl rfl rfl rfl ?_; refine WD.auto ?_; (conv => whnf)))
          | ((with_reducible refine WO.at 3 ?_); first | (refine WO.auto rfl rfl ?_; (conv => whnf); (fail_if_success (show False))) | (refine WO.off rfl rfl rfl rfl ?_; refine WD.auto ?_; (conv => whnf)))
          | ((with_reducible refine WD.at 4 ?_); first | (refine WD.ev rfl (Ev.load rfl rfl rdA rfl) rfl rfl rfl ?_; all_goals (refine WD.auto ?_; (conv => whnf))))
          | ((with_reducible refine WO.at 4 ?_); first | (refine WO.ev rfl (Ev.load rfl rfl rdA rfl) rfl rfl rfl ?_; all_goals (refine WD.auto ?_; (conv => whnf))) | (refine WO.off rfl rfl rfl rfl ?_; refine WD.auto ?_; (conv => whnf)))
          | ((with_reducible refine WO.at 5 ?_); first | (refine WO.auto rfl rfl ?_; (conv => whnf); (fail_if_success (show False))) | (refine WO.off rfl rfl rfl rfl ?_; refine WD.auto ?_; (conv => whnf)))
          | ((with_reducible refine WO.at 6 ?_); first | (refine WO.auto rfl rfl ?_; (conv => whnf); (fail_if_success (show False))) | (refine WO.off rfl rfl rfl rfl ?_; refine WD.auto ?_; (conv => whnf)))
          | ((with_reducible refine WO.at 7 ?_); first | (refine WO.auto rfl rfl ?_; (conv => whnf); (fail_if_success (show False))) | (refine WO.off rfl rfl rfl rfl ?_; refine WD.auto ?_; (conv => whnf)))
          | ((with_reducible refine WO.at 8 ?_); first | (refine WO.auto rfl rfl ?_; (conv => whnf); (fail_if_success (show False))) | (refine WO.off rfl rfl rfl rfl ?_; refine WD.auto ?_; (conv => whnf)))
          | ((with_reducible refine WD.at 9 ?_); first | (refine WD.ev rfl (Ev.load rfl rfl rdA rfl) rfl rfl rfl ?_; all_goals (refine WD.auto ?_; (conv => whnf))))
          | ((with_reducible refine WO.at 9 ?_); first | (refine WO.ev rfl (Ev.load rfl rfl rdA rfl) rfl rfl rfl ?_; all_goals (refine WD.auto ?_; (conv => whnf))) | (refine WO.off rfl rfl rfl rfl ?_; refine WD.auto ?_; (conv => whnf)))
          | ((with_reducible refine WO.at 10 ?_); first | (refine WO.auto rfl rfl ?_; (conv => whnf); (fail_if_success (show False))) | (refine WO.off rfl rfl rfl rfl ?_; refine WD.auto ?_; (conv => whnf)))
          | ((with_reducible refine WO.at 11 ?_); first | (refine WO.auto rfl rfl ?_; (conv => whnf); (fail_if_success (show False))) | (refine WO.off rfl rfl rfl rfl ?_; refine WD.auto ?_; (conv => whnf)))
          | ((with_reducible refine WD.at 12 ?_); first | (refine WD.ev rfl (Ev.indexRec rfl rfl rdA (by omega) (by rfl)) rfl rfl rfl ?_; all_goals (refine WD.auto ?_; (conv => whnf))))
          | ((with_reducible refine WO.at 12 ?_); first | (refine WO.ev rfl (Ev.indexRec rfl rfl rdA (by omega) (by rfl)) rfl rfl rfl ?_; all_goals (refine WD.auto ?_; (conv => whnf))) | (refine WO.off rfl rfl rfl rfl ?_; refine WD.auto ?_; (conv => whnf)))
          | ((with_reducible refine WO.at 13 ?_); first | (refine WO.auto rfl rfl ?_; (conv => whnf); (fail_if_success (show False))) | (refine WO.off rfl rfl rfl rfl ?_; refine WD.auto ?_; (conv => whnf)))
          | ((with_reducible refine WD.at 14 ?_); first | (refine WD.ev rfl (Ev.loadRecF rfl rfl rdA (by exact fun _ => rfl) (by omega) (by rfl) (by rfl)) rfl rfl rfl ?_; all_goals (refine WD.auto ?_; (conv => whnf))))
          | ((with_reducible refine WO.at 14 ?_); first | (refine WO.ev rfl (Ev.loadRecF rfl rfl rdA (by exact fun _ => rfl) (by omega) (by rfl) (by rfl)) rfl rfl rfl ?_; all_goals (refine WD.auto ?_; (conv => whnf))) | (refine WO.off rfl rfl rfl rfl ?_; refine WD.auto ?_; (conv => whnf)))
          | ((with_reducible refine WO.at 15 ?_); first | (refine WO.auto rfl rfl ?_; (conv => whnf); (fail_if_success (show False))) | (refine WO.off rfl rfl rfl rfl ?_; refine WD.auto ?_; (conv => whnf)))
          | (with_reducible refine WD.one ?_)
          | (with_reducible refine WD.two ?_ ?_)
          | (with_reducible refine WD.three ?_ ?_ ?_)
          | refine Exists.intro _ (And.intro (resv_rfl rfl) ?_))
  all_goals first | exact ⟨_, ⟨rfl, rfl⟩, _, pksA⟩ | skip
theorem last_spec (A : Option Addr) (c : Nat) (hs : List RH) (hl : hs.length ≤ 1000000) : Spec Try.prog 34 [.pointer (some ⟨g, 0, none⟩)] [] [cellsC g 64 [.slice A hs.length c, ownF], rowC A c 37 4 hs.length (recs RH.cells hs)]
    (fun v l' => v = .int .i64 (lastS (hs.map RH.vr)) ∧ l' = []) := by
  refine Spec.intro Try.func34 rfl rfl Try.ntmps34 rfl fun w0 => ?_
  (all_goals (refine WC.auto ?_; (conv => whnf))); repeat' (first
          | ((with_reducible refine WB.auto ?_); (conv => whnf))
          | ((with_reducible refine WCB.auto ?_); (conv => whnf))
          | ((with_reducible refine WDB.auto ?_); (conv => whnf))
          | ((with_reducible refine Ob.at ?_); first | (refine Ob.mk (by first | omega | exact u8_bound _ | (have := u8_bound; omega) | (simp only [List.length_drop, List.length_take, List.length_append, List.length_replicate, List.length_set, List.length_cons, List.length_nil, Nat.min_def]; omega)) ?_; (conv => whnf)) | (refine Ob.mk' ?_ ?_; (conv => whnf)))
          | (refine spl_mk (fun hc => ?_) (fun hc => ?_) <;> (try simp only [Bool.not_eq_false', and_self, and_true, true_and, not_true, Bool.not_eq_true', Bool.not_false, Bool.not_true, decide_eq_true_eq, decide_eq_false_iff_not, Bool.false_eq_true, reduceCtorEq, Bool.true_eq_false, ne_eq, Decidable.not_not, Int.not_lt, Int.not_le, beq_self_eq_true, eq_self, not_true_eq_false, not_false_eq_true, Bool.not_eq_eq_eq_not, Bool.not_eq_true, Bool.not_eq_false, beq_iff_eq, beq_eq_false_iff_ne] at hc) <;> (try (exfalso; omega)) <;> (conv => whnf))
          | ((with_reducible refine NatK.at ?_); first | ((with_reducible refine NatK.cast ?_); (conv => whnf)) | (refine NatK.sym (by first | omega | exact u8_bound _ | (have := u8_bound; omega) | (simp only [List.length_drop, List.length_take, List.length_append, List.length_replicate, List.length_set, List.length_cons, List.length_nil, Nat.min_def]; omega)) (fun m hm => ?_); (conv => whnf)))
          | (intro q hq; (conv => whnf))
          | ((with_reducible refine WC.atR 3 ?_); refine WC.draw (id := 3) (ls := _) (.fl 0 (.fl 1 (.fl 2 (.fl 3 (.fl 4 (.fl 5 (.fl 6 (.fl 7 (.fl 8 (.fl 9 (.fl 10 (.fl 11 (.fl 12 (.fl 13 (.fl 14 (.fl 15 .nil)))))))))))))))) (by kernel_rfl) (by kernel_rfl) (Picks.refl _) ?_; refine WD.auto ?_; (conv => whnf))
          | ((with_reducible refine W.at 7 ?_); first | (refine W.ev (Ev.load rfl rfl rdA rfl) rfl rfl rfl ?_; all_goals ((refine W.auto ?_); (conv => whnf))))
          | ((with_reducible refine WO.at 0 ?_); first | (refine WO.auto rfl rfl ?_; (conv => whnf); (fail_if_success (show False))) | (refine WO.off rfl rfl rfl rfl ?_; refine WD.auto ?_; (conv => whnf)))
          | ((with_reducible refine WO.at 1 ?_); first | (refine WO.auto rfl rfl ?_; (conv => whnf); (fail_if_success (show False))) | (refine WO.off rfl rfl rfl rfl ?_; refine WD.auto ?_; (conv => whnf)))
          | ((with_reducible refine WO.at 2 ?_); first | (refine WO.auto rfl rfl ?_; (conv => whnf); (fail_if_success (show False))) | (refine WO.off rfl rfl rfl rfl ?_; refine WD.auto ?_; (conv => whnf)))
          | ((with_reducible refine WO.at 3 ?_); first | (refine WO.auto rfl rfl ?_; (conv => whnf); (fail_if_success (show False))) | (refine WO.off rfl rfl rfl rfl ?_; refine WD.auto ?_; (conv => whnf)))
          | ((with_reducible refine WD.at 4 ?_); first | (refine WD.ev rfl (Ev.load rfl rfl rdA rfl) rfl rfl rfl ?_; all_goals (refine WD.auto ?_; (conv => whnf))))
          | ((with_reducible refine WO.at 4 ?_); first | (refine WO.ev rfl (Ev.load rfl rfl rdA rfl) rfl rfl rfl ?_; all_goals (refine WD.auto ?_; (conv => whnf))) | (refine WO.off rfl rfl rfl rfl ?_; refine WD.auto ?_; (conv => whnf)))
          | ((with_reducible refine WO.at 5 ?_); first | (refine WO.auto rfl rfl ?_; (conv => whnf); (fail_if_success (show False))) | (refine WO.off rfl rfl rfl rfl ?_; refine WD.auto ?_; (conv => whnf)))
          | ((with_reducible refine WO.at 6 ?_); first | (refine WO.auto rfl rfl ?_; (conv => whnf); (fail_if_success (show False))) | (refine WO.off rfl rfl rfl rfl ?_; refine WD.auto ?_; (conv => whnf)))
          | ((with_reducible refine WO.at 7 ?_); first | (refine WO.auto rfl rfl ?_; (conv => whnf); (fail_if_success (show False))) | (refine WO.off rfl rfl rfl rfl ?_; refine WD.auto ?_; (conv => whnf)))
          | ((with_reducible refine WO.at 8 ?_); first | (refine WO.auto rfl rfl ?_; (conv => whnf); (fail_if_success (show False))) | (refine WO.off rfl rfl rfl rfl ?_; refine WD.auto ?_; (conv => whnf)))
          | ((with_reducible refine WD.at 9 ?_); first | (refine WD.ev rfl (Ev.load rfl rfl rdA rfl) rfl rfl rfl ?_; all_goals (refine WD.auto ?_; (conv => whnf))))
          | ((with_reducible refine WO.at 9 ?_); first | (refine WO.ev rfl (Ev.load rfl rfl rdA rfl) rfl rfl rfl ?_; all_goals (refine WD.auto ?_; (conv => whnf))) | (refine WO.off rfl rfl rfl rfl ?_; refine WD.auto ?_; (conv => whnf)))
          | ((with_reducible refine WO.at 10 ?_); first | (refine WO.auto rfl rfl ?_; (conv => whnf); (fail_if_success (show False))) | (refine WO.off rfl rfl rfl rfl ?_; refine WD.auto ?_; (conv => whnf)))
          | ((with_reducible refine WO.at 11 ?_); first | (refine WO.auto rfl rfl ?_; (conv => whnf); (fail_if_success (show False))) | (refine WO.off rfl rfl rfl rfl ?_; refine WD.auto ?_; (conv => whnf)))
          | ((with_reducible refine WD.at 12 ?_); first | (refine WD.ev rfl (Ev.indexRec rfl rfl rdA (by omega) (by rfl)) rfl rfl rfl ?_; all_goals (refine WD.auto ?_; (conv => whnf))))
          | ((with_reducible refine WO.at 12 ?_); first | (refine WO.ev rfl (Ev.indexRec rfl rfl rdA (by omega) (by rfl)) rfl rfl rfl ?_; all_goals (refine WD.auto ?_; (conv => whnf))) | (refine WO.off rfl rfl rfl rfl ?_; refine WD.auto ?_; (conv => whnf)))
          | ((with_reducible refine WO.at 13 ?_); first | (refine WO.auto rfl rfl ?_; (conv => whnf); (fail_if_success (show False))) | (refine WO.off rfl rfl rfl rfl ?_; refine WD.auto ?_; (conv => whnf)))
          | ((with_reducible refine WD.at 14 ?_); first | (refine WD.ev rfl (Ev.loadRecF rfl rfl rdA (by exact fun _ => rfl) (by omega) (by rfl) (by rfl)) rfl rfl rfl ?_; all_goals (refine WD.auto ?_; (conv => whnf))))
          | ((with_reducible refine WO.at 14 ?_); first | (refine WO.ev rfl (Ev.loadRecF rfl rfl rdA (by exact fun _ => rfl) (by omega) (by rfl) (by rfl)) rfl rfl rfl ?_; all_goals (refine WD.auto ?_; (conv => whnf))) | (refine WO.off rfl rfl rfl rfl ?_; refine WD.auto ?_; (conv => whnf)))
          | ((with_reducible refine WO.at 15 ?_); first | (refine WO.auto rfl rfl ?_; (conv => whnf); (fail_if_success (show False))) | (refine WO.off rfl rfl rfl rfl ?_; refine WD.auto ?_; (conv => whnf)))
          | (with_reducible refine WD.one ?_)
          | (with_reducible refine WD.two ?_ ?_)
          | (with_reducible refine WD.three ?_ ?_ ?_)
          | ((with_reducible refine WD.at 12 ?_); refine WD.ev rfl (Ev.indexRecE (k := hs.length - 1) (s := 4) rfl rfl (by omega) rdA (by omega) (by rfl) (by decide)) rfl rfl rfl ?_; refine WD.auto ?_; (conv => whnf))
          | refine Exists.intro _ (And.intro (resv_rfl rfl) ?_))
  all_goals first
    | (have h0 : hs = [] := List.length_eq_zero_iff.1 (by omega); subst h0; first | exact ⟨_, ⟨rfl, rfl⟩, _, pksA⟩ | skip)
    | exact ⟨_, ⟨congrArg (Value.int .i64) (by rw [last_nth (by omega)]), rfl⟩, _, .nil⟩
    | skip
end
end Go.SX
