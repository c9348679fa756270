/- A slice literal of two structs; what a callee reads, one by one; the law's examples. -/
import Derived.Test.YtkiofjedeecijaaVw7
namespace Go.SX
open Go Go.RowKit Go.Proofs
set_option linter.unusedVariables false
set_option linter.unusedSimpArgs false
set_option maxHeartbeats 4000000
section
variable {P : Program} {e : Env} {cs : List Chunk} {T : TypeId} {pos : String} {af : Array Edge} {gu : Option (Nat × Bool)} {d : Option Tmp}
theorem eqItems_i64 {P : Program} (w : World) (d : Nat) {e : TypeId} (he : Und P e (.int .i64)) (xs ys : List Int) (hl : xs.length = ys.length) : ∀ (m i : Nat), i + m = xs.length →
    (Op.eqItems (d + 1) e 1 (i64s xs).toArray (i64s ys).toArray (List.range' i m)).run P w = .ok (decide (xs.drop i = ys.drop i)) w := by
  intro m
  induction m with
  | zero =>
    intro i hi
    have h1 : xs.drop i = [] := List.drop_eq_nil_of_le (by omega)
    have h2 : ys.drop i = [] := List.drop_eq_nil_of_le (by omega)
    simp [Op.eqItems, h1, h2]
  | succ m ih =>
    intro i hi
    have hx : i < xs.length := by omega
    have hy : i < ys.length := by omega
    have hpx : (part e (i64s xs).toArray (i * 1)).run P w = .ok (Value.int .i64 xs[i]) w := by
      have : (i64s xs)[i]? = some (Value.int .i64 xs[i]) := i64s_get hx
      simp [part, he.run_agg (ds := .int .i64) rfl, this]
    have hpy : (part e (i64s ys).toArray (i * 1)).run P w = .ok (Value.int .i64 ys[i]) w := by
      have : (i64s ys)[i]? = some (Value.int .i64 ys[i]) := i64s_get hy
      simp [part, he.run_agg (ds := .int .i64) rfl, this]
    have heq : (Op.equalIn (d + 1) e (Value.int .i64 xs[i]) (Value.int .i64 ys[i])).run P w = .ok (decide (xs[i] = ys[i])) w := by
      have := run_equalIn_int (P := P) (w := w) d e .i64 .i64 xs[i] ys[i] he.eq
      rw [this, beq_dec]
    rw [List.range'_succ]
    simp only [Op.eqItems, Sem.run_bind, hpx, hpy, heq, Result.andThen_ok]
    rw [List.drop_eq_getElem_cons hx, List.drop_eq_getElem_cons hy]
    by_cases h : xs[i] = ys[i]
    · simp only [h, decide_true, Bool.not_true, Bool.false_eq_true, if_false, ih (i + 1) (by omega), List.cons.injEq, true_and]
    · have hne : ¬ (xs[i] :: xs.drop (i + 1) = ys[i] :: ys.drop (i + 1)) := fun hh => h (List.cons.inj hh).1
      simp only [h, decide_false, Bool.not_false, if_true, Sem.run_pure, hne]
theorem run_equal_i64s {P : Program} (w : World) {t el : TypeId} {n by_ : Nat} {z : Value} (hu : Und P t (.array n el)) (he : Und P el (.int .i64)) (hi : Inf P el z 1 by_) {xs ys : List Int} (hx : xs.length = n) (hy : ys.length = n) :
    (Op.equal t (.agg (i64s xs).toArray) (.agg (i64s ys).toArray)).run P w = .ok (decide (xs = ys)) w := by
  obtain ⟨i, h1, h2, h3, h4⟩ := hi.ex
  have hc : P.cellsOf el = 1 := by simp [Program.cellsOf, h1, h3]
  rw [equal_step, run_equalIn_array w 9999 _ _ hu.eq h1, hc, List.range_eq_range', eqItems_i64 w 9998 he xs ys (by omega) n 0 (by omega)]
  simp
theorem Ev.eqlArrI {t t' el : TypeId} {n by_ : Nat} {z : Value} {x y : Operand} {us vs : List Value} (xs ys : List Int) [hu : Und P t (.array n el)] [he : Und P el (.int .i64)] [hi : Inf P el z 1 by_]
    (hx : ev e x = some (.agg us.toArray)) (hy : ev e y = some (.agg vs.toArray)) (hus : us = i64s xs) (hvs : vs = i64s ys) (hlx : xs.length = n) (hly : ys.length = n) (hgt : P.eqGuardType P.depth t = false) :
    Ev P e cs ⟨d, .binOp .eql t x y t', T, pos, af, gu⟩ (.bool (decide (xs = ys))) := by
  subst hus hvs
  exact Ev.eqlG (P := P) (cs := cs) (d := d) (T := T) (pos := pos) (af := af) (gu := gu) (t := t) (t' := t') (b := decide (xs = ys)) hx hy (fun w => by simp [eqGuard, hgt]) rfl (fun w => run_equal_i64s w hu he hi hlx hly)
end
theorem fold_at (o : Nat) (vs : List Value) : ∀ (i : Nat) (pre base post : List Value), pre.length = o + i → base.length = vs.length →
    (vs.zipIdx i).foldl (fun (cs : Array Value) (q : Value × Nat) => cs.setIfInBounds (o + q.2) q.1) (pre ++ (base ++ post)).toArray = (pre ++ (vs ++ post)).toArray := by
  induction vs with
  | nil => intro i pre base post h1 h2; obtain rfl : base = [] := List.length_eq_zero_iff.1 (by simpa using h2); rfl
  | cons v vs ih =>
    intro i pre base post h1 h2
    cases base with
    | nil => simp at h2
    | cons b base =>
      rw [List.zipIdx_cons, List.foldl_cons]
      have hset : (pre ++ (b :: base ++ post)).toArray.setIfInBounds (o + i) v = ((pre ++ [v]) ++ (base ++ post)).toArray := by
        rw [← h1]
        apply Array.toList_inj.1
        simp
      rw [hset, ih (i + 1) (pre ++ [v]) base post (by simp [h1]; omega) (by simpa using h2)]
      simp
section
variable {P : Program} {S : List Nat} {w0 : World} {r : List Chunk} {e : Env} {l cs : List Chunk} {T : TypeId} {pos : String} {af : Array Edge} {gu : Option (Nat × Bool)} {d : Option Tmp}
theorem Stp.buildTwo {t el : TypeId} {z : Value} {sz by_ : Nat} {x y : Operand} {vs us : List Value} [hu : Und P t (.slice el)] [hi : Inf P el z sz by_]
    (hv : ev e x = some (.agg vs.toArray)) (hw : ev e y = some (.agg us.toArray)) (hl : vs.length = sz) (hm : us.length = sz) (h0 : 0 < sz ∧ sz ≤ 1000000) (hz : z.cells.size = sz) :
    Stp P S w0 r ⟨d, .buildSlice t 2 #[(0, x), (1, y)], T, pos, af, gu⟩ e l (fun v l' => ∃ g, v = .slice (some ⟨g, 0, none⟩) 2 2 ∧ l' = rowC (some ⟨g, 0, none⟩) 2 el sz 2 (vs ++ us) :: l) := by
  refine Stp.of (by intro _ hq; cases hq) fun n a w K Q he hs h => ?_
  unfold Oper.wp
  have hfill : ∀ base : Array Value, base.size = 2 * sz → Instr.fill (fun i => some (i * sz, sz)) base [(0, Value.agg vs.toArray), (1, Value.agg us.toArray)] = some (vs ++ us).toArray := by
    intro base hb
    have hb' : base.toList.length = 2 * sz := hb
    have hsp : base.toList = base.toList.take sz ++ (base.toList.drop sz ++ []) := by simp
    have hf1 := fold_at 0 vs 0 [] (base.toList.take sz) (base.toList.drop sz ++ []) rfl (by rw [List.length_take]; omega)
    have hf2 := fold_at sz us 0 vs (base.toList.drop sz) [] (by omega) (by rw [List.length_drop]; omega)
    simp only [List.nil_append, Nat.zero_add] at hf1
    rw [← hsp, Array.toArray_toList] at hf1
    have hz1 : vs.toArray.zipIdx = vs.zipIdx.toArray := by apply Array.ext'; simp
    have hz2 : us.toArray.zipIdx = us.zipIdx.toArray := by apply Array.ext'; simp
    simp only [Instr.fill, Nat.zero_mul, Nat.zero_add, Nat.one_mul, Value.cells, hz1, hz2]
    rw [if_neg (by simp [hl, hb]; omega)]
    have e1 : Array.foldl (fun (cs : Array Value) (x : Value × Nat) => cs.setIfInBounds x.snd x.fst) base vs.zipIdx.toArray = (vs ++ (base.toList.drop sz ++ [])).toArray := by
      rw [← hf1]; simp
    rw [e1, if_neg (by simp [hl, hm, hb]; omega)]
    congr 1
    have := hf2
    simp only [List.append_nil] at this ⊢
    rw [← this]
    simp
  have hfill := hfill ((Array.range (2 * sz)).map (z.cells[· % z.cells.size]!)) (by simp)
  have hrun : (execOp a.eval ⟨d, .buildSlice t 2 #[(0, x), (1, y)], T, pos, af, gu⟩).run P w = .ok (.value (.slice (some ⟨w.heap.size, 0, none⟩) 2 2)) (w.alloc (.cells (vs ++ us).toArray el)) := by
    simp only [execOp, Instr.buildSlice, Sem.run_bind, hu.run, Result.andThen_ok, hi.run_size]
    rw [if_neg (by omega), if_neg (by omega)]
    simp only [Sem.run_bind, hi.run_zero, Sem.run_pure, Result.andThen_ok, List.map_toArray, List.map_cons, List.map_nil, he.eval hv, he.eval hw, hfill]
    simp [newRow]
  rw [hrun]
  have hnew := hs.newRow el (vs ++ us).toArray sz 2 (by simp [hl, hm]; omega) (by simp only [maxLen]; omega)
  exact h _ _ _ ⟨_, rfl, rfl⟩ hnew
theorem Spec.closeR {f : FuncId} {args : List Value} {post : Value → List Chunk → Prop} (h : Spec P f args l (allC cs :: r) post) : Spec P f args l (cs ++ r) post :=
  ⟨fun w hs => (h.out w hs.roAll').mono fun e w' ⟨v, l', h1, h2, h3⟩ => ⟨v, l', h1, h2, h3.roAll⟩⟩
theorem Spec.swapR {f : FuncId} {args : List Value} {a b : Chunk} {post : Value → List Chunk → Prop} (h : Spec P f args [] [a, b] post) : Spec P f args [] [b, a] post :=
  (h.frame (l := []) (l1 := []) (r := [b, a]) .nil (.cons (.there (.here (Sub.refl _))) (.cons (.here (Sub.refl _)) .nil))).mono fun v l' ⟨l2, h1, h2⟩ => by rw [h2, List.append_nil]; exact h1
end
/-- The law's own two rows. -/
def rwA : VR := ⟨1, 10, 1, [7]⟩
def rwB : VR := ⟨3, 0, 2, [8, 9]⟩
theorem ok1 (r : VR) (h : mayP r) : okR [r] := ⟨Nat.le_add_left 1 19999, fun k hk => by
  have : k = 0 := by simpa using hk
  subst this
  show addE [] r = 0
  unfold addE
  have : ¬ r.step < lastS [] := by have := h.2.1; show ¬ r.step < 0; omega
  rw [if_neg (by simp [h, this]), if_neg (by decide)]⟩
theorem ok2 : okR [rwA, rwB] := ⟨by decide, fun k hk => by
  have h2 : k < 2 := hk
  have : k = 0 ∨ k = 1 := by omega
  rcases this with rfl | rfl
  · show addE [] rwA = 0; decide
  · show addE [rwA] rwB = 0; decide⟩
theorem of1_spec (A A' : Option Addr) (c c' : Nat) (r : VR) (h : mayP r) :
    Spec Try.prog 7 [.slice A 1 c] [] [rowC A c 37 4 1 [.int .i64 r.step, .int .i64 r.node, .int .i64 r.kind, .slice A' r.bs.length c'], bR A' c' r.bs.length r.bs]
      (fun v l' => ∃ g a', v = .pointer (some ⟨g, 0, none⟩) ∧ a'.hs.map RH.vr = [r] ∧ l' = [viewC g a']) := by
  have := (of_spec A c [⟨r.step, r.node, r.kind, A', c', r.bs⟩] (ok1 r h)).swapR
  exact (Spec.closeR (cs := [bR A' c' r.bs.length r.bs]) this).swapR
theorem of2_spec (A A' A'' : Option Addr) (c c' c'' : Nat) :
    Spec Try.prog 7 [.slice A 2 c] [] [bR A' c' 1 [7], bR A'' c'' 2 [8, 9], rowC A c 37 4 2 ([.int .i64 1, .int .i64 10, .int .i64 1, .slice A' 1 c'] ++ [.int .i64 3, .int .i64 0, .int .i64 2, .slice A'' 2 c''])]
      (fun v l' => ∃ g a', v = .pointer (some ⟨g, 0, none⟩) ∧ a'.hs.map RH.vr = [rwA, rwB] ∧ l' = [viewC g a']) := by
  have := (of_spec A c [⟨1, 10, 1, A', c', [7]⟩, ⟨3, 0, 2, A'', c'', [8, 9]⟩] ok2).swapR
  exact (Spec.closeR (cs := [bR A' c' 1 [7], bR A'' c'' 2 [8, 9]]) this)
theorem wkB0 : vwB [] = [0] := by
  have h : cntB 0 = [0] := by unfold cntB; rw [show (0 : Int) / 128 = 0 by decide, hiI_zero (by omega)]; rfl
  show nwOut (nwCount ⟨[], 0⟩ 0) = _
  unfold nwCount; rw [h]; rfl
theorem wkB2 : vwB [rwA, rwB] = [2, 1, 10, 1, 1, 7, 2, 0, 2, 2, 8, 9] := by
  have h : ∀ n : Int, 0 ≤ n → n < 128 → cntB n = [byteOf n] := fun n h0 h1 => by
    unfold cntB
    rw [show n / 128 = 0 by omega, hiI_zero (by omega), show n % 128 = n by omega]; rfl
  have h1 : cntB 1 = [1] := h 1 (by decide) (by decide)
  have h2 : cntB 2 = [2] := h 2 (by decide) (by decide)
  show nwOut (nwText (nwNum (nwNum (nwCount (nwText (nwNum (nwNum (nwCount (nwCount ⟨[], 0⟩ 2) 1) 1 10) 1 1) [7]) 2) 1 0) 1 2) [8, 9]) = _
  unfold nwText nwCount
  simp only [show (([7] : List UInt8).length : Int) = 1 from rfl, show (([8, 9] : List UInt8).length : Int) = 2 from rfl, h1, h2]
  rfl
theorem wk_specs : firstU [rwA, rwB] [rwA] 0 = 1 ∧ firstU [rwA, rwB] [rwB] 0 = 0 ∧ firstU [rwA] [rwA] 0 = -1 ∧ addE [rwB] rwA = 2 ∧ addR [rwB] rwA = [rwB] := ⟨rfl, rfl, rfl, rfl, rfl⟩
theorem vlen {a : VA} {rs : List VR} (h : a.hs.map RH.vr = rs) : a.hs.length = rs.length := by simpa using congrArg List.length h
theorem vhb {a : VA} {rs : List VR} (h : a.hs.map RH.vr = rs) (hr : ∀ r ∈ rs, i63 r.step ∧ r.bs.length ≤ 3000 ∧ r.node ≤ 100 ∧ r.kind ≤ 100) : ∀ h ∈ a.hs, i63 h.step ∧ h.bs.length ≤ 3000 ∧ h.node ≤ 100 ∧ h.kind ≤ 100 := fun x hx => hr x.vr (h ▸ List.mem_map_of_mem hx)
abbrev WkZ := Nat × VA × Nat × VA × Nat × VA
theorem wkh : ∀ r ∈ [rwA, rwB], i63 r.step ∧ r.bs.length ≤ 3000 ∧ r.node ≤ 100 ∧ r.kind ≤ 100 := by
  intro r hr
  simp only [List.mem_cons, List.not_mem_nil, or_false] at hr
  rcases hr with rfl | rfl
  · exact ⟨⟨by decide, by decide⟩, by decide, by decide, by decide⟩
  · exact ⟨⟨by decide, by decide⟩, by decide, by decide, by decide⟩
theorem vNewV_spec : Spec Try.prog 30 [] [] [] (fun v l' => ∃ g, v = .pointer (some ⟨g, 0, none⟩) ∧ l' = [viewC g ⟨none, 0, []⟩]) := by
  refine Spec.intro Try.func30 rfl rfl Try.ntmps30 rfl fun w0 => ?_
  (all_goals (refine WC.auto ?_; (conv => whnf))); repeat' (first
          | ((with_reducible refine WB.auto ?_); (conv => whnf))
          | ((with_reducible refine WCB.auto ?_); (conv => whnf))
          | ((with_reducible refine Ob.at ?_); first | (refine Ob.mk (by first | omega | exact u8_bound _ | (have := u8_bound; omega) | (simp only [List.length_drop, List.length_take, List.length_append, List.length_replicate, List.length_set, List.length_cons, List.length_nil, Nat.min_def]; omega)) ?_; (conv => whnf)) | (refine Ob.mk' ?_ ?_; (conv => whnf)))
          | (refine spl_mk (fun hc => ?_) (fun hc => ?_) <;> (try simp only [Bool.not_eq_false', and_self, and_true, true_and, not_true, Bool.not_eq_true', Bool.not_false, Bool.not_true, decide_eq_true_eq, decide_eq_false_iff_not, Bool.false_eq_true, reduceCtorEq, Bool.true_eq_false, ne_eq, Decidable.not_not, Int.not_lt, Int.not_le, beq_self_eq_true, eq_self, not_true_eq_false, not_false_eq_true, Bool.not_eq_eq_eq_not, Bool.not_eq_true, Bool.not_eq_false, beq_iff_eq, beq_eq_false_iff_ne] at hc) <;> (try (exfalso; omega)) <;> (conv => whnf))
          | ((with_reducible refine NatK.at ?_); first | ((with_reducible refine NatK.cast ?_); (conv => whnf)) | (refine NatK.sym (by first | omega | exact u8_bound _ | (have := u8_bound; omega) | (simp only [List.length_drop, List.length_take, List.length_append, List.length_replicate, List.length_set, List.length_cons, List.length_nil, Nat.min_def]; omega)) (fun m hm => ?_); (conv => whnf)))
          | (intro q hq; (conv => whnf))
          | ((with_reducible refine W.at 3 ?_); first | ((refine W.stp (Stp.boxA rfl) rfl rfl rfl ?_; rintro _ _ ⟨g3, rfl, rfl⟩); all_goals ((refine W.auto ?_); (conv => whnf))))
          | refine Exists.intro _ (And.intro (resv_rfl rfl) ?_))
  all_goals exact ⟨_, ⟨_, rfl, rfl⟩, _, (by dsimp only [viewC, viewL]; (repeat (first | exact PicksT.nil | (apply PicksT.cons; (focus ((repeat constructor); done))) | (apply PicksT.triv Triv.nilRow) | (apply PicksT.triv Triv.starM0) | (apply PicksT.pur; (focus (first | trivial | omega | (refine ⟨?_, ?_⟩ <;> (first | rfl | trivial | assumption | omega | (simp only [List.length_take, List.length_append, List.length_map, List.length_singleton, List.length_nil, List.length_cons, Nat.min_def]; omega) | (simp only [List.length_take, List.length_append, List.length_map, List.length_singleton, List.length_nil, List.length_cons, Nat.min_def]; split <;> omega) | (simp; done) | (simp; omega) | (simp_all; done) | (simp_all; omega))) | (refine ⟨?_, ?_, ?_⟩ <;> (first | rfl | trivial | assumption | omega | (simp only [List.length_take, List.length_append, List.length_map, List.length_singleton, List.length_nil, List.length_cons, Nat.min_def]; omega) | (simp only [List.length_take, List.length_append, List.length_map, List.length_singleton, List.length_nil, List.length_cons, Nat.min_def]; split <;> omega) | (simp; done) | (simp; omega) | (simp_all; done) | (simp_all; omega))) | (refine ⟨?_, ?_, ?_, ?_⟩ <;> (first | rfl | trivial | assumption | omega | (simp only [List.length_take, List.length_append, List.length_map, List.length_singleton, List.length_nil, List.length_cons, Nat.min_def]; omega) | (simp only [List.length_take, List.length_append, List.length_map, List.length_singleton, List.length_nil, List.length_cons, Nat.min_def]; split <;> omega) | (simp; done) | (simp; omega) | (simp_all; done) | (simp_all; omega))) | (first | rfl | trivial | assumption | omega | (simp only [List.length_take, List.length_append, List.length_map, List.length_singleton, List.length_nil, List.length_cons, Nat.min_def]; omega) | (simp only [List.length_take, List.length_append, List.length_map, List.length_singleton, List.length_nil, List.length_cons, Nat.min_def]; split <;> omega) | (simp; done) | (simp; omega) | (simp_all; done) | (simp_all; omega))))) | (apply PicksT.cutB; (focus ((repeat constructor); done)); (focus first | omega | (dsimp only; omega)); (focus first | omega | (dsimp only; omega))) | (apply PicksT.snocBH; (focus ((repeat constructor); done)); (focus ((repeat constructor); done)); (focus ((repeat constructor); done))) | (apply PicksT.triv Triv.nilB) | (apply PicksT.triv Triv.nilSlice) | (apply PicksT.asR; (focus ((repeat constructor); done))) | (apply PicksT.loR; (focus ((repeat constructor); done)); (focus first | omega | (constructor <;> omega) | (simp; omega))) | (apply PicksT.star))))⟩
section
variable (g : Nat) (a : VA)
theorem VBytes_to (rs : List VR) (bs : List UInt8) (ha : a.hs.map RH.vr = rs) (hr : ∀ r ∈ rs, i63 r.step ∧ r.bs.length ≤ 3000 ∧ r.node ≤ 100 ∧ r.kind ≤ 100) (hl : rs.length ≤ 1000) (hB : vwB rs = bs) :
    Spec Try.prog 20 [.pointer (some ⟨g, 0, none⟩)] [] [viewC g a] (fun v l' => ∃ A' c', v = .slice A' bs.length c' ∧ l' = [bO A' c' 5 bs.length bs]) :=
  (VBytes_spec g a (by rw [vlen ha]; exact hl) (vhb ha hr)).mono fun v l' ⟨A', c', k, h1, h2, h3⟩ => by
    rw [ha, hB] at h1 h3
    subst h1
    exact ⟨A', c', h2, h3⟩
theorem First_to (g' : Nat) (a' : VA) (rs rs' : List VR) (z : Int) (ha : a.hs.map RH.vr = rs) (ha' : a'.hs.map RH.vr = rs') (hl : rs.length ≤ 20000) (hl' : rs'.length ≤ 20000) (hz : firstU rs rs' 0 = z) :
    Spec Try.prog 17 [.pointer (some ⟨g, 0, none⟩), .pointer (some ⟨g', 0, none⟩)] [] [viewC g a, viewC g' a'] (fun v l' => v = .int .i64 z ∧ l' = []) :=
  (First_spec g g' a a' (by rw [vlen ha]; exact hl) (by rw [vlen ha']; exact hl')).mono fun v l' ⟨h1, h2⟩ => ⟨by rw [h1, ha, ha', hz], h2⟩
theorem Add_to (st nd kd : Int) (rA : Option Addr) (rc n : Nat) (bs : List UInt8) (rs rs' : List VR) (z : Int) (hn : n = bs.length) (ha : a.hs.map RH.vr = rs) (hl : rs.length ≤ 20000) (hz : addE rs ⟨st, nd, kd, bs⟩ = z) (hr : addR rs ⟨st, nd, kd, bs⟩ = rs') :
    Spec Try.prog 18 [.pointer (some ⟨g, 0, none⟩), .agg #[.int .i64 st, .int .i64 nd, .int .i64 kd, .slice rA n rc]] [viewC g a] [bR rA rc n bs]
    (fun v l' => ∃ a' : VA, v = .int .i64 z ∧ a'.hs.map RH.vr = rs' ∧ l' = [viewC g a']) :=
  (Add_spec g a st nd kd rA rc n bs hn (by rw [vlen ha]; exact hl)).mono fun v l' ⟨a', h1, h2, h3⟩ => ⟨a', by rw [h1, ha, hz], by rw [h2, ha, hr], h3⟩
theorem Many_to (rs : List VR) (us : List Value) (node : Int) (ha : a.hs.map RH.vr = rs) (hl : rs.length ≤ 20000) (hb : ∀ r ∈ rs, r.bs.length ≤ 1000000 ∧ 1 ≤ r.kind ∧ r.kind ≤ 3) (hu : cntV (rs.filter fun r => decide (r.node = node)) = us) :
    Spec Try.prog 11 [.pointer (some ⟨g, 0, none⟩), .int .i64 node] [] [viewC g a] (fun v l' => v = .agg us.toArray ∧ l' = []) :=
  (Many_spec g a.A a.c a.hs (by rw [vlen ha]; exact hl) (fun h hh => (hb h.vr (ha ▸ List.mem_map_of_mem hh)).1) (fun r hr => (hb r (ha ▸ hr)).2) node).mono fun v l' ⟨h1, h2⟩ => ⟨by rw [h1, ha, hu], h2⟩
end
theorem wkm : ∀ r ∈ [rwA, rwB], r.bs.length ≤ 1000000 ∧ 1 ≤ r.kind ∧ r.kind ≤ 3 := by
  intro r hr
  simp only [List.mem_cons, List.not_mem_nil, or_false] at hr
  rcases hr with rfl | rfl
  · exact ⟨by decide, by decide, by decide⟩
  · exact ⟨by decide, by decide, by decide⟩
end Go.SX
